import PyProof.Rows.All
import Wide.All
import OpenK.AllK
import Wide.FinOn
import HandS.ForMost
import HandS.IsInst
import HandS.TupAny
import HandS.RaiseMore
import HandS.Conv
import HandS.WideBits
import HandS.More
import HandS.Style
import PyProof.NeKinds
import PyProof.StrLawsIn
import HandS.TupMul
import HandS.ListItems
import HandS.Zip
import KE.KDictList
import HandS.ReplaceLit
import HandS.ReplaceList
import KE.IntTextLaws
import HandS.Text
import HandS.StrMore
import HandS.Call
import KE.KRevSl
import HandS.ExcInit
import HandS.ExcField
import HandS.ExcOwn
import HandS.TryMany
import HandS.WordsExc
import PyProof.Rows.StrMul
import PySem.Challenge.RW_anewread_k03_wrong_signs_in_texts
set_option Elab.async false
set_option linter.all false
set_option maxRecDepth 100000
set_option maxHeartbeats 4000000
set_option autoImplicit false
namespace Aw
open PySem PySem.Spec PyProof.Rows L2
structure RoomG (k : Nat) (A : Around) : Prop where
  r : Room k A
  g : A.guards = some []
theorem RoomG.mono {j k : Nat} {A : Around} (h : RoomG k A) (q : j ≤ k) : RoomG j A := ⟨h.r.mono q, h.g⟩
theorem RoomG.hu {k : Nat} {A : Around} (h : RoomG k A) : A.units + 1 < cLine := hu_of h.r
theorem RoomG.h64 {k : Nat} {A : Around} (h : RoomG k A) : A.units + 64 < cLine := h.r.units
/-- a def keeps its promise wherever nothing is being shown -/
structure FnG (P : Program) (w : World) (K : PySem.W.Frag) (mg : Str → Option Value) (base : Heap) (CX : CXT)
    (k : Nat) (f : Addr) (fd : FuncData) (ps : List Str) (sp : Sp) : Prop where
  len : ∀ vs H Q E, sp vs H Q E → vs.length = ps.length
  run : ∀ (A : Around) (outer : List Env) (s : Shared) (H : Hp) (args : Args) (us : List Value) (vs : List V)
    (Q : VK) (E : XK), RoomG k A → Env0 P w K mg base A outer s H → BindsTo s fd args (ps.zip us) → Vals vs us →
    sp vs H Q E → codeAny (model P w) A (.call (.ref f) args) (CR CX outer P w H s Q E) s
section
variable {P : Program} {w : World} {K : PySem.W.Frag} {mg : Str → Option Value} {base : Heap} {CX : CXT}
theorem FnG.mono {j k : Nat} {f : Addr} {fd : FuncData} {ps : List Str} {sp : Sp}
    (F : FnG P w K mg base CX j f fd ps sp) (h : j ≤ k) : FnG P w K mg base CX k f fd ps sp :=
  ⟨F.len, fun A o s H a us vs Q E hr => F.run A o s H a us vs Q E (hr.mono h)⟩
theorem fnG_of {k : Nat} {f : Addr} {nm qual : Str} {params : Arguments} {body : List Stmt} {scope : Scope}
    {dV kV doc pm cdv ct oc : Value} {an od : Option Addr} {osl : Array (Option Value)} {N ps : List Str} {sp : Sp}
    (lk : K.lookup f = some ⟨oc, od, .func (PySem.W.fnOf nm qual params body scope dV kV doc pm an cdv ct), osl⟩)
    (hcd : PySem.W.codeIn K cdv qual = true) (S : FnScope N ps scope)
    (len : ∀ vs H Q E, sp vs H Q E → vs.length = ps.length)
    (hb : ∀ (A : Around) (outer : List Env) (s : Shared) (H : Hp) (vs : List V) (Q : VK) (E : XK),
      RoomG k (A.deeper (envOfC qual scope s.heap.objs.size f cdv)) → sp vs H Q E →
      ∃ t, PSs (cxOf CX P w K mg base N qual scope f cdv A outer s H E) body t ∧
        t { nx := fun _ H' => Q .non H', rt := Q } (start N vs) H) :
    FnG P w K mg base CX (k + 1) f (PySem.W.fnOf nm qual params body scope dV kV doc pm an cdv ct) ps sp := by
  refine ⟨len, fun A outer s H args us vs Q E hr e0 hbd r hsp => ?_⟩
  have hl := len _ _ _ _ hsp
  have KX : K.In s.heap := e0.mod.kin.keeps fun b o e => (e0.bs b o e).1
  have lim : s.heap.NoLimit := e0.mod.nolimit.keeps fun b o e => (e0.bs b o e).1
  refine codeAny_call_function hr.r.depth (KX _ _ lk) rfl S.co S.gen rfl (PySem.W.codeRec_of KX hcd)
    (hbd _ _ _ _ ?_)
  refine wpAny_newFunctionEnv_cells S.kind (fun ⟨n, v⟩ hy => ?_) fun env he s1 x => ?_
  · rcases S.par n (List.of_mem_zip hy).1 with q | q
    · exact .inl q
    · exact .inr ⟨q, PySem.W.cellsFrom_some _ _ _ (.inl q)⟩
  subst he
  refine ⟨lim.keeps x.toInCall.keep, codeAny_func ?_⟩
  obtain ⟨t, ht, hq⟩ := hb A outer s H vs Q E ⟨hr.r.deeper _, hr.g⟩ hsp
  have I := inv_start (CX := CX) (E := E) (f := f) (cd := cdv) S hr.r.hd e0 hl r x
  refine wpAny_mono (ht.run [] s1 (start N vs) H _ I hq) (fun fl s' hs => ?_) fun e s' hs => hs
  cases fl with
  | ret u =>
    obtain ⟨v, σ', H', J, rv, q⟩ := hs
    exact ⟨v, H', J.os, J.bare, J.base, J.hok, rv, q⟩
  | next =>
    obtain ⟨σ', H', J, q⟩ := hs
    exact ⟨V.non, H', J.os, J.bare, J.base, J.hok, rfl, q⟩
  | brk => exact hs.elim fun _ h => h.elim fun _ h => h.2.elim
  | cont => exact hs.elim fun _ h => h.elim fun _ h => h.2.elim
/-- a def of the top, by its name -/
def Df (K : PySem.W.Frag) (mg : Str → Option Value) (x : Str) (st : Stmt) (ps : List Str) : Prop :=
  ∃ (f : Addr) (fd : FuncData), Fun K x x st f fd ∧ mg x = some (.ref f) ∧ Binds K fd ps []
/-- the def of this name keeps a promise -/
def Has (P : Program) (w : World) (K : PySem.W.Frag) (mg : Str → Option Value) (base : Heap) (CX : CXT) (x : Str)
    (ps : List Str) (k : Nat) (sp : Sp) : Prop :=
  ∃ (f : Addr) (fd : FuncData), (PySem.W.keepIn K (.ref f) = true ∧ ∃ oc od osl, K.lookup f = some ⟨oc, od, .func fd, osl⟩) ∧
    mg x = some (.ref f) ∧ Binds K fd ps [] ∧ FnG P w K mg base CX k f fd ps sp
theorem Has.any {ι : Type} {x : Str} {ps : List Str} {k : Nat} {sp : ι → Sp} (i₀ : ι) (h : ∀ i, Has P w K mg base CX x ps k (sp i)) :
    Has P w K mg base CX x ps k (fun vs H Q E => ∃ i, sp i vs H Q E) := by
  obtain ⟨f, fd, ⟨a, oc, od, osl, l⟩, b, c, _⟩ := h i₀
  have same : ∀ i, FnG P w K mg base CX k f fd ps (sp i) := by
    intro i
    obtain ⟨f', fd', ⟨_, oc', od', osl', l'⟩, b', _, d'⟩ := h i
    cases b.symm.trans b'
    cases l.symm.trans l'
    exact d'
  exact ⟨f, fd, ⟨a, oc, od, osl, l⟩, b, c, fun vs H Q E ⟨i, z⟩ => (same i).len _ _ _ _ z, fun A o s H ar us vs Q E hr he hb hv ⟨i, hs⟩ =>
    (same i).run A o s H ar us vs Q E hr he hb hv hs⟩
theorem Has.mono {x : Str} {ps : List Str} {j k : Nat} {sp : Sp} (h : Has P w K mg base CX x ps j sp) (q : j ≤ k) :
    Has P w K mg base CX x ps k sp := by
  obtain ⟨f, fd, a, b, c, d⟩ := h
  exact ⟨f, fd, a, b, c, d.mono q⟩
theorem Has.imp {x : Str} {ps : List Str} {k : Nat} {sp sp' : Sp} (h : Has P w K mg base CX x ps k sp)
    (q : ∀ vs H Q E, sp' vs H Q E → sp vs H Q E) : Has P w K mg base CX x ps k sp' := by
  obtain ⟨f, fd, a, b, c, d⟩ := h
  exact ⟨f, fd, a, b, c, fun vs H Q E z => d.len _ _ _ _ (q _ _ _ _ z), fun A o s H ar us vs Q E hr he hb hv hs =>
    d.run A o s H ar us vs Q E hr he hb hv (q _ _ _ _ hs)⟩
theorem Df.void {x : Str} {st : Stmt} {ps : List Str} {sp : Sp} (d : Df K mg x st ps) (h : ∀ vs H Q E, ¬ sp vs H Q E) :
    Has P w K mg base CX x ps 0 sp := by
  obtain ⟨f, fd, F, m, b⟩ := d
  have lk : ∃ oc od osl, K.lookup f = some ⟨oc, od, .func fd, osl⟩ := by
    obtain ⟨oc, od, kV, doc, pm, an, cdv, ct, osl, rfl, lk, hcd⟩ := F.ex
    exact ⟨oc, od, osl, lk⟩
  exact ⟨f, fd, ⟨F.kp, lk⟩, m, b, fun vs H Q E z => absurd z (h _ _ _ _), fun A o s H ar us vs Q E hr he hb hv hs =>
    absurd hs (h _ _ _ _)⟩
theorem Df.has {x : Str} {st : Stmt} {ps N : List Str} {k : Nat} {sp : Sp} (d : Df K mg x st ps)
    (S : FnScope N ps (defScope st)) (len : ∀ vs H Q E, sp vs H Q E → vs.length = ps.length)
    (hb : ∀ (f : Addr) (cdv : Value) (A : Around) (outer : List Env) (s : Shared) (H : Hp) (vs : List V) (Q : VK) (E : XK),
      RoomG k (A.deeper (envOfC x (defScope st) s.heap.objs.size f cdv)) → sp vs H Q E →
      ∃ t, PSs (cxOf CX0 P w K mg base N x (defScope st) f cdv A outer s H E).nox (defBody st) t ∧
        t { nx := fun _ H' => Q .non H', rt := Q } (start N vs) H) : Has P w K mg base CX0 x ps (k + 1) sp := by
  obtain ⟨f, fd, F, m, b⟩ := d
  obtain ⟨oc, od, kV, doc, pm, an, cdv, ct, osl, rfl, lk, hcd⟩ := F.ex
  refine ⟨f, _, ⟨F.kp, oc, od, osl, lk⟩, m, b, fnG_of lk hcd S len fun A outer s H vs Q E hr hsp => ?_⟩
  obtain ⟨t, h, q⟩ := hb f cdv A outer s H vs Q E hr hsp
  exact ⟨t, h.nox, q⟩
end
section
variable {X : Cx} {CX : CXT} {k : Nat} {ps : List Str} {sp : Sp} {E : XK} {x : Str} {p pos : Pos} {e : Expr}
  {es : List Expr} {t : TA}
theorem runG {f : Addr} {fd : FuncData} {pins : List (Addr × Obj)} {σ : L2.St} {H : Hp} {s : Shared} {Q : VK}
    {us : List Value} {vs : List V} (F : FnG X.prog X.w X.K X.mg X.base CX k f fd ps sp) (hr : RoomG k X.A)
    (hb : Binds X.K fd ps []) (hx : Passes CX X E) (I : Inv X pins σ H s) (r : Vals vs us) (h : sp vs H Q E) :
    wpAny (model X.prog X.w) X.A (call (.ref f) us) (EP X pins σ Q) X.xe s := by
  have hl : (us ++ []).length = ps.length := by
    rw [List.append_nil, ← r.length]
    exact F.len _ _ _ _ h
  have bb := hb s us I.kIn hl
  rw [List.append_nil] at bb
  refine wpAny_call (codeAny_mono (F.run X.A X.stack s H ⟨us, []⟩ us vs Q E hr I.env0 bb r h) fun r s' hq => ?_)
  match r, hq with
  | .error e, hq => exact hx pins σ H s e s' I hq
  | .ok (.ret u), hq => exact I.after hq
/-- f(e, ..) of a def by its name -/
theorem pe_f (F : Has X.prog X.w X.K X.mg X.base CX x ps k sp) (hr : RoomG k X.A) (hg : Gl X x) (hx : Passes CX X E)
    (ha : PA X (e :: es) t) (hdb : (x == ("__debug__" : Str)) = false := by decide)
    (he : starEach (e :: es) X.env = (false, eval e X.env) :: starEach es X.env := by rfl)
    (hpl : (backTo pos (starEach es X.env)).any (·.1) = false := by rfl) :
    PE X (.Call (.Name x p) (e :: es) [] pos) (tCall sp [] E t) := by
  obtain ⟨f, fd, ⟨hk, _⟩, hm, hb, F⟩ := F
  refine ⟨fun pins s σ H Q I h => wpAny_Call_Name_kw (ld_glob I hg hm ?_ hdb)⟩
  refine PySem.W.callWith_K (h₀ := X.base) I.ok.mod.kin hk (thn (ha.run pos pins s σ H _ I h) fun us s1 q => ?_) he hpl
  obtain ⟨vs, H1, I1, r, q⟩ := q
  rw [List.append_nil] at q
  exact ⟨I1.kIn, runG F hr hb hx I1 r q⟩
end
end Aw
namespace Aw
open PySem PySem.Spec PyProof.Rows L2
def spLaw (K : PySem.W.Frag) : Sp := fun vs H Q _ => ∃ (a : Addr) (ns : List Int),
  vs = [.ref a] ∧ SqL K H a (ns.map V.int) ∧ ns.length ≤ 63 ∧ ∀ H', Q (.bl true) H'
theorem lawG_core {P : Program} {w : World} {K : PySem.W.Frag} {mg mb : Str → Option Value} {k : Nat} {fa a : Addr}
    {x : Str} {s : Shared} {vs : List Value} {ns : List Int} (KX : K.In s.heap) (hns : s.heap.Ns mainGlobals mg)
    (hb : s.heap.Ns builtinsNs mb) (hbb : ∀ x : Str, x ≠ "__name__" → mb x = bootBuiltins x)
    (hlim : s.heap.NoLimit) (hsm : ∃ mm, s.heap.Ns sysModules mm) (hg : s.gens = #[])
    (ha : s.heap.get? a = some { cls := .type "list", data := .seq vs.toArray }) (hl : ns.length ≤ 63)
    (hr : RoomG k callerA) (hfa : mg "law" = some (.ref fa))
    (F : ∀ base : Heap, K.In base → base.Ns mainGlobals mg → (∃ mm, base.Ns sysModules mm) → Has P w K mg base CX0 "law" [x] k (spLaw K))
    (H : Hp) (hO : Only H) (hS : SqL K H a (ns.map V.int)) (hok : HOk P w H s.heap) (hA : ∀ b, H b ≠ none → b = a)
    (hK : H a ≠ none → K.lookup a = none) :
    codeAny (model P w) callerA (.call (.ref fa) ⟨[.ref a], []⟩)
      (fun r s' => r = .ok (.ret (.bool true)) ∧ OldK s.heap s'.heap ∧ s'.os = s.os ∧ AllBare s'.gens) s := by
  have isA : ∀ {b : Addr} {u : HO}, H b = some u → b = a := fun {b u} q => hA b (by rw [q]; simp)
  have keepD : ∀ {b : Addr} {m : Str → Option Value}, s.heap.Ns b m → (hidT s.heap H).Ns b m := by
    rintro b m ⟨o, es, ep, e, d, r⟩
    refine ⟨o, es, ep, hidT_get e ?_, d, r⟩
    cases q : H b with
    | none => rfl
    | some u =>
      cases isA q
      rw [ha] at e
      cases e
      exact nomatch (show Data.seq vs.toArray _ = Data.dict es ep from d)
  have hKb : K.In (hidT s.heap H) := by
    intro b o e
    refine hidT_get (KX b o e) ?_
    cases q : H b with
    | none => rfl
    | some u =>
      cases isA q
      rw [hK (by rw [q]; simp)] at e
      cases e
  have hM : Mod K mg (hidT s.heap H) := by
    obtain ⟨mc, h1, h2⟩ := hlim
    exact ⟨hKb, keepD hns, ⟨mb, keepD hb, hbb⟩, ⟨mc, keepD h1, h2⟩⟩
  have e0 : Env0 P w K mg (hidT s.heap H) callerA [] s H := by
    refine ⟨rfl, hM, fun b o e => of_hidT e, Nat.le_of_eq (hidT_size _ _), trivial, fun b hb => ?_, hok, .of_eq hg⟩
    exact absurd (show b ∈ ([] : List Addr) from hb) (by simp)
  obtain ⟨f, fd, kp, m, bd, FN⟩ := F _ hKb (keepD hns) (hsm.elim fun mm h => ⟨mm, keepD h⟩)
  cases hfa.symm.trans m
  have bb := bd s [.ref a] KX rfl
  have hsp : spLaw K [.ref a] H (fun v _ => v = .bl true) (fun _ _ _ => False) := ⟨a, ns, rfl, hS, hl, fun _ => rfl⟩
  refine codeAny_mono (FN.run callerA [] s H ⟨[.ref a], []⟩ [.ref a] [.ref a] _ _ hr e0 bb (.cons rfl .nil) hsp) ?_
  intro r s' h
  match r, h with
  | .ok (.ret u), h =>
    obtain ⟨v, H', os, bare, un, hok', r', q⟩ := h
    cases (show v = .bl true from q)
    cases (show u = Value.bool true from r')
    refine ⟨rfl, OldK.of_keep fun b o e => ?_, os, bare⟩
    cases q : H b with
    | none => exact un.keep b o e q (fun z => absurd (show b ∈ ([] : List Addr) from z) (by simp)) (by simp)
    | some u =>
      rcases hO b with z | ⟨ob, xs, z⟩
      · rw [q] at z
        cases z
      · have e1 := (hok b _ z).1
        rw [e] at e1
        cases e1
        exact (hok' b _ (un.frzs b _ _ z)).1
theorem lawG {P : Program} {w : World} {K : PySem.W.Frag} {mg mb : Str → Option Value} {k : Nat} {fa a : Addr}
    {x : Str} {s : Shared} {vs : List Value} {ns : List Int} (KX : K.In s.heap) (hns : s.heap.Ns mainGlobals mg)
    (hb : s.heap.Ns builtinsNs mb) (hbb : ∀ x : Str, x ≠ "__name__" → mb x = bootBuiltins x)
    (hlim : s.heap.NoLimit) (hsm : ∃ mm, s.heap.Ns sysModules mm) (hg : s.gens = #[])
    (ha : s.heap.get? a = some { cls := .type "list", data := .seq vs.toArray }) (hi : IntsAre vs ns)
    (hl : ns.length ≤ 63) (hr : RoomG k callerA) (hfa : mg "law" = some (.ref fa))
    (F : ∀ base : Heap, K.In base → base.Ns mainGlobals mg → (∃ mm, base.Ns sysModules mm) → Has P w K mg base CX0 "law" [x] k (spLaw K)) :
    codeAny (model P w) callerA (.call (.ref fa) ⟨[.ref a], []⟩)
      (fun r s' => r = .ok (.ret (.bool true)) ∧ OldK s.heap s'.heap ∧ s'.os = s.os ∧ AllBare s'.gens) s := by
  have rv := vals_ints hi
  have h63 : (63 : Nat) ≤ sizeLine := by decide
  have lenV := hi.length
  have core := lawG_core KX hns hb hbb hlim hsm hg ha hl hr hfa F
  cases hk : K.lookup a with
  | some o =>
    have e := KX a o hk
    rw [ha] at e
    cases e
    refine core (fun _ => none) (fun _ => .inl rfl) (.inr ⟨_, vs.toArray, _, hk, rfl, rfl, rfl, ?_, by simpa using rv⟩)
      (fun b u z => nomatch (show (none : Option HO) = some u from z)) (fun b z => absurd rfl z) fun z => absurd rfl z
    rw [List.size_toArray, lenV]
    exact Nat.le_trans hl h63
  | none =>
    refine core (upd (fun _ => none) a (.frz { cls := .type "list", data := .seq vs.toArray } (.lst (ns.map V.int))))
      (fun b => ?_) (.inl (.inr ⟨_, upd_same⟩)) (fun b u z => ?_) (fun b z => ?_) fun _ => hk
    · by_cases hb : b = a
      · subst hb
        exact .inr ⟨_, _, upd_same⟩
      · exact .inl (upd_ne hb)
    · by_cases hb : b = a
      · subst hb
        rw [upd_same] at z
        cases z
        exact ⟨ha, by rw [List.length_map]; exact Nat.le_trans hl h63, vs, _, rv, ha⟩
      · rw [upd_ne hb] at z
        cases z
    · exact Classical.byContradiction fun hb => z (upd_ne hb)
theorem walkG {l : PySem.W.OpenLaw} {k : Nat} {q : Program} {loose : List Str}
    {XP : (Str → Option Value) → Heap → Prop} {YP : World → Heap → Prop} {d : DefRec} {K : Params → PySem.W.Frag}
    {x : Str} (hn : l.most = some 63) (hdf : d.params.defaults = []) (hnm : d.name = "law") (hr : RoomG k callerA)
    (hY : ∀ (w : World) (h : Heap), YP w h → (K w.params).In h)
    (F : ∀ (w : World) (mg : Str → Option Value) (h : Heap), (K w.params).In h → h.Ns mainGlobals mg →
      ∀ base : Heap, (K w.params).In base → base.Ns mainGlobals mg → (∃ mm, base.Ns sysModules mm) →
        Has l.prog w (K w.params) mg base CX0 "law" [x] k (spLaw (K w.params)))
    (hq : importsNone q = true) :
    PySem.W.WalkO q loose XP YP l.row.toRowW d [] (fun f vs => PySem.call f vs) := by
  refine Att.attach_call hn hdf fun w s₀ s₁ mg mb fa o pm cd doc a vs ns G Y ho hd hcd hmg hobj hints hlen hg => ?_
  have KX := hY w _ Y
  rw [hnm] at hmg
  exact lawG KX G.T.g G.T.b G.T.builtins G.T.nolimit ((G.T.seer hq).mods.imp fun _ h => h.1) hg hobj hints hlen hr hmg (F w mg _ KX G.T.g)
theorem df_mk {K : PySem.W.Frag} {h : Heap} {mg : Str → Option Value} {x : Str} {st : Stmt} {ps : List Str} {f : Addr}
    {oc kV doc pm cdv ct : Value} {od an : Option Addr} {osl : Array (Option Value)} (X : K.In h) (G : h.Ns mainGlobals mg)
    (a : PySem.W.nsIn K mainGlobals x = some (some (.ref f)))
    (l : K.lookup f = some ⟨oc, od, .func (PySem.W.fnOf x x (defArgs st) (defBody st) (defScope st) .none kV doc pm an cdv ct), osl⟩)
    (c : PySem.W.codeIn K cdv x = true) (k : PySem.W.keepIn K (.ref f) = true)
    (b : ∀ (kV doc pm : Value) (an : Option Addr) (cdv ct : Value) (us : List Value), us.length = ps.length →
      bindArgs (PySem.W.fnOf x x (defArgs st) (defBody st) (defScope st) .none kV doc pm an cdv ct) ⟨us, []⟩ = pure (ps.zip us)) :
    Df K mg x st ps := by
  have F := fun_mk (st := st) l c k
  exact ⟨f, _, F, PySem.W.mg_of X G a, F.binds b⟩
theorem gstr_mk {K : PySem.W.Frag} {h : Heap} {mg : Str → Option Value} {x z : Str} {t : Tok} (X : K.In h) (G : h.Ns mainGlobals mg)
    (a : PySem.W.nsIn K mainGlobals x = some (some (.str z t))) : ∃ t, mg x = some (.str z t) := ⟨t, PySem.W.mg_of X G a⟩
theorem gint_mk {K : PySem.W.Frag} {h : Heap} {mg : Str → Option Value} {x : Str} {z : Int} {t : Tok} (X : K.In h) (G : h.Ns mainGlobals mg)
    (a : PySem.W.nsIn K mainGlobals x = some (some (.int z t))) : ∃ t, mg x = some (.int z t) := ⟨t, PySem.W.mg_of X G a⟩
end Aw
namespace Aw
open PySem PySem.Spec L2
/-- names of built-ins that the top leaves alone -/
structure Blt (mg : Str → Option Value) : Prop where
  len : mg "len" = none
  int : mg "int" = none
  abs : mg "abs" = none
  str : mg "str" = none
  bool : mg "bool" = none
  range : mg "range" = none
  isinstance : mg "isinstance" = none
  tuple : mg "tuple" = none
  list : mg "list" = none
  repr : mg "repr" = none
  zip : mg "zip" = none
  enumerate : mg "enumerate" = none
  sum : mg "sum" = none
  min : mg "min" = none
  max : mg "max" = none
  all : mg "all" = none
  any : mg "any" = none
  sorted : mg "sorted" = none
  dict : mg "dict" = none
/-- what may be written -/
def Mut : HO → Prop
  | .tup _ => False
  | .frz _ _ => False
  | _ => True
/-- all but what stands at M is kept -/
def Kp (M : List Addr) (H H' : Hp) : Prop :=
  ∀ b o, H b = some o → (b ∈ M → Mut o) ∧ (b ∉ M → H' b = some o)
/-- lists stand at M -/
def Ls (M : List Addr) (H : Hp) : Prop := ∀ b ∈ M, ∃ xs, H b = some (.lst xs)
theorem Kp.refl {M : List Addr} {H : Hp} (h : Ls M H) : Kp M H H := fun b o e => ⟨fun m => by
  obtain ⟨xs, q⟩ := h b m
  rw [e] at q
  cases q
  trivial, fun _ => e⟩
/-- what may be written stands at M -/
def Ms (M : List Addr) (H : Hp) : Prop := ∀ b ∈ M, ∃ o, H b = some o ∧ Mut o
theorem Kp.reflM {M : List Addr} {H : Hp} (h : Ms M H) : Kp M H H := fun b o e => ⟨fun m => by
  obtain ⟨o', q, z⟩ := h b m
  rw [e] at q
  cases q
  exact z, fun _ => e⟩
theorem Ms.nil {H : Hp} : Ms [] H := fun b m => by cases m
theorem Ms.cons {M : List Addr} {H : Hp} {a : Addr} {o : HO} (e : H a = some o) (z : Mut o) (h : Ms M H) : Ms (a :: M) H := fun b m => by
  rcases List.mem_cons.mp m with rfl | m
  · exact ⟨o, e, z⟩
  · exact h b m
theorem Kp.nil {H : Hp} : Kp [] H H := fun b o e => ⟨fun m => (by cases m), fun _ => e⟩
theorem Kp.trans {M : List Addr} {H H1 H2 : Hp} (a : Kp M H H1) (b : Kp M H1 H2) : Kp M H H2 := fun c o e =>
  ⟨(a c o e).1, fun n => (b c o ((a c o e).2 n)).2 n⟩
theorem Kp.sub {M M' : List Addr} {H H1 : Hp} (a : Kp M H H1) (h : Ls M' H) (s : ∀ b ∈ M, b ∈ M') : Kp M' H H1 := fun c o e =>
  ⟨fun m => by
    obtain ⟨xs, q⟩ := h c m
    rw [e] at q
    cases q
    trivial, fun n => (a c o e).2 fun m => n (s c m)⟩
theorem Kp.subM {M M' : List Addr} {H H1 : Hp} (a : Kp M H H1) (h : Ms M' H) (s : ∀ b ∈ M, b ∈ M') : Kp M' H H1 := fun c o e =>
  ⟨fun m => by
    obtain ⟨o', q, z⟩ := h c m
    rw [e] at q
    cases q
    exact z, fun n => (a c o e).2 fun m => n (s c m)⟩
theorem Kp.same {H H1 : Hp} (a : Kp [] H H1) : Same H H1 := fun b o e => (a b o e).2 (by simp)
theorem Kp.of {H H1 : Hp} (a : Same H H1) : Kp [] H H1 := fun b o e => ⟨fun m => (by cases m), fun _ => a b o e⟩
theorem Kp.get {M : List Addr} {H H1 : Hp} {b : Addr} {o : HO} (a : Kp M H H1) (e : H b = some o) (n : b ∉ M) : H1 b = some o := (a b o e).2 n
theorem Kp.tup {M : List Addr} {H H1 : Hp} {b : Addr} {xs : List V} (a : Kp M H H1) (e : H b = some (.tup xs)) : H1 b = some (.tup xs) :=
  (a b _ e).2 fun m => (a b _ e).1 m
/-- a new object -/
theorem Kp.new {M : List Addr} {H H1 : Hp} {p : Addr} {o : HO} (a : Kp M H H1) (n : H1 p = none) : Kp M H (upd H1 p o) := fun b u e =>
  ⟨(a b u e).1, fun m => by
    have q := (a b u e).2 m
    rw [upd_ne (ne_of_none q n)]
    exact q⟩
/-- a write at M -/
theorem Kp.write {M : List Addr} {H H1 : Hp} {p : Addr} {o : HO} (a : Kp M H H1) (m : p ∈ M) : Kp M H (upd H1 p o) := fun b u e =>
  ⟨(a b u e).1, fun n => by
    have q := (a b u e).2 n
    rw [upd_ne (fun z : b = p => n (by rw [z]; exact m))]
    exact q⟩
/-- what was not there ahead may be written -/
theorem Kp.own {M : List Addr} {H H1 : Hp} {p : Addr} {o : HO} (a : Kp M H H1) (n : H p = none) : Kp M H (upd H1 p o) := fun b u e =>
  ⟨(a b u e).1, fun m => by
    rw [upd_ne (ne_of_none e n)]
    exact (a b u e).2 m⟩
theorem Kp.free {M : List Addr} {H H1 : Hp} {p : Addr} (a : Kp M H H1) (l : Ls M H1) (n : H1 p = none) : H p = none := by
  cases q : H p with
  | none => rfl
  | some o =>
    by_cases m : p ∈ M
    · obtain ⟨xs, z⟩ := l p m
      rw [n] at z
      cases z
    · rw [(a p o q).2 m] at n
      cases n
theorem Kp.freeM {M : List Addr} {H H1 : Hp} {p : Addr} (a : Kp M H H1) (l : Ms M H1) (n : H1 p = none) : H p = none := by
  cases q : H p with
  | none => rfl
  | some o =>
    by_cases m : p ∈ M
    · obtain ⟨o', z, _⟩ := l p m
      rw [n] at z
      cases z
    · rw [(a p o q).2 m] at n
      cases n
theorem sqT_kp {K : PySem.W.Frag} {M : List Addr} {H H1 : Hp} {b : Addr} {xs : List V} (a : Kp M H H1) (h : SqT K H b xs) : SqT K H1 b xs := by
  rcases h with (h | ⟨o, h⟩) | h
  · exact .inl (.inl (a.tup h))
  · exact .inl (.inr ⟨o, (a b _ h).2 fun m => (a b _ h).1 m⟩)
  · exact .inr h
theorem sqL_kp {K : PySem.W.Frag} {M : List Addr} {H H1 : Hp} {b : Addr} {xs : List V} (a : Kp M H H1) (n : b ∉ M) (h : SqL K H b xs) : SqL K H1 b xs := by
  rcases h with (h | ⟨o, h⟩) | h
  · exact .inl (.inl (a.get h n))
  · exact .inl (.inr ⟨o, a.get h n⟩)
  · exact .inr h
/-- data without lists -/
inductive Dt (K : PySem.W.Frag) (H : Hp) : V → PyData → Prop
  | non : Dt K H .non .none
  | bl (b : Bool) : Dt K H (.bl b) (.bool b)
  | int (i : Int) : Dt K H (.int i) (.int i)
  | str (x : Str) : Dt K H (.str x) (.str x)
  | tup {a : Addr} {xs : List V} {ds : List PyData} : SqT K H a xs → xs.length = ds.length →
      (∀ (i : Nat) (v : V) (d : PyData), xs[i]? = some v → ds[i]? = some d → Dt K H v d) → Dt K H (.ref a) (.tuple ds)
theorem Dt.kp {K : PySem.W.Frag} {M : List Addr} {H H1 : Hp} {v : V} {d : PyData} (a : Kp M H H1) (h : Dt K H v d) : Dt K H1 v d := by
  induction h with
  | non => exact .non
  | bl b => exact .bl b
  | int i => exact .int i
  | str x => exact .str x
  | tup s l _ ih => exact .tup (sqT_kp a s) l ih
theorem Dt.dp {K : PySem.W.Frag} {H : Hp} {v : V} {d : PyData} (h : Dt K H v d) : Dp K H v d := by
  induction h with
  | non => exact .non
  | bl b => exact .bl b
  | int i => exact .int i
  | str x => exact .str x
  | @tup a xs ds s l _ ih =>
    refine .tup s ?_
    clear s
    induction xs generalizing ds with
    | nil =>
      cases ds with
      | nil => exact .nil
      | cons d ds => cases l
    | cons x xs ihx =>
      cases ds with
      | nil => cases l
      | cons d ds =>
        refine .cons (ih 0 x d rfl rfl) (ihx (by simpa using l) (fun i => ?_) fun i => ?_)
        · rename_i q
          exact q (i + 1)
        · exact ih (i + 1)
structure Deck (H : Hp) (d c : Addr) (n : Int) : Prop where
  hd : H d = some (.lst [.ref c, .int n])
  hc : ∃ cs : List Int, H c = some (.lst (cs.map V.int)) ∧ (∀ x ∈ cs, 0 ≤ x) ∧ cs.length ≤ 63
  ne : d ≠ c
  n0 : 0 ≤ n
theorem Deck.ls {H : Hp} {d c : Addr} {n : Int} (D : Deck H d c n) : Ls [d, c] H := by
  intro b m
  rcases List.mem_cons.mp m with rfl | m
  · exact ⟨_, D.hd⟩
  · obtain ⟨cs, h, _⟩ := D.hc
    rw [List.mem_singleton.mp m]
    exact ⟨_, h⟩
theorem Deck.ls3 {H : Hp} {d c l : Addr} {n : Int} {xs : List V} (D : Deck H d c n) (h : H l = some (.lst xs)) : Ls [d, c, l] H := by
  intro b m
  rcases List.mem_cons.mp m with rfl | m
  · exact ⟨_, D.hd⟩
  rcases List.mem_cons.mp m with rfl | m
  · obtain ⟨cs, h, _⟩ := D.hc
    exact ⟨_, h⟩
  · rw [List.mem_singleton.mp m]
    exact ⟨_, h⟩
theorem Deck.fresh {H : Hp} {d c p : Addr} {n : Int} (D : Deck H d c n) (h : H p = none) : p ≠ d ∧ p ≠ c := by
  obtain ⟨cs, hc, _⟩ := D.hc
  exact ⟨Ne.symm (ne_of_none D.hd h), Ne.symm (ne_of_none hc h)⟩
theorem Deck.kp {M : List Addr} {H H1 : Hp} {d c : Addr} {n : Int} (D : Deck H d c n) (k : Kp M H H1) (hd : d ∉ M) (hc : c ∉ M) : Deck H1 d c n := by
  obtain ⟨cs, h, a, b⟩ := D.hc
  exact ⟨k.get D.hd hd, ⟨cs, k.get h hc, a, b⟩, D.ne, D.n0⟩
/-- a draw -/
def spDraw : Sp := fun vs H Q _ => ∃ (d c : Addr) (n m : Int), vs = [.ref d, .int m] ∧ Deck H d c n ∧ n < 10 ^ 12 ∧ 1 ≤ m ∧ m < 2 ^ 30 ∧
  ∀ (H' : Hp) (r : Int), 0 ≤ r → r < m → Deck H' d c (n + 1) → Kp [d, c] H H' → Q (.int r) H'
theorem spDraw.use {H : Hp} {Q : VK} {E : XK} {d c : Addr} {n m : Int} (D : Deck H d c n) (hn : n < 10 ^ 12) (h1 : 1 ≤ m) (h2 : m < 2 ^ 30)
    (k : ∀ (H' : Hp) (r : Int), 0 ≤ r → r < m → Deck H' d c (n + 1) → Kp [d, c] H H' → Q (.int r) H') : spDraw [.ref d, .int m] H Q E :=
  ⟨d, c, n, m, rfl, D, hn, h1, h2, k⟩
/-- the deck is made -/
def spDeck (K : PySem.W.Frag) : Sp := fun vs H Q _ => ∃ (a : Addr) (ns : List Int), vs = [.ref a] ∧ SqL K H a (ns.map V.int) ∧ ns.length ≤ 63 ∧
  ∀ (H' : Hp) (d c : Addr), H d = none → H c = none → Deck H' d c 0 → Kp [] H H' → Q (.ref d) H'
/-- one of the items of a list, of a text -/
def spOneL (K : PySem.W.Frag) : Sp := fun vs H Q _ => ∃ (d c a : Addr) (n : Int) (xs : List V), vs = [.ref d, .ref a] ∧ Deck H d c n ∧ n < 10 ^ 12 ∧ SqL K H a xs ∧ a ≠ d ∧ a ≠ c ∧
  1 ≤ xs.length ∧ xs.length < 2 ^ 30 ∧ ∀ (H' : Hp) (i : Nat) (x : V), xs[i]? = some x → Deck H' d c (n + 1) → Kp [d, c] H H' → Q x H'
def spOneS : Sp := fun vs H Q _ => ∃ (d c : Addr) (n : Int) (z : Str), vs = [.ref d, .str z] ∧ Deck H d c n ∧ n < 10 ^ 12 ∧
  1 ≤ z.length ∧ z.length ≤ 1000 ∧ ∀ (H' : Hp) (k : Nat), k ∈ z.cps.toList → Deck H' d c (n + 1) → Kp [d, c] H H' → Q (.str ⟨#[k]⟩) H'
def spOne (K : PySem.W.Frag) : Sp := fun vs H Q E => spOneL K vs H Q E ∨ spOneS vs H Q E
theorem spOne.list {K : PySem.W.Frag} {H : Hp} {Q : VK} {E : XK} {d c a : Addr} {n : Int} {xs : List V} (D : Deck H d c n) (hn : n < 10 ^ 12) (s : SqL K H a xs) (h1 : a ≠ d) (h2 : a ≠ c)
    (h3 : 1 ≤ xs.length) (h4 : xs.length < 2 ^ 30) (k : ∀ (H' : Hp) (i : Nat) (x : V), xs[i]? = some x → Deck H' d c (n + 1) → Kp [d, c] H H' → Q x H') : spOne K [.ref d, .ref a] H Q E :=
  .inl ⟨d, c, a, n, xs, rfl, D, hn, s, h1, h2, h3, h4, k⟩
theorem spOne.text {K : PySem.W.Frag} {H : Hp} {Q : VK} {E : XK} {d c : Addr} {n : Int} {z : Str} (D : Deck H d c n) (hn : n < 10 ^ 12) (h3 : 1 ≤ z.length) (h4 : z.length ≤ 1000)
    (k : ∀ (H' : Hp) (i : Nat), i ∈ z.cps.toList → Deck H' d c (n + 1) → Kp [d, c] H H' → Q (.str ⟨#[i]⟩) H') : spOne K [.ref d, .str z] H Q E :=
  .inr ⟨d, c, n, z, rfl, D, hn, h3, h4, k⟩
end Aw
namespace Aw
open PySem PySem.Spec L2
section
variable {σ : L2.St} {H : Hp} {D : Ends} {Q : VK} {v x y : V} {i j : Nat} {t u : TS} {te ta tb tc : TE} {tt tu : TT} {ts : TA} {g : TG} {gs : TGs}
theorem r_seq (h : t { D with nx := u D } σ H) : tSeq t u D σ H := h
theorem r_next (h : D.nx σ H) : tNext D σ H := h
theorem r_asg (h : te σ H fun x H1 => g x σ H1 D.nx) : tAsg te g D σ H := h
theorem r_name {R : L2.St → Hp → Prop} (h : R (σ.set i (some v)) H) : gName i v σ H R := h
theorem r_sub {to ti : TE} {w : TSet} {R : L2.St → Hp → Prop} (h : to σ H fun o H1 => ti σ H1 fun i H2 => w o i v H2 fun H3 => R σ H3) : gSub to ti w v σ H R := h
theorem r_gtup {K : PySem.W.Frag} {n : Nat} {a : Addr} {xs : List V} {R : L2.St → Hp → Prop} (h : SqT K H a xs) (l : xs.length = n) (q : gs xs σ H R) : gTup K n gs (.ref a) σ H R := ⟨a, xs, rfl, h, l, q⟩
theorem r_gcons {R : L2.St → Hp → Prop} {xs : List V} (h : g x σ H fun σ' H' => gs xs σ' H' R) : gCons g gs (x :: xs) σ H R := ⟨x, xs, rfl, h⟩
theorem r_gnil {R : L2.St → Hp → Prop} (h : R σ H) : gNil [] σ H R := ⟨rfl, h⟩
theorem r_ifS (h : tt σ H fun b H1 => if b = true then t D σ H1 else u D σ H1) : tIfS tt t u D σ H := h
theorem r_ret (h : te σ H D.rt) : tRet te D σ H := h
theorem r_retN (h : D.rt .non H) : tRetN D σ H := h
theorem r_drop (h : te σ H fun _ H1 => D.nx σ H1) : tDrop te D σ H := h
theorem r_par (h : ts σ H fun vs H1 => ∃ v w, vs = [v, w] ∧ D.nx ((σ.set i (some v)).set j (some w)) H1) : tPar i j ts D σ H := h
theorem r_two {R : V → V → Prop} (h : R x y) : ∃ v w, [x, y] = [v, w] ∧ R v w := ⟨x, y, rfl, h⟩
theorem r_par3 {l : Nat} (h : ts σ H fun vs H1 => ∃ u v w, vs = [u, v, w] ∧ D.nx (((σ.set i (some u)).set j (some v)).set l (some w)) H1) : tPar3 i j l ts D σ H := h
theorem r_three {R : V → V → V → Prop} {z : V} (h : R x y z) : ∃ u v w, [x, y, z] = [u, v, w] ∧ R u v w := ⟨x, y, z, rfl, h⟩
theorem r_aug {ti : TIp} (e : σ[i]? = some (some x)) (h : te σ H fun y H1 => ti x y H1 fun z H2 => D.nx (σ.set i (some z)) H2) : tAug i te ti D σ H := ⟨x, e, h⟩
theorem r_ipI {f : Int → Int → Int} {a b : Int} (h : Q (.int (f a b)) H) : ipI f (.int a) (.int b) H Q := ⟨a, b, rfl, rfl, h⟩
theorem r_var (e : σ[i]? = some (some v)) (h : Q v H) : tVar i σ H Q := ⟨v, e, h⟩
theorem r_C (h : Q v H) : tC v σ H Q := h
theorem r_op {r : R2} (h : ta σ H fun x H1 => tb σ H1 fun y H2 => r x y H2 Q) : tOp r ta tb σ H Q := h
theorem r_un {r : V → Hp → VK → Prop} (h : ta σ H fun x H1 => r x H1 Q) : tUn r ta σ H Q := h
theorem r_I0 {f : Int → Int → V} {a b : Int} (h : Q (f a b) H) : rI0 f (.int a) (.int b) H Q := ⟨a, b, rfl, rfl, h⟩
theorem r_I {C : Int → Int → Prop} {f : Int → Int → V} {a b : Int} (h : Q (f a b) H) (c : C a b) : rI C f (.int a) (.int b) H Q := ⟨a, b, rfl, rfl, c, h⟩
theorem r_U {f : Int → V} {a : Int} (h : Q (f a) H) : rU f (.int a) H Q := ⟨a, rfl, h⟩
theorem r_tup (h : ts σ H fun xs H1 => xs.length ≤ sizeLine ∧ ∀ p, H1 p = none → Q (.ref p) (upd H1 p (.tup xs))) : tTup ts σ H Q := h
theorem r_lst (h : ts σ H fun xs H1 => xs.length ≤ sizeLine ∧ ∀ p, H1 p = none → Q (.ref p) (upd H1 p (.lst xs))) : tLst ts σ H Q := h
theorem r_nil {R : List V → Hp → Prop} (h : R [] H) : tNil σ H R := h
theorem r_cons {R : List V → Hp → Prop} (h : te σ H fun x H1 => ts σ H1 fun xs H2 => R (x :: xs) H2) : tCons te ts σ H R := h
theorem r_call {sp : Sp} {E : XK} (h : ts σ H fun vs H1 => sp (vs ++ []) H1 Q E) : tCall sp [] E ts σ H Q := h
theorem r_CB {r : List V → Hp → VK → Prop} (h : ts σ H fun vs H1 => r vs H1 Q) : tCB r ts σ H Q := h
theorem r_BM {K : PySem.W.Frag} {T : String} {r : V → List V → Hp → VK → Prop} {to : TE} (h : to σ H fun x H1 => tyV K T x H1 ∧ ts σ H1 fun xs H2 => r x xs H2 Q) : tBM K T r to ts σ H Q := h
theorem r_BM0 {K : PySem.W.Frag} {T : String} {r : V → List V → Hp → VK → Prop} {to : TE} (h : to σ H fun x H1 => tyV K T x H1 ∧ r x [] H1 Q) : tBM0 K T r to σ H Q := h
theorem r_tyL {K : PySem.W.Frag} {a : Addr} {xs : List V} {R : Prop} (h : H a = some (.lst xs)) (q : R) : tyV K "list" (.ref a) H ∧ R := ⟨.inl ⟨rfl, _, SqL.of h⟩, q⟩
theorem r_M1 {r : V → List V → Hp → VK → Prop} {to : TE} (h : to σ H fun x H1 => (∃ a, x = .str a) ∧ te σ H1 fun y H2 => r x [y] H2 Q) : tM1 r to te σ H Q := h
theorem r_isS {z : Str} {R : Prop} (h : R) : (∃ a, V.str z = .str a) ∧ R := ⟨⟨z, rfl⟩, h⟩
theorem r_if (h : tt σ H fun c H1 => if c = true then ta σ H1 Q else tb σ H1 Q) : tIf tt ta tb σ H Q := h
/-- both ways of a conditional expression meet -/
theorem r_ifJ (R : V → Hp → Prop) (h : ∀ Q' : VK, (∀ x H', R x H' → Q' x H') → tIf tt ta tb σ H Q') (k : ∀ x H', R x H' → Q x H') : tIf tt ta tb σ H Q := h Q k
/-- the ways of a statement meet -/
theorem r_seqJ (R : L2.St → Hp → Prop) (h : ∀ nx' : L2.St → Hp → Prop, (∀ σ' H', R σ' H' → nx' σ' H') → t { D with nx := nx' } σ H) (k : ∀ σ' H', R σ' H' → u D σ' H') : tSeq t u D σ H := h (u D) k
def Bl (R : Bool → Hp → Prop) : V → Hp → Prop := fun x H => ∃ k, x = .bl k ∧ R k H
theorem r_bl {R : Bool → Hp → Prop} {b : Bool} (h : R b H) : Bl R (.bl b) H := ⟨b, rfl, h⟩
theorem r_test {R : Bool → Hp → Prop} (h : te σ H (Bl R)) : tTest te σ H R := h
theorem r_B {R : Bool → Hp → Prop} (h : te σ H (Bl R)) : tB te σ H R := h
theorem r_and {R : Bool → Hp → Prop} (h : tt σ H fun c H1 => if c = true then tu σ H1 R else R false H1) : tAnd tt tu σ H R := h
theorem r_or {R : Bool → Hp → Prop} (h : tt σ H fun c H1 => if c = true then R true H1 else tu σ H1 R) : tOr tt tu σ H R := h
theorem r_orP {R : Bool → Hp → Prop} {p q : Bool} (h1 : ∀ R' : Bool → Hp → Prop, R' p H → tt σ H R') (h2 : ∀ R' : Bool → Hp → Prop, R' q H → tu σ H R') (h : R (p || q) H) : tOr tt tu σ H R := by
  refine h1 _ ?_
  cases p with
  | true => exact iteT h
  | false => exact iteF (h2 _ h)
theorem r_andP {R : Bool → Hp → Prop} {p q : Bool} (h1 : ∀ R' : Bool → Hp → Prop, R' p H → tt σ H R') (h2 : ∀ R' : Bool → Hp → Prop, R' q H → tu σ H R') (h : R (p && q) H) : tAnd tt tu σ H R := by
  refine h1 _ ?_
  cases p with
  | true => exact iteT (h2 _ h)
  | false => exact iteF h
theorem r_not {R : Bool → Hp → Prop} (h : tt σ H fun c H1 => R (!c) H1) : tNot tt σ H R := h
theorem r_andV (h : ta σ H (Bl fun c H1 => if c = true then tb σ H1 Q else Q (.bl false) H1)) : tAndV ta tb σ H Q := h
theorem r_orV (h : ta σ H (Bl fun c H1 => if c = true then Q (.bl true) H1 else tb σ H1 Q)) : tOrV ta tb σ H Q := h
theorem r_notV (h : ta σ H (Bl fun c H1 => Q (.bl (!c)) H1)) : tNotV ta σ H Q := h
theorem r_chain {r r' : R2} (h : ta σ H fun x H1 => tb σ H1 fun y H2 => r x y H2 (Bl fun k H3 => if k = true then tc σ H3 fun w' H4 => r' y w' H4 Q else Q (.bl false) H3)) : tChain r r' ta tb tc σ H Q := h
theorem r_eq (s : scal x y = true) (h : Q (.bl (decide (x = y))) H) : rEq x y H Q := ⟨s, h⟩
theorem r_ne (s : scal x y = true) (h : Q (.bl (!decide (x = y))) H) : rNe x y H Q := ⟨s, h⟩
theorem r_eqT (e : x = y) (s : scal x y = true) (h : Q (.bl true) H) : rEq x y H Q := ⟨s, by rw [decide_eq_true e]; exact h⟩
theorem r_eqF (e : x ≠ y) (s : scal x y = true) (h : Q (.bl false) H) : rEq x y H Q := ⟨s, by rw [decide_eq_false e]; exact h⟩
theorem r_neT (e : x ≠ y) (s : scal x y = true) (h : Q (.bl true) H) : rNe x y H Q := ⟨s, by rw [decide_eq_false e]; exact h⟩
theorem r_neF (e : x = y) (s : scal x y = true) (h : Q (.bl false) H) : rNe x y H Q := ⟨s, by rw [decide_eq_true e]; exact h⟩
theorem ifd {p A B : Prop} [Decidable p] (h1 : p → A) (h2 : ¬ p → B) : if decide p = true then A else B :=
  ite2 (fun c => h1 (of_decide_eq_true c)) fun c => h2 fun q => c (decide_eq_true q)
theorem ifn {p A B : Prop} [Decidable p] (h1 : ¬ p → A) (h2 : p → B) : if (!decide p) = true then A else B := by
  by_cases h : p
  · rw [decide_eq_true h]
    exact iteF (h2 h)
  · rw [decide_eq_false h]
    exact iteT (h1 h)
theorem ifT {A B : Prop} (h : A) : if true = true then A else B := iteT h
theorem ifF {A B : Prop} (h : B) : if false = true then A else B := iteF h
theorem ifnT {A B : Prop} (h : B) : if (!true) = true then A else B := iteF h
theorem ifnF {A B : Prop} (h : A) : if (!false) = true then A else B := iteT h
theorem c_pow {i j : Int} (h : i.natAbs < 2 ^ 64) (h1 : 0 ≤ j) (h2 : j ≤ 1000000) : CPow i j := ⟨h1, h2, h⟩
theorem c_div {i j : Int} (h : 0 < j) (h1 : j < 1073741824) : CDiv i j := ⟨h, h1⟩
theorem c_mulL {i j : Int} (h : -(2 ^ 64) < i) (h1 : i < 2 ^ 64) : CMul i j := .inl ⟨h, h1⟩
theorem c_mulR {i j : Int} (h : -(2 ^ 64) < j) (h1 : j < 2 ^ 64) : CMul i j := .inr ⟨h, h1⟩
def rAddS : R2 := fun x y H Q => ∃ i j, x = .str i ∧ y = .str j ∧ i.length + j.length ≤ sizeLine ∧ Q (.str (i ++ j)) H
theorem op_addS {X : Cx} : OpR X (binaryOp .Add) rAddS := op_add_str
theorem r_addS {a b : Str} (h : Q (.str (a ++ b)) H) (l : a.length + b.length ≤ sizeLine) : rAddS (.str a) (.str b) H Q := ⟨a, b, rfl, rfl, l, h⟩
theorem r_ixL {K : PySem.W.Frag} {a : Addr} {xs : List V} {k : Int} (h : SqL K H a xs) (e : atI xs k = some v) (q : Q v H) : rIxL K (.ref a) (.int k) H Q := ⟨a, xs, k, v, rfl, rfl, h, e, q⟩
theorem r_ixT {K : PySem.W.Frag} {a : Addr} {xs : List V} {k : Int} (h : SqT K H a xs) (e : atI xs k = some v) (q : Q v H) : rIxT K (.ref a) (.int k) H Q := ⟨a, xs, k, v, rfl, rfl, h, e, q⟩
theorem r_ixS {z : Str} {k : Int} {c : Nat} (l : z.length ≤ sizeLine) (e : atI z.cps.toList k = some c) (q : Q (.str ⟨#[c]⟩) H) : rIxS (.str z) (.int k) H Q := ⟨z, k, c, rfl, rfl, l, e, q⟩
theorem r_ixD {K : PySem.W.Frag} {w : World} {a : Addr} {z : Str} (h : KDct K w a z v) (q : Q v H) : rIxD K w (.ref a) (.str z) H Q := ⟨a, z, v, rfl, rfl, h, q⟩
theorem r_setL {R : Hp → Prop} {a : Addr} {xs : List V} {k : Int} {m : Nat} (h : H a = some (.lst xs)) (e : ixN xs.length k = some m) (q : R (upd H a (.lst (xs.set m v)))) : rSetL (.ref a) (.int k) v H R := ⟨a, xs, k, m, rfl, rfl, h, e, q⟩
theorem r_append {a : Addr} {xs : List V} (h : H a = some (.lst xs)) (q : Q .non (upd H a (.lst (xs ++ [x])))) (l : xs.length < sizeLine) : rAppend (.ref a) [x] H Q := ⟨a, xs, x, rfl, rfl, h, l, q⟩
theorem r_extend {a b : Addr} {xs zs : List V} (h : H a = some (.lst xs)) (h2 : H b = some (.lst zs)) (q : Q .non (upd H a (.lst (xs ++ zs)))) (l : xs.length + zs.length ≤ sizeLine) : rExtend (.ref a) [.ref b] H Q := ⟨a, b, xs, zs, rfl, rfl, h, h2, l, q⟩
theorem r_cat {a b : Addr} {xs zs : List V} (h : H a = some (.lst xs)) (h2 : H b = some (.lst zs)) (l : xs.length + zs.length ≤ sizeLine) (q : ∀ p, H p = none → Q (.ref p) (upd H p (.lst (xs ++ zs)))) : rCat (.ref a) (.ref b) H Q := ⟨a, b, xs, zs, rfl, rfl, h, h2, l, q⟩
theorem r_neD {K : PySem.W.Frag} {d e : PyData} (h1 : Dp K H x d) (h2 : Dp K H y e) (s1 : SeqAt.shaped d = true) (s2 : SeqAt.shaped e = true) (q : Q (.bl (!PyData.eqv d e)) H) : rNeD K x y H Q := ⟨d, e, h1, h2, s1, s2, q⟩
theorem at_nn {α : Type} {xs : List α} {r : Int} {v : α} (h0 : 0 ≤ r) (h : xs[r.toNat]? = some v) : atI xs r = some v := by
  have q := atI_nat h
  rw [Int.toNat_of_nonneg h0] at q
  exact q
theorem r_sl {r : V → Option Int → Option Int → Hp → VK → Prop} {tl th : TO} (h : te σ H fun x H1 => tl σ H1 fun l H2 => th σ H2 fun u H3 => r x l u H3 Q) : tSl r te tl th σ H Q := h
theorem r_noPart {R : Option Int → Hp → Prop} (h : R none H) : tNoPart σ H R := h
def PartI (R : Option Int → Hp → Prop) : V → Hp → Prop := fun x H1 => ∃ i, x = .int i ∧ R (some i) H1
theorem r_part {R : Option Int → Hp → Prop} (h : te σ H (PartI R)) : tPart te σ H R := h
theorem r_partI {R : Option Int → Hp → Prop} {k : Int} (h : R (some k) H) : PartI R (.int k) H := ⟨k, rfl, h⟩
theorem r_slL {K : PySem.W.Frag} {a : Addr} {xs : List V} {lo hi : Option Int} (s : SqL K H a xs) (h : ∀ p, H p = none → Q (.ref p) (upd H p (.lst (cutV xs lo hi)))) : rSlL K (.ref a) lo hi H Q := ⟨a, xs, rfl, s, h⟩
theorem r_slS {z : Str} {lo hi : Option Int} (h : Q (.str (cutS z lo hi)) H) (l : z.length ≤ sizeLine) : rSlS (.str z) lo hi H Q := ⟨z, rfl, l, h⟩
theorem cutV_map {α : Type} (f : α → V) (xs : List α) (lo hi : Option Int) : ∃ ys : List α, cutV (xs.map f) lo hi = ys.map f ∧ ys.length ≤ xs.length ∧ ∀ y ∈ ys, y ∈ xs := by
  unfold cutV
  rw [List.length_map, ← List.map_drop, ← List.map_take]
  refine ⟨_, rfl, ?_, fun y hy => List.mem_of_mem_drop (List.mem_of_mem_take hy)⟩
  rw [List.length_take, List.length_drop]
  omega
theorem r_pnil {R : List (V × V) → Hp → Prop} (h : R [] H) : tPairs [] σ H R := h
theorem r_pcons {R : List (V × V) → Hp → Prop} {tk tv : TE} {r : List (TE × TE)} (h : tk σ H fun x H1 => tv σ H1 fun y H2 => tPairs r σ H2 fun ps H3 => R ((x, y) :: ps) H3) : tPairs ((tk, tv) :: r) σ H R := h
def DG (Q : VK) : V → V → Hp → Prop := fun x y H2 => ∃ a v, x = .ref a ∧ DGet H2 a y (some v) ∧ Q v H2
theorem r_dget {td ty : TE} (h : td σ H fun x H1 => ty σ H1 fun y H2 => DG Q x y H2) : tDGet td ty σ H Q := h
theorem r_DG {a : Addr} (h : DGet H a y (some v)) (q : Q v H) : DG Q (.ref a) y H := ⟨a, v, rfl, h, q⟩
theorem dget_k {a : Addr} {kvs : List (Key × V)} {z : Str} (e : H a = some (.dK kvs)) (q : valV kvs (Sum.inr z) = some v) : DGet H a (.str z) (some v) := by
  have h := DGet.k (k := Sum.inr z) e
  rw [q] at h
  exact h
/-- the turns of a walk -/
def Turns (J : It) (g : TG) (tb : TS) (D : Ends) (σ : L2.St) (H1 : Hp) : Prop := ∃ W : Nat → Nat → L2.St → Hp → Prop, (∃ m, W 0 m σ H1) ∧ ∀ i m σ H, W i m σ H →
  (J.stop i H ∧ D.nx σ H) ∨ (J.go i H ∧ ∃ N : L2.St → Hp → Prop, (∀ σ' H', N σ' H' → ∃ m', m' < m ∧ W (i + 1) m' σ' H') ∧ ∀ x H', J.yld i H x H' → g x σ H' fun σ2 H2 => tb { D with nx := N, ct := N, bk := D.nx } σ2 H2)
def ForT (K : PySem.W.Frag) (g : TG) (tb : TS) (D : Ends) (σ : L2.St) : V → Hp → Prop := fun x H1 => ∃ a, x = .ref a ∧ (∃ xs, SqT K H1 a xs) ∧ Turns (Itt K a) g tb D σ H1
def ForL (K : PySem.W.Frag) (g : TG) (tb : TS) (D : Ends) (σ : L2.St) : V → Hp → Prop := fun x H1 => ∃ a, x = .ref a ∧ (∃ xs, SqL K H1 a xs) ∧ Turns (Itl K a) g tb D σ H1
def ForR (g : TG) (tb : TS) (D : Ends) (σ : L2.St) : List V → Hp → Prop := fun vs H1 => ∃ j : Int, vs = [.int j] ∧ -(2 ^ 62) ≤ j ∧ j < 2 ^ 62 ∧ Turns (Itr 0 j.toNat) g tb D σ H1
def ForR2 (g : TG) (tb : TS) (D : Ends) (σ : L2.St) : List V → Hp → Prop := fun vs H1 => ∃ i j : Int, vs = [.int i, .int j] ∧ (-(2 ^ 62) ≤ i ∧ i < 2 ^ 62 ∧ -(2 ^ 62) ≤ j ∧ j < 2 ^ 62) ∧ Turns (Itr i (j - i).toNat) g tb D σ H1
section
variable {K : PySem.W.Frag} {tb : TS}
theorem r_forT (h : te σ H (ForT K g tb D σ)) : tFor (iTup K te) g tb D σ H := h
theorem r_forL (h : te σ H (ForL K g tb D σ)) : tFor (iList K te) g tb D σ H := h
theorem r_forR (h : ts σ H (ForR g tb D σ)) : tFor (iRng1 ts) g tb D σ H := h
theorem r_forR2 (h : ts σ H (ForR2 g tb D σ)) : tFor (iRng2 ts) g tb D σ H := h
theorem r_ForT {a : Addr} {xs : List V} (s : SqT K H a xs) (R : Nat → L2.St → Hp → Prop) (h0 : R 0 σ H) (hl : ∀ i σ H, R i σ H → SqT K H a xs)
    (hs : ∀ (i : Nat) x σ H, xs[i]? = some x → R i σ H → g x σ H fun σ2 H2 => tb { D with nx := R (i + 1), ct := R (i + 1), bk := D.nx } σ2 H2) (hd : ∀ σ H, R xs.length σ H → D.nx σ H) :
    ForT K g tb D σ (.ref a) H := ⟨a, rfl, ⟨xs, s⟩, for_tup R h0 (fun i σ H _ => hl i σ H) hs hd⟩
theorem r_ForL {a : Addr} {xs : List V} (s : SqL K H a xs) (R : Nat → L2.St → Hp → Prop) (h0 : R 0 σ H) (hl : ∀ i σ H, R i σ H → SqL K H a xs)
    (hs : ∀ (i : Nat) x σ H, xs[i]? = some x → R i σ H → g x σ H fun σ2 H2 => tb { D with nx := R (i + 1), ct := R (i + 1), bk := D.nx } σ2 H2) (hd : ∀ σ H, R xs.length σ H → D.nx σ H) :
    ForL K g tb D σ (.ref a) H := ⟨a, rfl, ⟨xs, s⟩, for_list R h0 (fun i σ H _ => hl i σ H) hs hd⟩
theorem r_ForR {n : Int} (R : Nat → L2.St → Hp → Prop) (h1 : -(2 ^ 62) ≤ n) (h2 : n < 2 ^ 62) (h0 : R 0 σ H)
    (hs : ∀ (i : Nat) σ H, i < n.toNat → R i σ H → g (.int (i : Int)) σ H fun σ2 H2 => tb { D with nx := R (i + 1), ct := R (i + 1), bk := D.nx } σ2 H2) (hd : ∀ σ H, R n.toNat σ H → D.nx σ H) :
    ForR g tb D σ [.int n] H := by
  refine ⟨n, rfl, h1, h2, for_range (lo := 0) (n := n.toNat) R h0 (fun i σ H hi p => ?_) hd⟩
  have z := hs i σ H hi p
  rw [← Int.zero_add (i : Int)] at z
  exact z
end
def LcTurns (J : It) (g : TG) (tt : TT) (te : TE) (vs : List Nat) (σ : L2.St) (Q : VK) (H1 : Hp) : Prop := ∀ D, H1 D = none → ∃ W : Nat → Nat → Hp → Prop, (∃ m, W 0 m (upd H1 D (.lst []))) ∧ ∀ i m H, W i m H →
  (J.stop i H ∧ Q (.ref D) H) ∨ (J.go i H ∧ ∃ Nx : Hp → Prop, (∀ H', Nx H' → ∃ m', m' < m ∧ W (i + 1) m' H') ∧ ∀ x H', J.yld i H x H' → g x (wipe σ vs) H' fun σ2 H2 => wipe σ2 vs = wipe σ vs ∧ tt σ2 H2 fun b H3 =>
    if b = true then te σ2 H3 fun y H4 => ∃ acc, H4 D = some (.lst acc) ∧ acc.length < sizeLine ∧ Nx (upd H4 D (.lst (acc ++ [y]))) else Nx H3)
def LcT (K : PySem.W.Frag) (g : TG) (tt : TT) (te : TE) (vs : List Nat) (σ : L2.St) (Q : VK) : V → Hp → Prop := fun x H1 => ∃ a, x = .ref a ∧ (∃ xs, SqT K H1 a xs) ∧ LcTurns (Itt K a) g tt te vs σ Q H1
def LcL (K : PySem.W.Frag) (g : TG) (tt : TT) (te : TE) (vs : List Nat) (σ : L2.St) (Q : VK) : V → Hp → Prop := fun x H1 => ∃ a, x = .ref a ∧ (∃ xs, SqL K H1 a xs) ∧ LcTurns (Itl K a) g tt te vs σ Q H1
def LcR (g : TG) (tt : TT) (te : TE) (vs : List Nat) (σ : L2.St) (Q : VK) : List V → Hp → Prop := fun us H1 => ∃ j : Int, us = [.int j] ∧ -(2 ^ 62) ≤ j ∧ j < 2 ^ 62 ∧ LcTurns (Itr 0 j.toNat) g tt te vs σ Q H1
section
variable {K : PySem.W.Frag} {tt : TT} {vs : List Nat} {ti : TE}
theorem r_lcT (h : ti σ H (LcT K g tt te vs σ Q)) : tLc (iTup K ti) g tt te vs σ H Q := h
theorem r_lcL (h : ti σ H (LcL K g tt te vs σ Q)) : tLc (iList K ti) g tt te vs σ H Q := h
theorem r_lcR (h : ts σ H (LcR g tt te vs σ Q)) : tLc (iRng1 ts) g tt te vs σ H Q := h
/-- the end of a turn of a comprehension: the element y is taken -/
def LcEnd (D : Addr) (N : Hp → Prop) : VK := fun y H4 => ∃ acc, H4 D = some (.lst acc) ∧ acc.length < sizeLine ∧ N (upd H4 D (.lst (acc ++ [y])))
theorem r_LcEnd {D : Addr} {N : Hp → Prop} {acc : List V} (h : H D = some (.lst acc)) (l : acc.length < sizeLine) (q : N (upd H D (.lst (acc ++ [y])))) : LcEnd D N y H := ⟨acc, h, l, q⟩
def LcTurn (tt : TT) (te : TE) (vs : List Nat) (σ : L2.St) (D : Addr) (N : Hp → Prop) : L2.St → Hp → Prop := fun σ2 H2 => wipe σ2 vs = wipe σ vs ∧ tt σ2 H2 fun b H3 => if b = true then te σ2 H3 (LcEnd D N) else N H3
theorem r_LcL {a : Addr} {xs : List V} (s : SqL K H a xs) (h : ∀ p, H p = none → ∃ R : Nat → Hp → Prop, R 0 (upd H p (.lst [])) ∧ (∀ i H, R i H → SqL K H a xs) ∧
    (∀ (i : Nat) x H, xs[i]? = some x → R i H → g x (wipe σ vs) H (LcTurn tt te vs σ p (R (i + 1)))) ∧ ∀ H, R xs.length H → Q (.ref p) H) : LcL K g tt te vs σ Q (.ref a) H := by
  refine ⟨a, rfl, ⟨xs, s⟩, fun p hp => ?_⟩
  obtain ⟨R, h0, hl, hs, hd⟩ := h p hp
  exact lc_list R h0 (fun i H _ => hl i H) hs hd
theorem r_LcT {a : Addr} {xs : List V} (s : SqT K H a xs) (h : ∀ p, H p = none → ∃ R : Nat → Hp → Prop, R 0 (upd H p (.lst [])) ∧ (∀ i H, R i H → SqT K H a xs) ∧
    (∀ (i : Nat) x H, xs[i]? = some x → R i H → g x (wipe σ vs) H (LcTurn tt te vs σ p (R (i + 1)))) ∧ ∀ H, R xs.length H → Q (.ref p) H) : LcT K g tt te vs σ Q (.ref a) H := by
  refine ⟨a, rfl, ⟨xs, s⟩, fun p hp => ?_⟩
  obtain ⟨R, h0, hl, hs, hd⟩ := h p hp
  exact lc_tup R h0 (fun i H _ => hl i H) hs hd
theorem r_LcR {n : Int} (h1 : -(2 ^ 62) ≤ n) (h2 : n < 2 ^ 62) (h : ∀ p, H p = none → ∃ R : Nat → Hp → Prop, R 0 (upd H p (.lst [])) ∧
    (∀ (i : Nat) H, i < n.toNat → R i H → g (.int (i : Int)) (wipe σ vs) H (LcTurn tt te vs σ p (R (i + 1)))) ∧ ∀ H, R n.toNat H → Q (.ref p) H) : LcR g tt te vs σ Q [.int n] H := by
  refine ⟨n, rfl, h1, h2, fun p hp => ?_⟩
  obtain ⟨R, h0, hs, hd⟩ := h p hp
  refine lc_range (lo := 0) (n := n.toNat) R h0 (fun i H hi q => ?_) hd
  have z := hs i H hi q
  rw [← Int.zero_add (i : Int)] at z
  exact z
theorem r_LcTurn {D : Addr} {N : Hp → Prop} {σ2 : L2.St} (e : wipe σ2 vs = wipe σ vs) (h : tt σ2 H fun b H3 => if b = true then te σ2 H3 (LcEnd D N) else N H3) : LcTurn tt te vs σ D N σ2 H := ⟨e, h⟩
theorem r_yes {R : Bool → Hp → Prop} (h : R true H) : tYes σ H R := h
end
theorem r_in {K : PySem.W.Frag} {a : Addr} {xs : List V} (h : SqL K H a xs ∨ SqT K H a xs) (f1 : flatV x = true) (f2 : xs.all flatV = true) (q : Q (.bl (inV x xs)) H) : rIn K false x (.ref a) H Q :=
  ⟨a, xs, rfl, h, f1, f2, by rw [if_neg Bool.false_ne_true]; exact q⟩
theorem r_inT {K : PySem.W.Frag} {a : Addr} {xs : List V} (h : SqL K H a xs ∨ SqT K H a xs) (f1 : flatV x = true) (f2 : xs.all flatV = true) (e : inV x xs = true) (q : Q (.bl true) H) : rIn K false x (.ref a) H Q :=
  ⟨a, xs, rfl, h, f1, f2, by rw [if_neg Bool.false_ne_true, e]; exact q⟩
theorem r_inF {K : PySem.W.Frag} {a : Addr} {xs : List V} (h : SqL K H a xs ∨ SqT K H a xs) (f1 : flatV x = true) (f2 : xs.all flatV = true) (e : inV x xs = false) (q : Q (.bl false) H) : rIn K false x (.ref a) H Q :=
  ⟨a, xs, rfl, h, f1, f2, by rw [if_neg Bool.false_ne_true, e]; exact q⟩
theorem kpW {a : Addr} {xs : List V} {o : HO} (h : H a = some (.lst xs)) : Kp [a] H (upd H a o) :=
  (Kp.refl (M := [a]) fun b m => ⟨xs, by rw [List.mem_singleton.mp m]; exact h⟩).write (by simp)
end
section
variable {X : Cx} {H : Hp} {Q : VK}
def qAbs : List V → Hp → VK → Prop := fun xs H Q => ∃ i, xs = [.int i] ∧ Q (.int (if i < 0 then -i else i)) H
theorem c_abs : CallR X (.builtin "abs") qAbs := call_abs
theorem r_abs {i : Int} (h : Q (.int (if i < 0 then -i else i)) H) : qAbs [.int i] H Q := ⟨i, rfl, h⟩
def qInt : List V → Hp → VK → Prop := fun xs H Q => (∃ i, xs = [.int i] ∧ Q (.int i) H) ∨ ∃ k, xs = [.bl k] ∧ Q (.int (if k then 1 else 0)) H
theorem c_int : CallR X (.type "int") qInt := call_int1
theorem r_int {i : Int} (h : Q (.int i) H) : qInt [.int i] H Q := .inl ⟨i, rfl, h⟩
theorem r_intB {b : Bool} (h : Q (.int (if b then 1 else 0)) H) : qInt [.bl b] H Q := .inr ⟨b, rfl, h⟩
def qLen (K : PySem.W.Frag) : List V → Hp → VK → Prop := fun xs H Q => ∃ x n, xs = [x] ∧ LenV K x H n ∧ Q (.int n) H
theorem c_len : CallR X (.builtin "len") (qLen X.K) := call_len
theorem r_lenL {K : PySem.W.Frag} {a : Addr} {xs : List V} (h : SqL K H a xs) (q : Q (.int (xs.length : Nat)) H) : qLen K [.ref a] H Q := ⟨_, _, rfl, .inl ⟨_, h, rfl⟩, q⟩
theorem r_lenT {K : PySem.W.Frag} {a : Addr} {xs : List V} (h : SqT K H a xs) (q : Q (.int (xs.length : Nat)) H) : qLen K [.ref a] H Q := ⟨_, _, rfl, .inr ⟨_, h, rfl⟩, q⟩
theorem r_lenS {K : PySem.W.Frag} {z : Str} (q : Q (.int (z.length : Nat)) H) (h : z.length ≤ sizeLine) : qLen K [.str z] H Q := ⟨_, _, rfl, ⟨h, rfl⟩, q⟩
def qStr : List V → Hp → VK → Prop := fun xs H Q => (∃ i, xs = [.int i] ∧ i.natAbs.log2 < 1920 ∧ Q (.str (toString i)) H) ∨ ∃ a, xs = [.str a] ∧ Q (.str a) H
theorem c_str : CallR X (.type "str") qStr := call_str_int.or SkE.call_str_str
theorem r_strI {i : Int} (h : Q (.str (toString i)) H) (l : i.natAbs.log2 < 1920) : qStr [.int i] H Q := .inl ⟨i, rfl, l, h⟩
theorem r_strS {z : Str} (h : Q (.str z) H) : qStr [.str z] H Q := .inr ⟨z, rfl, h⟩
def qTup (K : PySem.W.Frag) : List V → Hp → VK → Prop := fun xs H Q => ∃ p ys, xs = [.ref p] ∧ ((SqL K H p ys ∧ ∀ l, H l = none → Q (.ref l) (upd H l (.tup ys))) ∨ (SqT K H p ys ∧ Q (.ref p) H))
theorem c_tup : CallR X (.type "tuple") (qTup X.K) := call_tuple_of
theorem r_tupL {K : PySem.W.Frag} {a : Addr} {xs : List V} (s : SqL K H a xs) (h : ∀ l, H l = none → Q (.ref l) (upd H l (.tup xs))) : qTup K [.ref a] H Q := ⟨a, xs, rfl, .inl ⟨s, h⟩⟩
end
section
variable {X : Cx} {x : Str} {pos : Pos}
theorem pe_ty {T : String} (hg : Gl X x) (hm : X.mg x = none) (hv : bootBuiltins x = some (.type T)) (hn : x ≠ "__name__" := by decide) (hd : (x == ("__debug__" : Str)) = false := by decide) : PE X (.Name x pos) (tC (.ty T)) := pe_bltn hg hm hv rfl hn hd
theorem pe_gref {a : Addr} (hg : Gl X x) (hm : X.mg x = some (.ref a)) (hd : (x == ("__debug__" : Str)) = false := by decide) : PE X (.Name x pos) (tC (.ref a)) := pe_glob hg hm rfl hd
theorem pe_gint {i : Int} {t : Tok} (hg : Gl X x) (hm : X.mg x = some (.int i t)) (hd : (x == ("__debug__" : Str)) = false := by decide) : PE X (.Name x pos) (tC (.int i)) := pe_glob hg hm ⟨t, rfl⟩ hd
theorem pe_gstr {z : Str} {t : Tok} (hg : Gl X x) (hm : X.mg x = some (.str z t)) (hd : (x == ("__debug__" : Str)) = false := by decide) : PE X (.Name x pos) (tC (.str z)) := pe_glob hg hm ⟨t, rfl⟩ hd
end
def tyD : PyData → String
  | .none => "NoneType"
  | .bool _ => "bool"
  | .int _ => "int"
  | .str _ => "str"
  | .list _ => "list"
  | .tuple _ => "tuple"
  | .dict _ => "dict"
def isaD (d : PyData) (n : String) : Bool := tyD d == n || (tyD d == "bool" && n == "int")
def qIs (K : PySem.W.Frag) : List V → Hp → VK → Prop := fun xs H Q => ∃ (x : V) (d : PyData) (n : String), xs = [x, .ty n] ∧ Dp K H x d ∧
  n ∈ ["int", "bool", "str", "tuple", "list", "dict"] ∧ Q (.bl (isaD d n)) H
theorem tyX_L {K : PySem.W.Frag} {H : Hp} {a : Addr} {xs : List V} (h : SqL K H a xs) : TyX K H (.ref a) (.type "list") := by
  rcases h with (h | ⟨o, h⟩) | ⟨o, its, n, h, c, _⟩
  · exact .base (.lst h)
  · exact .base (.frz h)
  · exact .kList h c
theorem tyX_T {K : PySem.W.Frag} {H : Hp} {a : Addr} {xs : List V} (h : SqT K H a xs) : TyX K H (.ref a) (.type "tuple") := by
  rcases h with (h | ⟨o, h⟩) | ⟨o, its, n, h, c, _⟩
  · exact .base (.tup h)
  · exact .fTuple h
  · exact .kTuple h c
section
variable {X : Cx} {H : Hp} {Q : VK}
def types : List String := ["int", "bool", "str", "tuple", "list", "dict"]
theorem kitAll : ∀ t ∈ "NoneType" :: types, ∀ n ∈ types, kitB t n = some (t == n || (t == "bool" && n == "int")) := by decide +kernel
theorem kitD (K : PySem.W.Frag) (d : PyData) (n : String) (h : n ∈ types) : PySem.W.kitOne K (.type (tyD d)) (.type n) = some (isaD d n) := by
  refine kit_ty (kitAll _ ?_ n h)
  cases d <;> simp [tyD, types]
theorem tyX_D {K : PySem.W.Frag} {x : V} {d : PyData} (h : Dp K H x d) : TyX K H x (.type (tyD d)) := by
  cases h with
  | non => exact .base .non
  | bl b => exact .base (.bl b)
  | int i => exact .base (.int i)
  | str z => exact .base (.str z)
  | lst s _ => exact tyX_L s
  | tup s _ => exact tyX_T s
theorem c_is : CallR X (.builtin "isinstance") (qIs X.K) := by
  intro pins s σ H xs us Q I r h
  obtain ⟨x, d, n, rfl, hd, hn, q⟩ := h
  exact call_isi pins s σ H _ us Q I r ⟨x, _, _, _, _, rfl, .ty n, tyX_D hd, kitD X.K d n hn, q⟩
theorem r_isT {K : PySem.W.Frag} {x : V} {d : PyData} {n : String} (h : Dp K H x d) (e : isaD d n = true) (hn : n ∈ types) (q : Q (.bl true) H) : qIs K [x, .ty n] H Q := ⟨x, d, n, rfl, h, hn, by rw [e]; exact q⟩
theorem r_isF {K : PySem.W.Frag} {x : V} {d : PyData} {n : String} (h : Dp K H x d) (e : isaD d n = false) (hn : n ∈ types) (q : Q (.bl false) H) : qIs K [x, .ty n] H Q := ⟨x, d, n, rfl, h, hn, by rw [e]; exact q⟩
end
end Aw
namespace Aw
open PySem PySem.Spec L2
/-- a text of at most n signs -/
structure Sok (x : Str) (n : Nat) : Prop where
  ok : PyData.strOk x = true
  len : x.length ≤ n
theorem Sok.app {x y : Str} {m n : Nat} (a : Sok x m) (b : Sok y n) : Sok (x ++ y) (m + n) := by
  refine ⟨?_, ?_⟩
  · have h1 := a.ok
    have h2 := b.ok
    unfold PyData.strOk at *
    rw [Str.cps_append, Array.all_append, h1, h2]
    rfl
  · rw [Str.length_append]
    have := a.len
    have := b.len
    omega
theorem Sok.mono {x : Str} {m n : Nat} (a : Sok x m) (h : m ≤ n) : Sok x n := ⟨a.ok, Nat.le_trans a.len h⟩
theorem Sok.line {x : Str} {m : Nat} (a : Sok x m) (h : m ≤ 16777216) : x.length ≤ sizeLine := by
  rw [sizeLine_eq]
  exact Nat.le_trans a.len h
theorem Sok.lit {x : Str} {n : Nat} (h : (PyData.strOk x && decide (x.length ≤ n)) = true) : Sok x n := by
  rw [Bool.and_eq_true, decide_eq_true_eq] at h
  exact ⟨h.1, h.2⟩
theorem Sok.repr {x : Str} {n : Nat} (a : Sok x n) : (reprText x).length ≤ 10 * n + 2 := by
  have h := PySem.StrLaws.reprText_len x (fun c hc => by
    have q := a.ok
    unfold PyData.strOk at q
    rw [Array.all_eq_true_iff_forall_mem] at q
    have := of_decide_eq_true (q c (Array.mem_def.mpr hc))
    omega)
  have := a.len
  omega
/-- small ints as texts -/
theorem Sok.num : ∀ i : Int, -99 ≤ i → i ≤ 99 → Sok (Str.ofString (toString i)) 3 := by
  have h : ∀ n : Fin 199, (PyData.strOk (Str.ofString (toString ((n.val : Int) - 99))) && decide ((Str.ofString (toString ((n.val : Int) - 99))).length ≤ 3)) = true := by
    decide +kernel
  intro i h1 h2
  have q := h ⟨(i + 99).toNat, by omega⟩
  have e : (((i + 99).toNat : Nat) : Int) - 99 = i := by omega
  simp only [e] at q
  exact Sok.lit q
theorem log2_small {i : Int} (h1 : -(2 ^ 64) < i) (h2 : i < 2 ^ 64) : i.natAbs.log2 < 1920 := by
  by_cases h : i.natAbs = 0
  · rw [h]
    decide
  · exact Nat.lt_of_lt_of_le ((Nat.log2_lt h).mpr (show i.natAbs < 2 ^ 64 by omega)) (by decide)
structure Shw (d : PyData) (k n : Nat) : Prop where
  sh : d.showable = true
  nd : d.hasDict = false
  dep : d.depth ≤ k
  len : d.shown.length ≤ n
theorem Shw.mono {d : PyData} {k n k' n' : Nat} (h : Shw d k n) (hk : k ≤ k') (hn : n ≤ n') : Shw d k' n' := ⟨h.sh, h.nd, Nat.le_trans h.dep hk, Nat.le_trans h.len hn⟩
theorem Shw.str {x : Str} {m k : Nat} (h : Sok x m) : Shw (.str x) k (10 * m + 2) :=
  ⟨by rw [PyData.showable], by rw [PyData.hasDict], by rw [PyData.depth]; exact Nat.zero_le _, by rw [PyData.shown]; exact h.repr⟩
theorem Shw.non {k : Nat} : Shw .none k 4 :=
  ⟨by rw [PyData.showable], by rw [PyData.hasDict], by rw [PyData.depth]; exact Nat.zero_le _, by rw [PyData.shown]; decide +kernel⟩
theorem Shw.bool {b : Bool} {k : Nat} : Shw (.bool b) k 5 :=
  ⟨by rw [PyData.showable], by rw [PyData.hasDict], by rw [PyData.depth]; exact Nat.zero_le _, by rw [PyData.shown]; cases b <;> decide +kernel⟩
theorem shownAll_len {ds : List PyData} {k n : Nat} (h : ∀ d ∈ ds, Shw d k n) : PyData.showableAll ds = true ∧ PyData.hasDictAll ds = false ∧ PyData.depthAll ds ≤ k ∧ (PyData.shownAll ds).length = ds.length ∧
    ((PyData.shownAll ds).map (·.length)).sum ≤ ds.length * n := by
  induction ds with
  | nil => exact ⟨by rw [PyData.showableAll], by rw [PyData.hasDictAll], by rw [PyData.depthAll]; exact Nat.zero_le _, by rw [PyData.shownAll]; rfl, by rw [PyData.shownAll]; exact Nat.zero_le _⟩
  | cons d r ih =>
    obtain ⟨a1, a2, a3, a4, a5⟩ := ih fun d hd => h d (List.mem_cons_of_mem _ hd)
    have q := h d (List.mem_cons_self ..)
    refine ⟨by rw [PyData.showableAll, q.sh, a1]; rfl, by rw [PyData.hasDictAll, q.nd, a2]; rfl, by rw [PyData.depthAll]; exact Nat.max_le.mpr ⟨q.dep, a3⟩, by rw [PyData.shownAll, List.length_cons, List.length_cons, a4], ?_⟩
    have := q.len
    rw [PyData.shownAll, List.map_cons, List.sum_cons, List.length_cons, Nat.add_mul, Nat.one_mul]
    omega
theorem Shw.list {ds : List PyData} {k n : Nat} (h : ∀ d ∈ ds, Shw d k n) : Shw (.list ds) (k + 1) (ds.length * (n + 2) + 3) := by
  obtain ⟨a1, a2, a3, a4, a5⟩ := shownAll_len h
  refine ⟨by rw [PyData.showable]; exact a1, by rw [PyData.hasDict]; exact a2, by rw [PyData.depth]; omega, ?_⟩
  rw [PyData.shown]
  have q := listText_len_le (PyData.shownAll ds)
  rw [a4] at q
  rw [Nat.mul_add]
  omega
theorem Shw.tup {ds : List PyData} {k n : Nat} (h : ∀ d ∈ ds, Shw d k n) : Shw (.tuple ds) (k + 1) (ds.length * (n + 2) + 3) := by
  obtain ⟨a1, a2, a3, a4, a5⟩ := shownAll_len h
  refine ⟨by rw [PyData.showable]; exact a1, by rw [PyData.hasDict]; exact a2, by rw [PyData.depth]; omega, ?_⟩
  rw [PyData.shown]
  have q := tupleText_len_le (PyData.shownAll ds)
  rw [a4] at q
  rw [Nat.mul_add]
  omega
structure DtL (K : PySem.W.Frag) (H : Hp) (vs : List V) (ds : List PyData) : Prop where
  len : vs.length = ds.length
  all : ∀ (i : Nat) (v : V) (d : PyData), vs[i]? = some v → ds[i]? = some d → Dt K H v d
theorem DtL.nil {K : PySem.W.Frag} {H : Hp} : DtL K H [] [] := ⟨rfl, fun i v d e => by simp at e⟩
theorem DtL.kp {K : PySem.W.Frag} {M : List Addr} {H H1 : Hp} {vs : List V} {ds : List PyData} (h : DtL K H vs ds) (a : Kp M H H1) : DtL K H1 vs ds := ⟨h.len, fun i v d e e' => (h.all i v d e e').kp a⟩
theorem DtL.snoc {K : PySem.W.Frag} {H : Hp} {vs : List V} {ds : List PyData} {v : V} {d : PyData} (h : DtL K H vs ds) (hv : Dt K H v d) : DtL K H (vs ++ [v]) (ds ++ [d]) := by
  refine ⟨by rw [List.length_append, List.length_append, h.len]; rfl, fun i u e q q' => ?_⟩
  by_cases hi : i < vs.length
  · rw [List.getElem?_append_left hi] at q
    rw [List.getElem?_append_left (by rw [← h.len]; exact hi)] at q'
    exact h.all i u e q q'
  · rw [List.getElem?_append_right (by omega)] at q
    rw [List.getElem?_append_right (by rw [← h.len]; omega), ← h.len] at q'
    have hlt := (List.getElem?_eq_some_iff.mp q).1
    rw [List.length_singleton] at hlt
    obtain h0 : i - vs.length = 0 := by omega
    rw [h0] at q q'
    cases q
    cases q'
    exact hv
theorem DtL.cons {K : PySem.W.Frag} {H : Hp} {vs : List V} {ds : List PyData} {v : V} {d : PyData} (hv : Dt K H v d) (h : DtL K H vs ds) : DtL K H (v :: vs) (d :: ds) := by
  refine ⟨by rw [List.length_cons, List.length_cons, h.len], fun i u e q q' => ?_⟩
  cases i with
  | zero =>
    cases q
    cases q'
    exact hv
  | succ i => exact h.all i u e (by simpa using q) (by simpa using q')
theorem DtL.tup {K : PySem.W.Frag} {H : Hp} {vs : List V} {ds : List PyData} {a : Addr} (h : DtL K H vs ds) (e : H a = some (.tup vs)) : Dt K H (.ref a) (.tuple ds) := .tup (SqT.of e) h.len h.all
section
variable {K : PySem.W.Frag} {H : Hp} {v : V}
theorem Dt.isInt {i : Int} (h : Dt K H v (.int i)) : v = .int i := by cases h; rfl
theorem Dt.isStr {x : Str} (h : Dt K H v (.str x)) : v = .str x := by cases h; rfl
theorem Dt.isNone (h : Dt K H v .none) : v = .non := by cases h; rfl
theorem Dt.isTup {ds : List PyData} (h : Dt K H v (.tuple ds)) : ∃ (a : Addr) (xs : List V), v = .ref a ∧ SqT K H a xs ∧ xs.length = ds.length ∧
    ∀ (i : Nat) (v : V) (d : PyData), xs[i]? = some v → ds[i]? = some d → Dt K H v d := by
  cases h with
  | tup s l q => exact ⟨_, _, rfl, s, l, q⟩
theorem Dt.is1 {d : PyData} (h : Dt K H v (.tuple [d])) : ∃ (a : Addr) (x : V), v = .ref a ∧ SqT K H a [x] ∧ Dt K H x d := by
  obtain ⟨a, xs, rfl, s, l, q⟩ := h.isTup
  match xs, l, s, q with
  | [x], _, s, q => exact ⟨a, x, rfl, s, q 0 x d rfl rfl⟩
theorem Dt.is2 {d e : PyData} (h : Dt K H v (.tuple [d, e])) : ∃ (a : Addr) (x y : V), v = .ref a ∧ SqT K H a [x, y] ∧ Dt K H x d ∧ Dt K H y e := by
  obtain ⟨a, xs, rfl, s, l, q⟩ := h.isTup
  match xs, l, s, q with
  | [x, y], _, s, q => exact ⟨a, x, y, rfl, s, q 0 x d rfl rfl, q 1 y e rfl rfl⟩
theorem Dt.is3 {d e f : PyData} (h : Dt K H v (.tuple [d, e, f])) : ∃ (a : Addr) (x y z : V), v = .ref a ∧ SqT K H a [x, y, z] ∧ Dt K H x d ∧ Dt K H y e ∧ Dt K H z f := by
  obtain ⟨a, xs, rfl, s, l, q⟩ := h.isTup
  match xs, l, s, q with
  | [x, y, z], _, s, q => exact ⟨a, x, y, z, rfl, s, q 0 x d rfl rfl, q 1 y e rfl rfl, q 2 z f rfl rfl⟩
theorem Dt.is4 {d e f g : PyData} (h : Dt K H v (.tuple [d, e, f, g])) : ∃ (a : Addr) (x y z u : V), v = .ref a ∧ SqT K H a [x, y, z, u] ∧ Dt K H x d ∧ Dt K H y e ∧ Dt K H z f ∧ Dt K H u g := by
  obtain ⟨a, xs, rfl, s, l, q⟩ := h.isTup
  match xs, l, s, q with
  | [x, y, z, u], _, s, q => exact ⟨a, x, y, z, u, rfl, s, q 0 x d rfl rfl, q 1 y e rfl rfl, q 2 z f rfl rfl, q 3 u g rfl rfl⟩
theorem Dt.mk0 {a : Addr} (h : H a = some (.tup [])) : Dt K H (.ref a) (.tuple []) := .tup (SqT.of h) rfl fun i v d e => by simp at e
theorem Dt.mk1 {a : Addr} {x : V} {d : PyData} (h : H a = some (.tup [x])) (h0 : Dt K H x d) : Dt K H (.ref a) (.tuple [d]) :=
  .tup (SqT.of h) rfl fun i v d' e e' => by
    match i, e, e' with
    | 0, e, e' => cases e; cases e'; exact h0
theorem Dt.mk2 {a : Addr} {x y : V} {d e : PyData} (h : H a = some (.tup [x, y])) (h0 : Dt K H x d) (h1 : Dt K H y e) : Dt K H (.ref a) (.tuple [d, e]) :=
  .tup (SqT.of h) rfl fun i v d' e e' => by
    match i, e, e' with
    | 0, e, e' => cases e; cases e'; exact h0
    | 1, e, e' => cases e; cases e'; exact h1
theorem Dt.mk3 {a : Addr} {x y z : V} {d e f : PyData} (h : H a = some (.tup [x, y, z])) (h0 : Dt K H x d) (h1 : Dt K H y e) (h2 : Dt K H z f) : Dt K H (.ref a) (.tuple [d, e, f]) :=
  .tup (SqT.of h) rfl fun i v d' e e' => by
    match i, e, e' with
    | 0, e, e' => cases e; cases e'; exact h0
    | 1, e, e' => cases e; cases e'; exact h1
    | 2, e, e' => cases e; cases e'; exact h2
theorem Dt.mk4 {a : Addr} {x y z u : V} {d e f g : PyData} (h : H a = some (.tup [x, y, z, u])) (h0 : Dt K H x d) (h1 : Dt K H y e) (h2 : Dt K H z f) (h3 : Dt K H u g) : Dt K H (.ref a) (.tuple [d, e, f, g]) :=
  .tup (SqT.of h) rfl fun i v d' e e' => by
    match i, e, e' with
    | 0, e, e' => cases e; cases e'; exact h0
    | 1, e, e' => cases e; cases e'; exact h1
    | 2, e, e' => cases e; cases e'; exact h2
    | 3, e, e' => cases e; cases e'; exact h3
end
end Aw
namespace Aw
open PySem PySem.Spec L2
def rNil (K : PySem.W.Frag) (neg : Bool) : R2 := fun x y H Q => ∃ (a b : Addr) (xs : List V), x = .ref a ∧ y = .ref b ∧
  ((SqL K H a xs ∧ SqL K H b []) ∨ (SqT K H a xs ∧ SqT K H b [])) ∧ Q (.bl (xs.isEmpty != neg)) H
section
variable {X : Cx} {H : Hp} {Q : VK}
theorem vals_nil {us : List Value} (r : Vals [] us) : us = [] := by cases r; rfl
theorem op_eqNil (hu : X.A.units + 64 < cLine) : OpR X (compareOp .Eq) (rNil X.K false) := by
  intro pins s σ H x y v u Q I rx ry h
  obtain ⟨a, b, xs, rfl, rfl, h, q⟩ := h
  cases (show v = Value.ref a from rx)
  cases (show u = Value.ref b from ry)
  have hu' : X.A.units < cLine := by omega
  rcases h with ⟨ha, hb⟩ | ⟨ha, hb⟩
  · obtain ⟨its, r, ⟨o, n, e, c, _, d⟩, _⟩ := I.list ha
    obtain ⟨its2, r2, ⟨o2, n2, e2, c2, _, d2⟩, _⟩ := I.list hb
    obtain rfl := vals_nil r2
    have hl : s.heap.IsList a its.toArray := ⟨o, e, c, n, d⟩
    have hl2 : s.heap.IsList b #[] := ⟨o2, e2, c2, n2, d2⟩
    cases xs with
    | nil =>
      obtain rfl := vals_nil r
      exact PySem.SeqAt.eq_listAt (e := fun _ => true) hl hl2 rfl hu' (fun j h1 => absurd h1 (by simp)) ⟨.bl true, H, I, rfl, q⟩
    | cons x xs =>
      cases r with
      | cons r0 r1 => exact PySem.SeqAt.eq_list_lengthsAt hl hl2 (by simp) hu' ⟨.bl false, H, I, rfl, q⟩
  · obtain ⟨its, r, ⟨o, e, c, n, d⟩, _⟩ := I.tuple ha
    obtain ⟨its2, r2, ⟨o2, e2, c2, n2, d2⟩, _⟩ := I.tuple hb
    obtain rfl := vals_nil r2
    have hl : s.heap.IsTuple a its.toArray := ⟨o, e, c, n, d⟩
    have hl2 : s.heap.IsTuple b #[] := ⟨o2, e2, c2, n2, d2⟩
    refine PySem.SeqAt.eq_tupleAt (e := fun _ => true) hl hl2 hu' (fun j h1 h2 => absurd h2 (by simp)) ?_
    cases xs with
    | nil =>
      obtain rfl := vals_nil r
      exact ⟨.bl true, H, I, rfl, q⟩
    | cons x xs =>
      cases r with
      | cons r0 r1 => exact ⟨.bl false, H, I, rfl, q⟩
theorem op_neNil (hu : X.A.units + 64 < cLine) : OpR X (compareOp .NotEq) (rNil X.K true) := by
  intro pins s σ H x y v u Q I rx ry h
  obtain ⟨a, b, xs, rfl, rfl, h, q⟩ := h
  cases (show v = Value.ref a from rx)
  cases (show u = Value.ref b from ry)
  have hu' : X.A.units < cLine := by omega
  rcases h with ⟨ha, hb⟩ | ⟨ha, hb⟩
  · obtain ⟨its, r, ⟨o, n, e, c, _, d⟩, _⟩ := I.list ha
    obtain ⟨its2, r2, ⟨o2, n2, e2, c2, _, d2⟩, _⟩ := I.list hb
    obtain rfl := vals_nil r2
    have hl : s.heap.IsList a its.toArray := ⟨o, e, c, n, d⟩
    have hl2 : s.heap.IsList b #[] := ⟨o2, e2, c2, n2, d2⟩
    cases xs with
    | nil =>
      obtain rfl := vals_nil r
      exact PySem.SeqAt.RcNeAt.lists (e := fun _ => true) hl hl2 rfl hu' (fun j h1 => absurd h1 (by simp)) _ _ _ _ ⟨.bl false, H, I, rfl, q⟩
    | cons x xs =>
      cases r with
      | cons r0 r1 => exact PySem.SeqAt.RcNeAt.lists_lengths hl hl2 (by simp) hu' _ _ _ _ ⟨.bl true, H, I, rfl, q⟩
  · obtain ⟨its, r, ⟨o, e, c, n, d⟩, _⟩ := I.tuple ha
    obtain ⟨its2, r2, ⟨o2, e2, c2, n2, d2⟩, _⟩ := I.tuple hb
    obtain rfl := vals_nil r2
    have hl : s.heap.IsTuple a its.toArray := ⟨o, e, c, n, d⟩
    have hl2 : s.heap.IsTuple b #[] := ⟨o2, e2, c2, n2, d2⟩
    refine PySem.SeqAt.RcNeAt.tuples (e := fun _ => true) hl hl2 hu' (fun j h1 h2 => absurd h2 (by simp)) _ _ _ _ ?_
    cases xs with
    | nil =>
      obtain rfl := vals_nil r
      exact ⟨.bl false, H, I, rfl, q⟩
    | cons x xs =>
      cases r with
      | cons r0 r1 => exact ⟨.bl true, H, I, rfl, q⟩
theorem r_eqNL {K : PySem.W.Frag} {a b : Addr} {xs : List V} (h1 : SqL K H a xs) (h2 : SqL K H b []) (q : Q (.bl xs.isEmpty) H) : rNil K false (.ref a) (.ref b) H Q := ⟨a, b, xs, rfl, rfl, .inl ⟨h1, h2⟩, by simpa using q⟩
theorem r_eqNT {K : PySem.W.Frag} {a b : Addr} {xs : List V} (h1 : SqT K H a xs) (h2 : SqT K H b []) (q : Q (.bl xs.isEmpty) H) : rNil K false (.ref a) (.ref b) H Q := ⟨a, b, xs, rfl, rfl, .inr ⟨h1, h2⟩, by simpa using q⟩
theorem r_neNL {K : PySem.W.Frag} {a b : Addr} {xs : List V} (h1 : SqL K H a xs) (h2 : SqL K H b []) (q : Q (.bl (!xs.isEmpty)) H) : rNil K true (.ref a) (.ref b) H Q := ⟨a, b, xs, rfl, rfl, .inl ⟨h1, h2⟩, by simpa using q⟩
theorem r_neNT {K : PySem.W.Frag} {a b : Addr} {xs : List V} (h1 : SqT K H a xs) (h2 : SqT K H b []) (q : Q (.bl (!xs.isEmpty)) H) : rNil K true (.ref a) (.ref b) H Q := ⟨a, b, xs, rfl, rfl, .inr ⟨h1, h2⟩, by simpa using q⟩
end
def keyD : Key → PyData
  | .inl i => .int i
  | .inr x => .str x
/-- data, the lists and dicts of which are none of M -/
inductive Dw (M : List Addr) (K : PySem.W.Frag) (H : Hp) : V → PyData → Prop
  | non : Dw M K H .non .none
  | bl (b : Bool) : Dw M K H (.bl b) (.bool b)
  | int (i : Int) : Dw M K H (.int i) (.int i)
  | str (x : Str) : Dw M K H (.str x) (.str x)
  | tup {a : Addr} {xs : List V} {ds : List PyData} : SqT K H a xs → xs.length = ds.length →
      (∀ (i : Nat) (v : V) (d : PyData), xs[i]? = some v → ds[i]? = some d → Dw M K H v d) → Dw M K H (.ref a) (.tuple ds)
  | lst {a : Addr} {xs : List V} {ds : List PyData} : H a = some (.lst xs) → a ∉ M → xs.length = ds.length →
      (∀ (i : Nat) (v : V) (d : PyData), xs[i]? = some v → ds[i]? = some d → Dw M K H v d) → Dw M K H (.ref a) (.list ds)
  | dct {a : Addr} {kvs : List (Key × V)} {ps : List (PyData × PyData)} : H a = some (.dK kvs) → a ∉ M → kvs.length = ps.length →
      (∀ (i : Nat) (kv : Key × V) (p : PyData × PyData), kvs[i]? = some kv → ps[i]? = some p → p.1 = keyD kv.1) →
      (∀ (i : Nat) (kv : Key × V) (p : PyData × PyData), kvs[i]? = some kv → ps[i]? = some p → Dw M K H kv.2 p.2) → Dw M K H (.ref a) (.dict ps)
section
variable {K : PySem.W.Frag} {M : List Addr} {H H1 : Hp} {v : V} {d : PyData}
theorem Dw.kp (a : Kp M H H1) (h : Dw M K H v d) : Dw M K H1 v d := by
  induction h with
  | non => exact .non
  | bl b => exact .bl b
  | int i => exact .int i
  | str x => exact .str x
  | tup s l _ ih => exact .tup (sqT_kp a s) l ih
  | lst e n l _ ih => exact .lst (a.get e n) n l ih
  | dct e n l q _ ih => exact .dct (a.get e n) n l q ih
theorem Dw.kp0 (a : Kp [] H H1) (h : Dw M K H v d) : Dw M K H1 v d := by
  induction h with
  | non => exact .non
  | bl b => exact .bl b
  | int i => exact .int i
  | str x => exact .str x
  | tup s l _ ih => exact .tup (sqT_kp a s) l ih
  | lst e n l _ ih => exact .lst (a.get e (by simp)) n l ih
  | dct e n l q _ ih => exact .dct (a.get e (by simp)) n l q ih
theorem Dw.sub {M' : List Addr} (s : ∀ a ∈ M', a ∈ M) (h : Dw M K H v d) : Dw M' K H v d := by
  induction h with
  | non => exact .non
  | bl b => exact .bl b
  | int i => exact .int i
  | str x => exact .str x
  | tup s l _ ih => exact .tup s l ih
  | lst e n l _ ih => exact .lst e (fun m => n (s _ m)) l ih
  | dct e n l q _ ih => exact .dct e (fun m => n (s _ m)) l q ih
theorem Dw.nil (h : Dw M K H v d) : Dw [] K H v d := h.sub (by simp)
theorem Dt.dw (h : Dt K H v d) : Dw M K H v d := by
  induction h with
  | non => exact .non
  | bl b => exact .bl b
  | int i => exact .int i
  | str x => exact .str x
  | tup s l _ ih => exact .tup s l ih
theorem Dw.isTup {ds : List PyData} (h : Dw M K H v (.tuple ds)) : ∃ (a : Addr) (xs : List V), v = .ref a ∧ SqT K H a xs ∧ xs.length = ds.length ∧
    ∀ (i : Nat) (v : V) (d : PyData), xs[i]? = some v → ds[i]? = some d → Dw M K H v d := by
  cases h with
  | tup s l q => exact ⟨_, _, rfl, s, l, q⟩
theorem Dw.isStr {x : Str} (h : Dw M K H v (.str x)) : v = .str x := by cases h; rfl
theorem Dw.isInt {i : Int} (h : Dw M K H v (.int i)) : v = .int i := by cases h; rfl
theorem Dw.ty (h : Dw M K H v d) : TyX K H v (.type (tyD d)) := by
  cases h with
  | non => exact .base .non
  | bl b => exact .base (.bl b)
  | int i => exact .base (.int i)
  | str z => exact .base (.str z)
  | tup s _ _ => exact tyX_T s
  | lst e _ _ _ => exact .base (.lst e)
  | dct e _ _ _ _ => exact .base (.dK e)
end
def qIs2 (K : PySem.W.Frag) : List V → Hp → VK → Prop := fun xs H Q => ∃ (x : V) (d : PyData) (n : String), xs = [x, .ty n] ∧ TyX K H x (.type (tyD d)) ∧
  n ∈ types ∧ Q (.bl (isaD d n)) H
theorem c_is2 {X : Cx} : CallR X (.builtin "isinstance") (qIs2 X.K) := by
  intro pins s σ H xs us Q I r h
  obtain ⟨x, d, n, rfl, hd, hn, q⟩ := h
  exact call_isi pins s σ H _ us Q I r ⟨x, _, _, _, _, rfl, .ty n, hd, kitD X.K d n hn, q⟩
section
variable {K : PySem.W.Frag} {M : List Addr} {H : Hp} {Q : VK} {x : V} {d : PyData} {n : String}
theorem r_is2 (h : Dw M K H x d) (hn : n ∈ types) (q : Q (.bl (isaD d n)) H) : qIs2 K [x, .ty n] H Q := ⟨x, d, n, rfl, h.ty, hn, q⟩
theorem r_is2T (h : Dw M K H x d) (e : isaD d n = true) (hn : n ∈ types) (q : Q (.bl true) H) : qIs2 K [x, .ty n] H Q := ⟨x, d, n, rfl, h.ty, hn, by rw [e]; exact q⟩
theorem r_is2F (h : Dw M K H x d) (e : isaD d n = false) (hn : n ∈ types) (q : Q (.bl false) H) : qIs2 K [x, .ty n] H Q := ⟨x, d, n, rfl, h.ty, hn, by rw [e]; exact q⟩
end
theorem sign_in (x : Str) (c : Nat) : (!(Builtin.Str.occurrences x ⟨#[c]⟩ 0 x.length 1).isEmpty) = decide (c ∈ x.cps.toList) := StrLaws.found_one x c
def rInC : R2 := fun x y H Q => ∃ (c : Nat) (z : Str), x = .str ⟨#[c]⟩ ∧ y = .str z ∧ Q (.bl (decide (c ∈ z.cps.toList))) H
def rNotInC : R2 := fun x y H Q => ∃ (c : Nat) (z : Str), x = .str ⟨#[c]⟩ ∧ y = .str z ∧ Q (.bl (!decide (c ∈ z.cps.toList))) H
section
variable {X : Cx} {H : Hp} {Q : VK} {σ : L2.St}
theorem op_inC : OpR X (compareOp .In) rInC := by
  intro pins s σ H x y v u Q I rx ry h
  obtain ⟨c, z, rfl, rfl, q⟩ := h
  exact op_in_str pins s σ H _ _ v u Q I rx ry ⟨_, _, rfl, rfl, by rw [sign_in]; exact q⟩
theorem op_notinC : OpR X (compareOp .NotIn) rNotInC := by
  intro pins s σ H x y v u Q I rx ry h
  obtain ⟨c, z, rfl, rfl, q⟩ := h
  exact op_notin_str pins s σ H _ _ v u Q I rx ry ⟨_, _, rfl, rfl, by rw [sign_in]; exact q⟩
theorem r_inC {c : Nat} {z : Str} (q : Q (.bl (decide (c ∈ z.cps.toList))) H) : rInC (.str ⟨#[c]⟩) (.str z) H Q := ⟨c, z, rfl, rfl, q⟩
theorem r_notinC {c : Nat} {z : Str} (q : Q (.bl (!decide (c ∈ z.cps.toList))) H) : rNotInC (.str ⟨#[c]⟩) (.str z) H Q := ⟨c, z, rfl, rfl, q⟩
def RevL (K : PySem.W.Frag) (Q : VK) : V → Hp → Prop := fun x H1 => ∃ a xs, x = .ref a ∧ SqL K H1 a xs ∧ ∀ p, H1 p = none → Q (.ref p) (upd H1 p (.lst xs.reverse))
theorem r_revL {K : PySem.W.Frag} {te : TE} (h : te σ H (RevL K Q)) : tRevL K te σ H Q := h
theorem r_RevL {K : PySem.W.Frag} {a : Addr} {xs : List V} (s : SqL K H a xs) (h : ∀ p, H p = none → Q (.ref p) (upd H p (.lst xs.reverse))) : RevL K Q (.ref a) H := ⟨a, xs, rfl, s, h⟩
theorem r_pop {a : Addr} {xs : List V} {y : V} (h : H a = some (.lst (xs ++ [y]))) (q : Q y (upd H a (.lst xs))) : rPop (.ref a) [] H Q :=
  ⟨a, _, y, rfl, rfl, h, by simp, by rw [List.dropLast_concat]; exact q⟩
def LcS (g : TG) (tt : TT) (te : TE) (vs : List Nat) (σ : L2.St) (Q : VK) : V → Hp → Prop := fun v H1 => ∃ x, v = .str x ∧ LcTurns (Its x) g tt te vs σ Q H1
section
variable {g : TG} {tt : TT} {te ti : TE} {vs : List Nat}
theorem r_lcS (h : ti σ H (LcS g tt te vs σ Q)) : tLc (iStr ti) g tt te vs σ H Q := h
theorem r_LcS {x : Str} (h : ∀ p, H p = none → ∃ R : Nat → Hp → Prop, R 0 (upd H p (.lst [])) ∧
    (∀ (i : Nat) (c : Nat) H, x.cps.toList[i]? = some c → R i H → g (.str ⟨#[c]⟩) (wipe σ vs) H (LcTurn tt te vs σ p (R (i + 1)))) ∧ ∀ H, R x.cps.toList.length H → Q (.ref p) H) : LcS g tt te vs σ Q (.str x) H := by
  refine ⟨x, rfl, fun p hp => ?_⟩
  obtain ⟨R, h0, hs, hd⟩ := h p hp
  refine ⟨fun i m H' => i + m = x.cps.size ∧ R i H', ⟨x.cps.size, by omega, h0⟩, fun i m H' ⟨e, r⟩ => ?_⟩
  by_cases hi : i < x.cps.size
  · refine .inr ⟨hi, R (i + 1), fun H2 r2 => ⟨m - 1, by omega, by omega, r2⟩, fun v H2 hy => ?_⟩
    obtain ⟨rfl, c, hc, rfl⟩ := hy
    exact hs i c _ (by rw [Array.getElem?_toList]; exact hc) r
  · refine .inl ⟨by show x.cps.size ≤ i; omega, hd H' ?_⟩
    have e : i = x.cps.toList.length := by rw [Array.length_toList]; omega
    rw [← e]
    exact r
/-- the signs of a text that are not f -/
theorem r_LcSf {x : Str} {f : Nat → Bool} {i : Nat} (hz : x.length ≤ 16777216) (ht : ∀ (c : Nat) (H' : Hp) (R : Bool → Hp → Prop), R (f c) H' → tt ((wipe σ vs).set i (some (.str ⟨#[c]⟩))) H' R)
    (he : ∀ (c : Nat) (H' : Hp) (R : VK), R (.str ⟨#[c]⟩) H' → te ((wipe σ vs).set i (some (.str ⟨#[c]⟩))) H' R) (hw : ∀ v : V, wipe ((wipe σ vs).set i (some v)) vs = wipe σ vs)
    (h : ∀ p, H p = none → Q (.ref p) (upd H p (.lst ((x.cps.toList.filter f).map fun c => V.str ⟨#[c]⟩)))) : LcS (gName i) tt te vs σ Q (.str x) H := by
  refine r_LcS fun p hp => ⟨fun n H' => H' = upd H p (.lst (((x.cps.toList.take n).filter f).map fun c => V.str ⟨#[c]⟩)), rfl, ?_, ?_⟩
  · rintro n c H' hc rfl
    refine r_name (r_LcTurn (hw _) (ht c _ _ ?_))
    have htk : x.cps.toList.take (n + 1) = x.cps.toList.take n ++ [c] := by rw [List.take_add_one, hc]; rfl
    cases hf : f c with
    | true =>
      refine ifT (he c _ _ (r_LcEnd upd_same ?_ ?_))
      · rw [List.length_map, sizeLine_eq]
        have a := List.length_filter_le f (x.cps.toList.take n)
        rw [List.length_take] at a
        have b := (List.getElem?_eq_some_iff.mp hc).1
        have e : x.cps.toList.length = x.length := by rw [Array.length_toList]; rfl
        omega
      · show _ = upd H p (.lst (((x.cps.toList.take (n + 1)).filter f).map fun c => V.str ⟨#[c]⟩))
        rw [htk, List.filter_append, List.filter_cons_of_pos (by exact hf), List.filter_nil, List.map_append]
        funext b
        by_cases hb : b = p
        · rw [hb, upd_same, upd_same]
          rfl
        · rw [upd_ne hb, upd_ne hb, upd_ne hb]
    | false =>
      refine ifF ?_
      show _ = upd H p (.lst (((x.cps.toList.take (n + 1)).filter f).map fun c => V.str ⟨#[c]⟩))
      rw [htk, List.filter_append, List.filter_cons_of_neg (by rw [hf]; exact Bool.false_ne_true), List.filter_nil, List.append_nil]
  · rintro H' rfl
    rw [List.take_length]
    exact h p hp
end
theorem r_while {c : TT} {tb : TS} {D : Ends} (Pv : Nat → L2.St → Hp → Prop) (m : Nat) (h0 : Pv m σ H)
    (hs : ∀ m σ H, Pv m σ H → c σ H fun b H1 => if b = true then ∃ N : L2.St → Hp → Prop, (∀ σ' H', N σ' H' → ∃ m', m' < m ∧ Pv m' σ' H') ∧ tb { D with nx := N, ct := N, bk := D.nx } σ H1 else D.nx σ H1) : tWhile c tb D σ H :=
  ⟨Pv, ⟨m, h0⟩, hs⟩
theorem r_turn {tb : TS} {D : Ends} {Pv : Nat → L2.St → Hp → Prop} {m : Nat} (h : tb { D with nx := fun σ' H' => ∃ m', m' < m ∧ Pv m' σ' H', ct := fun σ' H' => ∃ m', m' < m ∧ Pv m' σ' H', bk := D.nx } σ H) :
    ∃ N : L2.St → Hp → Prop, (∀ σ' H', N σ' H' → ∃ m', m' < m ∧ Pv m' σ' H') ∧ tb { D with nx := N, ct := N, bk := D.nx } σ H := ⟨_, fun _ _ z => z, h⟩
def DG2 (a : Addr) (Q : VK) : V → V → Hp → Prop := fun y z H3 => ∃ o, DGet H3 a y o ∧ Q (o.getD z) H3
def DG2a (ty tx : TE) (σ : L2.St) (Q : VK) : V → Hp → Prop := fun x H1 => ∃ a, x = .ref a ∧ IsD H1 a ∧ ty σ H1 fun y H2 => tx σ H2 fun z H3 => DG2 a Q y z H3
theorem r_dget2 {td ty tx : TE} (h : td σ H (DG2a ty tx σ Q)) : tDGet2 td ty tx σ H Q := h
theorem r_DG2a {ty tx : TE} {a : Addr} {kvs : List (Key × V)} (e : H a = some (.dK kvs)) (h : ty σ H fun y H2 => tx σ H2 fun z H3 => DG2 a Q y z H3) : DG2a ty tx σ Q (.ref a) H := ⟨a, rfl, .inl ⟨kvs, .inl e⟩, h⟩
theorem r_DG2 {a : Addr} {kvs : List (Key × V)} {z : V} {x : Str} (e : H a = some (.dK kvs)) (q : Q ((valV kvs (Sum.inr x)).getD z) H) : DG2 a Q (.str x) z H := ⟨_, DGet.k (k := Sum.inr x) e, q⟩
section
variable {K : PySem.W.Frag} {g : TG} {tt : TT} {te : TE} {ts : TA} {vs : List Nat} {tb : TS} {D : Ends}
def LcR2 (g : TG) (tt : TT) (te : TE) (vs : List Nat) (σ : L2.St) (Q : VK) : List V → Hp → Prop := fun us H1 => ∃ i j : Int, us = [.int i, .int j] ∧ (-(2 ^ 62) ≤ i ∧ i < 2 ^ 62 ∧ -(2 ^ 62) ≤ j ∧ j < 2 ^ 62) ∧ LcTurns (Itr i (j - i).toNat) g tt te vs σ Q H1
theorem r_lcR2 (h : ts σ H (LcR2 g tt te vs σ Q)) : tLc (iRng2 ts) g tt te vs σ H Q := h
def ForE (K : PySem.W.Frag) (g : TG) (tb : TS) (D : Ends) (σ : L2.St) : List V → Hp → Prop := fun us H1 => ∃ a xs, us = [.ref a] ∧ SqL K H1 a xs ∧ Turns (Ite K a) g tb D σ H1
theorem r_forE (h : ts σ H (ForE K g tb D σ)) : tFor (iEnum K ts) g tb D σ H := by
  refine cast ?_ h
  rfl
theorem r_ForE {a : Addr} {xs : List V} (s : SqL K H a xs) (R : Nat → L2.St → Hp → Prop) (h0 : R 0 σ H) (hl : ∀ i σ H, R i σ H → SqL K H a xs)
    (hs : ∀ (i : Nat) x σ H T, xs[i]? = some x → R i σ H → H T = none → g (.ref T) σ (upd H T (.tup [.int (i : Nat), x])) fun σ2 H2 => tb { D with nx := R (i + 1), ct := R (i + 1), bk := D.nx } σ2 H2)
    (hd : ∀ σ H, R xs.length σ H → D.nx σ H) : ForE K g tb D σ [.ref a] H := by
  refine ⟨a, xs, rfl, s, fun i m σ H => i + m = xs.length ∧ R i σ H, ⟨xs.length, by omega, h0⟩, fun i m σ H ⟨e, r⟩ => ?_⟩
  have sl := hl i σ H r
  by_cases hi : i < xs.length
  · refine .inr ⟨⟨xs, xs[i], sl, List.getElem?_eq_getElem hi⟩, R (i + 1), fun σ' H' r' => ⟨m - 1, by omega, by omega, r'⟩, fun v H' hy => ?_⟩
    obtain ⟨T, x, rfl, hT, rfl, hx⟩ := hy
    exact hs i x σ H T (hx xs sl) r hT
  · refine .inl ⟨⟨xs, sl, by omega⟩, hd σ H ?_⟩
    have e2 : i = xs.length := by omega
    rw [← e2]
    exact r
end
end
/-- an expression that makes data and keeps all that is there -/
def CD (K : PySem.W.Frag) (σ : L2.St) (H0 : Hp) (te : TE) (d : PyData) : Prop := ∀ (H : Hp) (Q : VK), Kp [] H0 H → (∀ H' v, Kp [] H H' → Dt K H' v d → Q v H') → te σ H Q
def CDs (K : PySem.W.Frag) (σ : L2.St) (H0 : Hp) (ts : TA) (ds : List PyData) : Prop := ∀ (H : Hp) (R : List V → Hp → Prop), Kp [] H0 H → (∀ H' vs, Kp [] H H' → DtL K H' vs ds → R vs H') → ts σ H R
section
variable {K : PySem.W.Frag} {σ : L2.St} {H0 : Hp} {te : TE} {ts : TA} {d : PyData} {ds : List PyData}
theorem cd_str {x : Str} : CD K σ H0 (tC (.str x)) (.str x) := fun H Q _ h => h H _ Kp.nil (.str x)
theorem cd_int {x : Int} : CD K σ H0 (tC (.int x)) (.int x) := fun H Q _ h => h H _ Kp.nil (.int x)
theorem cd_non : CD K σ H0 (tC .non) .none := fun H Q _ h => h H _ Kp.nil .non
theorem cd_var {i : Nat} {v : V} (e : σ[i]? = some (some v)) (hv : Dt K H0 v d) : CD K σ H0 (tVar i) d := fun H Q k h => ⟨v, e, h H _ Kp.nil (hv.kp k)⟩
theorem cds_nil : CDs K σ H0 tNil [] := fun H R _ h => h H _ Kp.nil DtL.nil
theorem cds_cons (a : CD K σ H0 te d) (b : CDs K σ H0 ts ds) : CDs K σ H0 (tCons te ts) (d :: ds) := fun H R k h =>
  a H _ k fun H1 v k1 hv => b H1 _ (k.trans k1) fun H2 vs k2 hs => h H2 (v :: vs) (k1.trans k2) (DtL.cons (hv.kp k2) hs)
theorem cd_tup (b : CDs K σ H0 ts ds) (hz : ds.length ≤ 16777216) : CD K σ H0 (tTup ts) (.tuple ds) := fun H Q k h =>
  b H _ k fun H1 vs k1 hs => ⟨by rw [hs.len, sizeLine_eq]; exact hz, fun p hp => h _ _ (k1.new hp) ((hs.kp (Kp.nil.new hp)).tup upd_same)⟩
theorem CD.use {H : Hp} {Q : VK} (a : CD K σ H te d) (h : ∀ H' v, Kp [] H H' → Dt K H' v d → Q v H') : te σ H Q := a H Q Kp.nil h
theorem CDs.use {H : Hp} {R : List V → Hp → Prop} (a : CDs K σ H ts ds) (h : ∀ H' vs, Kp [] H H' → DtL K H' vs ds → R vs H') : ts σ H R := a H R Kp.nil h
end
theorem DtL.app {K : PySem.W.Frag} {H : Hp} {vs us : List V} {ds es : List PyData} (h : DtL K H vs ds) (g : DtL K H us es) : DtL K H (vs ++ us) (ds ++ es) := by
  refine ⟨by rw [List.length_append, List.length_append, h.len, g.len], fun i u e q q' => ?_⟩
  by_cases hi : i < vs.length
  · rw [List.getElem?_append_left hi] at q
    rw [List.getElem?_append_left (by rw [← h.len]; exact hi)] at q'
    exact h.all i u e q q'
  · rw [List.getElem?_append_right (by omega)] at q
    rw [List.getElem?_append_right (by rw [← h.len]; omega), ← h.len] at q'
    exact g.all _ u e q q'
theorem DtL.rep {K : PySem.W.Frag} {H : Hp} {vs : List V} {ds : List PyData} (h : DtL K H vs ds) : ∀ n : Nat, DtL K H (List.replicate n vs).flatten (List.replicate n ds).flatten
  | 0 => DtL.nil
  | n + 1 => by
    rw [List.replicate_succ, List.replicate_succ, List.flatten_cons, List.flatten_cons]
    exact h.app (DtL.rep h n)
theorem Dt.items {K : PySem.W.Frag} {H : Hp} {v : V} {ds : List PyData} (h : Dt K H v (.tuple ds)) : ∃ (a : Addr) (xs : List V), v = .ref a ∧ SqT K H a xs ∧ DtL K H xs ds := by
  obtain ⟨a, xs, e, s, l, q⟩ := h.isTup
  exact ⟨a, xs, e, s, l, q⟩
theorem r_rep {H : Hp} {Q : VK} {l : Addr} {k : Int} {xs : List V} (h : H l = some (.lst xs)) (h1 : 0 ≤ k) (h2 : k ≤ 1000) (h3 : xs.length ≤ 1000) (q : ∀ p, H p = none → Q (.ref p) (upd H p (.lst (List.replicate k.toNat xs).flatten))) : rRep (.ref l) (.int k) H Q :=
  ⟨l, k, xs, rfl, rfl, h, by omega, by omega, by
    have := Nat.mul_le_mul h3 (show k.toNat ≤ 1000 by omega)
    rw [sizeLine_eq]
    omega, q⟩
end Aw
namespace Aw
open PySem PySem.Spec L2
section
variable {X : Cx} {pins : List (Addr × Obj)} {σ : L2.St} {H : Hp} {s : Shared}
theorem readsAll_of {h : Heap} : ∀ {xs : List V} {ds : List PyData} {its : List Value}, xs.length = ds.length → Vals xs its →
    (∀ (i : Nat) (v : V) (d : PyData), xs[i]? = some v → ds[i]? = some d → ∀ u, RelV v u → ∃ as, Reads h u d as ∧ sysModules ∉ as) → ∃ as, ReadsAll h its ds as ∧ sysModules ∉ as
  | [], [], _, _, r, _ => by
    cases r
    exact ⟨[], .nil, by simp⟩
  | x :: xs, d :: ds, _, l, r, f => by
    cases r with
    | cons r0 r1 =>
      obtain ⟨as, a1, a2⟩ := f 0 x d rfl rfl _ r0
      obtain ⟨bs, b1, b2⟩ := readsAll_of (by simpa using l) r1 fun i v d e e' => f (i + 1) v d (by simpa using e) (by simpa using e')
      exact ⟨as ++ bs, .cons a1 b1, fun m => (List.mem_append.mp m).elim a2 b2⟩
  | [], _ :: _, _, l, _, _ => by cases l
  | _ :: _, [], _, l, _, _ => by cases l
theorem Dw.reads {M : List Addr} {v : V} {d : PyData} (I : Inv X pins σ H s) (hM : H sysModules = none) (h : Dw M X.K H v d) : ∀ u, RelV v u → ∃ as, Reads s.heap u d as ∧ sysModules ∉ as := by
  induction h with
  | non => intro u r; cases r; exact ⟨_, Reads.none, by simp⟩
  | bl b => intro u r; cases r; exact ⟨_, Reads.bool b, by simp⟩
  | int i => intro u r; obtain ⟨t, rfl⟩ := r; exact ⟨_, Reads.int i t, by simp⟩
  | str x => intro u r; obtain ⟨t, rfl⟩ := r; exact ⟨_, Reads.str x t, by simp⟩
  | tup hs l _ ih =>
    intro u r
    cases r
    obtain ⟨its, rv, ⟨o, ho, hc, n, hd⟩, _⟩ := I.tuple hs
    obtain ⟨as, a1, a2⟩ := readsAll_of l rv ih
    exact ⟨_, Reads.tuple ho hc hd a1, a2⟩
  | @lst a xs ds he _ l _ ih =>
    intro u r
    cases r
    obtain ⟨its, rv, ⟨o, n, ho, hc, _, hd⟩, _⟩ := I.list (SqL.of he)
    obtain ⟨as, a1, a2⟩ := readsAll_of l rv ih
    refine ⟨_, Reads.list ho hc hd a1, fun m => ?_⟩
    rcases List.mem_cons.mp m with z | z
    · rw [z, he] at hM
      cases hM
    · exact a2 z
  | @dct a kvs ps he _ l hk _ ih =>
    intro u r
    cases r
    obtain ⟨_, hsm, vs, kv, o, es, ep, ho, hx, hd, _, pr, _⟩ := dk_of I.hok he
    have keys : ∀ {es : List DictEntry} {kvs : List (Key × V)} {vs : List (Key × Value)} {ps : List (PyData × PyData)}, PySem.Pairs (mixKind X.prog X.w) es vs → KV kvs vs → kvs.length = ps.length →
        (∀ (i : Nat) (kv : Key × V) (p : PyData × PyData), kvs[i]? = some kv → ps[i]? = some p → p.1 = keyD kv.1) →
        (∀ (i : Nat) (kv : Key × V) (p : PyData × PyData), kvs[i]? = some kv → ps[i]? = some p → ∀ u, RelV kv.2 u → ∃ as, Reads s.heap u p.2 as ∧ sysModules ∉ as) →
        (∃ as, ReadsAll s.heap (es.map (·.key)) (ps.map (·.1)) as ∧ sysModules ∉ as) ∧ (∃ as, ReadsAll s.heap (es.map (·.val)) (ps.map (·.2)) as ∧ sysModules ∉ as) := by
      intro es kvs vs ps pr
      induction pr generalizing kvs ps with
      | nil =>
        intro kv l hk ih
        cases kv
        have : ps = [] := List.length_eq_zero_iff.mp l.symm
        subst this
        exact ⟨⟨[], .nil, by simp⟩, ⟨[], .nil, by simp⟩⟩
      | @cons e q es qs h1 h2 h3 ihp =>
        intro kv l hk ih
        cases kv with
        | @cons p q' kvs' _ hpq hr =>
        cases ps with
        | nil => cases l
        | cons pp ps =>
          obtain ⟨⟨as, a1, a2⟩, ⟨bs, b1, b2⟩⟩ := ihp hr (by simpa using l) (fun i kv p e e' => hk (i + 1) kv p (by simpa using e) (by simpa using e')) (fun i kv p e e' => ih (i + 1) kv p (by simpa using e) (by simpa using e'))
          have hk0 := hk 0 _ _ rfl rfl
          obtain ⟨e1, e2⟩ := hpq
          obtain ⟨cs, c1, c2⟩ := ih 0 _ _ rfl rfl _ e2
          refine ⟨⟨[] ++ as, ?_, by simpa using a2⟩, ⟨cs ++ bs, ?_, fun m => (List.mem_append.mp m).elim c2 b2⟩⟩
          · refine ReadsAll.cons ?_ a1
            show Reads s.heap e.key pp.1 []
            rw [hk0, e1]
            rcases keyIs_shape h1 with ⟨i, t, z1, z2⟩ | ⟨x, t, z1, z2⟩
            · rw [z1, z2]
              exact Reads.int i t
            · rw [z1, z2]
              exact Reads.str x t
          · refine ReadsAll.cons ?_ b1
            show Reads s.heap e.val pp.2 cs
            rw [h2]
            exact c1
    obtain ⟨⟨as, a1, a2⟩, ⟨bs, b1, b2⟩⟩ := keys pr kv l hk ih
    refine ⟨_, Reads.dict ho hx.1 hd a1 b1, fun m => ?_⟩
    rcases List.mem_append.mp m with m | m
    · rcases List.mem_cons.mp m with z | z
      · rw [← z] at hsm
        exact absurd hsm (by decide)
      · exact a2 z
    · exact b2 m
end
/-- data that is shown, with dicts -/
structure ShwD (d : PyData) (k n : Nat) : Prop where
  sh : d.showable = true
  dep : d.depth ≤ k
  len : d.shown.length ≤ n
theorem Shw.toD {d : PyData} {k n : Nat} (h : Shw d k n) : ShwD d k n := ⟨h.sh, h.dep, h.len⟩
def qRepr3 (K : PySem.W.Frag) : List V → Hp → VK → Prop := fun xs H Q => ∃ x d, xs = [x] ∧
    Dw [] K H x d ∧ d.showable = true ∧ d.depth ≤ 100 ∧ d.shown.length ≤ sizeLine ∧ Q (.str d.shown) H
theorem c_repr3 {X : Cx} {k : Nat} (hr : RoomG k X.A) (hM : ∃ mm, X.base.Ns sysModules mm) : CallR X (.builtin "repr") (qRepr3 X.K) := by
  intro pins s σ H xs us Q I r h
  obtain ⟨x, d, rfl, hd, h1, h3, h4, q⟩ := h
  have hS : H sysModules = none := by
    obtain ⟨mm, o, es, ep, e, _⟩ := hM
    exact (I.bs _ _ e).2
  have go : ∀ a : Addr, x = .ref a → wpAny (model X.prog X.w) X.A (call (.builtin "repr") us) (EP X pins σ Q) X.xe s := by
    intro a e
    subst e
    obtain ⟨u, rfl, r1⟩ := vals1 r
    cases (show u = Value.ref a from r1)
    obtain ⟨as, rd, hn⟩ := hd.reads I hS _ r1
    have hu := hr.r.un
    refine repr_of_reads' rd h1 (fun _ => hn) hr.g (by omega) (fun _ _ e => e) (fun h' u tk hk => ?_) h4
    exact ⟨.str d.shown, H, I.kept hk, ⟨_, rfl⟩, q⟩
  cases hd with
  | non =>
    obtain ⟨u, rfl, r1⟩ := vals1 r
    cases (show u = Value.none from r1)
    refine PySem.P.repr_of_none ⟨.str _, H, I.tok _, ⟨_, rfl⟩, ?_⟩
    rw [PyData.shown] at q
    exact q
  | bl b =>
    obtain ⟨u, rfl, r1⟩ := vals1 r
    cases (show u = Value.bool b from r1)
    refine PySem.P.repr_of_bool ⟨.str _, H, I.tok _, ⟨_, rfl⟩, ?_⟩
    rw [PyData.shown] at q
    exact q
  | int i =>
    obtain ⟨u, rfl, r1⟩ := vals1 r
    obtain ⟨t, rfl⟩ := (show ∃ t, u = Value.int i t from r1)
    rw [PyData.showable] at h1
    refine PySem.P.repr_of_int (of_decide_eq_true h1) ⟨.str _, H, I.tok _, ⟨_, rfl⟩, ?_⟩
    rw [PyData.shown] at q
    exact q
  | str z =>
    obtain ⟨u, rfl, r1⟩ := vals1 r
    obtain ⟨t, rfl⟩ := (show ∃ t, u = Value.str z t from r1)
    rw [PyData.shown] at q h4
    exact PySem.P.repr_of_str ⟨.str _, H, I.tok _, ⟨_, rfl⟩, q⟩ h4
  | tup _ _ _ => exact go _ rfl
  | lst _ _ _ _ => exact go _ rfl
  | dct _ _ _ _ _ => exact go _ rfl
theorem r_repr3 {K : PySem.W.Frag} {H : Hp} {Q : VK} {x : V} {d : PyData} {k n : Nat} (h : Dw [] K H x d) (s : ShwD d k n) (hk : k ≤ 100) (hn : n ≤ 16777216) (q : Q (.str d.shown) H) : qRepr3 K [x] H Q :=
  ⟨x, d, rfl, h, s.sh, Nat.le_trans s.dep hk, by rw [sizeLine_eq]; exact Nat.le_trans s.len hn, q⟩
theorem RoomG.make {k : Nat} {A : Around} (h : RoomG (k + 1) A) (C : Addr) (us : List Value) (kw : List (Str × Value)) : RoomG k (A.under (.builtin "type.__call__" ⟨.ref C :: us, kw⟩)) := ⟨h.r.make C us kw, h.g⟩
/-- a method of the class at C keeps its promise -/
def HasM (P : Program) (w : World) (K : PySem.W.Frag) (mg : Str → Option Value) (base : Heap) (CX : CXT) (C : Addr) (m : Str) (ps : List Str) (k : Nat) (sp : Sp) : Prop :=
  ∃ (f : Addr) (fd : FuncData), (∃ oc od osl, K.lookup f = some ⟨oc, od, .func fd, osl⟩) ∧ Meth K C m f ∧ Binds K fd ps [] ∧ FnG P w K mg base CX k f fd ps sp
/-- a method of the class at C stands in the top -/
def DfM (K : PySem.W.Frag) (C : Addr) (m q : Str) (st : Stmt) (ps : List Str) : Prop :=
  ∃ (f : Addr) (fd : FuncData), Fun K m q st f fd ∧ Meth K C m f ∧ Binds K fd ps []
section
variable {P : Program} {w : World} {K : PySem.W.Frag} {mg : Str → Option Value} {base : Heap} {CX : CXT} {C : Addr} {m q : Str} {st : Stmt} {ps N : List Str} {j k : Nat} {sp sp' : Sp}
theorem HasM.mono (h : HasM P w K mg base CX C m ps j sp) (z : j ≤ k) : HasM P w K mg base CX C m ps k sp := by
  obtain ⟨f, fd, a, b, c, d⟩ := h
  exact ⟨f, fd, a, b, c, d.mono z⟩
theorem HasM.imp (h : HasM P w K mg base CX C m ps k sp) (z : ∀ vs H Q E, sp' vs H Q E → sp vs H Q E) : HasM P w K mg base CX C m ps k sp' := by
  obtain ⟨f, fd, a, b, c, d⟩ := h
  exact ⟨f, fd, a, b, c, fun vs H Q E y => d.len _ _ _ _ (z _ _ _ _ y), fun A o s H ar us vs Q E hr he hb hv hs => d.run A o s H ar us vs Q E hr he hb hv (z _ _ _ _ hs)⟩
theorem DfM.void (d : DfM K C m q st ps) (h : ∀ vs H Q E, ¬ sp vs H Q E) : HasM P w K mg base CX C m ps 0 sp := by
  obtain ⟨f, fd, F, mm, b⟩ := d
  have lk : ∃ oc od osl, K.lookup f = some ⟨oc, od, .func fd, osl⟩ := by
    obtain ⟨oc, od, kV, doc, pm, an, cdv, ct, osl, rfl, lk, hcd⟩ := F.ex
    exact ⟨oc, od, osl, lk⟩
  exact ⟨f, fd, lk, mm, b, fun vs H Q E z => absurd z (h _ _ _ _), fun A o s H ar us vs Q E hr he hb hv hs => absurd hs (h _ _ _ _)⟩
theorem DfM.has (d : DfM K C m q st ps) (S : FnScope N ps (defScope st)) (len : ∀ vs H Q E, sp vs H Q E → vs.length = ps.length)
    (hb : ∀ (f : Addr) (cdv : Value) (A : Around) (outer : List Env) (s : Shared) (H : Hp) (vs : List V) (Q : VK) (E : XK),
      RoomG k (A.deeper (PyProof.Rows.envOfC q (defScope st) s.heap.objs.size f cdv)) → sp vs H Q E →
      ∃ t, PSs (cxOf CX0 P w K mg base N q (defScope st) f cdv A outer s H E).nox (defBody st) t ∧
        t { nx := fun _ H' => Q .non H', rt := Q } (start N vs) H) : HasM P w K mg base CX0 C m ps (k + 1) sp := by
  obtain ⟨f, fd, F, mm, b⟩ := d
  obtain ⟨oc, od, kV, doc, pm, an, cdv, ct, osl, rfl, lk, hcd⟩ := F.ex
  refine ⟨f, _, ⟨oc, od, osl, lk⟩, mm, b, fnG_of lk hcd S len fun A outer s H vs Q E hr hsp => ?_⟩
  obtain ⟨t, h, q⟩ := hb f cdv A outer s H vs Q E hr hsp
  exact ⟨t, h.nox, q⟩
end
section
variable {X : Cx} {CX : CXT} {k : Nat} {C : Addr} {ps : List Str} {sp : Sp} {E : XK} {x m : Str} {p pos apos : Pos} {e o : Expr} {es : List Expr} {ta : TE} {t : TA}
/-- o.m(e, ..) -/
theorem pe_m {pl : Sem Bool} (F : HasM X.prog X.w X.K X.mg X.base CX C m ps k sp) (c : Cls X.K C) (hr : RoomG k X.A) (hx : Passes CX X E) (he : PE X o ta) (ha : PA X (e :: es) t)
    (hst : starEach (e :: es) X.env = (false, eval e X.env) :: starEach es X.env := by rfl) (hpl : (backTo pos (starEach es X.env)).any (·.1) = false := by rfl)
    (ht : eval (.Call (.Attribute o m apos) (e :: es) [] pos) X.env = (do
      let ov ← eval o X.env
      standAt apos.atName
      let (f, first) ← holding [ov] (getMethod ov m pl)
      callWith pos f first (backTo pos (starEach (e :: es) X.env)) (backToKw pos (keywordEach [] X.env))) := by rfl) :
    PE X (.Call (.Attribute o m apos) (e :: es) [] pos) (tMeth C m sp [] E ta t) := by
  obtain ⟨f, fd, _, hm, hb, F⟩ := F
  refine ⟨fun pins s σ H Q I h => ?_⟩
  refine PySem.W.methodCall_KW (pl := pl) (thn (he.run pins s σ H _ I h) fun u s1 ⟨x, H1, I1, rx, a, dx, fs, ex, ea, l, q⟩ => ?_) ht
  subst ex
  obtain rfl : u = Value.ref a := rx
  refine getmeth_ok I1 ea c hm l ?_
  refine PySem.W.callWith_K (first := [.ref a]) (h₀ := X.base) I.ok.mod.kin hm.kp (thn (ha.run pos pins s1 σ H1 _ I1 q) fun us s2 ⟨vs, H2, I2, r, q2⟩ => ⟨I2.kIn, ?_⟩) hst hpl
  have q2 : sp (.ref a :: (vs ++ [])) H2 Q E := q2
  rw [List.append_nil] at q2
  exact runG (us := .ref a :: us) (vs := .ref a :: vs) F hr hb hx I2 (.cons rfl r) q2
theorem pe_m0 {pl : Sem Bool} (F : HasM X.prog X.w X.K X.mg X.base CX C m ps k sp) (c : Cls X.K C) (hr : RoomG k X.A) (hx : Passes CX X E) (he : PE X o ta)
    (ht : eval (.Call (.Attribute o m apos) [] [] pos) X.env = (do
      let ov ← eval o X.env
      standAt apos.atName
      let (f, first) ← holding [ov] (getMethod ov m pl)
      callWith pos f first (backTo pos (starEach [] X.env)) (backToKw pos (keywordEach [] X.env))) := by rfl) :
    PE X (.Call (.Attribute o m apos) [] [] pos) (tMeth C m sp [] E ta tNil) := by
  obtain ⟨f, fd, _, hm, hb, F⟩ := F
  refine ⟨fun pins s σ H Q I h => ?_⟩
  refine PySem.W.methodCall_KW (pl := pl) (thn (he.run pins s σ H _ I h) fun u s1 ⟨x, H1, I1, rx, a, dx, fs, ex, ea, l, q⟩ => ?_) ht
  subst ex
  obtain rfl : u = Value.ref a := rx
  refine getmeth_ok I1 ea c hm l ?_
  exact PySem.W.callWith_K0 (first := [.ref a]) I1.kIn hm.kp (runG (us := [.ref a]) (vs := [.ref a]) F hr hb hx I1 (.cons rfl .nil) q)
theorem runMake {f : Addr} {fd : FuncData} {pins : List (Addr × Obj)} {σ : L2.St} {H : Hp} {s : Shared} {Q : VK} {us : List Value} {vs : List V} (M : Mk X.K C f) (F : FnG X.prog X.w X.K X.mg X.base CX k f fd ps sp) (hr : RoomG (k + 1) X.A) (hb : Binds X.K fd ps [])
    (hx : Passes CX X E) (I : Inv X pins σ H s) (r : Vals vs us)
    (h : ∀ x dx, H x = none → H dx = none → dx ≠ x → sp (.ref x :: vs) (upd (upd H dx (.own x)) x (.ins C dx [])) (fun v H2 => v = .non ∧ Q (.ref x) H2) E) :
    wpAny (model X.prog X.w) X.A (call (.ref C) us) (EP X pins σ Q) X.xe s := by
  have hq := h (s.heap.objs.size + 1) s.heap.objs.size (I.hok.fresh (Nat.le_succ _)) (I.hok.fresh (Nat.le_refl _)) (Nat.ne_of_lt (Nat.lt_succ_self _))
  have I2 := Inv.made (C := C) I
  have r2 : Vals (V.ref (s.heap.objs.size + 1) :: vs) (Value.ref (s.heap.objs.size + 1) :: us) := .cons rfl r
  have hl : (Value.ref (s.heap.objs.size + 1) :: us ++ []).length = ps.length := by
    have e := r2.length
    rw [F.len _ _ _ _ hq] at e
    rw [List.append_nil]
    exact e.symm
  have bb := hb _ (Value.ref (s.heap.objs.size + 1) :: us) I2.kIn hl
  rw [List.append_nil] at bb
  refine wpAny_call (make_map (f := f) I.kIn M.makes M.init (beq_iff_eq.mp M.fn) (codeAny_mono (F.run _ X.stack _ _ ⟨Value.ref (s.heap.objs.size + 1) :: us, []⟩ (Value.ref (s.heap.objs.size + 1) :: us) _ _ E (hr.make C us [])
    (I2.env0.make C us []) bb r2 hq) fun r s' hq' => ?_))
  cases r with
  | error e => exact hx pins σ _ _ e s' I2 hq'
  | ok fl =>
    cases fl with
    | ret u =>
      obtain ⟨v, H', I3, rv, ev, q3⟩ := I2.after hq'
      subst ev
      exact ⟨rv, ⟨V.ref (s.heap.objs.size + 1), H', I3, rfl, q3⟩⟩
    | next => exact False.elim hq'
    | brk => exact False.elim hq'
    | cont => exact False.elim hq'
/-- a class of the top and its __init__ -/
def HasC (P : Program) (w : World) (K : PySem.W.Frag) (mg : Str → Option Value) (base : Heap) (CX : CXT) (x : Str) (C : Addr) (ps : List Str) (k : Nat) (sp : Sp) : Prop :=
  ∃ (f : Addr) (fd : FuncData), Mk K C f ∧ mg x = some (.ref C) ∧ Binds K fd ps [] ∧ FnG P w K mg base CX k f fd ps sp
theorem pe_new (F : HasC X.prog X.w X.K X.mg X.base CX x C ps k sp) (hr : RoomG (k + 1) X.A) (hg : Gl X x) (hx : Passes CX X E)
    (ha : PA X (e :: es) t) (hdb : (x == ("__debug__" : Str)) = false := by decide) (he : starEach (e :: es) X.env = (false, eval e X.env) :: starEach es X.env := by rfl) (hpl : (backTo pos (starEach es X.env)).any (·.1) = false := by rfl) :
    PE X (.Call (.Name x p) (e :: es) [] pos) (tMake C sp [] E t) := by
  obtain ⟨f, fd, M, hm, hb, F⟩ := F
  refine ⟨fun pins s σ H Q I h => ?_⟩
  refine wpAny_Call_Name_kw (ld_glob I hg hm ?_ hdb)
  refine PySem.W.callWith_K (h₀ := X.base) I.ok.mod.kin M.kp (thn (ha.run pos pins s σ H _ I h) fun us s1 ⟨vs, H1, I1, r, q⟩ => ⟨I1.kIn, ?_⟩) he hpl
  refine runMake M F hr hb hx I1 r fun x dx a b c => ?_
  have z : sp (.ref x :: (vs ++ [])) _ _ _ := q x dx a b c
  rw [List.append_nil] at z
  exact z
end
end Aw
namespace Aw
open PySem PySem.Spec L2
section
variable {σ : L2.St} {H : Hp} {D : Ends} {Q : VK} {v x y : V} {te td ty tv ta : TE} {tt : TT} {ts : TA} {g : TG} {tb : TS} {vs : List Nat} {K : PySem.W.Frag}
def FldQ (K : PySem.W.Frag) (f : Str) (Q : VK) : V → Hp → Prop := fun x H1 => ∃ a C dx fs v, x = .ref a ∧ H1 a = some (.ins C dx fs) ∧ Cls K C ∧ NoAttr K C f ∧ fs.lookup f = some v ∧ Q v H1
theorem r_fld {f : Str} (h : ta σ H (FldQ K f Q)) : tFld K ta f σ H Q := h
theorem r_Fld {f : Str} {a C dx : Addr} {fs : List (Str × V)} (e : H a = some (.ins C dx fs)) (c : Cls K C) (n : NoAttr K C f) (l : fs.lookup f = some v) (q : Q v H) : FldQ K f Q (.ref a) H := ⟨a, C, dx, fs, v, rfl, e, c, n, l, q⟩
def SFldQ (K : PySem.W.Frag) (f : Str) (y : V) (D : Ends) (σ : L2.St) : V → Hp → Prop := fun x H2 => ∃ a C dx fs, x = .ref a ∧ H2 a = some (.ins C dx fs) ∧ Cls K C ∧ NoAttr K C f ∧ fs.length < 1000 ∧ D.nx σ (upd H2 a (.ins C dx (putF f y fs)))
theorem r_sfld {f : Str} (h : tv σ H fun y H1 => ta σ H1 (SFldQ K f y D σ)) : sFld K ta tv f D σ H := h
theorem r_SFld {f : Str} {a C dx : Addr} {fs : List (Str × V)} (e : H a = some (.ins C dx fs)) (c : Cls K C) (n : NoAttr K C f) (l : fs.length < 1000) (q : D.nx σ (upd H a (.ins C dx (putF f y fs)))) : SFldQ K f y D σ (.ref a) H := ⟨a, C, dx, fs, rfl, e, c, n, l, q⟩
def MethQ (C : Addr) (m : Str) (sp : Sp) (E : XK) (ts : TA) (σ : L2.St) (Q : VK) : V → Hp → Prop := fun x H1 => ∃ a dx fs, x = .ref a ∧ H1 a = some (.ins C dx fs) ∧ fs.lookup m = none ∧ ts σ H1 fun vs H2 => sp (x :: (vs ++ [])) H2 Q E
theorem r_meth {C : Addr} {m : Str} {sp : Sp} {E : XK} (h : ta σ H (MethQ C m sp E ts σ Q)) : tMeth C m sp [] E ta ts σ H Q := h
theorem r_Meth {C a dx : Addr} {m : Str} {sp : Sp} {E : XK} {fs : List (Str × V)} (e : H a = some (.ins C dx fs)) (l : fs.lookup m = none) (q : ts σ H fun vs H2 => sp (.ref a :: (vs ++ [])) H2 Q E) : MethQ C m sp E ts σ Q (.ref a) H := ⟨a, dx, fs, rfl, e, l, q⟩
theorem r_make {C : Addr} {sp : Sp} {E : XK} (h : ts σ H fun vs H1 => ∀ x dx, H1 x = none → H1 dx = none → dx ≠ x → sp (.ref x :: (vs ++ [])) (upd (upd H1 dx (.own x)) x (.ins C dx [])) (fun v H2 => v = .non ∧ Q (.ref x) H2) E) : tMake C sp [] E ts σ H Q := h
def DPutQ (D : Ends) (σ : L2.St) (v : V) : V → V → Hp → Prop := fun x y H3 => ∃ a H4, x = .ref a ∧ DPut H3 a y v H4 ∧ D.nx σ H4
theorem r_dput (h : tv σ H fun v H1 => td σ H1 fun x H2 => ty σ H2 fun y H3 => DPutQ D σ v x y H3) : sDPut td ty tv D σ H := h
def DInQ (Q : VK) : V → V → Hp → Prop := fun y x H2 => ∃ a o, x = .ref a ∧ DGet H2 a y o ∧ Q (.bl o.isSome) H2
theorem r_din (h : ty σ H fun y H1 => td σ H1 fun x H2 => DInQ Q y x H2) : tDIn ty td σ H Q := h
theorem r_DIn {a : Addr} {kvs : List (Key × V)} {z : Str} (e : H a = some (.dK kvs)) (q : Q (.bl (valV kvs (Sum.inr z)).isSome) H) : DInQ Q (.str z) (.ref a) H := ⟨a, _, rfl, DGet.k (k := Sum.inr z) e, q⟩
def DG1 (a : Addr) (Q : VK) : V → Hp → Prop := fun y H2 => ∃ o, DGet H2 a y o ∧ Q (o.getD .non) H2
def DG1a (ty : TE) (σ : L2.St) (Q : VK) : V → Hp → Prop := fun x H1 => ∃ a, x = .ref a ∧ IsD H1 a ∧ ty σ H1 (DG1 a Q)
theorem r_dget1 (h : td σ H (DG1a ty σ Q)) : tDGet1 td ty σ H Q := h
theorem r_DG1a {a : Addr} {kvs : List (Key × V)} (e : H a = some (.dK kvs)) (h : ty σ H (DG1 a Q)) : DG1a ty σ Q (.ref a) H := ⟨a, rfl, .inl ⟨kvs, .inl e⟩, h⟩
theorem r_DG1 {a : Addr} {kvs : List (Key × V)} {z : Str} (e : H a = some (.dK kvs)) (q : Q ((valV kvs (Sum.inr z)).getD .non) H) : DG1 a Q (.str z) H := ⟨_, DGet.k (k := Sum.inr z) e, q⟩
theorem r_DG2i {a : Addr} {kvs : List (Key × V)} {z : V} {i : Int} (e : H a = some (.dK kvs)) (q : Q ((valV kvs (Sum.inl i)).getD z) H) : DG2 a Q (.int i) z H := ⟨_, DGet.k (k := Sum.inl i) e, q⟩
def DPop1Q (a : Addr) (Q : VK) : V → Hp → Prop := fun y H2 => ∃ kvs k v, H2 a = some (.dK kvs) ∧ y = kV k ∧ valV kvs k = some v ∧ Q v (upd H2 a (.dK (dropK kvs k)))
def DPop1a (ty : TE) (σ : L2.St) (Q : VK) : V → Hp → Prop := fun x H1 => ∃ a, x = .ref a ∧ IsD H1 a ∧ ty σ H1 (DPop1Q a Q)
theorem r_dpop1 (h : td σ H (DPop1a ty σ Q)) : tDPop1 td ty σ H Q := h
def ForK (g : TG) (tb : TS) (D : Ends) (σ : L2.St) : V → Hp → Prop := fun x H1 => ∃ d o, x = .ref d ∧ ((∃ kvs, H1 d = some (.frz o (.dK kvs)) ∧ Turns (Itk d o kvs) g tb D σ H1) ∨ ∃ kvs, H1 d = some (.frz o (.dT kvs)) ∧ Turns (Itkt d o kvs) g tb D σ H1)
theorem r_forK (h : te σ H (ForK g tb D σ)) : tFor (iKeys te) g tb D σ H := h
def LcV (g : TG) (tt : TT) (te : TE) (vs : List Nat) (σ : L2.St) (Q : VK) : V → Hp → Prop := fun x H1 => ∃ d o kvs, x = .ref d ∧ H1 d = some (.frz o (.dK kvs)) ∧ LcTurns (Itd d o kvs) g tt te vs σ Q H1
theorem r_lcV {ti : TE} (h : ti σ H (LcV g tt te vs σ Q)) : tLc (iVals ti) g tt te vs σ H Q := h
end
def tListVals (te : TE) : TE := fun σ H Q => te σ H fun x H1 => ∃ (d : Addr) (kvs : List (Key × V)), x = .ref d ∧ H1 d = some (.dK kvs) ∧ ∀ p, H1 p = none → Q (.ref p) (upd H1 p (.lst (kvs.map (·.2))))
def ListValsQ (Q : VK) : V → Hp → Prop := fun x H1 => ∃ (d : Addr) (kvs : List (Key × V)), x = .ref d ∧ H1 d = some (.dK kvs) ∧ ∀ p, H1 p = none → Q (.ref p) (upd H1 p (.lst (kvs.map (·.2))))
theorem r_listVals {te : TE} {σ : L2.St} {H : Hp} {Q : VK} (h : te σ H (ListValsQ Q)) : tListVals te σ H Q := h
def ListItemsQ (Q : VK) : V → Hp → Prop := fun x H1 => LiI.rItemsL x H1 Q
theorem r_listItems {te : TE} {σ : L2.St} {H : Hp} {Q : VK} (h : te σ H (ListItemsQ Q)) : LiI.tListItems te σ H Q := h
/-- what was made behind the beginning may have been written -/
theorem Kp.outs {N M : List Addr} {H H1 H2 : Hp} (k1 : Kp N H H1) (hM : ∀ b ∈ M, H b = none ∨ b ∈ N) (k2 : Kp M H1 H2) : Kp N H H2 := by
  intro c o ec
  refine ⟨(k1 c o ec).1, fun n => (k2 c o ((k1 c o ec).2 n)).2 fun m => ?_⟩
  rcases hM c m with z | z
  · rw [z] at ec
    cases ec
  · exact n z
theorem Kp.own1 {H H1 H2 : Hp} {p : Addr} (k1 : Kp [] H H1) (hp : H p = none) (k2 : Kp [p] H1 H2) : Kp [] H H2 := k1.outs (fun b m => .inl (by rw [List.mem_singleton.mp m]; exact hp)) k2
theorem kpW2 {H : Hp} {a : Addr} {u o : HO} (h : H a = some u) (m : Mut u) : Kp [a] H (upd H a o) := (Kp.reflM (Ms.cons h m Ms.nil)).write (by simp)
theorem g_TE {t : TE} {σ : L2.St} {H : Hp} {Q : VK} (h : t σ H Q) : t σ H Q := h
theorem g_TA {t : TA} {σ : L2.St} {H : Hp} {Q : List V → Hp → Prop} (h : t σ H Q) : t σ H Q := h
theorem g_TS {t : TS} {D : Ends} {σ : L2.St} {H : Hp} (h : t D σ H) : t D σ H := h
theorem g_TT {t : TT} {σ : L2.St} {H : Hp} {Q : Bool → Hp → Prop} (h : t σ H Q) : t σ H Q := h
theorem g_TO {t : TO} {σ : L2.St} {H : Hp} {Q : Option Int → Hp → Prop} (h : t σ H Q) : t σ H Q := h
theorem g_TG {t : TG} {v : V} {σ : L2.St} {H : Hp} {Q : L2.St → Hp → Prop} (h : t v σ H Q) : t v σ H Q := h
theorem g_TGs {t : TGs} {v : List V} {σ : L2.St} {H : Hp} {Q : L2.St → Hp → Prop} (h : t v σ H Q) : t v σ H Q := h
theorem g_R2 {t : R2} {x y : V} {H : Hp} {Q : VK} (h : t x y H Q) : t x y H Q := h
theorem g_CB {t : List V → Hp → VK → Prop} {x : List V} {H : Hp} {Q : VK} (h : t x H Q) : t x H Q := h
theorem g_VH {t : V → Hp → Prop} {x : V} {H : Hp} (h : t x H) : t x H := h
theorem g_And {p q : Prop} (h : p ∧ q) : p ∧ q := h
theorem g_Ex {α : Type} {q : α → Prop} (h : ∃ x, q x) : ∃ x, q x := h
theorem g_Ite {c p q : Prop} [Decidable c] (h : if c then p else q) : if c then p else q := h
end Aw
namespace Aw
open PySem PySem.Spec L2
inductive Ex where
  | int (i : Int)
  | name (x : Str)
  | bin (o : Str) (a b : Ex)
def opSign (o : Str) : Str := if o = "plus" then " + " else if o = "minus" then " - " else " * "
def Ex.d : Ex → PyData
  | .int i => .int i
  | .name x => .str x
  | .bin o a b => .tuple [.str o, a.d, b.d]
def Ex.text : Ex → Str
  | .int i => Str.ofString (toString i)
  | .name x => x
  | .bin o a b => "(" ++ a.text ++ opSign o ++ b.text ++ ")"
def IsOp (o : Str) : Prop := o = "plus" ∨ o = "minus" ∨ o = "times"
def Ex.ok : Nat → Ex → Prop
  | 0, _ => False
  | _ + 1, .int i => -99 ≤ i ∧ i ≤ 99
  | _ + 1, .name x => Sok x 8
  | n + 1, .bin o a b => IsOp o ∧ a.ok n ∧ b.ok n
theorem Ex.ok.succ : ∀ {n : Nat} {e : Ex}, e.ok n → e.ok (n + 1)
  | 0, _, h => h.elim
  | _ + 1, .int _, h => h
  | _ + 1, .name _, h => h
  | _ + 1, .bin _ _ _, h => ⟨h.1, h.2.1.succ, h.2.2.succ⟩
theorem Ex.ok.mono {m n : Nat} {e : Ex} (h : e.ok m) (q : m ≤ n) : e.ok n := by
  induction q with
  | refl => exact h
  | step _ ih => exact ih.succ
theorem opSign_ok {o : Str} (h : IsOp o) : Sok (opSign o) 3 := by
  rcases h with rfl | rfl | rfl <;> exact Sok.lit (by decide +kernel)
theorem IsOp.sok {o : Str} (h : IsOp o) : Sok o 5 := by
  rcases h with rfl | rfl | rfl <;> exact Sok.lit (by decide +kernel)
def eLen : Nat → Nat
  | 0 => 0
  | n + 1 => 2 * eLen n + 8
theorem Ex.ok.sok : ∀ {n : Nat} {e : Ex}, e.ok n → Sok e.text (eLen n)
  | 0, _, h => h.elim
  | n + 1, .int i, h => (Sok.num i h.1 h.2).mono (by unfold eLen; omega)
  | n + 1, .name x, h => Sok.mono h (by unfold eLen; omega)
  | n + 1, .bin o a b, h => by
    have h1 := h.2.1.sok
    have h2 := h.2.2.sok
    have l : Sok ("(" : Str) 1 := Sok.lit (by decide +kernel)
    have r : Sok (")" : Str) 1 := Sok.lit (by decide +kernel)
    exact ((((l.app h1).app (opSign_ok h.1)).app h2).app r).mono (by show 1 + eLen n + 3 + eLen n + 1 ≤ 2 * eLen n + 8; omega)
inductive Ts where
  | not (t : Ts)
  | given (x : Str)
  | rest (e : Ex) (b r : Int)
  | less (a b : Ex)
def Ts.d : Ts → PyData
  | .not t => .tuple [.str "not", t.d]
  | .given x => .tuple [.str "given", .str x]
  | .rest e b r => .tuple [.str "rest", e.d, .int b, .int r]
  | .less a b => .tuple [.str "less", a.d, b.d]
def numT (i : Int) : Str := Str.ofString (toString i)
def Ts.text : Ts → Str
  | .not t => "not " ++ t.text
  | .given x => "set " ++ x
  | .rest e b r => "rest " ++ numT r ++ " of " ++ numT b ++ " " ++ e.text
  | .less a b => a.text ++ " < " ++ b.text
def Ts.ok : Nat → Ts → Prop
  | 0, .not _ => False
  | n + 1, .not t => t.ok n
  | _, .given x => Sok x 8
  | _, .rest e b r => e.ok 3 ∧ 0 ≤ b ∧ b ≤ 99 ∧ 0 ≤ r ∧ r ≤ 99
  | _, .less a b => a.ok 3 ∧ b.ok 3
theorem Ts.ok.sok : ∀ {n : Nat} {t : Ts}, t.ok n → Sok t.text (4 * n + 200)
  | n + 1, .not t, h => by
    have q := Ts.ok.sok (n := n) (t := t) h
    have l : Sok ("not " : Str) 4 := Sok.lit (by decide +kernel)
    exact (l.app q).mono (by omega)
  | n, .given x, h => by
    have q : Sok x 8 := by cases n <;> exact h
    have l : Sok ("set " : Str) 4 := Sok.lit (by decide +kernel)
    exact (l.app q).mono (by omega)
  | n, .rest e b r, h => by
    have q : e.ok 3 ∧ 0 ≤ b ∧ b ≤ 99 ∧ 0 ≤ r ∧ r ≤ 99 := by cases n <;> exact h
    obtain ⟨q, b0, b1, r0, r1⟩ := q
    have l : Sok ("rest " : Str) 5 := Sok.lit (by decide +kernel)
    have m : Sok (" of " : Str) 4 := Sok.lit (by decide +kernel)
    have s : Sok (" " : Str) 1 := Sok.lit (by decide +kernel)
    exact (((((l.app (Sok.num r (by omega) r1)).app m).app (Sok.num b (by omega) b1)).app s).app q.sok).mono (by show 5 + 3 + 4 + 3 + 1 + 56 ≤ _; omega)
  | n, .less a b, h => by
    have q : a.ok 3 ∧ b.ok 3 := by cases n <;> exact h
    have m : Sok (" < " : Str) 3 := Sok.lit (by decide +kernel)
    exact ((q.1.sok.app m).app q.2.sok).mono (by show 56 + 3 + 56 ≤ _; omega)
inductive Pl where
  | set (x : Str) (e : Ex)
  | unset (x : Str)
  | tell (e : Ex)
  | say (w : Str)
  | stop (w : Str)
def Pl.d : Pl → PyData
  | .set x e => .tuple [.str "set", .str x, e.d]
  | .unset x => .tuple [.str "unset", .str x]
  | .tell e => .tuple [.str "tell", e.d]
  | .say w => .tuple [.str "say", .str w]
  | .stop w => .tuple [.str "stop", .str w]
def Pl.text : Pl → Str
  | .set x e => "set " ++ x ++ " " ++ e.text
  | .unset x => "unset" ++ " " ++ x
  | .tell e => "tell " ++ e.text
  | .say w => "say" ++ " " ++ w
  | .stop w => "stop" ++ " " ++ w
def Pl.ok : Pl → Prop
  | .set x e => Sok x 8 ∧ e.ok 3
  | .unset x => Sok x 8
  | .tell e => e.ok 3
  | .say w => Sok w 8
  | .stop w => Sok w 8
theorem Pl.ok.sok {s : Pl} (h : s.ok) : Sok s.text 100 := by
  have sp : Sok (" " : Str) 1 := Sok.lit (by decide +kernel)
  cases s with
  | set x e =>
    have l : Sok ("set " : Str) 4 := Sok.lit (by decide +kernel)
    exact (((l.app h.1).app sp).app h.2.sok).mono (by show 4 + 8 + 1 + 56 ≤ _; omega)
  | unset x =>
    have l : Sok ("unset" : Str) 5 := Sok.lit (by decide +kernel)
    exact ((l.app sp).app h).mono (by omega)
  | tell e =>
    have l : Sok ("tell " : Str) 5 := Sok.lit (by decide +kernel)
    exact (l.app (Ex.ok.sok h)).mono (by show 5 + 56 ≤ _; omega)
  | say w =>
    have l : Sok ("say" : Str) 3 := Sok.lit (by decide +kernel)
    exact ((l.app sp).app h).mono (by omega)
  | stop w =>
    have l : Sok ("stop" : Str) 4 := Sok.lit (by decide +kernel)
    exact ((l.app sp).app h).mono (by omega)
inductive Sm where
  | pl (s : Pl)
  | ifs (t : Ts) (y n : List Sm)
  | rep (k : Int) (b : List Sm)
mutual
def Sm.d : Sm → PyData
  | .pl s => s.d
  | .ifs t y n => .tuple [.str "if", t.d, .tuple (Sm.ds y), .tuple (Sm.ds n)]
  | .rep k b => .tuple [.str "repeat", .int k, .tuple (Sm.ds b)]
def Sm.ds : List Sm → List PyData
  | [] => []
  | s :: r => s.d :: Sm.ds r
end
theorem Sm.ds_map : ∀ b : List Sm, Sm.ds b = b.map Sm.d
  | [] => rfl
  | s :: r => by rw [Sm.ds, Sm.ds_map r, List.map_cons]
def Sm.line : Sm → Str
  | .pl s => s.text
  | .ifs t _ _ => "if " ++ t.text
  | .rep k _ => "repeat" ++ " " ++ numT k
mutual
def Sm.lines (ah : Str) : Sm → List Str
  | .pl s => [ah ++ s.text]
  | .ifs t y n => (ah ++ ("if " ++ t.text)) :: ((if y.isEmpty then [ah ++ "  " ++ "pass"] else Sm.all (ah ++ "  ") y) ++
      (if n.isEmpty then [] else (ah ++ "else") :: Sm.all (ah ++ "  ") n))
  | .rep k b => (ah ++ ("repeat" ++ " " ++ numT k)) :: (if b.isEmpty then [ah ++ "  " ++ "pass"] else Sm.all (ah ++ "  ") b)
def Sm.all (ah : Str) : List Sm → List Str
  | [] => []
  | s :: r => Sm.lines ah s ++ Sm.all ah r
end
theorem Sm.all_flat (ah : Str) : ∀ b : List Sm, Sm.all ah b = b.flatMap (Sm.lines ah)
  | [] => by rw [Sm.all, List.flatMap_nil]
  | s :: r => by rw [Sm.all, Sm.all_flat ah r, List.flatMap_cons]
def Sm.part (ah : Str) (b : List Sm) : List Str := if b.isEmpty then [ah ++ "pass"] else Sm.all ah b
mutual
def Sm.size : Sm → Nat
  | .pl _ => 1
  | .ifs _ y n => 1 + Sm.sizes y + Sm.sizes n
  | .rep _ b => 1 + Sm.sizes b
def Sm.sizes : List Sm → Nat
  | [] => 0
  | s :: r => Sm.size s + Sm.sizes r
end
theorem Sm.sizes_app : ∀ a b : List Sm, Sm.sizes (a ++ b) = Sm.sizes a + Sm.sizes b
  | [], b => by rw [List.nil_append, Sm.sizes, Nat.zero_add]
  | s :: r, b => by rw [List.cons_append, Sm.sizes, Sm.sizes, Sm.sizes_app r b, Nat.add_assoc]
theorem Sm.sizes_mem {s : Sm} : ∀ {b : List Sm}, s ∈ b → s.size ≤ Sm.sizes b
  | _ :: r, .head _ => by rw [Sm.sizes]; omega
  | _ :: r, .tail _ h => by have := Sm.sizes_mem h; rw [Sm.sizes]; omega
def Sm.ok : Nat → Sm → Prop
  | _, .pl s => s.ok
  | 0, .ifs _ _ _ => False
  | 0, .rep _ _ => False
  | n + 1, .ifs t y z => t.ok 2 ∧ (∀ s ∈ y, Sm.ok n s) ∧ (∀ s ∈ z, Sm.ok n s)
  | n + 1, .rep k b => 0 ≤ k ∧ k ≤ 8 ∧ ∀ s ∈ b, Sm.ok n s
theorem Sm.ok.line {n : Nat} {s : Sm} (h : s.ok n) : Sok s.line 300 := by
  have sp : Sok (" " : Str) 1 := Sok.lit (by decide +kernel)
  cases s with
  | pl s =>
    have q : s.ok := by cases n <;> exact h
    exact q.sok.mono (by omega)
  | ifs t y z =>
    cases n with
    | zero => exact h.elim
    | succ n =>
      have l : Sok ("if " : Str) 3 := Sok.lit (by decide +kernel)
      exact (l.app h.1.sok).mono (by omega)
  | rep k b =>
    cases n with
    | zero => exact h.elim
    | succ n =>
      have l : Sok ("repeat" : Str) 6 := Sok.lit (by decide +kernel)
      exact ((l.app sp).app (Sok.num k (by have := h.1; omega) (by have := h.2.1; omega))).mono (by omega)
/-- the lines of a block: how many, how long -/
theorem Sm.lines_ok : ∀ (n : Nat) (s : Sm) (ah : Str) (m : Nat), s.ok n → Sok ah m →
    (Sm.lines ah s).length ≤ 3 * s.size ∧ ∀ z ∈ Sm.lines ah s, Sok z (m + 2 * n + 310) := by
  intro n
  induction n with
  | zero =>
    intro s ah m h ha
    cases s with
    | pl s =>
      rw [Sm.lines]
      refine ⟨by simp [Sm.size], fun z hz => ?_⟩
      rw [List.mem_singleton.mp hz]
      exact (ha.app (Sm.ok.line (n := 0) (s := .pl s) h)).mono (by omega)
    | ifs t y z => exact h.elim
    | rep k b => exact h.elim
  | succ n ih =>
    intro s ah m h ha
    have two : Sok ("  " : Str) 2 := Sok.lit (by decide +kernel)
    have ps : Sok ("pass" : Str) 4 := Sok.lit (by decide +kernel)
    have el : Sok ("else" : Str) 4 := Sok.lit (by decide +kernel)
    have hl := Sm.ok.line h
    have alls : ∀ b : List Sm, (∀ s ∈ b, Sm.ok n s) → (Sm.all (ah ++ "  ") b).length ≤ 3 * Sm.sizes b ∧
        ∀ z ∈ Sm.all (ah ++ "  ") b, Sok z (m + 2 * (n + 1) + 310) := by
      intro b
      induction b with
      | nil =>
        intro _
        rw [Sm.all]
        exact ⟨Nat.zero_le _, fun z hz => nomatch hz⟩
      | cons s r ihr =>
        intro hb
        obtain ⟨h1, h2⟩ := ih s (ah ++ "  ") (m + 2) (hb s (List.mem_cons_self ..)) (ha.app two)
        obtain ⟨h3, h4⟩ := ihr fun s hs => hb s (List.mem_cons_of_mem _ hs)
        rw [Sm.all, Sm.sizes, List.length_append]
        refine ⟨by omega, fun z hz => ?_⟩
        rcases List.mem_append.mp hz with hz | hz
        · exact (h2 z hz).mono (by omega)
        · exact h4 z hz
    have part : ∀ b : List Sm, (∀ s ∈ b, Sm.ok n s) → (if b.isEmpty then [ah ++ "  " ++ "pass"] else Sm.all (ah ++ "  ") b).length ≤ 3 * Sm.sizes b + 1 ∧
        ∀ z ∈ (if b.isEmpty then [ah ++ "  " ++ "pass"] else Sm.all (ah ++ "  ") b), Sok z (m + 2 * (n + 1) + 310) := by
      intro b hb
      cases b with
      | nil =>
        refine ⟨by simp, fun z hz => ?_⟩
        rw [List.mem_singleton.mp hz]
        exact ((ha.app two).app ps).mono (by omega)
      | cons s r =>
        obtain ⟨h1, h2⟩ := alls _ hb
        exact ⟨Nat.le_succ_of_le h1, h2⟩
    cases s with
    | pl s =>
      rw [Sm.lines]
      refine ⟨by simp [Sm.size], fun z hz => ?_⟩
      rw [List.mem_singleton.mp hz]
      exact (ha.app hl).mono (by omega)
    | ifs t y z =>
      obtain ⟨p1, p2⟩ := part y h.2.1
      obtain ⟨q1, q2⟩ := alls z h.2.2
      have e2 : (if z.isEmpty then [] else (ah ++ "else") :: Sm.all (ah ++ "  ") z).length ≤ 3 * Sm.sizes z + 1 := by
        split
        · exact Nat.zero_le _
        · rw [List.length_cons]
          omega
      rw [Sm.lines, Sm.size, List.length_cons, List.length_append]
      refine ⟨by omega, fun u hu => ?_⟩
      rcases List.mem_cons.mp hu with rfl | hu
      · exact (ha.app hl).mono (by omega)
      rcases List.mem_append.mp hu with hu | hu
      · exact p2 u hu
      · split at hu
        · cases hu
        · rcases List.mem_cons.mp hu with rfl | hu
          · exact (ha.app el).mono (by omega)
          · exact q2 u hu
    | rep k b =>
      obtain ⟨p1, p2⟩ := part b h.2.2
      rw [Sm.lines, Sm.size, List.length_cons]
      refine ⟨by omega, fun u hu => ?_⟩
      rcases List.mem_cons.mp hu with rfl | hu
      · exact (ha.app hl).mono (by omega)
      · exact p2 u hu
theorem Sm.all_ok (n : Nat) (ah : Str) (m : Nat) (ha : Sok ah m) : ∀ b : List Sm, (∀ s ∈ b, Sm.ok n s) →
    (Sm.all ah b).length ≤ 3 * Sm.sizes b ∧ ∀ z ∈ Sm.all ah b, Sok z (m + 2 * n + 310)
  | [], _ => by
    rw [Sm.all]
    exact ⟨Nat.zero_le _, fun z hz => nomatch hz⟩
  | s :: r, hb => by
    obtain ⟨h1, h2⟩ := Sm.lines_ok n s ah m (hb s (List.mem_cons_self ..)) ha
    obtain ⟨h3, h4⟩ := Sm.all_ok n ah m ha r fun s hs => hb s (List.mem_cons_of_mem _ hs)
    rw [Sm.all, Sm.sizes, List.length_append]
    refine ⟨by omega, fun z hz => ?_⟩
    rcases List.mem_append.mp hz with hz | hz
    · exact h2 z hz
    · exact h4 z hz
theorem depth_tup {ds : List PyData} {n : Nat} (h : ∀ d ∈ ds, d.depth ≤ n) : (PyData.tuple ds).depth ≤ n + 1 := by
  have q : PyData.depthAll ds ≤ n := by
    induction ds with
    | nil => exact Nat.zero_le _
    | cons d r ih =>
      rw [PyData.depthAll]
      exact Nat.max_le.mpr ⟨h d (List.mem_cons_self ..), ih fun d hd => h d (List.mem_cons_of_mem _ hd)⟩
  rw [PyData.depth]
  omega
theorem lay_tup {ds : List PyData} (h : ∀ d ∈ ds, d.canLay0 = true) : (PyData.tuple ds).canLay0 = true := by
  rw [PyData.canLay0]
  induction ds with
  | nil => rfl
  | cons d r ih =>
    rw [PyData.canLayAll0, h d (List.mem_cons_self ..), ih fun d hd => h d (List.mem_cons_of_mem _ hd)]
    rfl
/-- data that may be compared -/
structure Cmp (d : PyData) (n : Nat) : Prop where
  lay : d.canLay0 = true
  dep : d.depth ≤ n
theorem Cmp.tup {ds : List PyData} {n : Nat} (h : ∀ d ∈ ds, Cmp d n) : Cmp (.tuple ds) (n + 1) :=
  ⟨lay_tup fun d hd => (h d hd).lay, depth_tup fun d hd => (h d hd).dep⟩
theorem Cmp.mono {d : PyData} {m n : Nat} (h : Cmp d m) (q : m ≤ n) : Cmp d n := ⟨h.lay, Nat.le_trans h.dep q⟩
theorem Cmp.str {x : Str} {k n : Nat} (h : Sok x k) : Cmp (.str x) n := ⟨by rw [PyData.canLay0]; exact h.ok, by rw [PyData.depth]; exact Nat.zero_le _⟩
theorem Cmp.int {i : Int} {n : Nat} : Cmp (.int i) n := ⟨by rw [PyData.canLay0], by rw [PyData.depth]; exact Nat.zero_le _⟩
theorem Cmp.shaped {d : PyData} {n : Nat} (h : Cmp d n) (q : n ≤ 64) : SeqAt.shaped d = true := by
  unfold SeqAt.shaped
  rw [h.lay, decide_eq_true (Nat.le_trans h.dep q)]
  rfl
theorem Cmp.nil {n : Nat} : Cmp (.tuple []) (n + 1) := Cmp.tup fun _ h => nomatch h
theorem Ex.ok.cmp : ∀ {n : Nat} {e : Ex}, e.ok n → Cmp e.d n
  | 0, _, h => h.elim
  | _ + 1, .int i, h => Cmp.int
  | _ + 1, .name x, h => Cmp.str h
  | n + 1, .bin o a b, h => by
    rw [Ex.d]
    refine Cmp.tup fun d hd => ?_
    simp only [List.mem_cons, List.not_mem_nil, or_false] at hd
    rcases hd with rfl | rfl | rfl
    · exact Cmp.str h.1.sok
    · exact h.2.1.cmp
    · exact h.2.2.cmp
theorem Ts.ok.cmp : ∀ {n : Nat} {t : Ts}, t.ok n → Cmp t.d (n + 4)
  | n + 1, .not t, h => by
    have q := Ts.ok.cmp (n := n) (t := t) h
    rw [Ts.d]
    refine Cmp.mono (m := n + 4 + 1) (Cmp.tup fun d hd => ?_) (by omega)
    simp only [List.mem_cons, List.not_mem_nil, or_false] at hd
    rcases hd with rfl | rfl
    · exact Cmp.str (k := 3) (Sok.lit (by decide +kernel))
    · exact q
  | n, .given x, h => by
    have q : Sok x 8 := by cases n <;> exact h
    rw [Ts.d]
    refine Cmp.mono (m := 0 + 1) (Cmp.tup fun d hd => ?_) (by omega)
    simp only [List.mem_cons, List.not_mem_nil, or_false] at hd
    rcases hd with rfl | rfl
    · exact Cmp.str (k := 5) (Sok.lit (by decide +kernel))
    · exact Cmp.str q
  | n, .rest e b r, h => by
    have q : e.ok 3 ∧ 0 ≤ b ∧ b ≤ 99 ∧ 0 ≤ r ∧ r ≤ 99 := by cases n <;> exact h
    rw [Ts.d]
    refine Cmp.mono (m := 3 + 1) (Cmp.tup fun d hd => ?_) (by omega)
    simp only [List.mem_cons, List.not_mem_nil, or_false] at hd
    rcases hd with rfl | rfl | rfl | rfl
    · exact Cmp.str (k := 4) (Sok.lit (by decide +kernel))
    · exact q.1.cmp
    · exact Cmp.int
    · exact Cmp.int
  | n, .less a b, h => by
    have q : a.ok 3 ∧ b.ok 3 := by cases n <;> exact h
    rw [Ts.d]
    refine Cmp.mono (m := 3 + 1) (Cmp.tup fun d hd => ?_) (by omega)
    simp only [List.mem_cons, List.not_mem_nil, or_false] at hd
    rcases hd with rfl | rfl | rfl
    · exact Cmp.str (k := 4) (Sok.lit (by decide +kernel))
    · exact q.1.cmp
    · exact q.2.cmp
theorem Pl.ok.cmp {s : Pl} (h : s.ok) : Cmp s.d 4 := by
  cases s <;> rw [Pl.d] <;> refine Cmp.tup fun d hd => ?_ <;> simp only [List.mem_cons, List.not_mem_nil, or_false] at hd
  · rcases hd with rfl | rfl | rfl
    · exact Cmp.str (k := 3) (Sok.lit (by decide +kernel))
    · exact Cmp.str h.1
    · exact h.2.cmp
  · rcases hd with rfl | rfl
    · exact Cmp.str (k := 5) (Sok.lit (by decide +kernel))
    · exact Cmp.str h
  · rcases hd with rfl | rfl
    · exact Cmp.str (k := 4) (Sok.lit (by decide +kernel))
    · exact Ex.ok.cmp h
  · rcases hd with rfl | rfl
    · exact Cmp.str (k := 3) (Sok.lit (by decide +kernel))
    · exact Cmp.str h
  · rcases hd with rfl | rfl
    · exact Cmp.str (k := 4) (Sok.lit (by decide +kernel))
    · exact Cmp.str h
theorem Sm.ok.cmp : ∀ (n : Nat) (s : Sm), s.ok n → Cmp s.d (2 * n + 8) := by
  intro n
  induction n with
  | zero =>
    intro s h
    cases s with
    | pl s =>
      rw [Sm.d]
      exact (Pl.ok.cmp h).mono (by omega)
    | ifs t y z => exact h.elim
    | rep k b => exact h.elim
  | succ n ih =>
    intro s h
    have all : ∀ b : List Sm, (∀ s ∈ b, Sm.ok n s) → Cmp (.tuple (Sm.ds b)) (2 * n + 9) := by
      intro b hb
      refine Cmp.tup fun d hd => ?_
      rw [Sm.ds_map] at hd
      obtain ⟨s, hs, rfl⟩ := List.mem_map.mp hd
      exact ih s (hb s hs)
    cases s with
    | pl s =>
      rw [Sm.d]
      exact (Pl.ok.cmp h).mono (by omega)
    | ifs t y z =>
      rw [Sm.d]
      refine Cmp.mono (m := 2 * n + 9 + 1) (Cmp.tup fun d hd => ?_) (by omega)
      simp only [List.mem_cons, List.not_mem_nil, or_false] at hd
      rcases hd with rfl | rfl | rfl | rfl
      · exact Cmp.str (k := 2) (Sok.lit (by decide +kernel))
      · exact h.1.cmp.mono (by omega)
      · exact all y h.2.1
      · exact all z h.2.2
    | rep k b =>
      rw [Sm.d]
      refine Cmp.mono (m := 2 * n + 9 + 1) (Cmp.tup fun d hd => ?_) (by omega)
      simp only [List.mem_cons, List.not_mem_nil, or_false] at hd
      rcases hd with rfl | rfl | rfl
      · exact Cmp.str (k := 6) (Sok.lit (by decide +kernel))
      · exact Cmp.int
      · exact all b h.2.2
theorem Sm.block_cmp {n : Nat} {b : List Sm} (h : ∀ s ∈ b, Sm.ok n s) : Cmp (.tuple (Sm.ds b)) (2 * n + 9) := by
  refine Cmp.tup fun d hd => ?_
  rw [Sm.ds_map] at hd
  obtain ⟨s, hs, rfl⟩ := List.mem_map.mp hd
  exact Sm.ok.cmp n s (h s hs)
theorem eqv_nil (ds : List PyData) : PyData.eqv (.tuple ds) (.tuple []) = ds.isEmpty := by
  cases ds with
  | nil => rfl
  | cons d r => rfl
def signK : List (Key × V) := [(.inr "plus", .str " + "), (.inr "minus", .str " - "), (.inr "times", .str " * ")]
theorem signK_get {o : Str} (h : IsOp o) : valV (mergeK [] signK) (Sum.inr o) = some (.str (opSign o)) := by
  rcases h with rfl | rfl | rfl <;> decide +kernel
def Pl.word : Pl → Str
  | .set _ _ => "set"
  | .unset _ => "unset"
  | .tell _ => "tell"
  | .say _ => "say"
  | .stop _ => "stop"
theorem Pl.head {K : PySem.W.Frag} {H : Hp} {v : V} {s : Pl} (h : Dt K H v s.d) : ∃ (p : Addr) (ys : List V), v = .ref p ∧ SqT K H p ys ∧ atI ys 0 = some (.str s.word) := by
  cases s with
  | set x e =>
    obtain ⟨p, a, b, c, rfl, hT, h1, _, _⟩ := Dt.is3 h
    obtain rfl := Dt.isStr h1
    exact ⟨p, _, rfl, hT, rfl⟩
  | unset x =>
    obtain ⟨p, a, b, rfl, hT, h1, _⟩ := Dt.is2 h
    obtain rfl := Dt.isStr h1
    exact ⟨p, _, rfl, hT, rfl⟩
  | tell e =>
    obtain ⟨p, a, b, rfl, hT, h1, _⟩ := Dt.is2 h
    obtain rfl := Dt.isStr h1
    exact ⟨p, _, rfl, hT, rfl⟩
  | say x =>
    obtain ⟨p, a, b, rfl, hT, h1, _⟩ := Dt.is2 h
    obtain rfl := Dt.isStr h1
    exact ⟨p, _, rfl, hT, rfl⟩
  | stop x =>
    obtain ⟨p, a, b, rfl, hT, h1, _⟩ := Dt.is2 h
    obtain rfl := Dt.isStr h1
    exact ⟨p, _, rfl, hT, rfl⟩
theorem Pl.word_in (s : Pl) : inV (.str s.word) [.str "if", .str "repeat"] = false := by
  cases s <;> simp only [Pl.word] <;> decide +kernel
theorem Pl.word_ne (s : Pl) : V.str s.word ≠ V.str "if" := by
  cases s <;> simp only [Pl.word] <;> decide +kernel
/-- the text of an expression -/
def spExT (K : PySem.W.Frag) (n : Nat) : Sp := fun vs H Q _ => ∃ (v : V) (e : Ex), vs = [v] ∧ Dt K H v e.d ∧ e.ok n ∧
  ∀ H', Kp [] H H' → Q (.str e.text) H'
/-- the text of a test -/
def spTsT (K : PySem.W.Frag) (n : Nat) : Sp := fun vs H Q _ => ∃ (v : V) (t : Ts), vs = [v] ∧ Dt K H v t.d ∧ t.ok n ∧
  ∀ H', Kp [] H H' → Q (.str t.text) H'
/-- the line of a statement -/
def spLine (K : PySem.W.Frag) : Sp := fun vs H Q _ => ∃ (v : V) (s : Sm) (n : Nat), vs = [v] ∧ Dt K H v s.d ∧ s.ok n ∧
  ∀ H', Kp [] H H' → Q (.str s.line) H'
/-- the lines of a block -/
def spLines (K : PySem.W.Frag) (n : Nat) : Sp := fun vs H Q _ => ∃ (v : V) (b : List Sm) (ah : Str), vs = [v, .str ah] ∧ Dt K H v (.tuple (Sm.ds b)) ∧
  (∀ s ∈ b, Sm.ok n s) ∧ Sm.sizes b ≤ 100 ∧ Sok ah (20 - 2 * n) ∧ n ≤ 4 ∧
  ∀ H' p, Kp [] H H' → H p = none → H' p = some (.lst ((Sm.all ah b).map V.str)) → Q (.ref p) H'
/-- the text of a program -/
def progT (b : List Sm) : Str := Txt.join "\n" ("program" :: Sm.all "" b)
end Aw
namespace Aw
open PySem PySem.Spec L2
structure Nms (H : Hp) (a : Addr) (xs : List Str) : Prop where
  h : H a = some (.lst (xs.map V.str))
  ne : 1 ≤ xs.length
  ok : ∀ x ∈ xs, Sok x 8
  len : xs.length ≤ 100
theorem Nms.kp {M : List Addr} {H H1 : Hp} {a : Addr} {xs : List Str} (h : Nms H a xs) (k : Kp M H H1) (n : a ∉ M) : Nms H1 a xs := ⟨k.get h.h n, h.ne, h.ok, h.len⟩
theorem Nms.item {H : Hp} {a : Addr} {xs : List Str} (h : Nms H a xs) {i : Nat} {x : V} (e : (xs.map V.str)[i]? = some x) : ∃ z : Str, x = .str z ∧ Sok z 8 := by
  rw [List.getElem?_map] at e
  obtain ⟨z, hz, rfl⟩ := Option.map_eq_some_iff.mp e
  exact ⟨z, rfl, h.ok z (List.mem_of_getElem? hz)⟩
def eDraws : Nat → Nat
  | 0 => 0
  | n + 1 => 3 + 2 * eDraws n
theorem eDraws_le : ∀ {m : Nat}, m ≤ 3 → eDraws m ≤ 21
  | 0, _ => by decide
  | 1, _ => by decide
  | 2, _ => by decide
  | 3, _ => by decide
theorem Ex.ok_int {m : Nat} {i : Int} (h : 1 ≤ m) (h1 : -99 ≤ i) (h2 : i ≤ 99) : (Ex.int i).ok m := by
  cases m with
  | zero => omega
  | succ m => exact ⟨h1, h2⟩
/-- an expression is made -/
def spExpr (K : PySem.W.Frag) (m : Nat) : Sp := fun vs H Q _ => ∃ (d c nm : Addr) (n : Int) (xs : List Str), vs = [.ref d, .ref nm, .int m] ∧ Deck H d c n ∧ n + eDraws m < 10 ^ 12 ∧ Nms H nm xs ∧ nm ≠ d ∧ nm ≠ c ∧
  ∀ (H' : Hp) (v : V) (e : Ex) (n' : Int), Deck H' d c n' → n ≤ n' → n' ≤ n + eDraws m → Kp [d, c] H H' → Dt K H' v e.d → e.ok m → Q v H'
def spExprA (K : PySem.W.Frag) : Sp := fun vs H Q E => ∃ i : { m : Nat // 1 ≤ m ∧ m ≤ 3 }, spExpr K i.1 vs H Q E
theorem spExprA.use {K : PySem.W.Frag} {H : Hp} {Q : VK} {E : XK} {d c nm : Addr} {n m : Int} {xs : List Str} (D : Deck H d c n) (hn : n + 21 < 10 ^ 12) (N : Nms H nm xs) (n1 : nm ≠ d) (n2 : nm ≠ c) (m1 : 1 ≤ m) (m2 : m ≤ 3)
    (k : ∀ (H' : Hp) (v : V) (e : Ex) (n' : Int), Deck H' d c n' → n ≤ n' → n' ≤ n + 21 → Kp [d, c] H H' → Dt K H' v e.d → e.ok 3 → Q v H') : spExprA K [.ref d, .ref nm, .int m] H Q E := by
  have e : ((m.toNat : Nat) : Int) = m := Int.toNat_of_nonneg (by omega)
  have hE : eDraws m.toNat ≤ 21 := eDraws_le (by omega)
  refine ⟨⟨m.toNat, by omega⟩, d, c, nm, n, xs, by rw [e], D, by show n + ((eDraws m.toNat : Nat) : Int) < _; omega, N, n1, n2, fun H' v e n' D' q1 q2 k' hv he => ?_⟩
  have q2 : n' ≤ n + ((eDraws m.toNat : Nat) : Int) := q2
  exact k H' v e n' D' q1 (by omega) k' hv (Ex.ok.mono (m := m.toNat) he (by omega))
theorem Ts.ok.succ : ∀ {n : Nat} {t : Ts}, t.ok n → t.ok (n + 1)
  | n + 1, .not t, h => Ts.ok.succ (n := n) (t := t) h
  | n, .given x, h => by cases n <;> exact h
  | n, .rest e b r, h => by cases n <;> exact h
  | n, .less a b, h => by cases n <;> exact h
theorem Ts.ok.mono {m n : Nat} {t : Ts} (h : t.ok m) (q : m ≤ n) : t.ok n := by
  induction q with
  | refl => exact h
  | step _ ih => exact ih.succ
/-- a test is made -/
def spTest (K : PySem.W.Frag) : Sp := fun vs H Q _ => ∃ (d c nm : Addr) (n so : Int) (xs : List Str), vs = [.ref d, .ref nm, .int so] ∧ Deck H d c n ∧ n + 80 < 10 ^ 12 ∧ Nms H nm xs ∧ nm ≠ d ∧ nm ≠ c ∧
  ∀ (H' : Hp) (v : V) (t : Ts) (n' : Int), Deck H' d c n' → n ≤ n' → n' ≤ n + 80 → Kp [d, c] H H' → Dt K H' v t.d → t.ok 2 → Q v H'
/-- what is left: places, weight, rests, comparings -/
def Lft (H : Hp) (l : Addr) (a b r s : Int) : Prop := H l = some (.lst [.int a, .int b, .int r, .int s])
/-- a block is made, at e more blocks in one another -/
def spBlock (K : PySem.W.Frag) (e : Nat) : Sp := fun vs H Q _ => ∃ (d c nm l : Addr) (n dep ti a b r s : Int) (xs : List Str), vs = [.ref d, .ref nm, .int dep, .int ti, .ref l] ∧
  Deck H d c n ∧ n + 1 + 150 * a < 10 ^ 12 ∧ Nms H nm xs ∧ nm ≠ d ∧ nm ≠ c ∧ nm ≠ l ∧ l ≠ d ∧ l ≠ c ∧ Lft H l a b r s ∧ 0 ≤ a ∧ a ≤ 1000 ∧ dep + e = 3 ∧
  ∀ (H' : Hp) (v : V) (x : List Sm) (n' a' b' r' s' : Int), Deck H' d c n' → n ≤ n' → n' ≤ n + 1 + 150 * (a - a') → Lft H' l a' b' r' s' → 0 ≤ a' → (Sm.sizes x : Int) ≤ a - a' → Kp [d, c, l] H H' →
    Dt K H' v (.tuple (Sm.ds x)) → (∀ s ∈ x, Sm.ok e s) → Q v H'
def spIf (K : PySem.W.Frag) (e : Nat) : Sp := fun vs H Q _ => ∃ (d c nm l : Addr) (n dep ti a b r s at_ : Int) (xs : List Str), vs = [.ref d, .ref nm, .int dep, .int ti, .ref l, .int at_] ∧
  Deck H d c n ∧ n + 90 + 150 * a < 10 ^ 12 ∧ Nms H nm xs ∧ nm ≠ d ∧ nm ≠ c ∧ nm ≠ l ∧ l ≠ d ∧ l ≠ c ∧ Lft H l a b r s ∧ 0 ≤ a ∧ a ≤ 1000 ∧ dep + 1 + e = 3 ∧ 2 ≤ at_ ∧ at_ ≤ 4 ∧
  ∀ (H' : Hp) (v : V) (x : Sm) (n' a' b' r' s' : Int), Deck H' d c n' → n ≤ n' → n' ≤ n + 90 + 150 * (a - a') → Lft H' l a' b' r' s' → 0 ≤ a' → (x.size : Int) ≤ a - a' + 1 → Kp [d, c, l] H H' →
    Dt K H' v x.d → x.ok (e + 1) → Q v H'
def spStmt (K : PySem.W.Frag) (e : Nat) : Sp := fun vs H Q _ => ∃ (d c nm l : Addr) (n dep ti a b r s : Int) (xs : List Str), vs = [.ref d, .ref nm, .int dep, .int ti, .ref l] ∧
  Deck H d c n ∧ n + 150 * a < 10 ^ 12 ∧ Nms H nm xs ∧ nm ≠ d ∧ nm ≠ c ∧ nm ≠ l ∧ l ≠ d ∧ l ≠ c ∧ Lft H l a b r s ∧ 1 ≤ a ∧ a ≤ 1000 ∧ dep + e = 3 ∧
  ∀ (H' : Hp) (v : V) (x : Sm) (n' a' b' r' s' : Int), Deck H' d c n' → n ≤ n' → n' ≤ n + 150 * (a - a') → Lft H' l a' b' r' s' → 0 ≤ a' → (x.size : Int) ≤ a - a' → Kp [d, c, l] H H' →
    Dt K H' v x.d → x.ok e → Q v H'
def spProg (K : PySem.W.Frag) : Sp := fun vs H Q _ => ∃ (d c nm : Addr) (n mo : Int) (xs : List Str), vs = [.ref d, .ref nm, .int mo] ∧ Deck H d c n ∧ n + 4000 < 10 ^ 12 ∧ Nms H nm xs ∧ nm ≠ d ∧ nm ≠ c ∧
  0 ≤ mo ∧ mo ≤ 24 ∧ ∀ (H' : Hp) (v : V) (x : List Sm) (n' : Int), Deck H' d c n' → n ≤ n' → n' ≤ n + 4000 → (Sm.sizes x : Int) ≤ mo → Kp [d, c] H H' →
    Dt K H' v (.tuple (Sm.ds x)) → (∀ s ∈ x, Sm.ok 3 s) → Q v H'
def spNames : Sp := fun vs H Q _ => ∃ (d c : Addr) (n m : Int), vs = [.ref d, .int m] ∧ Deck H d c n ∧ n + 30 < 10 ^ 12 ∧ 1 ≤ m ∧ m ≤ 5 ∧
  ∀ (H' : Hp) (p : Addr) (xs : List Str) (n' : Int), H p = none → Deck H' d c n' → n ≤ n' → n' ≤ n + 30 → Kp [d, c] H H' → Nms H' p xs → Q (.ref p) H'
theorem Sm.ok.succ : ∀ (n : Nat) (s : Sm), s.ok n → s.ok (n + 1) := by
  intro n
  induction n with
  | zero =>
    intro s h
    cases s with
    | pl s => exact h
    | ifs t y z => exact h.elim
    | rep k b => exact h.elim
  | succ n ih =>
    intro s h
    cases s with
    | pl s => exact h
    | ifs t y z => exact ⟨h.1, fun s hs => ih s (h.2.1 s hs), fun s hs => ih s (h.2.2 s hs)⟩
    | rep k b => exact ⟨h.1, h.2.1, fun s hs => ih s (h.2.2 s hs)⟩
theorem Sm.ok.mono {m n : Nat} {s : Sm} (h : s.ok m) (q : m ≤ n) : s.ok n := by
  induction q with
  | refl => exact h
  | step _ ih => exact Sm.ok.succ _ _ ih
theorem Sm.ds_snoc (b : List Sm) (s : Sm) : Sm.ds (b ++ [s]) = Sm.ds b ++ [s.d] := by rw [Sm.ds_map, Sm.ds_map, List.map_append]; rfl
theorem Sm.sizes_snoc (b : List Sm) (s : Sm) : Sm.sizes (b ++ [s]) = Sm.sizes b + s.size := by rw [Sm.sizes_app, Sm.sizes, Sm.sizes, Nat.add_zero]
theorem replL_ok {y z : List Nat} (hy : y ≠ []) (hz : z.length ≤ y.length) (h1 : ∀ c ∈ z, c < 1114112) : ∀ (n : Nat) (l : List Nat), l.length ≤ n → (∀ c ∈ l, c < 1114112) →
    (StrLaws.replL y z l).length ≤ l.length ∧ ∀ c ∈ StrLaws.replL y z l, c < 1114112 := by
  intro n
  induction n with
  | zero =>
    intro l hl hc
    obtain rfl : l = [] := List.length_eq_zero_iff.mp (by omega)
    rw [StrLaws.replL_nil]
    exact ⟨Nat.le_refl _, hc⟩
  | succ n ih =>
    intro l hl hc
    cases l with
    | nil =>
      rw [StrLaws.replL_nil]
      exact ⟨Nat.le_refl _, hc⟩
    | cons c r =>
      have y1 : 1 ≤ y.length := by
        cases y with
        | nil => exact absurd rfl hy
        | cons _ _ => simp
      by_cases h : (c :: r).take y.length = y
      · rw [StrLaws.replL_hit hy h]
        have ylen : y.length ≤ (c :: r).length := by
          have q := congrArg List.length h
          rw [List.length_take] at q
          omega
        have hlt : ((c :: r).drop y.length).length ≤ n := by
          rw [List.length_drop]
          rw [List.length_cons] at hl ylen ⊢
          omega
        obtain ⟨q1, q2⟩ := ih _ hlt fun c' hc' => hc c' (List.mem_of_mem_drop hc')
        refine ⟨?_, fun c' hc' => ?_⟩
        · rw [List.length_append]
          rw [List.length_drop] at q1
          omega
        · rcases List.mem_append.mp hc' with m | m
          · exact h1 c' m
          · exact q2 c' m
      · rw [StrLaws.replL_miss h]
        obtain ⟨q1, q2⟩ := ih r (by rw [List.length_cons] at hl; omega) fun c' hc' => hc c' (List.mem_cons_of_mem _ hc')
        refine ⟨by rw [List.length_cons, List.length_cons]; omega, fun c' hc' => ?_⟩
        rcases List.mem_cons.mp hc' with rfl | m
        · exact hc _ (List.mem_cons_self ..)
        · exact q2 c' m
theorem Sok.iff {x : Str} {n : Nat} : Sok x n ↔ (∀ c ∈ x.cps.toList, c < 1114112) ∧ x.cps.toList.length ≤ n := by
  constructor
  · intro h
    have q := h.ok
    unfold PyData.strOk at q
    rw [Array.all_eq_true_iff_forall_mem] at q
    exact ⟨fun c hc => of_decide_eq_true (q c (Array.mem_def.mpr hc)), by rw [Array.length_toList]; exact h.len⟩
  · intro h
    refine ⟨?_, ?_⟩
    · unfold PyData.strOk
      rw [Array.all_eq_true_iff_forall_mem]
      exact fun c hc => decide_eq_true (h.1 c (Array.mem_def.mp hc))
    · have q := h.2
      rw [Array.length_toList] at q
      exact q
theorem joinL_ok {S : List Nat} {m s : Nat} (hS : S.length ≤ s) (h1 : ∀ c ∈ S, c < 1114112) : ∀ ps : List (List Nat), (∀ p ∈ ps, p.length ≤ m ∧ ∀ c ∈ p, c < 1114112) →
    (TL.joinL S ps).length ≤ ps.length * (m + s) ∧ ∀ c ∈ TL.joinL S ps, c < 1114112
  | [], _ => ⟨Nat.zero_le _, fun c h => (nomatch h)⟩
  | [p], h => by
    obtain ⟨a, b⟩ := h p (List.mem_cons_self ..)
    rw [TL.joinL]
    exact ⟨by rw [List.length_singleton, Nat.one_mul]; omega, b⟩
  | p :: q :: r, h => by
    obtain ⟨a, b⟩ := h p (List.mem_cons_self ..)
    obtain ⟨a2, b2⟩ := joinL_ok hS h1 (q :: r) fun p' hp' => h p' (List.mem_cons_of_mem _ hp')
    rw [TL.joinL]
    refine ⟨?_, fun c hc => ?_⟩
    · rw [List.length_append, List.length_append, List.length_cons, Nat.add_mul, Nat.one_mul]
      omega
    · rcases List.mem_append.mp hc with hc | hc
      · exact b c hc
      · rcases List.mem_append.mp hc with hc | hc
        · exact h1 c hc
        · exact b2 c hc
theorem Sok.join {sep : Str} {ys : List Str} {m s : Nat} (hs : Sok sep s) (h : ∀ y ∈ ys, Sok y m) : Sok (Txt.join sep ys) (ys.length * (m + s)) := by
  rw [Sok.iff] at *
  rw [TL.join_eq]
  have e : (Str.join sep ys).cps.toList = TL.joinL sep.cps.toList (ys.map fun y => y.cps.toList) := TL.tl_join sep ys
  rw [e]
  obtain ⟨a, b⟩ := joinL_ok (m := m) hs.2 hs.1 (ys.map fun y => y.cps.toList) fun p hp => by
    obtain ⟨y, hy, rfl⟩ := List.mem_map.mp hp
    have q := Sok.iff.mp (h y hy)
    exact ⟨q.2, q.1⟩
  rw [List.length_map] at a
  exact ⟨b, a⟩
theorem Sok.sign {z : Str} {n k : Nat} (h : Sok z n) (hk : k ∈ z.cps.toList) : Sok ⟨#[k]⟩ 1 := by
  rw [Sok.iff] at *
  refine ⟨fun c hc => ?_, by simp⟩
  simp at hc
  rw [hc]
  exact h.1 k hk
theorem sum_len {ys : List Str} {m : Nat} (h : ∀ y ∈ ys, Sok y m) : (ys.map (·.length)).sum ≤ ys.length * m := by
  induction ys with
  | nil => exact Nat.zero_le _
  | cons y r ih =>
    have a := (h y (List.mem_cons_self ..)).len
    have b := ih fun z hz => h z (List.mem_cons_of_mem _ hz)
    rw [List.map_cons, List.sum_cons, List.length_cons, Nat.add_mul, Nat.one_mul]
    omega
theorem Sok.repl {x y z : Str} {n : Nat} (h : Sok x n) (hy : 1 ≤ y.length) (hz : z.length ≤ y.length) (h1 : Sok z z.length) : Sok (Txt.replace x y z) n := by
  rw [Sok.iff] at *
  rw [StrLaws.replace_list hy]
  have yl : y.cps.toList.length = y.length := by rw [Array.length_toList]; rfl
  have zl : z.cps.toList.length = z.length := by rw [Array.length_toList]; rfl
  obtain ⟨q1, q2⟩ := replL_ok (y := y.cps.toList) (z := z.cps.toList) (fun e => by rw [e] at yl; simp at yl; omega) (by omega) h1.1 _ _ (Nat.le_refl _) h.1
  exact ⟨q2, Nat.le_trans q1 h.2⟩
/-- the first of the written items makes a token -/
theorem pa_strT {X : Cx} {es : List Expr} {t : TA} {x : Str} {j : Nat} {pos : Pos} (h : PAT X es t)
    (hs : starEach (.Constant (.str x) j pos :: es) X.env = (false, eval (.Constant (.str x) j pos) X.env) :: starEach es X.env := by rfl) :
    PA X (.Constant (.str x) j pos :: es) (tCons (tC (.str x)) t) := by
  refine ⟨fun p pins s σ H Q I q => ?_⟩
  rw [hs]
  show wpAny _ _ (spliced ((false, eval (.Constant (.str x) j pos) X.env) :: backTo p (starEach es X.env))) _ _ s
  refine Calls.spliced_cons (Calls.Constant_str ?_)
  refine thn (h p pins _ σ H _ (Nat.le_add_left 1 _) (I.tok _) q) fun us s2 q2 => ?_
  obtain ⟨xs, H2, I2, r2, q2⟩ := q2
  exact ⟨.str x :: xs, H2, I2, .cons ⟨_, rfl⟩ r2, q2⟩
theorem r_repl {to : TE} {σ : L2.St} {H : Hp} {Q : VK} {y z : Str} (h : to σ H fun v H1 => ∃ x, v = .str x ∧ x.length + (x.length + 1) * z.length ≤ 16777216 ∧ Q (.str (Txt.replace x y z)) H1) : CwR.tReplC to y z σ H Q := h
end Aw
namespace Aw
open PySem PySem.Spec L2
def LETT : Str := "abcdefghijklmnopqrstuvwxyz"
def SGN : Str := "abcdefghijklmnopqrstuvwxyz0123456789"
def KEPTS : List Str := ["unset", "tell", "say", "stop", "if", "else", "repeat", "pass", "rest", "of", "set", "not", "program"]
def isSgn (c : Nat) : Bool := decide (c ∈ SGN.cps.toList)
def isLet (c : Nat) : Bool := decide (c ∈ LETT.cps.toList)
def isWordS (x : Str) : Bool := decide (1 ≤ x.length) && decide (x.length ≤ 8) && !decide (x = "unsure") && x.cps.toList.all isSgn
def isNameS (x : Str) : Bool := decide (1 ≤ x.length) && decide (x.length ≤ 8) && isLet (x.cps.toList.headD 0) && x.cps.toList.all isSgn && !KEPTS.contains x
theorem inV_strs (x : Str) : ∀ ys : List Str, inV (.str x) (ys.map V.str) = ys.contains x
  | [] => rfl
  | y :: r => by
    have q := inV_strs x r
    unfold inV at q ⊢
    rw [List.map_cons, List.any_cons, q, List.contains_cons]
    congr 1
    show decide (y = x) = decide (x = y)
    exact decide_eq_decide.mpr ⟨Eq.symm, Eq.symm⟩
theorem filter_all {α : Type} (f : α → Bool) : ∀ l : List α, (l.filter fun c => !f c).isEmpty = l.all f
  | [] => rfl
  | c :: r => by
    cases h : f c with
    | true => rw [List.filter_cons_of_neg (by rw [h]; decide), List.all_cons, h, Bool.true_and]; exact filter_all f r
    | false => rw [List.filter_cons_of_pos (by rw [h]; decide), List.all_cons, h, Bool.false_and]; rfl
def isWord : PyData → Bool
  | .str x => isWordS x
  | _ => false
def isName : PyData → Bool
  | .str x => isNameS x
  | _ => false
def isWhole (lo hi : Int) : PyData → Bool
  | .int i => decide (lo ≤ i) && decide (i ≤ hi)
  | _ => false
def isExprL (f : PyData → Bool) : List PyData → Bool
  | [.str w, a, b] => f b && (if w = "times" then isWhole (-9) 9 a else (decide (w = "plus") || decide (w = "minus")) && f a)
  | _ => false
def isExprW (f : PyData → Bool) : PyData → Bool
  | .tuple ds => isExprL f ds
  | d => isName d || isWhole (-99) 99 d
def isExpr : Nat → PyData → Bool
  | 0 => fun _ => false
  | n + 1 => isExprW (isExpr n)
theorem isStr_of {a : PyData} (h : isaD a "str" = true) : ∃ x, a = .str x := by
  cases a <;> first | exact ⟨_, rfl⟩ | (exfalso; revert h; simp [isaD, tyD]; done)
theorem inV_two (x a b : Str) : inV (.str x) [.str a, .str b] = (decide (x = a) || decide (x = b)) := by
  have q := inV_strs x [a, b]
  rw [show [a, b].map V.str = [.str a, .str b] from rfl] at q
  rw [q]
  by_cases h1 : x = a <;> by_cases h2 : x = b <;> simp [h1, h2]
theorem isExprL_len {f : PyData → Bool} {ds : List PyData} (h : ds.length ≠ 3) : isExprL f ds = false := by
  unfold isExprL
  split
  · exact absurd rfl h
  · rfl
theorem isExprL_str {f : PyData → Bool} {a b c : PyData} (h : isaD a "str" = false) : isExprL f [a, b, c] = false := by
  cases a <;> first | rfl | (exfalso; revert h; simp [isaD, tyD]; done)
def isRestL : List PyData → Bool
  | [_, a, .int b, c] => isExpr 3 a && isWhole 2 6 (.int b) && isWhole 0 (b - 1) c
  | _ => false
theorem isRestL_len {ds : List PyData} (h : ds.length ≠ 4) : isRestL ds = false := by
  unfold isRestL
  split
  · exact absurd rfl h
  · rfl
theorem isRestL4 (x a b c : PyData) : isRestL [x, a, b, c] = (isExpr 3 a && (isWhole 2 6 b && (match b with | .int i => isWhole 0 (i - 1) c | _ => false))) := by
  cases b with
  | int i => rw [isRestL, Bool.and_assoc]
  | _ => simp [isRestL, isWhole]
def two (f : PyData → PyData → Bool) : List PyData → Bool
  | [a, b] => f a b
  | _ => false
def one (f : PyData → Bool) : List PyData → Bool
  | [a] => f a
  | _ => false
theorem two_len {f : PyData → PyData → Bool} {r : List PyData} (h : r.length ≠ 2) : two f r = false := by
  unfold two
  split
  · exact absurd rfl h
  · rfl
theorem one_len {f : PyData → Bool} {r : List PyData} (h : r.length ≠ 1) : one f r = false := by
  unfold one
  split
  · exact absurd rfl h
  · rfl
def isTestL (f : PyData → Bool) (w : Str) (r : List PyData) : Bool :=
  if w = "less" then two (fun a b => isExpr 3 a && isExpr 3 b) r
  else if w = "rest" then isRestL (.str w :: r)
  else if w = "given" then one isName r
  else if w = "not" then one f r
  else false
def isTestW (f : PyData → Bool) : PyData → Bool
  | .tuple (.str w :: r) => isTestL f w r
  | _ => false
def isTest : Nat → PyData → Bool
  | 0 => isTestW fun _ => false
  | n + 1 => isTestW (isTest n)
theorem isTest_F (n : Nat) (d : PyData) : ∃ F : PyData → Bool, isTest n d = isTestW F d ∧ ((n = 0 ∧ F = fun _ => false) ∨ ∃ m, n = m + 1 ∧ F = isTest m) := by
  cases n with
  | zero => exact ⟨_, rfl, .inl ⟨rfl, rfl⟩⟩
  | succ m => exact ⟨_, rfl, .inr ⟨m, rfl, rfl⟩⟩
theorem isTestW_str {f : PyData → Bool} {a : PyData} {r : List PyData} (h : isaD a "str" = false) : isTestW f (.tuple (a :: r)) = false := by
  cases a <;> first | rfl | (exfalso; revert h; simp [isaD, tyD]; done)
def isPlainL (w : Str) (r : List PyData) : Bool :=
  if w = "set" then two (fun a b => isName a && isExpr 3 b) r
  else if w = "unset" then one isName r
  else if w = "tell" then one (isExpr 3) r
  else if w = "say" ∨ w = "stop" then one isWord r
  else false
def isTupD : PyData → Bool
  | .tuple _ => true
  | _ => false
theorem isa_tup (d : PyData) : isaD d "tuple" = isTupD d := by
  cases d <;> simp [isaD, tyD, isTupD]
def three (f : PyData → PyData → PyData → Bool) : List PyData → Bool
  | [a, b, c] => f a b c
  | _ => false
theorem three_len {f : PyData → PyData → PyData → Bool} {r : List PyData} (h : r.length ≠ 3) : three f r = false := by
  unfold three
  split
  · exact absurd rfl h
  · rfl
theorem two_view {f : PyData → PyData → Bool} {r : List PyData} (h : two f r = true) : ∃ a b, r = [a, b] ∧ f a b = true := by
  unfold two at h
  split at h
  · exact ⟨_, _, rfl, h⟩
  · cases h
theorem one_view {f : PyData → Bool} {r : List PyData} (h : one f r = true) : ∃ a, r = [a] ∧ f a = true := by
  unfold one at h
  split at h
  · exact ⟨_, rfl, h⟩
  · cases h
theorem three_view {f : PyData → PyData → PyData → Bool} {r : List PyData} (h : three f r = true) : ∃ a b c, r = [a, b, c] ∧ f a b c = true := by
  unfold three at h
  split at h
  · exact ⟨_, _, _, rfl, h⟩
  · cases h
def isStmtL (w : Str) (r : List PyData) : Bool :=
  if w = "if" then three (fun t y z => isTest 2 t && (isTupD y && isTupD z)) r
  else if w = "repeat" then two (fun k b => isWhole 0 8 k && isTupD b) r
  else isPlainL w r
def isStmt : PyData → Bool
  | .tuple (.str w :: r) => isStmtL w r
  | _ => false
theorem isStmt_str {a : PyData} {r : List PyData} (h : isaD a "str" = false) : isStmt (.tuple (a :: r)) = false := by
  cases a <;> first | rfl | (exfalso; revert h; simp [isaD, tyD]; done)
mutual
def dsz : PyData → Nat
  | .none => 1
  | .bool _ => 1
  | .int _ => 1
  | .str x => 1 + x.length
  | .list ds => 1 + dszs ds
  | .tuple ds => 1 + dszs ds
  | .dict _ => 1
def dszs : List PyData → Nat
  | [] => 0
  | d :: r => dsz d + dszs r
end
theorem dsz_pos (d : PyData) : 1 ≤ dsz d := by cases d <;> (rw [dsz]; try omega)
theorem dszs_app : ∀ a b : List PyData, dszs (a ++ b) = dszs a + dszs b
  | [], b => by rw [List.nil_append, dszs, Nat.zero_add]
  | s :: r, b => by rw [List.cons_append, dszs, dszs, dszs_app r b, Nat.add_assoc]
theorem dszs_len : ∀ b : List PyData, b.length ≤ dszs b
  | [] => Nat.zero_le _
  | d :: r => by have := dszs_len r; have := dsz_pos d; rw [dszs, List.length_cons]; omega
def tupOf : PyData → List PyData
  | .tuple ds => ds
  | _ => []
/-- the blocks of a statement -/
def blks : PyData → List (List PyData)
  | .tuple (.str w :: r) => if w = "if" then (match r with
      | [_, y, z] => [tupOf y, tupOf z]
      | _ => [])
    else if w = "repeat" then (match r with
      | [_, b] => [tupOf b]
      | _ => [])
    else []
  | _ => []
def inner (d : PyData) : List PyData := (blks d).flatten
theorem dsz_tupOf (d : PyData) : dszs (tupOf d) + 1 ≤ dsz d := by
  cases d <;> simp [tupOf, dsz, dszs]; omega
theorem inner_size (d : PyData) : dszs (inner d) + 1 ≤ dsz d := by
  have h0 := dsz_pos d
  unfold inner
  unfold blks
  split
  · rename_i w r
    split
    · split
      · rename_i t y z
        have a := dsz_tupOf y
        have b := dsz_tupOf z
        have c := dsz_pos t
        simp only [List.flatten_cons, List.flatten_nil, List.append_nil, dszs_app, dsz, dszs]
        omega
      · rw [List.flatten_nil, dszs]
        omega
    · split
      · split
        · rename_i t b
          have a := dsz_tupOf b
          simp only [List.flatten_cons, List.flatten_nil, List.append_nil, dszs_app, dsz, dszs]
          omega
        · rw [List.flatten_nil, dszs]
          omega
      · rw [List.flatten_nil, dszs]
        omega
  · rw [List.flatten_nil, dszs]
    omega
/-- the stack, its top first -/
def ordLoop : Nat → List (Nat × PyData) → Nat → Option (Nat × Str)
  | _, [], _ => none
  | 0, _ :: _, _ => none
  | f + 1, (dep, d) :: st, pl => if dep > 3 then some (pl, "nest") else if isStmt d = false then some (pl, "statement")
      else ordLoop f ((inner d).map (fun e => (dep + 1, e)) ++ st) (pl + 1)
def stSize (st : List (Nat × PyData)) : Nat := dszs (st.map (·.2))
theorem stSize_cons (n : Nat) (d : PyData) (st : List (Nat × PyData)) : stSize ((n, d) :: st) = dsz d + stSize st := by
  unfold stSize
  rw [List.map_cons, dszs]
theorem stSize_app (a b : List (Nat × PyData)) : stSize (a ++ b) = stSize a + stSize b := by
  unfold stSize
  rw [List.map_append, dszs_app]
theorem stSize_map (n : Nat) (ds : List PyData) : stSize (ds.map fun e => (n, e)) = dszs ds := by
  unfold stSize
  rw [List.map_map]
  have e : ((·.2) ∘ fun e : PyData => (n, e)) = id := rfl
  rw [e, List.map_id]
theorem ordLoop_fuel : ∀ (f g : Nat) (st : List (Nat × PyData)) (pl : Nat), stSize st ≤ f → stSize st ≤ g → ordLoop f st pl = ordLoop g st pl := by
  intro f
  induction f with
  | zero =>
    intro g st pl h1 h2
    cases st with
    | nil => cases g <;> rfl
    | cons p st =>
      obtain ⟨n, d⟩ := p
      rw [stSize_cons] at h1
      have := dsz_pos d
      omega
  | succ f ih =>
    intro g st pl h1 h2
    cases st with
    | nil => cases g <;> rfl
    | cons p st =>
      obtain ⟨n, d⟩ := p
      rw [stSize_cons] at h1 h2
      have := dsz_pos d
      have hi := inner_size d
      cases g with
      | zero => omega
      | succ g =>
        rw [ordLoop, ordLoop, ih g _ _ (by rw [stSize_app, stSize_map]; omega) (by rw [stSize_app, stSize_map]; omega)]
def ordErr (ds : List PyData) : Option (Nat × Str) := ordLoop (dszs ds) (ds.map fun e => (0, e)) 0
def Ex.vd : Nat → Ex → Prop
  | 0, _ => False
  | _ + 1, .int i => -99 ≤ i ∧ i ≤ 99
  | _ + 1, .name x => isNameS x = true
  | n + 1, .bin o a b => b.vd n ∧ ((o = "times" ∧ ∃ i : Int, a = .int i ∧ -9 ≤ i ∧ i ≤ 9) ∨ ((o = "plus" ∨ o = "minus") ∧ a.vd n))
def Ts.vd : Nat → Ts → Prop
  | 0, .not _ => False
  | n + 1, .not t => t.vd n
  | _, .given x => isNameS x = true
  | _, .rest e b r => e.vd 3 ∧ 2 ≤ b ∧ b ≤ 6 ∧ 0 ≤ r ∧ r ≤ b - 1
  | _, .less a b => a.vd 3 ∧ b.vd 3
def Pl.vd : Pl → Prop
  | .set x e => isNameS x = true ∧ e.vd 3
  | .unset x => isNameS x = true
  | .tell e => e.vd 3
  | .say w => isWordS w = true
  | .stop w => isWordS w = true
def Sm.vd : Nat → Sm → Prop
  | _, .pl s => s.vd
  | 0, .ifs t y z => t.vd 2 ∧ y = [] ∧ z = []
  | 0, .rep k b => 0 ≤ k ∧ k ≤ 8 ∧ b = []
  | n + 1, .ifs t y z => t.vd 2 ∧ (∀ s ∈ y, Sm.vd n s) ∧ (∀ s ∈ z, Sm.vd n s)
  | n + 1, .rep k b => 0 ≤ k ∧ k ≤ 8 ∧ ∀ s ∈ b, Sm.vd n s
theorem name_view {d : PyData} (h : isName d = true) : ∃ x, d = .str x ∧ isNameS x = true := by
  unfold isName at h
  split at h
  · exact ⟨_, rfl, h⟩
  · cases h
theorem word_view {d : PyData} (h : isWord d = true) : ∃ x, d = .str x ∧ isWordS x = true := by
  unfold isWord at h
  split at h
  · exact ⟨_, rfl, h⟩
  · cases h
theorem whole_view {d : PyData} {lo hi : Int} (h : isWhole lo hi d = true) : ∃ i, d = .int i ∧ lo ≤ i ∧ i ≤ hi := by
  unfold isWhole at h
  split at h
  · simp only [Bool.and_eq_true, decide_eq_true_eq] at h
    exact ⟨_, rfl, h.1, h.2⟩
  · cases h
theorem tup_view {d : PyData} (h : isTupD d = true) : ∃ ds, d = .tuple ds := by
  unfold isTupD at h
  split at h
  · exact ⟨_, rfl⟩
  · cases h
theorem expr_view : ∀ {n : Nat} {d : PyData}, isExpr n d = true → ∃ e : Ex, d = e.d ∧ e.vd n := by
  intro n
  induction n with
  | zero =>
    intro d h
    rw [isExpr] at h
    cases h
  | succ n ih =>
    intro d h
    rw [isExpr] at h
    unfold isExprW at h
    split at h
    · unfold isExprL at h
      split at h
      · rename_i w a b
        rw [Bool.and_eq_true] at h
        obtain ⟨h1, h2⟩ := h
        obtain ⟨eb, rfl, vb⟩ := ih h1
        split at h2
        · rename_i hw
          subst hw
          unfold isWhole at h2
          split at h2
          · rename_i i
            simp only [Bool.and_eq_true, decide_eq_true_eq] at h2
            exact ⟨.bin "times" (.int i) eb, rfl, vb, .inl ⟨rfl, i, rfl, h2.1, h2.2⟩⟩
          · cases h2
        · simp only [Bool.and_eq_true, Bool.or_eq_true, decide_eq_true_eq] at h2
          obtain ⟨h2, h3⟩ := h2
          obtain ⟨ea, rfl, va⟩ := ih h3
          exact ⟨.bin w ea eb, rfl, vb, .inr ⟨h2, va⟩⟩
      · cases h
    · rw [Bool.or_eq_true] at h
      rcases h with h | h
      · obtain ⟨x, rfl, hx⟩ := name_view h
        exact ⟨.name x, rfl, hx⟩
      · obtain ⟨i, rfl, h1, h2⟩ := whole_view h
        exact ⟨.int i, rfl, h1, h2⟩
theorem testL_view {f : PyData → Bool} {w : Str} {r : List PyData} (h : isTestL f w r = true) :
    (∃ a b : Ex, w = "less" ∧ r = [a.d, b.d] ∧ a.vd 3 ∧ b.vd 3) ∨ (∃ (e : Ex) (b c : Int), w = "rest" ∧ r = [e.d, .int b, .int c] ∧ e.vd 3 ∧ 2 ≤ b ∧ b ≤ 6 ∧ 0 ≤ c ∧ c ≤ b - 1) ∨
    (∃ x, w = "given" ∧ r = [.str x] ∧ isNameS x = true) ∨ (∃ a, w = "not" ∧ r = [a] ∧ f a = true) := by
  unfold isTestL at h
  split at h
  · rename_i hw
    obtain ⟨a, b, rfl, hh⟩ := two_view h
    clear h
    have h := hh
    rw [Bool.and_eq_true] at h
    obtain ⟨a, rfl, va⟩ := expr_view h.1
    obtain ⟨b, rfl, vb⟩ := expr_view h.2
    exact .inl ⟨a, b, hw, rfl, va, vb⟩
  split at h
  · rename_i hw
    unfold isRestL at h
    split at h
    · rename_i hr
      cases hr
      simp only [Bool.and_eq_true] at h
      obtain ⟨⟨h1, h2⟩, h3⟩ := h
      obtain ⟨e, rfl, ve⟩ := expr_view h1
      obtain ⟨i, hi, b1, b2⟩ := whole_view h2
      cases hi
      obtain ⟨j, rfl, c1, c2⟩ := whole_view h3
      exact .inr (.inl ⟨e, _, j, hw, rfl, ve, b1, b2, c1, c2⟩)
    · cases h
  split at h
  · rename_i hw
    obtain ⟨a, rfl, hh⟩ := one_view h
    clear h
    have h := hh
    obtain ⟨x, rfl, hx⟩ := name_view h
    exact .inr (.inr (.inl ⟨x, hw, rfl, hx⟩))
  split at h
  · rename_i hw
    obtain ⟨a, rfl, hh⟩ := one_view h
    clear h
    have h := hh
    exact .inr (.inr (.inr ⟨_, hw, rfl, h⟩))
  · cases h
theorem testW_view {n : Nat} {f : PyData → Bool} {d : PyData} (hf : ∀ a, f a = true → ∃ t : Ts, a = t.d ∧ (Ts.not t).vd n) (h : isTestW f d = true) : ∃ t : Ts, d = t.d ∧ t.vd n := by
  unfold isTestW at h
  split at h
  · rcases testL_view h with ⟨a, b, rfl, rfl, va, vb⟩ | ⟨e, b, c, rfl, rfl, q⟩ | ⟨x, rfl, rfl, q⟩ | ⟨a, rfl, rfl, q⟩
    · exact ⟨.less a b, rfl, by cases n <;> exact ⟨va, vb⟩⟩
    · exact ⟨.rest e b c, rfl, by cases n <;> exact q⟩
    · exact ⟨.given x, rfl, by cases n <;> exact q⟩
    · obtain ⟨t, rfl, ht⟩ := hf a q
      exact ⟨.not t, rfl, ht⟩
  · cases h
theorem test_view : ∀ {n : Nat} {d : PyData}, isTest n d = true → ∃ t : Ts, d = t.d ∧ t.vd n
  | 0, d, h => testW_view (fun a q => by cases q) h
  | n + 1, d, h => testW_view (fun a q => test_view (n := n) q) h
theorem plain_view {w : Str} {r : List PyData} (h : isPlainL w r = true) : ∃ p : Pl, .tuple (.str w :: r) = p.d ∧ p.vd := by
  unfold isPlainL at h
  split at h
  · rename_i hw
    subst hw
    obtain ⟨a, b, rfl, hh⟩ := two_view h
    clear h
    have h := hh
    rw [Bool.and_eq_true] at h
    obtain ⟨x, rfl, hx⟩ := name_view h.1
    obtain ⟨e, rfl, he⟩ := expr_view h.2
    exact ⟨.set x e, rfl, hx, he⟩
  split at h
  · rename_i hw
    subst hw
    obtain ⟨a, rfl, hh⟩ := one_view h
    clear h
    have h := hh
    obtain ⟨x, rfl, hx⟩ := name_view h
    exact ⟨.unset x, rfl, hx⟩
  split at h
  · rename_i hw
    subst hw
    obtain ⟨a, rfl, hh⟩ := one_view h
    clear h
    have h := hh
    obtain ⟨e, rfl, he⟩ := expr_view h
    exact ⟨.tell e, rfl, he⟩
  split at h
  · rename_i hw
    obtain ⟨a, rfl, hh⟩ := one_view h
    clear h
    have h := hh
    obtain ⟨x, rfl, hx⟩ := word_view h
    rcases hw with rfl | rfl
    · exact ⟨.say x, rfl, hx⟩
    · exact ⟨.stop x, rfl, hx⟩
  · cases h
theorem Pl.hd (p : Pl) : ∃ u r, p.d = .tuple (.str u :: r) ∧ u ≠ "if" ∧ u ≠ "repeat" := by
  cases p <;> exact ⟨_, _, rfl, by decide +kernel, by decide +kernel⟩
/-- what a statement is -/
theorem stmt_view {d : PyData} (h : isStmt d = true) : (∃ p : Pl, d = p.d ∧ p.vd ∧ blks d = []) ∨ (∃ (t : Ts) (y z : List PyData), d = .tuple [.str "if", t.d, .tuple y, .tuple z] ∧ t.vd 2 ∧ blks d = [y, z]) ∨
    (∃ (k : Int) (b : List PyData), d = .tuple [.str "repeat", .int k, .tuple b] ∧ 0 ≤ k ∧ k ≤ 8 ∧ blks d = [b]) := by
  unfold isStmt at h
  split at h
  · unfold isStmtL at h
    split at h
    · rename_i hw
      subst hw
      obtain ⟨a, b, c, rfl, hh⟩ := three_view h
      clear h
      have h := hh
      simp only [Bool.and_eq_true] at h
      obtain ⟨t, rfl, ht⟩ := test_view h.1
      obtain ⟨y, rfl⟩ := tup_view h.2.1
      obtain ⟨z, rfl⟩ := tup_view h.2.2
      exact .inr (.inl ⟨t, y, z, rfl, ht, rfl⟩)
    split at h
    · rename_i hw
      subst hw
      obtain ⟨a, b, rfl, hh⟩ := two_view h
      clear h
      have h := hh
      simp only [Bool.and_eq_true] at h
      obtain ⟨k, rfl, k1, k2⟩ := whole_view h.1
      obtain ⟨b, rfl⟩ := tup_view h.2
      exact .inr (.inr ⟨k, b, rfl, k1, k2, rfl⟩)
    · rename_i w r n1 n2
      obtain ⟨p, e, hp⟩ := plain_view h
      refine .inl ⟨p, e, hp, ?_⟩
      unfold blks
      simp only [if_neg n1, if_neg n2]
  · cases h
theorem trees_of {n : Nat} : ∀ {ds : List PyData}, (∀ d ∈ ds, ∃ s : Sm, d = s.d ∧ s.vd n) → ∃ b : List Sm, ds = Sm.ds b ∧ ∀ s ∈ b, Sm.vd n s
  | [], _ => ⟨[], by rw [Sm.ds], fun _ h => nomatch h⟩
  | d :: r, h => by
    obtain ⟨s, rfl, hs⟩ := h d (List.mem_cons_self ..)
    obtain ⟨b, rfl, hb⟩ := trees_of fun d hd => h d (List.mem_cons_of_mem _ hd)
    refine ⟨s :: b, by rw [Sm.ds], fun z hz => ?_⟩
    rcases List.mem_cons.mp hz with rfl | hz
    · exact hs
    · exact hb z hz
theorem ordLoop_view : ∀ (f : Nat) (st : List (Nat × PyData)) (pl : Nat), stSize st ≤ f → ordLoop f st pl = none → ∀ p ∈ st, p.1 ≤ 3 ∧ ∃ s : Sm, p.2 = s.d ∧ s.vd (3 - p.1) := by
  intro f
  induction f with
  | zero =>
    intro st pl h _ p hp
    cases st with
    | nil => cases hp
    | cons q st =>
      obtain ⟨n, d⟩ := q
      rw [stSize_cons] at h
      have := dsz_pos d
      omega
  | succ f ih =>
    intro st pl h e p hp
    cases st with
    | nil => cases hp
    | cons q st =>
      obtain ⟨n, d⟩ := q
      rw [stSize_cons] at h
      have hz := dsz_pos d
      have hi := inner_size d
      rw [ordLoop] at e
      split at e
      · cases e
      rename_i hn
      split at e
      · cases e
      rename_i hs
      have IH := ih _ _ (by rw [stSize_app, stSize_map]; omega) e
      rcases List.mem_cons.mp hp with rfl | hp
      · refine ⟨by omega, ?_⟩
        have kids : ∀ b ∈ blks d, (n = 3 → b = []) ∧ ∃ c : List Sm, b = Sm.ds c ∧ ∀ s ∈ c, Sm.vd (3 - (n + 1)) s := by
          intro b hb
          have hall : ∀ x ∈ b, n + 1 ≤ 3 ∧ ∃ s : Sm, x = s.d ∧ s.vd (3 - (n + 1)) := fun x hx =>
            IH (n + 1, x) (List.mem_append_left _ (List.mem_map.mpr ⟨x, List.mem_flatten.mpr ⟨b, hb, hx⟩, rfl⟩))
          refine ⟨fun h3 => ?_, trees_of fun x hx => (hall x hx).2⟩
          cases b with
          | nil => rfl
          | cons x r =>
            have := (hall x (List.mem_cons_self ..)).1
            omega
        have hs : isStmt d = true := by
          cases hq : isStmt d with
          | true => rfl
          | false => exact absurd hq hs
        have hn3 : n ≤ 3 := by omega
        rcases stmt_view hs with ⟨p, rfl, hp, _⟩ | ⟨t, y, z, rfl, ht, hb⟩ | ⟨k, b, rfl, k1, k2, hb⟩
        · exact ⟨.pl p, by rw [Sm.d], by cases (3 - n) <;> exact hp⟩
        · rw [hb] at kids
          obtain ⟨y3, cy, rfl, vy⟩ := kids y (by simp)
          obtain ⟨z3, cz, rfl, vz⟩ := kids z (by simp)
          refine ⟨.ifs t cy cz, by rw [Sm.d], ?_⟩
          by_cases h3 : n = 3
          · subst h3
            refine ⟨ht, ?_, ?_⟩
            · have q := y3 rfl
              cases cy with
              | nil => rfl
              | cons _ _ => rw [Sm.ds] at q; cases q
            · have q := z3 rfl
              cases cz with
              | nil => rfl
              | cons _ _ => rw [Sm.ds] at q; cases q
          · obtain ⟨m, hm⟩ : ∃ m, 3 - n = m + 1 := ⟨2 - n, by omega⟩
            have hm2 : 3 - (n + 1) = m := by omega
            rw [hm2] at vy vz
            rw [hm]
            exact ⟨ht, vy, vz⟩
        · rw [hb] at kids
          obtain ⟨y3, cy, rfl, vy⟩ := kids b (by simp)
          refine ⟨.rep k cy, by rw [Sm.d], ?_⟩
          by_cases h3 : n = 3
          · subst h3
            refine ⟨k1, k2, ?_⟩
            have q := y3 rfl
            cases cy with
            | nil => rfl
            | cons _ _ => rw [Sm.ds] at q; cases q
          · obtain ⟨m, hm⟩ : ∃ m, 3 - n = m + 1 := ⟨2 - n, by omega⟩
            have hm2 : 3 - (n + 1) = m := by omega
            rw [hm2] at vy
            rw [hm]
            exact ⟨k1, k2, vy⟩
      · exact IH p (List.mem_append_right _ hp)
theorem ordErr_view {ds : List PyData} (h : ordErr ds = none) : ∃ b : List Sm, ds = Sm.ds b ∧ ∀ s ∈ b, Sm.vd 3 s :=
  trees_of fun d hd => (ordLoop_view _ _ 0 (by rw [stSize_map]; exact Nat.le_refl _) h (0, d) (List.mem_map.mpr ⟨d, hd, rfl⟩)).2
structure DwL (M : List Addr) (K : PySem.W.Frag) (H : Hp) (vs : List V) (ds : List PyData) : Prop where
  len : vs.length = ds.length
  all : ∀ (i : Nat) (v : V) (d : PyData), vs[i]? = some v → ds[i]? = some d → Dw M K H v d
structure Stk (M : List Addr) (K : PySem.W.Frag) (H : Hp) (vs : List V) (st : List (Nat × PyData)) : Prop where
  len : vs.length = st.length
  all : ∀ (i : Nat) (v : V) (p : Nat × PyData), vs[i]? = some v → st[i]? = some p → ∃ (a : Addr) (y : V), v = .ref a ∧ H a = some (.tup [.int p.1, y]) ∧ Dw M K H y p.2
section
variable {M : List Addr} {K : PySem.W.Frag} {H H1 : Hp} {v : V} {vs us : List V} {d : PyData} {ds es : List PyData} {st tt : List (Nat × PyData)} {p : Nat × PyData}
theorem Dw.fresh {l : Addr} (h : Dw M K H v d) (n : H l = none) : Dw (l :: M) K H v d := by
  induction h with
  | non => exact .non
  | bl b => exact .bl b
  | int i => exact .int i
  | str x => exact .str x
  | tup s l _ ih => exact .tup s l ih
  | lst e k l _ ih =>
    refine .lst e (fun m => ?_) l ih
    rcases List.mem_cons.mp m with z | z
    · rw [z, n] at e; cases e
    · exact k z
  | dct e k l q _ ih =>
    refine .dct e (fun m => ?_) l q ih
    rcases List.mem_cons.mp m with z | z
    · rw [z, n] at e; cases e
    · exact k z
theorem Dw.items {ds : List PyData} (h : Dw M K H v (.tuple ds)) : ∃ (a : Addr) (xs : List V), v = .ref a ∧ SqT K H a xs ∧ DwL M K H xs ds := by
  obtain ⟨a, xs, e, s, l, q⟩ := h.isTup
  exact ⟨a, xs, e, s, l, q⟩
theorem DwL.kp (h : DwL M K H vs ds) (k : Kp M H H1) : DwL M K H1 vs ds := ⟨h.len, fun i v d e e' => (h.all i v d e e').kp k⟩
theorem DwL.kp0 (h : DwL M K H vs ds) (k : Kp [] H H1) : DwL M K H1 vs ds := ⟨h.len, fun i v d e e' => (h.all i v d e e').kp0 k⟩
theorem DwL.nil : DwL M K H [] [] := ⟨rfl, fun i v d e => by simp at e⟩
theorem DwL.cons (hv : Dw M K H v d) (h : DwL M K H vs ds) : DwL M K H (v :: vs) (d :: ds) := by
  refine ⟨by rw [List.length_cons, List.length_cons, h.len], fun i u e q q' => ?_⟩
  cases i with
  | zero =>
    cases q
    cases q'
    exact hv
  | succ i => exact h.all i u e (by simpa using q) (by simpa using q')
theorem DwL.inv (h : DwL M K H vs (d :: ds)) : ∃ v r, vs = v :: r ∧ Dw M K H v d ∧ DwL M K H r ds := by
  cases vs with
  | nil => have := h.len; simp at this
  | cons v r => exact ⟨v, r, rfl, h.all 0 v d rfl rfl, by have := h.len; simpa using this, fun i u e q q' => h.all (i + 1) u e (by simpa using q) (by simpa using q')⟩
theorem DwL.inv0 (h : DwL M K H vs []) : vs = [] := List.length_eq_zero_iff.mp h.len
theorem DwL.get {i : Nat} (h : DwL M K H vs ds) (e : vs[i]? = some v) : ∃ d, ds[i]? = some d ∧ Dw M K H v d := by
  have hi := (List.getElem?_eq_some_iff.mp e).1
  have hj : i < ds.length := by rw [← h.len]; exact hi
  exact ⟨ds[i], List.getElem?_eq_getElem hj, h.all i v _ e (List.getElem?_eq_getElem hj)⟩
theorem DwL.is1 (h : DwL M K H vs ds) (e : vs.length = 1) : ∃ (x : V) (a : PyData), vs = [x] ∧ ds = [a] ∧ Dw M K H x a := by
  have e2 := h.len
  match vs, ds, e, e2, h with
  | [x], [a], _, _, h => exact ⟨x, a, rfl, rfl, h.all 0 x a rfl rfl⟩
theorem DwL.is2 (h : DwL M K H vs ds) (e : vs.length = 2) : ∃ (x y : V) (a b : PyData), vs = [x, y] ∧ ds = [a, b] ∧ Dw M K H x a ∧ Dw M K H y b := by
  have e2 := h.len
  match vs, ds, e, e2, h with
  | [x, y], [a, b], _, _, h => exact ⟨x, y, a, b, rfl, rfl, h.all 0 x a rfl rfl, h.all 1 y b rfl rfl⟩
theorem DwL.is3 (h : DwL M K H vs ds) (e : vs.length = 3) : ∃ (x y z : V) (a b c : PyData), vs = [x, y, z] ∧ ds = [a, b, c] ∧ Dw M K H x a ∧ Dw M K H y b ∧ Dw M K H z c := by
  have e2 := h.len
  match vs, ds, e, e2, h with
  | [x, y, z], [a, b, c], _, _, h => exact ⟨x, y, z, a, b, c, rfl, rfl, h.all 0 x a rfl rfl, h.all 1 y b rfl rfl, h.all 2 z c rfl rfl⟩
theorem DwL.is4 (h : DwL M K H vs ds) (e : vs.length = 4) : ∃ (x y z u : V) (a b c d : PyData), vs = [x, y, z, u] ∧ ds = [a, b, c, d] ∧ Dw M K H x a ∧ Dw M K H y b ∧ Dw M K H z c ∧ Dw M K H u d := by
  have e2 := h.len
  match vs, ds, e, e2, h with
  | [x, y, z, u], [a, b, c, d], _, _, h => exact ⟨x, y, z, u, a, b, c, d, rfl, rfl, h.all 0 x a rfl rfl, h.all 1 y b rfl rfl, h.all 2 z c rfl rfl, h.all 3 u d rfl rfl⟩
theorem Stk.kp (h : Stk M K H vs st) (k : Kp M H H1) : Stk M K H1 vs st := ⟨h.len, fun i v p e e' => by
  obtain ⟨a, y, q1, q2, q3⟩ := h.all i v p e e'
  exact ⟨a, y, q1, k.tup q2, q3.kp k⟩⟩
theorem Stk.kp0 (h : Stk M K H vs st) (k : Kp [] H H1) : Stk M K H1 vs st := ⟨h.len, fun i v p e e' => by
  obtain ⟨a, y, q1, q2, q3⟩ := h.all i v p e e'
  exact ⟨a, y, q1, k.tup q2, q3.kp0 k⟩⟩
theorem Stk.fresh {l : Addr} (h : Stk M K H vs st) (n : H l = none) : Stk (l :: M) K H vs st := ⟨h.len, fun i v p e e' => by
  obtain ⟨a, y, q1, q2, q3⟩ := h.all i v p e e'
  exact ⟨a, y, q1, q2, q3.fresh n⟩⟩
theorem Stk.nil : Stk M K H [] [] := ⟨rfl, fun i v d e => by simp at e⟩
theorem Stk.app (h : Stk M K H vs st) (h2 : Stk M K H us tt) : Stk M K H (vs ++ us) (st ++ tt) := by
  refine ⟨by rw [List.length_append, List.length_append, h.len, h2.len], fun i u e q q' => ?_⟩
  by_cases hi : i < vs.length
  · rw [List.getElem?_append_left hi] at q
    rw [List.getElem?_append_left (by rw [← h.len]; exact hi)] at q'
    exact h.all i u e q q'
  · rw [List.getElem?_append_right (by omega)] at q
    rw [List.getElem?_append_right (by rw [← h.len]; omega), ← h.len] at q'
    exact h2.all _ u e q q'
theorem Stk.rev (h : Stk M K H vs st) : Stk M K H vs.reverse st.reverse := by
  refine ⟨by rw [List.length_reverse, List.length_reverse, h.len], fun i u e q q' => ?_⟩
  have hi : i < vs.length := by have := (List.getElem?_eq_some_iff.mp q).1; rwa [List.length_reverse] at this
  rw [List.getElem?_reverse hi] at q
  rw [List.getElem?_reverse (by rw [← h.len]; exact hi), ← h.len] at q'
  exact h.all _ u e q q'
theorem Stk.one {a : Addr} {y : V} (h : H a = some (.tup [.int p.1, y])) (hy : Dw M K H y p.2) : Stk M K H [.ref a] [p] := ⟨rfl, fun i v q e e' => by
  match i, e, e' with
  | 0, e, e' => cases e; cases e'; exact ⟨a, y, rfl, h, hy⟩⟩
theorem Stk.last (h : Stk M K H vs (st ++ [p])) : ∃ (us : List V) (a : Addr) (y : V), vs = us ++ [.ref a] ∧ Stk M K H us st ∧ H a = some (.tup [.int p.1, y]) ∧ Dw M K H y p.2 := by
  have hl := h.len
  rw [List.length_append, List.length_singleton] at hl
  have hlt : st.length < vs.length := by omega
  obtain ⟨a, y, e, q1, q2⟩ := h.all st.length vs[st.length] p (List.getElem?_eq_getElem hlt) (by simp)
  refine ⟨vs.take st.length, a, y, ?_, ⟨by rw [List.length_take]; omega, fun i u e' q q' => ?_⟩, q1, q2⟩
  · rw [← e]
    have q := List.take_append_drop st.length vs
    rw [List.drop_eq_getElem_cons hlt, List.drop_eq_nil_of_le (by omega)] at q
    exact q.symm
  · have hi : i < st.length := (List.getElem?_eq_some_iff.mp q').1
    rw [List.getElem?_take, if_pos hi] at q
    exact h.all i u e' q (by rw [List.getElem?_append_left hi]; exact q')
end
section
variable {M N : List Addr} {K : PySem.W.Frag} {H H1 : Hp} {v : V} {vs us : List V} {d : PyData} {ds es : List PyData} {st tt : List (Nat × PyData)}
theorem Dw.kpS (a : Kp N H H1) (s : ∀ b ∈ N, b ∈ M) (h : Dw M K H v d) : Dw M K H1 v d := by
  induction h with
  | non => exact .non
  | bl b => exact .bl b
  | int i => exact .int i
  | str x => exact .str x
  | tup e l _ ih => exact .tup (sqT_kp a e) l ih
  | lst e n l _ ih => exact .lst (a.get e fun m => n (s _ m)) n l ih
  | dct e n l q _ ih => exact .dct (a.get e fun m => n (s _ m)) n l q ih
theorem DwL.kpS (h : DwL M K H vs ds) (a : Kp N H H1) (s : ∀ b ∈ N, b ∈ M) : DwL M K H1 vs ds := ⟨h.len, fun i v d e e' => (h.all i v d e e').kpS a s⟩
theorem Stk.kpS (h : Stk M K H vs st) (a : Kp N H H1) (s : ∀ b ∈ N, b ∈ M) : Stk M K H1 vs st := ⟨h.len, fun i v p e e' => by
  obtain ⟨c, y, q1, q2, q3⟩ := h.all i v p e e'
  exact ⟨c, y, q1, a.tup q2, q3.kpS a s⟩⟩
theorem DwL.fresh {l : Addr} (h : DwL M K H vs ds) (n : H l = none) : DwL (l :: M) K H vs ds := ⟨h.len, fun i v d e e' => (h.all i v d e e').fresh n⟩
theorem DwL.sub (h : DwL M K H vs ds) (s : ∀ b ∈ N, b ∈ M) : DwL N K H vs ds := ⟨h.len, fun i v d e e' => (h.all i v d e e').sub s⟩
theorem Stk.sub (h : Stk M K H vs st) (s : ∀ b ∈ N, b ∈ M) : Stk N K H vs st := ⟨h.len, fun i v p e e' => by
  obtain ⟨c, y, q1, q2, q3⟩ := h.all i v p e e'
  exact ⟨c, y, q1, q2, q3.sub s⟩⟩
/-- [(n, item) for item in a tuple] -/
theorem lc_stk {te : TE} {ws : List Nat} {σ : L2.St} {Q : VK} {a : Addr} {n j : Nat} (hT : SqT K H a vs) (hL : DwL M K H vs ds) (hz : ds.length ≤ 1000000)
    (he : ∀ (x : V) (H' : Hp) (R : VK), (∀ p, H' p = none → R (.ref p) (upd H' p (.tup [.int n, x]))) → te ((wipe σ ws).set j (some x)) H' R)
    (hw : ∀ v : V, wipe ((wipe σ ws).set j (some v)) ws = wipe σ ws)
    (h : ∀ (q : Addr) (H' : Hp) (us : List V), H q = none → Kp [] H H' → H' q = some (.lst us) → Stk M K H' us (ds.map fun e => (n, e)) → Q (.ref q) H') :
    LcT K (gName j) tYes te ws σ Q (.ref a) H := by
  refine r_LcT hT fun q hq => ⟨fun i H' => ∃ us, Kp [] H H' ∧ H' q = some (.lst us) ∧ Stk (q :: M) K H' us ((ds.take i).map fun e => (n, e)), ?_, ?_, ?_, ?_⟩
  · exact ⟨[], Kp.nil.new hq, upd_same, Stk.nil⟩
  · rintro i H' ⟨us, k1, _⟩
    exact sqT_kp k1 hT
  · rintro i x H' hx ⟨us, k1, hq1, hS⟩
    obtain ⟨d, hd, hx1⟩ := hL.get hx
    refine r_name (r_LcTurn (hw _) (r_yes (ifT (he x H' _ fun p hp => ?_))))
    have hqp : q ≠ p := ne_of_none hq1 hp
    have k2 : Kp [] H' (upd H' p (.tup [.int n, x])) := Kp.nil.new hp
    have hq2 := k2.get hq1 (by simp)
    have hil : i < ds.length := (List.getElem?_eq_some_iff.mp hd).1
    have hul : us.length ≤ i := by
      rw [hS.len, List.length_map, List.length_take]
      omega
    refine r_LcEnd hq2 (by rw [sizeLine_eq]; omega) ⟨us ++ [.ref p], (k1.trans k2).own hq, upd_same, ?_⟩
    have k3 := kpW (o := .lst (us ++ [.ref p])) hq2
    have S2 := (hS.kp0 k2).kpS k3 (fun b hb => by rw [List.mem_singleton.mp hb]; exact List.mem_cons_self ..)
    have htk : ds.take (i + 1) = ds.take i ++ [d] := by rw [List.take_add_one, hd]; rfl
    rw [htk, List.map_append]
    refine S2.app (Stk.one (p := (n, d)) (k3.tup upd_same) ?_)
    exact (hx1.fresh hq).kp0 ((k1.trans k2).own hq)
  · rintro H' ⟨us, k1, hq1, hS⟩
    rw [hL.len, List.take_length] at hS
    exact h q H' us hq k1 hq1 (hS.sub fun b hb => List.mem_cons_of_mem _ hb)
end
def spWhole (K : PySem.W.Frag) : Sp := fun vs H Q _ => ∃ (v : V) (d : PyData) (lo hi : Int), vs = [v, .int lo, .int hi] ∧ Dw [] K H v d ∧ Q (.bl (isWhole lo hi d)) H
/-- a question about data -/
def spAsk (K : PySem.W.Frag) (f : PyData → Bool) : Sp := fun vs H Q _ => ∃ (v : V) (d : PyData), vs = [v] ∧ Dw [] K H v d ∧ dsz d ≤ 1000000 ∧ ∀ H', Kp [] H H' → Q (.bl (f d)) H'
def spAskN (K : PySem.W.Frag) (f : Nat → PyData → Bool) (n : Nat) : Sp := fun vs H Q _ => ∃ (v : V) (d : PyData), vs = [v, .int n] ∧ Dw [] K H v d ∧ dsz d ≤ 1000000 ∧ ∀ H', Kp [] H H' → Q (.bl (f n d)) H'
def spAskL (K : PySem.W.Frag) (f : List PyData → Bool) : Sp := fun vs H Q _ => ∃ (v : V) (ds : List PyData), vs = [v] ∧ Dw [] K H v (.tuple ds) ∧ dszs ds ≤ 1000000 ∧ ∀ H', Kp [] H H' → Q (.bl (f ds)) H'
/-- of a tuple that is not empty, its first item a text -/
def spAskT (K : PySem.W.Frag) (f : Str → List PyData → Bool) : Sp := fun vs H Q _ => ∃ (v : V) (w : Str) (r : List PyData), vs = [v] ∧ Dw [] K H v (.tuple (.str w :: r)) ∧ dszs r ≤ 1000000 ∧ ∀ H', Kp [] H H' → Q (.bl (f w r)) H'
def spBlocks (K : PySem.W.Frag) : Sp := fun vs H Q _ => ∃ (M : List Addr) (v : V) (d : PyData), vs = [v] ∧ Dw M K H v d ∧ isStmt d = true ∧
  ∀ (H' : Hp) (p : Addr) (xs : List V), H p = none → Kp [] H H' → H' p = some (.lst xs) → DwL M K H' xs ((blks d).map PyData.tuple) → Q (.ref p) H'
def spItems (K : PySem.W.Frag) : Sp := fun vs H Q _ => ∃ (M : List Addr) (v : V) (d : PyData) (n : Nat), vs = [v, .int n] ∧ Dw M K H v d ∧ isStmt d = true ∧ dsz d ≤ 1000000 ∧
  ∀ (H' : Hp) (p : Addr) (xs : List V), H p = none → Kp [] H H' → H' p = some (.lst xs) → Stk M K H' xs (((inner d).map fun e => (n + 1, e)).reverse) → Q (.ref p) H'
def ordD : Option (Nat × Str) → PyData
  | none => .none
  | some (p, w) => .tuple [.int p, .str w]
def spOrder (K : PySem.W.Frag) : Sp := fun vs H Q _ => ∃ (v : V) (ds : List PyData), vs = [v] ∧ Dw [] K H v (.tuple ds) ∧ dszs ds ≤ 1000000 ∧
  ∀ (H' : Hp) (r : V), Kp [] H H' → Dt K H' r (ordD (ordErr ds)) → Q r H'
theorem Ex.vd.is : ∀ {n : Nat} {e : Ex}, e.vd n → isExpr n e.d = true
  | 0, _, h => h.elim
  | n + 1, .int i, h => by
    show (isName (.int i) || isWhole (-99) 99 (.int i)) = true
    have h1 := h.1
    have h2 := h.2
    simp [isName, isWhole, h1, h2]
  | n + 1, .name x, h => by
    show (isName (.str x) || isWhole (-99) 99 (.str x)) = true
    have h : isNameS x = true := h
    simp [isName, h]
  | n + 1, .bin o a b, h => by
    show (isExpr n b.d && (if o = "times" then isWhole (-9) 9 a.d else (decide (o = "plus") || decide (o = "minus")) && isExpr n a.d)) = true
    obtain ⟨hb, h⟩ := h
    rw [Ex.vd.is hb, Bool.true_and]
    rcases h with ⟨rfl, i, rfl, h1, h2⟩ | ⟨h, ha⟩
    · rw [if_pos rfl]
      show (decide (-9 ≤ i) && decide (i ≤ 9)) = true
      rw [decide_eq_true h1, decide_eq_true h2]
      rfl
    · rw [Ex.vd.is ha]
      rcases h with rfl | rfl
      · rw [if_neg (by decide +kernel), decide_eq_true rfl]
        rfl
      · rw [if_neg (by decide +kernel), decide_eq_true (p := ("minus" : Str) = "minus") rfl, Bool.or_true]
        rfl
theorem Ts.vd.isF {f : PyData → Bool} {n : Nat} {t : Ts} (h : t.vd n) (hf : ∀ u, t = .not u → f u.d = true) : isTestW f t.d = true := by
  cases t with
  | not u =>
    show isTestL f "not" [u.d] = true
    unfold isTestL
    rw [if_neg (by decide +kernel), if_neg (by decide +kernel), if_neg (by decide +kernel), if_pos rfl]
    exact hf u rfl
  | given x =>
    have q : isNameS x = true := by cases n <;> exact h
    show isTestL f "given" [.str x] = true
    unfold isTestL
    rw [if_neg (by decide +kernel), if_neg (by decide +kernel), if_pos rfl]
    exact q
  | rest e b r =>
    have q : e.vd 3 ∧ 2 ≤ b ∧ b ≤ 6 ∧ 0 ≤ r ∧ r ≤ b - 1 := by cases n <;> exact h
    obtain ⟨q, b0, b1, r0, r1⟩ := q
    show isTestL f "rest" [e.d, .int b, .int r] = true
    unfold isTestL
    rw [if_neg (by decide +kernel), if_pos rfl, isRestL, Ex.vd.is q]
    show (true && (decide (2 ≤ b) && decide (b ≤ 6)) && (decide (0 ≤ r) && decide (r ≤ b - 1))) = true
    rw [decide_eq_true b0, decide_eq_true b1, decide_eq_true r0, decide_eq_true r1]
    rfl
  | less a b =>
    have q : a.vd 3 ∧ b.vd 3 := by cases n <;> exact h
    show isTestL f "less" [a.d, b.d] = true
    unfold isTestL
    rw [if_pos rfl]
    show (isExpr 3 a.d && isExpr 3 b.d) = true
    rw [Ex.vd.is q.1, Ex.vd.is q.2]
    rfl
theorem Ts.vd.is : ∀ {n : Nat} {t : Ts}, t.vd n → isTest n t.d = true
  | 0, t, h => Ts.vd.isF h fun u e => by subst e; exact h.elim
  | n + 1, t, h => Ts.vd.isF h fun u e => by subst e; exact Ts.vd.is (n := n) h
theorem Pl.vd.is {p : Pl} (h : p.vd) : isStmt p.d = true := by
  cases p with
  | set x e =>
    show isStmtL "set" [.str x, e.d] = true
    unfold isStmtL isPlainL
    rw [if_neg (by decide +kernel), if_neg (by decide +kernel), if_pos rfl]
    show (isNameS x && isExpr 3 e.d) = true
    rw [h.1, Ex.vd.is h.2]
    rfl
  | unset x =>
    show isStmtL "unset" [.str x] = true
    unfold isStmtL isPlainL
    rw [if_neg (by decide +kernel), if_neg (by decide +kernel), if_neg (by decide +kernel), if_pos rfl]
    exact h
  | tell e =>
    show isStmtL "tell" [e.d] = true
    unfold isStmtL isPlainL
    rw [if_neg (by decide +kernel), if_neg (by decide +kernel), if_neg (by decide +kernel), if_neg (by decide +kernel), if_pos rfl]
    exact Ex.vd.is (n := 3) h
  | say x =>
    show isStmtL "say" [.str x] = true
    unfold isStmtL isPlainL
    rw [if_neg (by decide +kernel), if_neg (by decide +kernel), if_neg (by decide +kernel), if_neg (by decide +kernel), if_neg (by decide +kernel), if_pos (.inl rfl)]
    exact h
  | stop x =>
    show isStmtL "stop" [.str x] = true
    unfold isStmtL isPlainL
    rw [if_neg (by decide +kernel), if_neg (by decide +kernel), if_neg (by decide +kernel), if_neg (by decide +kernel), if_neg (by decide +kernel), if_pos (.inr rfl)]
    exact h
def Sm.kids : Sm → List Sm
  | .pl _ => []
  | .ifs _ y z => y ++ z
  | .rep _ b => b
theorem Sm.ds_app (a b : List Sm) : Sm.ds (a ++ b) = Sm.ds a ++ Sm.ds b := by rw [Sm.ds_map, Sm.ds_map, Sm.ds_map, List.map_append]
theorem Sm.vd.is {n : Nat} {s : Sm} (h : s.vd n) : isStmt s.d = true ∧ inner s.d = Sm.ds s.kids ∧ ∀ c ∈ s.kids, ∃ m, Sm.vd m c ∧ m < n := by
  cases s with
  | pl p =>
    have q : p.vd := by cases n <;> exact h
    refine ⟨by rw [Sm.d]; exact q.is, ?_, fun c hc => by cases hc⟩
    obtain ⟨u, r, e, n1, n2⟩ := Pl.hd p
    rw [Sm.d, e, Sm.kids, Sm.ds]
    unfold inner blks
    simp only [if_neg n1, if_neg n2, List.flatten_nil]
  | ifs t y z =>
    have ht : t.vd 2 := by cases n <;> exact h.1
    refine ⟨?_, ?_, fun c hc => ?_⟩
    · rw [Sm.d]
      show isStmtL "if" [t.d, .tuple (Sm.ds y), .tuple (Sm.ds z)] = true
      unfold isStmtL
      rw [if_pos rfl]
      show (isTest 2 t.d && (true && true)) = true
      rw [ht.is]
      rfl
    · rw [Sm.d, Sm.kids, Sm.ds_app]
      show [Sm.ds y, Sm.ds z].flatten = _
      simp
    · cases n with
      | zero =>
        obtain ⟨_, rfl, rfl⟩ := h
        cases hc
      | succ n =>
        rcases List.mem_append.mp hc with hc | hc
        · exact ⟨n, h.2.1 c hc, by omega⟩
        · exact ⟨n, h.2.2 c hc, by omega⟩
  | rep k b =>
    have hk : 0 ≤ k ∧ k ≤ 8 := by cases n <;> exact ⟨h.1, h.2.1⟩
    refine ⟨?_, ?_, fun c hc => ?_⟩
    · rw [Sm.d]
      show isStmtL "repeat" [.int k, .tuple (Sm.ds b)] = true
      unfold isStmtL
      rw [if_neg (by decide +kernel), if_pos rfl]
      show ((decide (0 ≤ k) && decide (k ≤ 8)) && true) = true
      rw [decide_eq_true hk.1, decide_eq_true hk.2]
      rfl
    · rw [Sm.d, Sm.kids]
      show [Sm.ds b].flatten = _
      simp
    · cases n with
      | zero =>
        obtain ⟨_, _, rfl⟩ := h
        cases hc
      | succ n => exact ⟨n, h.2.2 c hc, by omega⟩
mutual
def Sm.rows (dep : Nat) : Sm → List (Nat × PyData)
  | .pl p => [(dep, p.d)]
  | .ifs t y z => (dep, .tuple [.str "if", t.d, .tuple (Sm.ds y), .tuple (Sm.ds z)]) :: (Sm.rowsL (dep + 1) y ++ Sm.rowsL (dep + 1) z)
  | .rep k b => (dep, .tuple [.str "repeat", .int k, .tuple (Sm.ds b)]) :: Sm.rowsL (dep + 1) b
def Sm.rowsL (dep : Nat) : List Sm → List (Nat × PyData)
  | [] => []
  | s :: r => Sm.rows dep s ++ Sm.rowsL dep r
end
theorem Sm.rowsL_app (n : Nat) : ∀ a b : List Sm, Sm.rowsL n (a ++ b) = Sm.rowsL n a ++ Sm.rowsL n b
  | [], b => by rw [List.nil_append, Sm.rowsL, List.nil_append]
  | s :: r, b => by rw [List.cons_append, Sm.rowsL, Sm.rowsL, Sm.rowsL_app n r b, List.append_assoc]
theorem Sm.rows_kids (n : Nat) (s : Sm) : Sm.rows n s = (n, s.d) :: Sm.rowsL (n + 1) s.kids := by
  cases s with
  | pl p => rw [Sm.rows, Sm.d, Sm.kids, Sm.rowsL]
  | ifs t y z => rw [Sm.rows, Sm.d, Sm.kids, Sm.rowsL_app]
  | rep k b => rw [Sm.rows, Sm.d, Sm.kids]
mutual
theorem Sm.rows_len (n : Nat) : ∀ s : Sm, (Sm.rows n s).length = s.size
  | .pl p => by rw [Sm.rows, Sm.size]; rfl
  | .ifs t y z => by rw [Sm.rows, Sm.size, List.length_cons, List.length_append, Sm.rowsL_len (n + 1) y, Sm.rowsL_len (n + 1) z]; omega
  | .rep k b => by rw [Sm.rows, Sm.size, List.length_cons, Sm.rowsL_len (n + 1) b]; omega
theorem Sm.rowsL_len (n : Nat) : ∀ b : List Sm, (Sm.rowsL n b).length = Sm.sizes b
  | [] => by rw [Sm.rowsL, Sm.sizes]; rfl
  | s :: r => by rw [Sm.rowsL, Sm.sizes, List.length_append, Sm.rows_len n s, Sm.rowsL_len n r]
end
def rowsT (T : List (Nat × Sm)) : List (Nat × PyData) := T.flatMap fun p => Sm.rows p.1 p.2
def dT (T : List (Nat × Sm)) : List (Nat × PyData) := T.map fun p => (p.1, p.2.d)
theorem rowsT_map (n : Nat) : ∀ b : List Sm, rowsT (b.map fun s => (n, s)) = Sm.rowsL n b
  | [] => by rw [Sm.rowsL]; rfl
  | s :: r => by
    have q := rowsT_map n r
    unfold rowsT at q ⊢
    rw [List.map_cons, List.flatMap_cons, q, Sm.rowsL]
theorem dT_map (n : Nat) (b : List Sm) : dT (b.map fun s => (n, s)) = (Sm.ds b).map fun e => (n, e) := by
  unfold dT
  rw [Sm.ds_map, List.map_map, List.map_map]
  rfl
def Ts.bare : Ts → Ts
  | .not t => t.bare
  | t => t
def Ts.word : Ts → Str
  | .not _ => "not"
  | .given _ => "given"
  | .rest _ _ _ => "rest"
  | .less _ _ => "less"
def Ts.high : Ts → Nat
  | .not t => t.high + 1
  | _ => 0
theorem Ts.headW {M : List Addr} {K : PySem.W.Frag} {H : Hp} {v : V} {t : Ts} (h : Dw M K H v t.d) : ∃ (a : Addr) (ys : List V), v = .ref a ∧ SqT K H a (.str t.word :: ys) ∧ atI (V.str t.word :: ys) 0 = some (V.str t.word) := by
  have key : ∀ {w : Str} {r : List PyData}, t.d = .tuple (.str w :: r) → t.word = w → ∃ (a : Addr) (ys : List V), v = .ref a ∧ SqT K H a (.str t.word :: ys) ∧ atI (V.str t.word :: ys) 0 = some (V.str t.word) := by
    intro w r e ew
    rw [e] at h
    obtain ⟨a, xs, rfl, hT, hL⟩ := h.items
    obtain ⟨x, ys, rfl, h0, hR⟩ := hL.inv
    obtain rfl := h0.isStr
    rw [ew]
    exact ⟨a, ys, rfl, hT, at_nn (Int.le_refl 0) rfl⟩
  cases t <;> exact key rfl rfl
def Sm.own (so : Str) (s : Sm) : Int := if so = "weight" then 1 else match s with
  | .ifs t _ _ => if t.bare.word = so then 1 else 0
  | _ => 0
mutual
def Sm.cnt (so : Str) : Sm → Int
  | .pl p => Sm.own so (.pl p)
  | .ifs t y z => Sm.own so (.ifs t y z) + (Sm.cnts so y + Sm.cnts so z)
  | .rep k b => Sm.own so (.rep k b) + Sm.cnts so b * k
def Sm.cnts (so : Str) : List Sm → Int
  | [] => 0
  | s :: r => Sm.cnt so s + Sm.cnts so r
end
theorem Sm.cnts_snoc (so : Str) (s : Sm) : ∀ a : List Sm, Sm.cnts so (a ++ [s]) = Sm.cnts so a + Sm.cnt so s
  | [] => by simp only [List.nil_append, Sm.cnts]; omega
  | u :: r => by simp only [List.cons_append, Sm.cnts]; rw [Sm.cnts_snoc so s r]; omega
def VdB : Nat → List Sm → Prop
  | 0, b => b = []
  | n + 1, b => ∀ s ∈ b, Sm.vd n s
def Sm.parts : Sm → List (List Sm)
  | .pl _ => []
  | .ifs _ y z => [y, z]
  | .rep _ b => [b]
theorem Sm.vd.parts {n : Nat} {s : Sm} (h : s.vd n) : ∀ b ∈ s.parts, VdB n b := by
  intro b hb
  cases s with
  | pl p => cases hb
  | ifs t y z =>
    cases n with
    | zero =>
      rcases List.mem_cons.mp hb with rfl | hb
      · exact h.2.1
      · rw [List.mem_singleton.mp hb]; exact h.2.2
    | succ n =>
      rcases List.mem_cons.mp hb with rfl | hb
      · exact h.2.1
      · rw [List.mem_singleton.mp hb]; exact h.2.2
  | rep k c =>
    cases n with
    | zero => rw [List.mem_singleton.mp hb]; exact h.2.2
    | succ n => rw [List.mem_singleton.mp hb]; exact h.2.2
theorem Sm.blks (s : Sm) : Aw.blks s.d = s.parts.map Sm.ds := by
  cases s with
  | pl p =>
    obtain ⟨u, r, e, n1, n2⟩ := Pl.hd p
    rw [Sm.d, e, Sm.parts]
    unfold Aw.blks
    simp only [if_neg n1, if_neg n2]
    rfl
  | ifs t y z => rw [Sm.d]; rfl
  | rep k b => rw [Sm.d]; rfl
/-- how often the blocks count -/
def Sm.again : Sm → Int
  | .rep k _ => k
  | _ => 1
theorem Sm.cnt_parts (so : Str) (s : Sm) : s.cnt so = s.own so + (s.parts.map (Sm.cnts so)).sum * s.again := by
  cases s with
  | pl p => simp [Sm.cnt, Sm.parts, Sm.again]
  | ifs t y z => simp [Sm.cnt, Sm.parts, Sm.again]
  | rep k b => simp [Sm.cnt, Sm.parts, Sm.again]
def errD (x : Str) : PyData := .tuple [.none, .str x]
def lim (p : List Sm) : PyData := if Sm.sizes p > 24 then errD "places" else if Sm.cnts "weight" p > 30 then errD "weight" else if Sm.cnts "rest" p > 2 then errD "rests" else if Sm.cnts "less" p > 2 then errD "comparings" else .none
open Classical in
noncomputable def treeOf (ds : List PyData) : List Sm := if h : ∃ b : List Sm, ds = Sm.ds b ∧ ∀ s ∈ b, Sm.vd 3 s then h.choose else []
theorem treeOf_spec {ds : List PyData} (h : ordErr ds = none) : ds = Sm.ds (treeOf ds) ∧ ∀ s ∈ treeOf ds, Sm.vd 3 s := by
  unfold treeOf
  rw [dif_pos (ordErr_view h)]
  exact (ordErr_view h).choose_spec
noncomputable def perr : PyData → PyData
  | .tuple ds => match ordErr ds with
    | some x => ordD (some x)
    | none => lim (treeOf ds)
  | _ => errD "program"
mutual
theorem Sm.size_dsz : ∀ s : Sm, s.size ≤ dsz s.d
  | .pl p => by rw [Sm.size]; exact dsz_pos _
  | .ifs t y z => by
    have a := Sm.sizes_dszs y
    have b := Sm.sizes_dszs z
    rw [Sm.size, Sm.d]
    simp only [dsz, dszs]
    omega
  | .rep k b => by
    have a := Sm.sizes_dszs b
    rw [Sm.size, Sm.d]
    simp only [dsz, dszs]
    omega
theorem Sm.sizes_dszs : ∀ b : List Sm, Sm.sizes b ≤ dszs (Sm.ds b)
  | [] => by rw [Sm.sizes]; exact Nat.zero_le _
  | s :: r => by
    have a := Sm.size_dsz s
    have b := Sm.sizes_dszs r
    rw [Sm.sizes, Sm.ds, dszs]
    omega
end
def spRows (K : PySem.W.Frag) : Sp := fun vs H Q _ => ∃ (M : List Addr) (v : V) (p : List Sm), vs = [v] ∧ Dw M K H v (.tuple (Sm.ds p)) ∧ (∀ s ∈ p, ∃ n, Sm.vd n s) ∧ dszs (Sm.ds p) ≤ 1000000 ∧
  ∀ (H' : Hp) (r : Addr) (us : List V), H r = none → Kp [] H H' → H' r = some (.lst us) → Stk M K H' us (Sm.rowsL 0 p) → Q (.ref r) H'
def spBare (K : PySem.W.Frag) : Sp := fun vs H Q _ => ∃ (M : List Addr) (v : V) (t : Ts), vs = [v] ∧ Dw M K H v t.d ∧ ∀ u, Dw M K H u t.bare.d → Q u H
def spOwn (K : PySem.W.Frag) : Sp := fun vs H Q _ => ∃ (M : List Addr) (v : V) (s : Sm) (so : Str), vs = [v, .str so] ∧ Dw M K H v s.d ∧ Q (.int (s.own so)) H
def spCnt (K : PySem.W.Frag) (n : Nat) : Sp := fun vs H Q _ => ∃ (M : List Addr) (v : V) (b : List Sm) (so : Str), vs = [v, .str so] ∧ Dw M K H v (.tuple (Sm.ds b)) ∧ VdB n b ∧
  ∀ H', Kp [] H H' → Q (.int (Sm.cnts so b)) H'
def spWt (K : PySem.W.Frag) : Sp := fun vs H Q _ => ∃ (M : List Addr) (v : V) (b : List Sm), vs = [v] ∧ Dw M K H v (.tuple (Sm.ds b)) ∧ VdB 4 b ∧
  ∀ H', Kp [] H H' → Q (.int (Sm.cnts "weight" b)) H'
noncomputable def spPerr (K : PySem.W.Frag) : Sp := fun vs H Q _ => ∃ (v : V) (d : PyData), vs = [v] ∧ Dw [] K H v d ∧ dsz d ≤ 1000000 ∧
  ∀ (H' : Hp) (r : V), Kp [] H H' → Dt K H' r (perr d) → Q r H'
theorem kept_mk {K : PySem.W.Frag} {h : Heap} {mg : Str → Option Value} {a : Addr} {od : Option Addr} {its : Array Value} {n : Nat} {sl : Array (Option Value)} (X : K.In h) (G : h.Ns mainGlobals mg)
    (z1 : PySem.W.nsIn K mainGlobals "KEPT" = some (some (.ref a))) (z2 : K.lookup a = some ⟨.type "tuple", od, .seq its n, sl⟩) (z3 : its.size ≤ 1000) (z4 : Vals (KEPTS.map V.str) its.toList) :
    ∃ a, mg "KEPT" = some (.ref a) ∧ ∀ H : Hp, SqT K H a (KEPTS.map V.str) :=
  ⟨a, PySem.W.mg_of X G z1, fun H => .inr ⟨_, its, n, z2, rfl, rfl, by rw [sizeLine_eq]; omega, z4⟩⟩
end Aw
namespace Aw
open PySem PySem.Spec L2
theorem Shw.int {i : Int} {k : Nat} (h1 : -(2 ^ 64) < i) (h2 : i < 2 ^ 64) : Shw (.int i) k 70 := by
  refine ⟨by rw [PyData.showable]; exact decide_eq_true (log2_small h1 h2), by rw [PyData.hasDict], by rw [PyData.depth]; exact Nat.zero_le _, ?_⟩
  rw [PyData.shown]
  have h : i.natAbs.log2 < 64 := by
    by_cases h : i.natAbs = 0
    · rw [h]
      decide
    · exact (Nat.log2_lt h).mpr (show i.natAbs < 2 ^ 64 by omega)
  have q := int_text_length_le (k := 64) (by decide) h
  show (Str.ofString (toString i)).length ≤ 70
  rw [ofString_length]
  omega
theorem Sm.vd.mono {m : Nat} : ∀ {n : Nat} {s : Sm}, s.vd m → m ≤ n → s.vd n := by
  induction m with
  | zero =>
    intro n s h hn
    cases s with
    | pl p => cases n <;> exact h
    | ifs t y z =>
      obtain ⟨h1, rfl, rfl⟩ := h
      cases n
      · exact ⟨h1, rfl, rfl⟩
      · exact ⟨h1, (fun _ q => nomatch q), (fun _ q => nomatch q)⟩
    | rep k b =>
      obtain ⟨h1, h2, rfl⟩ := h
      cases n
      · exact ⟨h1, h2, rfl⟩
      · exact ⟨h1, h2, (fun _ q => nomatch q)⟩
  | succ m ih =>
    intro n s h hn
    obtain ⟨n, rfl⟩ : ∃ k, n = k + 1 := ⟨n - 1, by omega⟩
    cases s with
    | pl p => exact h
    | ifs t y z => exact ⟨h.1, fun s q => ih (h.2.1 s q) (by omega), fun s q => ih (h.2.2 s q) (by omega)⟩
    | rep k b => exact ⟨h.1, h.2.1, fun s q => ih (h.2.2 s q) (by omega)⟩
section
variable {K : PySem.W.Frag} {σ : L2.St} {H0 : Hp} {te ta tb ti : TE} {ds es : List PyData} {i j k : Int}
theorem r_catA {H : Hp} {Q : VK} {v u : V} (hv : Dt K H v (.tuple ds)) (hu : Dt K H u (.tuple es)) (hz : ds.length + es.length ≤ 16777216)
    (h : ∀ H' w, Kp [] H H' → Dt K H' w (.tuple (ds ++ es)) → Q w H') : rCatA K v u H Q := by
  obtain ⟨a, xs, rfl, ha, la⟩ := hv.items
  obtain ⟨b, ys, rfl, hb, lb⟩ := hu.items
  refine ⟨a, b, xs, ys, rfl, rfl, ha, hb, by rw [la.len, lb.len, sizeLine_eq]; exact hz, fun e => ?_, fun _ e => ?_, fun _ _ p hp => ?_⟩
  · have q := la.len
    rw [e] at q
    obtain rfl : ds = [] := List.length_eq_zero_iff.mp q.symm
    exact h _ _ Kp.nil hu
  · have q := lb.len
    rw [e] at q
    obtain rfl : es = [] := List.length_eq_zero_iff.mp q.symm
    rw [List.append_nil] at h
    exact h _ _ Kp.nil hv
  · exact h _ _ (Kp.nil.new hp) (((la.app lb).kp (Kp.nil.new hp)).tup upd_same)
end
theorem Dt.ne_none {K : PySem.W.Frag} {H : Hp} {v : V} {d : PyData} (h : Dt K H v d) (n : d ≠ .none) : v ≠ .non := by
  intro e
  subst e
  cases h
  exact n rfl
theorem perr_none {d : PyData} (h : perr d = .none) : ∃ b : List Sm, d = .tuple (Sm.ds b) ∧ (∀ s ∈ b, Sm.vd 3 s) ∧ Sm.sizes b ≤ 24 ∧ Sm.cnts "weight" b ≤ 30 ∧ Sm.cnts "rest" b ≤ 2 ∧ Sm.cnts "less" b ≤ 2 := by
  cases d with
  | tuple ds =>
    rw [perr] at h
    cases ho : ordErr ds with
    | some x =>
      obtain ⟨p, x⟩ := x
      rw [ho] at h
      cases h
    | none =>
      rw [ho] at h
      have h : lim (treeOf ds) = .none := h
      obtain ⟨e, hv⟩ := treeOf_spec ho
      refine ⟨treeOf ds, by rw [← e], hv, ?_⟩
      unfold lim errD at h
      split at h
      · cases h
      split at h
      · cases h
      split at h
      · cases h
      split at h
      · cases h
      · omega
  | _ => cases h
end Aw
namespace Aw
open PySem PySem.Spec L2
structure NmV (H : Hp) (a : Addr) (xs : List Str) : Prop where
  h : H a = some (.lst (xs.map V.str))
  len : xs.length = 4
  ok : ∀ x ∈ xs, isNameS x = true
theorem NmV.kp {M : List Addr} {H H1 : Hp} {a : Addr} {xs : List Str} (h : NmV H a xs) (k : Kp M H H1) (n : a ∉ M) : NmV H1 a xs := ⟨k.get h.h n, h.len, h.ok⟩
theorem NmV.item {H : Hp} {a : Addr} {xs : List Str} (h : NmV H a xs) {i : Nat} {x : V} (e : (xs.map V.str)[i]? = some x) : ∃ z : Str, x = .str z ∧ isNameS z = true := by
  rw [List.getElem?_map] at e
  obtain ⟨z, hz, rfl⟩ := Option.map_eq_some_iff.mp e
  exact ⟨z, rfl, h.ok z (List.mem_of_getElem? hz)⟩
theorem Ex.vd.succ : ∀ {n : Nat} {e : Ex}, e.vd n → e.vd (n + 1)
  | 0, _, h => h.elim
  | _ + 1, .int _, h => h
  | _ + 1, .name _, h => h
  | _ + 1, .bin _ _ _, h => ⟨h.1.succ, h.2.imp id fun q => ⟨q.1, q.2.succ⟩⟩
theorem Ex.vd.mono {m n : Nat} {e : Ex} (h : e.vd m) (q : m ≤ n) : e.vd n := by
  induction q with
  | refl => exact h
  | step _ ih => exact ih.succ
def spExV (K : PySem.W.Frag) (m : Nat) : Sp := fun vs H Q _ => ∃ (d c nm : Addr) (n : Int) (xs : List Str), vs = [.ref d, .ref nm, .int m] ∧ Deck H d c n ∧ n + eDraws m < 10 ^ 12 ∧ NmV H nm xs ∧ nm ≠ d ∧ nm ≠ c ∧
  ∀ (H' : Hp) (v : V) (e : Ex) (n' : Int), Deck H' d c n' → n ≤ n' → n' ≤ n + eDraws m → Kp [d, c] H H' → Dt K H' v e.d → e.vd m → Q v H'
def spExVA (K : PySem.W.Frag) : Sp := fun vs H Q E => ∃ i : { m : Nat // 1 ≤ m ∧ m ≤ 3 }, spExV K i.1 vs H Q E
theorem spExVA.use {K : PySem.W.Frag} {H : Hp} {Q : VK} {E : XK} {d c nm : Addr} {n m : Int} {xs : List Str} (j : Nat) (D : Deck H d c n) (hn : n + 21 < 10 ^ 12) (N : NmV H nm xs) (n1 : nm ≠ d) (n2 : nm ≠ c) (hj : m = j) (m1 : 1 ≤ j) (m2 : j ≤ 3)
    (k : ∀ (H' : Hp) (v : V) (e : Ex) (n' : Int), Deck H' d c n' → n ≤ n' → n' ≤ n + 21 → Kp [d, c] H H' → Dt K H' v e.d → e.vd j → Q v H') : spExVA K [.ref d, .ref nm, .int m] H Q E := by
  have hE : eDraws j ≤ 21 := eDraws_le m2
  refine ⟨⟨j, m1, m2⟩, d, c, nm, n, xs, by rw [hj], D, by show n + ((eDraws j : Nat) : Int) < _; omega, N, n1, n2, fun H' v e n' D' q1 q2 k' hv he => ?_⟩
  have q2 : n' ≤ n + ((eDraws j : Nat) : Int) := q2
  exact k H' v e n' D' q1 (by omega) k' hv he
theorem Ts.vd.succ : ∀ {n : Nat} {t : Ts}, t.vd n → t.vd (n + 1)
  | n + 1, .not t, h => Ts.vd.succ (n := n) (t := t) h
  | n, .given x, h => by cases n <;> exact h
  | n, .rest e b r, h => by cases n <;> exact h
  | n, .less a b, h => by cases n <;> exact h
theorem Ts.vd.mono {m n : Nat} {t : Ts} (h : t.vd m) (q : m ≤ n) : t.vd n := by
  induction q with
  | refl => exact h
  | step _ ih => exact ih.succ
theorem Sm.cnts_one (so : Str) (s : Sm) : Sm.cnts so [s] = Sm.cnt so s := by rw [Sm.cnts, Sm.cnts, Int.add_zero]
theorem Sm.cnts_app (so : Str) : ∀ a b : List Sm, Sm.cnts so (a ++ b) = Sm.cnts so a + Sm.cnts so b
  | [], b => by rw [List.nil_append, Sm.cnts, Int.zero_add]
  | u :: r, b => by rw [List.cons_append, Sm.cnts, Sm.cnts, Sm.cnts_app so r b, Int.add_assoc]
/-- both sides of less are two deep at most -/
def Ts.lo : Ts → Prop
  | .not t => t.lo
  | .less a b => a.vd 2 ∧ b.vd 2
  | _ => True
mutual
def Sm.lo : Sm → Prop
  | .pl _ => True
  | .ifs t y z => t.lo ∧ Sm.los y ∧ Sm.los z
  | .rep _ b => Sm.los b
def Sm.los : List Sm → Prop
  | [] => True
  | s :: r => Sm.lo s ∧ Sm.los r
end
theorem Sm.los_app : ∀ a b : List Sm, Sm.los a → Sm.los b → Sm.los (a ++ b)
  | [], b, _, h => h
  | s :: r, b, h, g => by
    rw [Sm.los] at h
    rw [List.cons_append, Sm.los]
    exact ⟨h.1, Sm.los_app r b h.2 g⟩
/-- what is left behind rows that count so many times -/
structure Took (ti a b r s a' b' r' s' : Int) (x : List Sm) : Prop where
  a : a' = a - Sm.sizes x
  b : b' = b - ti * Sm.cnts "weight" x
  r : r' = r - ti * Sm.cnts "rest" x
  s : s' = s - ti * Sm.cnts "less" x
  l : Sm.los x
theorem Took.nil {ti a b r s : Int} : Took ti a b r s a b r s [] := by
  constructor <;> simp [Sm.sizes, Sm.cnts, Sm.los]
theorem Took.app {ti a b r s a1 b1 r1 s1 a2 b2 r2 s2 : Int} {x y : List Sm} (h : Took ti a b r s a1 b1 r1 s1 x) (g : Took ti a1 b1 r1 s1 a2 b2 r2 s2 y) : Took ti a b r s a2 b2 r2 s2 (x ++ y) := by
  have h1 := h.a; have h2 := h.b; have h3 := h.r; have h4 := h.s
  have g1 := g.a; have g2 := g.b; have g3 := g.r; have g4 := g.s
  constructor
  · rw [Sm.sizes_app]; omega
  · rw [Sm.cnts_app, Int.mul_add]; omega
  · rw [Sm.cnts_app, Int.mul_add]; omega
  · rw [Sm.cnts_app, Int.mul_add]; omega
  · exact Sm.los_app _ _ h.l g.l
/-- a program within all bounds -/
structure PgV (b : List Sm) : Prop where
  vd : ∀ s ∈ b, Sm.vd 3 s
  size : Sm.sizes b ≤ 24
  weight : Sm.cnts "weight" b ≤ 30
  rest : Sm.cnts "rest" b ≤ 2
  less : Sm.cnts "less" b ≤ 2
  lo : Sm.los b
theorem Ex.d_inj : ∀ {a b : Ex}, a.d = b.d → a = b
  | .int i, .int j, h => by cases h; rfl
  | .name x, .name y, h => by cases h; rfl
  | .bin o a b, .bin o' a' b', h => by
    rw [Ex.d, Ex.d] at h
    simp only [PyData.tuple.injEq, List.cons.injEq, PyData.str.injEq, and_true] at h
    rw [h.1, Ex.d_inj h.2.1, Ex.d_inj h.2.2]
  | .int _, .name _, h => by cases h
  | .int _, .bin _ _ _, h => by cases h
  | .name _, .int _, h => by cases h
  | .name _, .bin _ _ _, h => by cases h
  | .bin _ _ _, .int _, h => by cases h
  | .bin _ _ _, .name _, h => by cases h
theorem tup_head {a b : Str} {r s : List PyData} (h : PyData.tuple (.str a :: r) = .tuple (.str b :: s)) : a = b ∧ r = s := by
  simp only [PyData.tuple.injEq, List.cons.injEq, PyData.str.injEq] at h
  exact h
theorem Ts.d_inj : ∀ {a b : Ts}, a.d = b.d → a = b
  | .not t, .not u, h => by
    have q := (tup_head h).2
    simp only [List.cons.injEq, and_true] at q
    rw [Ts.d_inj q]
  | .given x, .given y, h => by
    have q := (tup_head h).2
    simp only [List.cons.injEq, PyData.str.injEq, and_true] at q
    rw [q]
  | .rest e b r, .rest e' b' r', h => by
    have q := (tup_head h).2
    simp only [List.cons.injEq, PyData.int.injEq, and_true] at q
    rw [Ex.d_inj q.1, q.2.1, q.2.2]
  | .less a b, .less a' b', h => by
    have q := (tup_head h).2
    simp only [List.cons.injEq, and_true] at q
    rw [Ex.d_inj q.1, Ex.d_inj q.2]
  | .not _, .given _, h => absurd (tup_head h).1 (by decide +kernel)
  | .not _, .rest _ _ _, h => absurd (tup_head h).1 (by decide +kernel)
  | .not _, .less _ _, h => absurd (tup_head h).1 (by decide +kernel)
  | .given _, .not _, h => absurd (tup_head h).1 (by decide +kernel)
  | .given _, .rest _ _ _, h => absurd (tup_head h).1 (by decide +kernel)
  | .given _, .less _ _, h => absurd (tup_head h).1 (by decide +kernel)
  | .rest _ _ _, .not _, h => absurd (tup_head h).1 (by decide +kernel)
  | .rest _ _ _, .given _, h => absurd (tup_head h).1 (by decide +kernel)
  | .rest _ _ _, .less _ _, h => absurd (tup_head h).1 (by decide +kernel)
  | .less _ _, .not _, h => absurd (tup_head h).1 (by decide +kernel)
  | .less _ _, .given _, h => absurd (tup_head h).1 (by decide +kernel)
  | .less _ _, .rest _ _ _, h => absurd (tup_head h).1 (by decide +kernel)
theorem Pl.d_inj {a b : Pl} (h : a.d = b.d) : a = b := by
  cases a <;> cases b <;> first
    | exact absurd (tup_head h).1 (by decide +kernel)
    | (have q := (tup_head h).2
       simp only [List.cons.injEq, PyData.str.injEq, and_true] at q
       first
         | rw [q]
         | rw [Ex.d_inj q]
         | rw [q.1, Ex.d_inj q.2])
mutual
theorem Sm.d_inj : ∀ {a b : Sm}, a.d = b.d → a = b
  | .pl p, .pl q, h => by rw [Sm.d, Sm.d] at h; rw [Pl.d_inj h]
  | .ifs t y z, .ifs t' y' z', h => by
    rw [Sm.d, Sm.d] at h
    have q := (tup_head h).2
    simp only [List.cons.injEq, PyData.tuple.injEq, and_true] at q
    rw [Ts.d_inj q.1, Sm.ds_inj q.2.1, Sm.ds_inj q.2.2]
  | .rep k b, .rep k' b', h => by
    rw [Sm.d, Sm.d] at h
    have q := (tup_head h).2
    simp only [List.cons.injEq, PyData.tuple.injEq, PyData.int.injEq, and_true] at q
    rw [q.1, Sm.ds_inj q.2]
  | .pl p, .ifs t y z, h => by
    rw [Sm.d, Sm.d] at h
    obtain ⟨u, r, e, n1, n2⟩ := Pl.hd p
    rw [e] at h
    exact absurd (tup_head h).1 n1
  | .pl p, .rep k b, h => by
    rw [Sm.d, Sm.d] at h
    obtain ⟨u, r, e, n1, n2⟩ := Pl.hd p
    rw [e] at h
    exact absurd (tup_head h).1 n2
  | .ifs t y z, .pl p, h => by
    rw [Sm.d, Sm.d] at h
    obtain ⟨u, r, e, n1, n2⟩ := Pl.hd p
    rw [e] at h
    exact absurd (tup_head h).1.symm n1
  | .rep k b, .pl p, h => by
    rw [Sm.d, Sm.d] at h
    obtain ⟨u, r, e, n1, n2⟩ := Pl.hd p
    rw [e] at h
    exact absurd (tup_head h).1.symm n2
  | .ifs t y z, .rep k b, h => by
    rw [Sm.d, Sm.d] at h
    exact absurd (tup_head h).1 (by decide +kernel)
  | .rep k b, .ifs t y z, h => by
    rw [Sm.d, Sm.d] at h
    exact absurd (tup_head h).1 (by decide +kernel)
theorem Sm.ds_inj : ∀ {a b : List Sm}, Sm.ds a = Sm.ds b → a = b
  | [], [], _ => rfl
  | s :: r, s' :: r', h => by
    rw [Sm.ds, Sm.ds] at h
    simp only [List.cons.injEq] at h
    rw [Sm.d_inj h.1, Sm.ds_inj h.2]
  | [], _ :: _, h => by rw [Sm.ds, Sm.ds] at h; cases h
  | _ :: _, [], h => by rw [Sm.ds, Sm.ds] at h; cases h
end
end Aw
namespace Aw
open PySem PySem.Spec L2
mutual
def shb : PyData → Bool
  | .none => true
  | .bool _ => true
  | .int i => decide (i.natAbs.log2 < 200)
  | .str x => PyData.strOk x
  | .list ds => shbs ds
  | .tuple ds => shbs ds
  | .dict [] => true
  | .dict [(.str x, .int i)] => PyData.strOk x && decide (x.length ≤ 8) && decide (i.natAbs.log2 < 200)
  | .dict _ => false
def shbs : List PyData → Bool
  | [] => true
  | d :: r => shb d && shbs r
end
/-- data of a size, that may be shown, of a depth -/
structure Dok (d : PyData) (z k : Nat) : Prop where
  sz : dsz d ≤ z
  sh : shb d = true
  dp : d.depth ≤ k
theorem Dok.mono {d : PyData} {z k z' k' : Nat} (h : Dok d z k) (hz : z ≤ z') (hk : k ≤ k') : Dok d z' k' := ⟨Nat.le_trans h.sz hz, h.sh, Nat.le_trans h.dp hk⟩
theorem Dok.by {d : PyData} {z k : Nat} (h : (decide (dsz d ≤ z) && shb d && decide (d.depth ≤ k)) = true) : Dok d z k := by
  rw [Bool.and_eq_true, Bool.and_eq_true, decide_eq_true_eq, decide_eq_true_eq] at h
  exact ⟨h.1.1, h.1.2, h.2⟩
def Oc (M : List Addr) (H : Hp) : Prop := ∀ a ∈ M, ∃ o, H a = some o
theorem Oc.new {M : List Addr} {H H1 : Hp} {p : Addr} (h : Oc M H) (k : Kp [] H H1) (hp : H1 p = none) : p ∉ M := fun m => by
  obtain ⟨o, e⟩ := h p m
  rw [k.get e (by simp)] at hp
  cases hp
def CW (M : List Addr) (K : PySem.W.Frag) (σ : L2.St) (H0 : Hp) (te : TE) (d : PyData) : Prop := ∀ (H : Hp) (Q : VK), Kp [] H0 H → (∀ H' v, Kp [] H H' → Dw M K H' v d → Q v H') → te σ H Q
def CWs (M : List Addr) (K : PySem.W.Frag) (σ : L2.St) (H0 : Hp) (ts : TA) (ds : List PyData) : Prop := ∀ (H : Hp) (R : List V → Hp → Prop), Kp [] H0 H → (∀ H' vs, Kp [] H H' → DwL M K H' vs ds → R vs H') → ts σ H R
section
variable {M : List Addr} {K : PySem.W.Frag} {σ : L2.St} {H0 : Hp} {te ta tb : TE} {ts : TA} {d : PyData} {ds es : List PyData}
theorem DwL.tup {H : Hp} {vs : List V} {a : Addr} (h : DwL M K H vs ds) (e : H a = some (.tup vs)) : Dw M K H (.ref a) (.tuple ds) := .tup (SqT.of e) h.len h.all
theorem DwL.lst {H : Hp} {vs : List V} {a : Addr} (h : DwL M K H vs ds) (e : H a = some (.lst vs)) (n : a ∉ M) : Dw M K H (.ref a) (.list ds) := .lst e n h.len h.all
theorem DwL.app {H : Hp} {vs us : List V} (h : DwL M K H vs ds) (g : DwL M K H us es) : DwL M K H (vs ++ us) (ds ++ es) := by
  refine ⟨by rw [List.length_append, List.length_append, h.len, g.len], fun i u e q q' => ?_⟩
  by_cases hi : i < vs.length
  · rw [List.getElem?_append_left hi] at q
    rw [List.getElem?_append_left (by rw [← h.len]; exact hi)] at q'
    exact h.all i u e q q'
  · rw [List.getElem?_append_right (by omega)] at q
    rw [List.getElem?_append_right (by rw [← h.len]; omega), ← h.len] at q'
    exact g.all _ u e q q'
theorem DwL.mem {H : Hp} {vs : List V} {x : V} (h : DwL M K H vs ds) (m : x ∈ vs) : ∃ d ∈ ds, Dw M K H x d := by
  obtain ⟨i, hi, rfl⟩ := List.mem_iff_getElem.mp m
  obtain ⟨d, e, q⟩ := h.get (List.getElem?_eq_getElem hi)
  exact ⟨d, List.mem_of_getElem? e, q⟩
theorem cw_str {x : Str} : CW M K σ H0 (tC (.str x)) (.str x) := fun H Q _ h => h H _ Kp.nil (.str x)
theorem cw_int {x : Int} : CW M K σ H0 (tC (.int x)) (.int x) := fun H Q _ h => h H _ Kp.nil (.int x)
theorem cw_bl {x : Bool} : CW M K σ H0 (tC (.bl x)) (.bool x) := fun H Q _ h => h H _ Kp.nil (.bl x)
theorem cw_non : CW M K σ H0 (tC .non) .none := fun H Q _ h => h H _ Kp.nil .non
theorem cw_var {i : Nat} {v : V} (e : σ[i]? = some (some v)) (hv : Dw M K H0 v d) : CW M K σ H0 (tVar i) d := fun H Q k h => ⟨v, e, h H _ Kp.nil (hv.kp0 k)⟩
theorem cw_neg {i : Int} : CW M K σ H0 (tUn (rU fun i => .int (-i)) (tC (.int i))) (.int (-i)) := fun H Q _ h => r_un (r_C (r_U (h H _ Kp.nil (.int _))))
theorem cw_pow {i j : Int} (h0 : CPow i j) : CW M K σ H0 (tOp (rI CPow fun i j => .int (i ^ j.toNat)) (tC (.int i)) (tC (.int j))) (.int (i ^ j.toNat)) := fun H Q _ h => r_op (r_C (r_C (r_I (h H _ Kp.nil (.int _)) h0)))
theorem cws_nil : CWs M K σ H0 tNil [] := fun H R _ h => h H _ Kp.nil DwL.nil
theorem cws_cons (a : CW M K σ H0 te d) (b : CWs M K σ H0 ts ds) : CWs M K σ H0 (tCons te ts) (d :: ds) := fun H R k h =>
  a H _ k fun H1 v k1 hv => b H1 _ (k.trans k1) fun H2 vs k2 hs => h H2 (v :: vs) (k1.trans k2) (DwL.cons (hv.kp0 k2) hs)
theorem cw_tup (b : CWs M K σ H0 ts ds) (hz : ds.length ≤ 16777216) : CW M K σ H0 (tTup ts) (.tuple ds) := fun H Q k h =>
  b H _ k fun H1 vs k1 hs => ⟨by rw [hs.len, sizeLine_eq]; exact hz, fun p hp => h _ _ (k1.new hp) ((hs.kp0 (Kp.nil.new hp)).tup upd_same)⟩
theorem cw_lst (hM : Oc M H0) (b : CWs M K σ H0 ts ds) (hz : ds.length ≤ 16777216) : CW M K σ H0 (tLst ts) (.list ds) := fun H Q k h =>
  b H _ k fun H1 vs k1 hs => ⟨by rw [hs.len, sizeLine_eq]; exact hz, fun p hp => h _ _ (k1.new hp) ((hs.kp0 (Kp.nil.new hp)).lst upd_same (hM.new (k.trans k1) hp))⟩
theorem cw_d0 (hM : Oc M H0) : CW M K σ H0 tDNewK (.dict []) := fun H Q k h p hp => h _ _ (Kp.nil.new hp) (.dct upd_same (hM.new k hp) rfl (fun i kv p e => by simp at e) (fun i kv p e => by simp at e))
theorem cw_d1 {x : Str} {i : Int} (hM : Oc M H0) : CW M K σ H0 (tDisp [(tC (.str x), tC (.int i))]) (.dict [(.str x, .int i)]) := fun H Q k h p hp => by
  refine r_pcons (r_C (r_C (r_pnil ⟨upd_same, [(Sum.inr x, .int i)], rfl, by simp, ?_⟩)))
  have e : mergeK [] [((Sum.inr x : Key), V.int i)] = [(Sum.inr x, .int i)] := rfl
  rw [e, upd_upd]
  refine h _ _ (Kp.nil.new hp) (.dct upd_same (hM.new k hp) rfl (fun j kv p e e' => ?_) (fun j kv p e e' => ?_))
  · match j, e, e' with
    | 0, e, e' => cases e; cases e'; rfl
  · match j, e, e' with
    | 0, e, e' => cases e; cases e'; exact .int i
theorem CW.use {H : Hp} {Q : VK} (a : CW M K σ H te d) (h : ∀ H' v, Kp [] H H' → Dw M K H' v d → Q v H') : te σ H Q := a H Q Kp.nil h
theorem CWs.use {H : Hp} {R : List V → Hp → Prop} (a : CWs M K σ H ts ds) (h : ∀ H' vs, Kp [] H H' → DwL M K H' vs ds → R vs H') : ts σ H R := a H R Kp.nil h
def cutD {α : Type} (xs : List α) (lo hi : Option Int) : List α := (xs.drop (HT.sIx xs.length 0 lo)).take (HT.sIx xs.length xs.length hi - HT.sIx xs.length 0 lo)
end
theorem name_ok {x : Str} (h : isNameS x = true) : PyData.strOk x = true ∧ x.length ≤ 8 := by
  unfold isNameS at h
  simp only [Bool.and_eq_true, decide_eq_true_eq] at h
  obtain ⟨⟨⟨⟨_, h1⟩, _⟩, h2⟩, _⟩ := h
  refine ⟨?_, h1⟩
  unfold PyData.strOk
  rw [Array.all_eq_true_iff_forall_mem]
  intro c hc
  have q : ∀ c ∈ SGN.cps.toList, c < 1114112 := by decide +kernel
  exact decide_eq_true (q c (of_decide_eq_true (List.all_eq_true.mp h2 c (Array.mem_def.mp hc))))
theorem word_ok {x : Str} (h : isWordS x = true) : PyData.strOk x = true ∧ x.length ≤ 8 := by
  unfold isWordS at h
  simp only [Bool.and_eq_true, decide_eq_true_eq] at h
  obtain ⟨⟨⟨_, h1⟩, _⟩, h2⟩ := h
  refine ⟨?_, h1⟩
  unfold PyData.strOk
  rw [Array.all_eq_true_iff_forall_mem]
  intro c hc
  have q : ∀ c ∈ SGN.cps.toList, c < 1114112 := by decide +kernel
  exact decide_eq_true (q c (of_decide_eq_true (List.all_eq_true.mp h2 c (Array.mem_def.mp hc))))
theorem small_log {i : Int} (h1 : -1000 ≤ i) (h2 : i ≤ 1000) : i.natAbs.log2 < 200 := by
  by_cases h : i.natAbs = 0
  · rw [h]
    decide
  · exact Nat.lt_of_lt_of_le ((Nat.log2_lt (k := 10) h).mpr (by omega)) (by decide)
theorem Dok.int {i : Int} (h1 : -1000 ≤ i) (h2 : i ≤ 1000) : Dok (.int i) 1 0 := ⟨by rw [dsz]; omega, by rw [shb]; exact decide_eq_true (small_log h1 h2), by rw [PyData.depth]; omega⟩
theorem Dok.str {x : Str} {n : Nat} (h : PyData.strOk x = true ∧ x.length ≤ n) : Dok (.str x) (n + 1) 0 := ⟨by rw [dsz]; omega, by rw [shb]; exact h.1, by rw [PyData.depth]; omega⟩
theorem Dok.nil {k : Nat} : Dok (.tuple []) 1 (k + 1) := ⟨by simp [dsz, dszs], by simp [shb, shbs], by simp [PyData.depth, PyData.depthAll]⟩
/-- lists of data -/
structure Doks (ds : List PyData) (z k : Nat) : Prop where
  sz : dszs ds ≤ z
  sh : shbs ds = true
  dp : PyData.depthAll ds ≤ k
theorem Doks.nil {k : Nat} : Doks [] 0 k := ⟨by rw [dszs]; omega, by rw [shbs], by rw [PyData.depthAll]; omega⟩
theorem Doks.cons {d : PyData} {ds : List PyData} {z z' k k' : Nat} (a : Dok d z k') (b : Doks ds z' k) (h : k' ≤ k) : Doks (d :: ds) (z + z') k := by
  have := a.sz; have := b.sz; have := a.dp; have := b.dp
  exact ⟨by rw [dszs]; omega, by rw [shbs, a.sh, b.sh]; rfl, by rw [PyData.depthAll]; omega⟩
theorem Doks.tup {ds : List PyData} {z k : Nat} (h : Doks ds z k) : Dok (.tuple ds) (z + 1) (k + 1) := by
  have := h.sz; have := h.dp
  exact ⟨by rw [dsz]; omega, by rw [shb]; exact h.sh, by rw [PyData.depth]; omega⟩
theorem Dok.lst {ds : List PyData} {z k : Nat} (h : Dok (.tuple ds) z k) : Dok (.list ds) z k := by
  have h1 := h.sz; have h2 := h.dp; have h3 := h.sh
  rw [dsz] at h1
  rw [PyData.depth] at h2
  rw [shb] at h3
  exact ⟨by rw [dsz]; exact h1, by rw [shb]; exact h3, by rw [PyData.depth]; exact h2⟩
theorem lit_ok {x : Str} {n : Nat} (h : (PyData.strOk x && decide (x.length ≤ n)) = true) : PyData.strOk x = true ∧ x.length ≤ n := by
  rw [Bool.and_eq_true, decide_eq_true_eq] at h
  exact h
def eZ : Nat → Nat
  | 0 => 0
  | n + 1 => 2 * eZ n + 10
theorem Ex.vd.dok : ∀ {n : Nat} {e : Ex}, e.vd n → Dok e.d (eZ n) n
  | 0, _, h => h.elim
  | n + 1, .int i, h => (Dok.int (by have := h.1; omega) (by have := h.2; omega)).mono (by unfold eZ; omega) (by omega)
  | n + 1, .name x, h => (Dok.str (name_ok h)).mono (by unfold eZ; omega) (by omega)
  | n + 1, .bin o a b, h => by
    obtain ⟨hb, h⟩ := h
    have qb := Ex.vd.dok hb
    have key : ∀ {o : Str}, PyData.strOk o = true ∧ o.length ≤ 5 → Dok a.d (eZ n) n → Dok (Ex.bin o a b).d (eZ (n + 1)) (n + 1) := fun ho qa =>
      (Doks.tup (Doks.cons (Dok.str ho) (Doks.cons qa (Doks.cons qb (Doks.nil (k := n)) (Nat.le_refl _)) (Nat.le_refl _)) (Nat.zero_le _))).mono (by show _ ≤ 2 * eZ n + 10; omega) (by omega)
    rcases h with ⟨rfl, i, rfl, h1, h2⟩ | ⟨ho, ha⟩
    · refine key (lit_ok (by decide +kernel)) ((Dok.int (by omega) (by omega)).mono ?_ (by omega))
      cases n with
      | zero => exact hb.elim
      | succ n => unfold eZ; omega
    · refine key ?_ (Ex.vd.dok ha)
      rcases ho with rfl | rfl <;> exact lit_ok (by decide +kernel)
theorem Ts.vd.dok : ∀ {n : Nat} {t : Ts}, t.vd n → Dok t.d (5 * n + 160) (n + 4)
  | n + 1, .not t, h => by
    have q := Ts.vd.dok (n := n) (t := t) h
    exact (Doks.tup (Doks.cons (Dok.str (lit_ok (x := "not") (n := 3) (by decide +kernel))) (Doks.cons q (Doks.nil (k := n + 4)) (Nat.le_refl _)) (by omega))).mono (by omega) (by omega)
  | n, .given x, h => by
    have q : isNameS x = true := by cases n <;> exact h
    exact (Doks.tup (Doks.cons (Dok.str (lit_ok (x := "given") (n := 5) (by decide +kernel))) (Doks.cons (Dok.str (name_ok q)) (Doks.nil (k := 0)) (by omega)) (by omega))).mono (by omega) (by omega)
  | n, .rest e b r, h => by
    have q : e.vd 3 ∧ 2 ≤ b ∧ b ≤ 6 ∧ 0 ≤ r ∧ r ≤ b - 1 := by cases n <;> exact h
    obtain ⟨q, b0, b1, r0, r1⟩ := q
    have e3 : eZ 3 = 70 := rfl
    exact (Doks.tup (Doks.cons (Dok.str (lit_ok (x := "rest") (n := 5) (by decide +kernel))) (Doks.cons q.dok (Doks.cons (Dok.int (by omega) (by omega)) (Doks.cons (Dok.int (by omega) (by omega)) (Doks.nil (k := 3)) (by omega)) (by omega)) (by omega)) (by omega))).mono (by omega) (by omega)
  | n, .less a b, h => by
    have q : a.vd 3 ∧ b.vd 3 := by cases n <;> exact h
    have e3 : eZ 3 = 70 := rfl
    exact (Doks.tup (Doks.cons (Dok.str (lit_ok (x := "less") (n := 5) (by decide +kernel))) (Doks.cons q.1.dok (Doks.cons q.2.dok (Doks.nil (k := 3)) (by omega)) (by omega)) (by omega))).mono (by omega) (by omega)
theorem Pl.vd.dok {p : Pl} (h : p.vd) : Dok p.d 100 4 := by
  have e3 : eZ 3 = 70 := rfl
  cases p with
  | set x e => exact (Doks.tup (Doks.cons (Dok.str (lit_ok (x := "set") (n := 5) (by decide +kernel))) (Doks.cons (Dok.str (name_ok h.1)) (Doks.cons h.2.dok (Doks.nil (k := 3)) (by omega)) (by omega)) (by omega))).mono (by omega) (by omega)
  | unset x => exact (Doks.tup (Doks.cons (Dok.str (lit_ok (x := "unset") (n := 5) (by decide +kernel))) (Doks.cons (Dok.str (name_ok h)) (Doks.nil (k := 3)) (by omega)) (by omega))).mono (by omega) (by omega)
  | tell e => exact (Doks.tup (Doks.cons (Dok.str (lit_ok (x := "tell") (n := 5) (by decide +kernel))) (Doks.cons (Ex.vd.dok (n := 3) h) (Doks.nil (k := 3)) (by omega)) (by omega))).mono (by omega) (by omega)
  | say x => exact (Doks.tup (Doks.cons (Dok.str (lit_ok (x := "say") (n := 5) (by decide +kernel))) (Doks.cons (Dok.str (word_ok h)) (Doks.nil (k := 3)) (by omega)) (by omega))).mono (by omega) (by omega)
  | stop x => exact (Doks.tup (Doks.cons (Dok.str (lit_ok (x := "stop") (n := 5) (by decide +kernel))) (Doks.cons (Dok.str (word_ok h)) (Doks.nil (k := 3)) (by omega)) (by omega))).mono (by omega) (by omega)
theorem Sm.vd.doks : ∀ (n : Nat) (b : List Sm), VdB n b → Doks (Sm.ds b) (200 * Sm.sizes b) (2 * n + 6) := by
  intro n
  induction n with
  | zero =>
    intro b h
    have h : b = [] := h
    subst h
    rw [Sm.ds, Sm.sizes]
    exact Doks.nil
  | succ n ih =>
    intro b h
    induction b with
    | nil =>
      rw [Sm.ds, Sm.sizes]
      exact Doks.nil
    | cons s r ihr =>
      have hr := ihr fun z hz => h z (List.mem_cons_of_mem _ hz)
      have hs : Dok s.d (200 * s.size) (2 * (n + 1) + 6) := by
        have hv := h s (List.mem_cons_self ..)
        have hp := hv.parts
        cases s with
        | pl p =>
          have q : p.vd := by cases n <;> exact hv
          rw [Sm.d, Sm.size]
          exact q.dok.mono (by omega) (by omega)
        | ifs t y z =>
          have ht : t.vd 2 := by cases n <;> exact hv.1
          have q1 := ih y (hp y (by simp [Sm.parts]))
          have q2 := ih z (hp z (by simp [Sm.parts]))
          rw [Sm.d, Sm.size]
          exact (Doks.tup (Doks.cons (Dok.str (lit_ok (x := "if") (n := 2) (by decide +kernel))) (Doks.cons ht.dok (Doks.cons q1.tup (Doks.cons q2.tup (Doks.nil (k := 2 * n + 7)) (by omega)) (by omega)) (by omega)) (by omega))).mono (by omega) (by omega)
        | rep k b =>
          have hk : 0 ≤ k ∧ k ≤ 8 := by cases n <;> exact ⟨hv.1, hv.2.1⟩
          have q1 := ih b (hp b (by simp [Sm.parts]))
          rw [Sm.d, Sm.size]
          exact (Doks.tup (Doks.cons (Dok.str (lit_ok (x := "repeat") (n := 6) (by decide +kernel))) (Doks.cons (Dok.int (by omega) (by omega)) (Doks.cons q1.tup (Doks.nil (k := 2 * n + 7)) (by omega)) (by omega)) (by omega))).mono (by omega) (by omega)
      rw [Sm.ds, Sm.sizes]
      have q := Doks.cons hs hr (Nat.le_refl _)
      exact ⟨by have := q.sz; omega, q.sh, q.dp⟩
theorem PgV.dok {b : List Sm} (h : PgV b) : Dok (.tuple (Sm.ds b)) 4801 15 := by
  have q := (Sm.vd.doks 4 b h.vd).tup
  have := h.size
  exact q.mono (by omega) (by omega)
theorem Oc.kp {M : List Addr} {H H1 : Hp} (h : Oc M H) (k : Kp [] H H1) : Oc M H1 := fun a m => by
  obtain ⟨o, e⟩ := h a m
  exact ⟨o, k.get e (by simp)⟩
theorem dcM {d c : Addr} {M : List Addr} : ∀ b ∈ [d, c], b ∈ d :: c :: M := fun b hb => by
  simp only [List.mem_cons, List.not_mem_nil, or_false] at hb ⊢
  rcases hb with rfl | rfl
  · exact .inl rfl
  · exact .inr (.inl rfl)
end Aw
namespace Aw
open PySem PySem.Spec L2
structure NmsW (H : Hp) (a : Addr) (xs : List Str) : Prop where
  h : H a = some (.lst (xs.map V.str))
  ne : 1 ≤ xs.length
  ok : ∀ x ∈ xs, isNameS x = true
  len : xs.length ≤ 100
theorem NmsW.kp {M : List Addr} {H H1 : Hp} {a : Addr} {xs : List Str} (h : NmsW H a xs) (k : Kp M H H1) (n : a ∉ M) : NmsW H1 a xs := ⟨k.get h.h n, h.ne, h.ok, h.len⟩
theorem NmsW.item {H : Hp} {a : Addr} {xs : List Str} (h : NmsW H a xs) {i : Nat} {x : V} (e : (xs.map V.str)[i]? = some x) : ∃ z : Str, x = .str z ∧ isNameS z = true := by
  rw [List.getElem?_map] at e
  obtain ⟨z, hz, rfl⟩ := Option.map_eq_some_iff.mp e
  exact ⟨z, rfl, h.ok z (List.mem_of_getElem? hz)⟩
theorem name_sok {x : Str} (h : isNameS x = true) : Sok x 8 := by
  unfold isNameS at h
  simp only [Bool.and_eq_true, decide_eq_true_eq] at h
  rw [Sok.iff]
  refine ⟨fun c hc => ?_, by rw [Array.length_toList]; exact h.1.1.1.2⟩
  have hs : c ∈ SGN.cps.toList := of_decide_eq_true (List.all_eq_true.mp h.1.2 c hc)
  have : ∀ c ∈ SGN.cps.toList, c < 1114112 := by decide +kernel
  exact this c hs
/-- an expression is made -/
def spExprW (K : PySem.W.Frag) (m : Nat) : Sp := fun vs H Q _ => ∃ (d c nm : Addr) (n : Int) (xs : List Str), vs = [.ref d, .ref nm, .int m] ∧ Deck H d c n ∧ n + eDraws m < 10 ^ 12 ∧ NmsW H nm xs ∧ nm ≠ d ∧ nm ≠ c ∧
  ∀ (H' : Hp) (v : V) (e : Ex) (n' : Int), Deck H' d c n' → n ≤ n' → n' ≤ n + eDraws m → Kp [d, c] H H' → Dt K H' v e.d → e.vd m → Q v H'
def spExprAW (K : PySem.W.Frag) : Sp := fun vs H Q E => ∃ i : { m : Nat // 1 ≤ m ∧ m ≤ 3 }, spExprW K i.1 vs H Q E
theorem spExprAW.use {K : PySem.W.Frag} {H : Hp} {Q : VK} {E : XK} {d c nm : Addr} {n m : Int} {xs : List Str} (D : Deck H d c n) (hn : n + 21 < 10 ^ 12) (N : NmsW H nm xs) (n1 : nm ≠ d) (n2 : nm ≠ c) (m1 : 1 ≤ m) (m2 : m ≤ 3)
    (k : ∀ (H' : Hp) (v : V) (e : Ex) (n' : Int), Deck H' d c n' → n ≤ n' → n' ≤ n + 21 → Kp [d, c] H H' → Dt K H' v e.d → e.vd 3 → Q v H') : spExprAW K [.ref d, .ref nm, .int m] H Q E := by
  have e : ((m.toNat : Nat) : Int) = m := Int.toNat_of_nonneg (by omega)
  have hE : eDraws m.toNat ≤ 21 := eDraws_le (by omega)
  refine ⟨⟨m.toNat, by omega⟩, d, c, nm, n, xs, by rw [e], D, by show n + ((eDraws m.toNat : Nat) : Int) < _; omega, N, n1, n2, fun H' v e n' D' q1 q2 k' hv he => ?_⟩
  have q2 : n' ≤ n + ((eDraws m.toNat : Nat) : Int) := q2
  exact k H' v e n' D' q1 (by omega) k' hv (Ex.vd.mono (m := m.toNat) he (by omega))
def tword (so : Int) : Str := if so = 2 then "rest" else if so = 3 then "less" else "given"
/-- what the statements take of what is left, done ti times -/
structure Lq (ti : Int) (x : List Sm) (b r s b' r' s' : Int) : Prop where
  w : ti * Sm.cnts "weight" x ≤ b - b'
  r : ti * Sm.cnts "rest" x ≤ r - r'
  l : ti * Sm.cnts "less" x ≤ s - s'
  b0 : 0 ≤ b'
  r0 : 0 ≤ r'
  s0 : 0 ≤ s'
theorem Lq.nil {ti b r s : Int} (h1 : 0 ≤ b) (h2 : 0 ≤ r) (h3 : 0 ≤ s) : Lq ti [] b r s b r s := by
  refine ⟨?_, ?_, ?_, h1, h2, h3⟩ <;> (rw [Sm.cnts, Int.mul_zero]; omega)
theorem Lq.app {ti : Int} {x y : List Sm} {b r s b1 r1 s1 b2 r2 s2 : Int} (h : Lq ti x b r s b1 r1 s1) (g : Lq ti y b1 r1 s1 b2 r2 s2) : Lq ti (x ++ y) b r s b2 r2 s2 := by
  have h1 := h.w; have h2 := h.r; have h3 := h.l; have g1 := g.w; have g2 := g.r; have g3 := g.l
  refine ⟨?_, ?_, ?_, g.b0, g.r0, g.s0⟩ <;> (rw [Sm.cnts_app, Int.mul_add]; omega)
theorem Lq.rep {ti k : Int} {y : List Sm} {b r s b1 r1 s1 : Int} (h : Lq (ti * k) y (b - ti) r s b1 r1 s1) : Lq ti [.rep k y] b r s b1 r1 s1 := by
  have h1 := h.w; have h2 := h.r; have h3 := h.l
  have e : ∀ so, ti * (Sm.cnts so y * k) = (ti * k) * Sm.cnts so y := fun so => by rw [Int.mul_comm (Sm.cnts so y) k, ← Int.mul_assoc]
  refine ⟨?_, ?_, ?_, h.b0, h.r0, h.s0⟩
  · rw [Sm.cnts_one, Sm.cnt, Int.mul_add, e]
    show ti * 1 + _ ≤ _
    omega
  · rw [Sm.cnts_one, Sm.cnt, Int.mul_add, e]
    show ti * 0 + _ ≤ _
    omega
  · rw [Sm.cnts_one, Sm.cnt, Int.mul_add, e]
    show ti * 0 + _ ≤ _
    omega
/-- the blocks of an if and its test; its own weight was taken before -/
theorem Lq.ifs {ti so : Int} {t : Ts} {y z : List Sm} {b r s r1 s1 b2 r2 s2 : Int} (ht : t.bare.word = tword so) (hso : so = 2 ∨ so = 3 ∨ so = 4) (hr : r1 = if so = 2 then r - ti else r) (hs : s1 = if so = 3 then s - ti else s)
    (h : Lq ti (y ++ z) (b - ti) r1 s1 b2 r2 s2) : Lq ti [.ifs t y z] b r s b2 r2 s2 := by
  have h1 := h.w; have h2 := h.r; have h3 := h.l
  rw [Sm.cnts_app] at h1 h2 h3
  have or_ : Sm.own "rest" (.ifs t y z) = if so = 2 then 1 else 0 := by
    unfold Sm.own tword at *
    rw [if_neg (by decide +kernel)]
    dsimp only
    rw [ht]
    rcases hso with rfl | rfl | rfl <;> decide +kernel
  have ol : Sm.own "less" (.ifs t y z) = if so = 3 then 1 else 0 := by
    unfold Sm.own tword at *
    rw [if_neg (by decide +kernel)]
    dsimp only
    rw [ht]
    rcases hso with rfl | rfl | rfl <;> decide +kernel
  refine ⟨?_, ?_, ?_, h.b0, h.r0, h.s0⟩
  · rw [Sm.cnts_one, Sm.cnt, Int.mul_add]
    show ti * 1 + _ ≤ _
    omega
  · rw [Sm.cnts_one, Sm.cnt, Int.mul_add, or_]
    rcases hso with rfl | rfl | rfl <;> simp at hr ⊢ <;> omega
  · rw [Sm.cnts_one, Sm.cnt, Int.mul_add, ol]
    rcases hso with rfl | rfl | rfl <;> simp at hs ⊢ <;> omega
end Aw
namespace Aw
open PySem PySem.Spec PyProof.Rows L2
section
variable {P : Program} {w : World} {K : PySem.W.Frag} {mg : Str → Option Value} {base : Heap} {CX : CXT}
/-- the def nm, reached by the name x -/
def DfA (K : PySem.W.Frag) (mg : Str → Option Value) (x nm : Str) (st : Stmt) (ps : List Str) : Prop :=
  ∃ (f : Addr) (fd : FuncData), Fun K nm nm st f fd ∧ mg x = some (.ref f) ∧ Binds K fd ps []
theorem DfA.has {x nm : Str} {st : Stmt} {ps N : List Str} {k : Nat} {sp : Sp} (d : DfA K mg x nm st ps)
    (S : FnScope N ps (defScope st)) (len : ∀ vs H Q E, sp vs H Q E → vs.length = ps.length)
    (hb : ∀ (f : Addr) (cdv : Value) (A : Around) (outer : List Env) (s : Shared) (H : Hp) (vs : List V) (Q : VK) (E : XK),
      RoomG k (A.deeper (envOfC nm (defScope st) s.heap.objs.size f cdv)) → sp vs H Q E →
      ∃ t, PSs (cxOf CX0 P w K mg base N nm (defScope st) f cdv A outer s H E).nox (defBody st) t ∧
        t { nx := fun _ H' => Q .non H', rt := Q } (start N vs) H) : Has P w K mg base CX0 x ps (k + 1) sp := by
  obtain ⟨f, fd, F, m, b⟩ := d
  obtain ⟨oc, od, kV, doc, pm, an, cdv, ct, osl, rfl, lk, hcd⟩ := F.ex
  refine ⟨f, _, ⟨F.kp, oc, od, osl, lk⟩, m, b, fnG_of lk hcd S len fun A outer s H vs Q E hr hsp => ?_⟩
  obtain ⟨t, h, q⟩ := hb f cdv A outer s H vs Q E hr hsp
  exact ⟨t, h.nox, q⟩
theorem dfa_mk {h : Heap} {x nm : Str} {st : Stmt} {ps : List Str} {f : Addr}
    {oc kV doc pm cdv ct : Value} {od an : Option Addr} {osl : Array (Option Value)} (X : K.In h) (G : h.Ns mainGlobals mg)
    (a : PySem.W.nsIn K mainGlobals x = some (some (.ref f)))
    (l : K.lookup f = some ⟨oc, od, .func (PySem.W.fnOf nm nm (defArgs st) (defBody st) (defScope st) .none kV doc pm an cdv ct), osl⟩)
    (c : PySem.W.codeIn K cdv nm = true) (k : PySem.W.keepIn K (.ref f) = true)
    (b : ∀ (kV doc pm : Value) (an : Option Addr) (cdv ct : Value) (us : List Value), us.length = ps.length →
      bindArgs (PySem.W.fnOf nm nm (defArgs st) (defBody st) (defScope st) .none kV doc pm an cdv ct) ⟨us, []⟩ = pure (ps.zip us)) :
    DfA K mg x nm st ps := by
  have F := fun_mk (st := st) l c k
  exact ⟨f, _, F, PySem.W.mg_of X G a, F.binds b⟩
end
end Aw
namespace Aw
open PySem PySem.Spec L2
def rStarts : V → List V → Hp → VK → Prop := fun x xs H Q => ∃ a b : Str, x = .str a ∧ xs = [.str b] ∧ Q (.bl (Txt.startswith a b)) H
theorem m_starts {X : Cx} : MtR X "str.startswith" rStarts := mt_startswith
theorem r_starts {a b : Str} {H : Hp} {Q : VK} (h : Q (.bl (Txt.startswith a b)) H) : rStarts (.str a) [.str b] H Q := ⟨a, b, rfl, rfl, h⟩
def qIntS : List V → Hp → VK → Prop := fun xs H Q => ∃ (a : Str) (n : Int), xs = [.str a] ∧ PySem.intText? a = some n ∧ a.length ≤ 640 ∧ Q (.int n) H
theorem c_intS {X : Cx} : CallR X (.type "int") qIntS := call_int_str
/-- a text of these signs -/
def tx (l : List Nat) : Str := ⟨l.toArray⟩
theorem tx_cps (l : List Nat) : (tx l).cps.toList = l := rfl
theorem tx_len (l : List Nat) : (tx l).length = l.length := by show l.toArray.size = l.length; simp
theorem tx_of (z : Str) : tx z.cps.toList = z := by cases z; rfl
theorem tx_inj {a b : List Nat} (h : tx a = tx b) : a = b := by
  have := congrArg (fun z : Str => z.cps.toList) h
  exact this
theorem starts_tx (l m : List Nat) : Txt.startswith (tx l) (tx m) = (l.take m.length == m) := by
  unfold Txt.startswith
  rw [StrLaws.subAt_eq, tx_len, tx_len, tx_cps, tx_cps, List.drop_zero]
  cases h : (l.take m.length == m) with
  | false => rw [Bool.and_false]
  | true =>
    have e := eq_of_beq h
    have q : m.length ≤ l.length := by
      have := congrArg List.length e
      rw [List.length_take] at this
      omega
    rw [Bool.and_true]
    exact decide_eq_true (by omega)
theorem cutS_from (l : List Nat) (a : Nat) : cutS (tx l) (some (a : Int)) none = tx (l.drop a) := by
  unfold cutS tx
  rw [HT.sIx_nat, HT.sIx_none]
  show (⟨((l.drop (min a (tx l).length)).take ((tx l).length - min a (tx l).length)).toArray⟩ : Str) = _
  rw [tx_len, List.take_of_length_le (by rw [List.length_drop]; omega)]
  by_cases h : a ≤ l.length
  · rw [Nat.min_eq_left h]
  · rw [Nat.min_eq_right (by omega), List.drop_length, List.drop_eq_nil_of_le (by omega)]
theorem cutS_mid (l : List Nat) (a b : Nat) : cutS (tx l) (some (a : Int)) (some (b : Int)) = tx ((l.drop a).take (b - a)) := by
  unfold cutS
  rw [HT.sIx_nat, HT.sIx_nat]
  show (⟨((l.drop (min a (tx l).length)).take (min b (tx l).length - min a (tx l).length)).toArray⟩ : Str) = _
  rw [tx_len]
  unfold tx
  congr 2
  by_cases h : a ≤ l.length
  · rw [Nat.min_eq_left h]
    by_cases h2 : b ≤ l.length
    · rw [Nat.min_eq_left h2]
    · rw [Nat.min_eq_right (by omega), List.take_of_length_le (by rw [List.length_drop]; omega), List.take_of_length_le (by rw [List.length_drop]; omega)]
  · rw [Nat.min_eq_right (a := a) (b := l.length) (by omega), List.drop_length, List.drop_eq_nil_of_le (i := a) (by omega), List.take_nil, List.take_nil]
def FIG : Str := "0123456789"
def isFig (c : Nat) : Bool := decide (c ∈ FIG.cps.toList)
theorem isFig_iff (c : Nat) : isFig c = true ↔ 48 ≤ c ∧ c ≤ 57 := by
  unfold isFig
  have e : FIG.cps.toList = [48, 49, 50, 51, 52, 53, 54, 55, 56, 57] := by decide +kernel
  rw [e, decide_eq_true_eq]
  simp only [List.mem_cons, List.not_mem_nil, or_false]
  omega
/-- a word of at most so many signs -/
def isWordT (l : List Nat) (most : Int) : Bool := decide (1 ≤ (l.length : Int)) && decide ((l.length : Int) ≤ most) && l.all isSgn
def isNameT (l : List Nat) : Bool := isNameS (tx l)
theorem isNameT_eq (l : List Nat) : isNameT l = (isWordT l 8 && (isLet (l.headD 0) && !KEPTS.contains (tx l))) := by
  unfold isNameT isNameS isWordT
  rw [tx_len, tx_cps]
  have e1 : decide (1 ≤ (l.length : Int)) = decide (1 ≤ l.length) := decide_eq_decide.mpr (by omega)
  have e2 : decide ((l.length : Int) ≤ 8) = decide (l.length ≤ 8) := decide_eq_decide.mpr (by omega)
  rw [e1, e2]
  cases decide (1 ≤ l.length) <;> cases decide (l.length ≤ 8) <;> cases isLet (l.headD 0) <;> cases l.all isSgn <;> rfl
/-- the figures of a number -/
def figs (l : List Nat) : List Nat := match l with
  | 45 :: r => r
  | l => l
/-- an integer of at most so many figures -/
def intOf (l : List Nat) (most : Int) : Option Int :=
  if (decide (1 ≤ ((figs l).length : Int)) && decide (((figs l).length : Int) ≤ most) && (figs l).all isFig) = true then
    (if (figs l).headD 0 = 48 ∧ l ≠ [48] then none else PySem.intText? (tx l)) else none
theorem intOf_some {l : List Nat} (h1 : 1 ≤ (figs l).length) (h2 : (figs l).length ≤ 600) (h3 : (figs l).all isFig = true) : ∃ n, PySem.intText? (tx l) = some n := by
  have hd : ∀ c ∈ figs l, 48 ≤ c ∧ c ≤ 57 := fun c hc => (isFig_iff c).mp (List.all_eq_true.mp h3 c hc)
  by_cases hl : ∃ r, l = 45 :: r
  · obtain ⟨r, rfl⟩ := hl
    have hr : figs (45 :: r) = r := rfl
    rw [hr] at h1 h2 hd
    exact ⟨_, intText_neg (x := tx (45 :: r)) (cs := r) rfl hd (fun e => by rw [e] at h1; simp at h1) (by rw [tx_len, List.length_cons]; omega)⟩
  · have hr : figs l = l := by
      unfold figs
      split
      · rename_i r
        exact absurd ⟨r, rfl⟩ hl
      · rfl
    rw [hr] at h1 h2 hd
    exact ⟨_, intText_digits (x := tx l) hd (fun e => by rw [show l = [] from e] at h1; simp at h1) (by rw [tx_len]; omega)⟩
theorem starts_minus (l : List Nat) : Txt.startswith (tx l) "-" = (match l with
    | 45 :: _ => true
    | _ => false) := by
  have e : ("-" : Str) = tx [45] := by decide +kernel
  rw [e, starts_tx]
  cases l with
  | nil => rfl
  | cons c r =>
    show ((c :: r).take 1 == [45]) = _
    rw [List.take_succ_cons, List.take_zero]
    by_cases h : c = 45
    · subst h
      rfl
    · have h1 : ([c] == [45]) = false := by simp [h]
      rw [h1]
      split
      · rename_i heq
        cases heq
        exact absurd rfl h
      · rfl
theorem starts_yes (r : List Nat) : Txt.startswith (tx (45 :: r)) "-" = true := by rw [starts_minus] <;> rfl
theorem starts_no {l : List Nat} (h : ¬ ∃ r, l = 45 :: r) : Txt.startswith (tx l) "-" = false ∧ figs l = l := by
  constructor
  · rw [starts_minus]
    split
    · rename_i r
      exact absurd ⟨r, rfl⟩ h
    · rfl
  · unfold figs
    split
    · rename_i r
      exact absurd ⟨r, rfl⟩ h
    · rfl
theorem tx_zero : ("0" : Str) = tx [48] := by decide +kernel
def oiV : Option Int → V
  | none => .non
  | some i => .int i
def spWordT : Sp := fun vs H Q _ => ∃ (l : List Nat) (m : Int), vs = [.str (tx l), .int m] ∧ l.length ≤ 1000000 ∧ ∀ H', Kp [] H H' → Q (.bl (isWordT l m)) H'
def spNameT : Sp := fun vs H Q _ => ∃ l : List Nat, vs = [.str (tx l)] ∧ l.length ≤ 1000000 ∧ ∀ H', Kp [] H H' → Q (.bl (isNameT l)) H'
def spIntOf : Sp := fun vs H Q _ => ∃ (l : List Nat) (m : Int), vs = [.str (tx l), .int m] ∧ l.length ≤ 1000000 ∧ m ≤ 600 ∧ ∀ H', Kp [] H H' → Q (oiV (intOf l m)) H'
end Aw
namespace Aw
open PySem PySem.Spec PyProof.Rows L2
/-- a is a written dict of texts -/
def KD (K : PySem.W.Frag) (w : World) (a : Addr) (look : Str → Option V) : Prop :=
  ∃ es n, K.lookup a = some ⟨.type "dict", none, .dict es n, #[]⟩ ∧ PySem.W.KeysLit w.params es.toList ∧ (a == sysModules) = false ∧ ∀ z, RelO (look z) (PySem.findBy Value.isStrOf es z)
def tKGet2 (K : PySem.W.Frag) (w : World) (td ty tz : TE) : TE := fun σ H Q => td σ H fun x H1 => ∃ (a : Addr) (look : Str → Option V), x = .ref a ∧ KD K w a look ∧
  ty σ H1 fun y H2 => tz σ H2 fun z H3 => ∃ k : Str, y = .str k ∧ Q ((look k).getD z) H3
section
variable {X : Cx} {o e f : Expr} {apos cpos : Pos} {td ty tz : TE}
theorem relO_getD {o : Option V} {r : Option Value} {z : V} {u : Value} (h : RelO o r) (hz : RelV z u) : RelV (o.getD z) (r.getD u) := by
  cases o with
  | none => cases r with
    | none => exact hz
    | some _ => exact h.elim
  | some x => cases r with
    | none => exact h.elim
    | some _ => exact h
theorem pe_kget2 (ho : PE X o td) (he : PE X e ty) (hf : PE X f tz) (m : M2 X o "get" apos e f cpos) : PE X (.Call (.Attribute o "get" apos) [e, f] [] cpos) (tKGet2 X.K X.w td ty tz) := by
  refine ⟨fun pins s σ H Q I h => ?_⟩
  refine wpAny_Call_method m.base m.few m.line PySem.F.plainAttrs_dict PySem.F.slot_dict_get PySem.F.type_dict_get (thn (ho.run pins s σ H _ I h) fun u s1 ⟨x, H1, I1, rx, a, look, ex, d, q1⟩ => ?_)
  subst ex
  obtain rfl : u = Value.ref a := rx
  obtain ⟨es, n, hl, hk, hs, hlook⟩ := d
  have hm1 := PySem.W.mapOf_K (prog := X.prog) (w := X.w) I1.kIn hl hk
  refine ⟨hm1.typeIs, fun b q => ?_, ?_⟩
  · cases q
    exact ⟨_, I1.kIn _ _ hl, rfl⟩
  rw [m.trees]
  refine Calls.callWith_builtin rfl (Calls.evalArgs_plain (Calls.spliced_cons (thn (he.run pins s1 σ H1 _ I1 q1) fun iv s2 ⟨y, H2, I2, ry, q2⟩ =>
    Calls.spliced_cons (thn (hf.run pins s2 σ H2 _ I2 q2) fun fv s3 ⟨z, H3, I3, rz, k, ek, q3⟩ => Calls.spliced_nil ?_))))
  subst ek
  obtain ⟨t, rfl⟩ := ry
  have hm := PySem.W.mapOf_K (prog := X.prog) (w := X.w) I3.kIn hl hk
  exact call_meetsIn PySem.F.slot_dict_get hm.typeIs PySem.F.entry_dict_get (PySem.F.args_dict_get_3 _ _ _) (meets_dict_get_default (strKind X.prog X.w) a (strKind_is X.prog X.w k t) hs fv) ⟨_, hm, ⟨_, H3, I3.tok _, relO_getD (hlook k) rz, q3⟩⟩
end
def KG2 (Q : VK) (look : Str → Option V) : V → V → Hp → Prop := fun y z H3 => ∃ k : Str, y = .str k ∧ Q ((look k).getD z) H3
theorem r_kget2 {K : PySem.W.Frag} {w : World} {td ty tz : TE} {σ : L2.St} {H : Hp} {Q : VK} (h : td σ H fun x H1 => ∃ (a : Addr) (look : Str → Option V), x = .ref a ∧ KD K w a look ∧ ty σ H1 fun y H2 => tz σ H2 fun z H3 => KG2 Q look y z H3) : tKGet2 K w td ty tz σ H Q := h
theorem r_KG2 {Q : VK} {look : Str → Option V} {k : Str} {z : V} {H : Hp} (h : Q ((look k).getD z) H) : KG2 Q look (.str k) z H := ⟨k, rfl, h⟩
end Aw
namespace Aw
open PySem PySem.Spec L2
/-- the signs at which a word ends -/
def brk (c : Nat) : Bool := decide (c = 32) || (decide (c = 41) || decide (c = 40))
def wordL (l : List Nat) (at_ : Nat) : List Nat := (l.drop at_).takeWhile fun c => !brk c
def Ex.isI : Ex → Bool
  | .int _ => true
  | _ => false
def opAt : List Nat → Str
  | [32, 43, 32] => "plus"
  | [32, 45, 32] => "minus"
  | [32, 42, 32] => "times"
  | _ => ""
def leafAt (l : List Nat) (at_ : Nat) : Option (Ex × Nat) :=
  match intOf (wordL l at_) 20 with
  | some i => some (.int i, at_ + (wordL l at_).length)
  | none => if isNameT (wordL l at_) = true then some (.name (tx (wordL l at_)), at_ + (wordL l at_).length) else none
def sumAt (rec : Nat → Option (Ex × Nat)) (l : List Nat) (at_ : Nat) : Option (Ex × Nat) :=
  match rec (at_ + 1) with
  | none => none
  | some (a, e) =>
    if opAt ((l.drop e).take 3) = "" ∨ (opAt ((l.drop e).take 3) = "times" ∧ a.isI = false) then none else
    match rec (e + 3) with
    | none => none
    | some (b, e2) => if (l.drop e2).take 1 = [41] then some (.bin (opAt ((l.drop e).take 3)) a b, e2 + 1) else none
/-- an expression that begins at a place; so many may lie in one another -/
def exprAt (l : List Nat) : Nat → Nat → Option (Ex × Nat)
  | 0, _ => none
  | n + 1, at_ => if (l.drop at_).take 1 = [40] then sumAt (exprAt l n) l at_ else leafAt l at_
theorem wordL_le (l : List Nat) (at_ : Nat) : (wordL l at_).length ≤ l.length - at_ := by
  unfold wordL
  refine Nat.le_trans (List.takeWhile_sublist _).length_le ?_
  rw [List.length_drop]
  exact Nat.le_refl _
theorem take_some {l : List Nat} {k n : Nat} {r : List Nat} (h : (l.drop k).take n = r) (hr : r.length = n) (hn : 0 < n) : k + n ≤ l.length := by
  have := congrArg List.length h
  rw [List.length_take, List.length_drop, hr] at this
  omega
theorem opAt_some {l : List Nat} {e : Nat} (h : opAt ((l.drop e).take 3) ≠ "") : e + 3 ≤ l.length := by
  generalize hq : (l.drop e).take 3 = q at h
  unfold opAt at h
  split at h
  · exact take_some hq rfl (by decide)
  · exact take_some hq rfl (by decide)
  · exact take_some hq rfl (by decide)
  · exact absurd rfl h
theorem exprAt_le (l : List Nat) : ∀ (n at_ : Nat) {e : Ex} {k : Nat}, at_ ≤ l.length → exprAt l n at_ = some (e, k) → k ≤ l.length ∧ at_ ≤ k
  | 0, _, _, _, _, h => by rw [exprAt] at h; cases h
  | n + 1, at_, e, k, hat, h => by
    rw [exprAt] at h
    split at h
    · rename_i h0
      have l0 := take_some h0 rfl (by decide)
      unfold sumAt at h
      split at h
      · cases h
      rename_i a e1 h1
      obtain ⟨b1, b2⟩ := exprAt_le l n (at_ + 1) l0 h1
      split at h
      · cases h
      rename_i ho
      have l1 := opAt_some fun z => ho (.inl z)
      split at h
      · cases h
      rename_i b e2 h2
      obtain ⟨b3, b4⟩ := exprAt_le l n (e1 + 3) l1 h2
      split at h
      · rename_i h3
        have l3 := take_some h3 rfl (by decide)
        cases h
        exact ⟨l3, by omega⟩
      · cases h
    · have hw := wordL_le l at_
      unfold leafAt at h
      split at h
      · cases h
        exact ⟨by omega, by omega⟩
      · split at h
        · cases h
          exact ⟨by omega, by omega⟩
        · cases h
theorem opAt_cases (q : List Nat) : opAt q = "" ∨ opAt q = "plus" ∨ opAt q = "minus" ∨ opAt q = "times" := by
  unfold opAt
  split
  · exact .inr (.inl rfl)
  · exact .inr (.inr (.inl rfl))
  · exact .inr (.inr (.inr rfl))
  · exact .inl rfl
theorem cutS_at (l : List Nat) (k n : Nat) : cutS (tx l) (some (k : Int)) (some ((k : Int) + (n : Nat))) = tx ((l.drop k).take n) := by
  rw [show ((k : Int) + (n : Nat)) = ((k + n : Nat) : Int) by omega, cutS_mid, show k + n - k = n by omega]
theorem sl_str_at {l : List Nat} {k n : Nat} {H : Hp} {Q : VK} (hl : l.length ≤ 1000000) (h : Q (.str (tx ((l.drop k).take n))) H) : rSlS (.str (tx l)) (some (k : Int)) (some ((k : Int) + (n : Nat))) H Q := by
  refine r_slS ?_ (by rw [tx_len, sizeLine_eq]; omega)
  rw [cutS_at]
  exact h
theorem dec_str (x y : Str) : decide (V.str x = V.str y) = decide (x = y) := decide_eq_decide.mpr ⟨fun e => by injection e, fun e => by rw [e]⟩
theorem tx_par1 : ("(" : Str) = tx [40] := by decide +kernel
theorem tx_par2 : (")" : Str) = tx [41] := by decide +kernel
theorem brk_in (c : Nat) : inV (.str ⟨#[c]⟩) [.str " ", .str ")", .str "("] = brk c := by
  have e1 : (" " : Str) = tx [32] := by decide +kernel
  have h : ∀ y : Nat, decide ((⟨#[y]⟩ : Str) = ⟨#[c]⟩) = decide (c = y) := fun y => decide_eq_decide.mpr ⟨fun e => by
    have := tx_inj (a := [y]) (b := [c]) e
    injection this with q
    exact q.symm, fun e => by rw [e]⟩
  rw [e1, tx_par2, tx_par1]
  unfold inV brk
  simp only [List.any_cons, List.any_nil, Bool.or_false]
  rw [← h 32, ← h 41, ← h 40]
  rfl
theorem wordL_step {l : List Nat} {a j c : Nat} (hj : a ≤ j) (h : (wordL l a).length ≥ j - a) (hc : l[j]? = some c) : (brk c = false → (wordL l a).length ≥ j + 1 - a) ∧ (brk c = true → (wordL l a).length = j - a) := by
  have e3 : j + 1 - a = (j - a) + 1 := by omega
  rw [e3]
  unfold wordL at h ⊢
  have hd : (l.drop a)[j - a]? = some c := by rw [List.getElem?_drop, show a + (j - a) = j by omega]; exact hc
  generalize l.drop a = m at h hd ⊢
  generalize j - a = i at h hd ⊢
  have key : ∀ (m : List Nat) (i : Nat), (m.takeWhile fun c => !brk c).length ≥ i → m[i]? = some c → (brk c = false → (m.takeWhile fun c => !brk c).length ≥ i + 1) ∧ (brk c = true → (m.takeWhile fun c => !brk c).length = i) := by
    intro m
    induction m with
    | nil => intro i _ e; simp at e
    | cons x r ih =>
      intro i h e
      by_cases hx : brk x = true
      · have z : ((x :: r).takeWhile fun c => !brk c) = [] := by rw [List.takeWhile_cons, hx]; rfl
        rw [z] at h ⊢
        obtain rfl : i = 0 := by simpa using h
        cases e
        exact ⟨fun q => absurd q (by rw [hx]; decide), fun _ => rfl⟩
      · have z : ((x :: r).takeWhile fun c => !brk c) = x :: (r.takeWhile fun c => !brk c) := by rw [List.takeWhile_cons, if_pos (by simpa using hx)]
        rw [z, List.length_cons] at h ⊢
        cases i with
        | zero =>
          cases e
          exact ⟨fun _ => by omega, fun q => absurd q hx⟩
        | succ i =>
          obtain ⟨y1, y2⟩ := ih i (by omega) (by simpa using e)
          exact ⟨fun q => by have := y1 q; omega, fun q => by have := y2 q; omega⟩
  exact key m i h hd
theorem wordL_mid (l : List Nat) (a : Nat) : (l.drop a).take ((wordL l a).length) = wordL l a := by
  unfold wordL
  exact (List.prefix_iff_eq_take.mp (List.takeWhile_prefix _)).symm
def oeD : Option (Ex × Nat) → PyData
  | none => .none
  | some (e, k) => .tuple [e.d, .int (k : Nat)]
def wordsL : Str → Option V := fun z => if z = " + " then some (.str "plus") else if z = " - " then some (.str "minus") else if z = " * " then some (.str "times") else none
theorem wordsL_tx (q : List Nat) : (wordsL (tx q)).getD (.str "") = .str (opAt q) := by
  have e1 : (" + " : Str) = tx [32, 43, 32] := by decide +kernel
  have e2 : (" - " : Str) = tx [32, 45, 32] := by decide +kernel
  have e3 : (" * " : Str) = tx [32, 42, 32] := by decide +kernel
  unfold wordsL
  rw [e1, e2, e3]
  by_cases h1 : q = [32, 43, 32]
  · subst h1
    rw [if_pos rfl]
    rfl
  rw [if_neg fun z => h1 (tx_inj z)]
  by_cases h2 : q = [32, 45, 32]
  · subst h2
    rw [if_pos rfl]
    rfl
  rw [if_neg fun z => h2 (tx_inj z)]
  by_cases h3 : q = [32, 42, 32]
  · subst h3
    rw [if_pos rfl]
    rfl
  rw [if_neg fun z => h3 (tx_inj z)]
  unfold opAt
  split
  · exact absurd rfl h1
  · exact absurd rfl h2
  · exact absurd rfl h3
  · rfl
/-- n may lie in one another: deep + n = 21 -/
def spExAt (K : PySem.W.Frag) (n : Nat) : Sp := fun vs H Q _ => ∃ (l : List Nat) (a : Nat) (d : Int), vs = [.str (tx l), .int (a : Nat), .int d] ∧ l.length ≤ 1000000 ∧ a ≤ l.length ∧ d + n = 21 ∧
  ∀ (H' : Hp) (z : V), Kp [] H H' → Dt K H' z (oeD (exprAt l n a)) → Q z H'
def spSmAt (K : PySem.W.Frag) (n : Nat) : Sp := fun vs H Q _ => ∃ (l : List Nat) (a : Nat) (d : Int), vs = [.str (tx l), .int (a : Nat), .int d] ∧ l.length ≤ 1000000 ∧ a + 1 ≤ l.length ∧ d + n = 20 ∧
  ∀ (H' : Hp) (z : V), Kp [] H H' → Dt K H' z (oeD (sumAt (exprAt l n) l a)) → Q z H'
end Aw
namespace Aw
open PySem PySem.Spec L2
/-- the signs ahead of the first blank, and those behind it -/
def headL (l : List Nat) : List Nat := l.takeWhile fun c => !decide (c = 32)
def tailL (l : List Nat) : List Nat := (l.dropWhile fun c => !decide (c = 32)).drop 1
theorem at_one (x : Str) (c i : Nat) : StrLaws.At x ⟨#[c]⟩ x.length i ↔ x.cps.toList[i]? = some c := by
  rw [← StrLaws.subAt_one]
  exact Iff.rfl
theorem takeW_at : ∀ (l : List Nat) (i : Nat), l[i]? = some 32 → (∀ k, k < i → l[k]? ≠ some 32) → (l.takeWhile fun c => !decide (c = 32)) = l.take i ∧ ((l.dropWhile fun c => !decide (c = 32)).drop 1) = l.drop (i + 1)
  | [], i, h, _ => by simp at h
  | x :: r, 0, h, _ => by
    cases h
    exact ⟨rfl, rfl⟩
  | x :: r, i + 1, h, hn => by
    have hx : x ≠ 32 := fun e => hn 0 (by omega) (by rw [e]; rfl)
    have e : (!decide (x = 32)) = true := by simp [hx]
    obtain ⟨a, b⟩ := takeW_at r i (by simpa using h) fun k hk z => hn (k + 1) (by omega) (by simpa using z)
    rw [List.takeWhile_cons, if_pos e, List.dropWhile_cons, if_pos e, a, b]
    exact ⟨rfl, rfl⟩
theorem takeW_no : ∀ (l : List Nat), (∀ i : Nat, l[i]? ≠ some 32) → (l.takeWhile fun c => !decide (c = 32)) = l ∧ ((l.dropWhile fun c => !decide (c = 32)).drop 1) = []
  | [], _ => ⟨rfl, rfl⟩
  | x :: r, hn => by
    have hx : x ≠ 32 := fun e => hn 0 (by rw [e]; rfl)
    have e : (!decide (x = 32)) = true := by simp [hx]
    obtain ⟨a, b⟩ := takeW_no r fun k z => hn (k + 1) (by simpa using z)
    rw [List.takeWhile_cons, if_pos e, List.dropWhile_cons, if_pos e, a, b]
    exact ⟨rfl, rfl⟩
theorem part_tx (l : List Nat) : (Txt.partition (tx l) " ").1 = tx (headL l) ∧ (Txt.partition (tx l) " ").2.2 = tx (tailL l) := by
  have e : (" " : Str) = ⟨#[32]⟩ := by decide +kernel
  have at_ : ∀ i, StrLaws.At (tx l) ⟨#[32]⟩ (tx l).length i ↔ l[i]? = some 32 := fun i => at_one (tx l) 32 i
  unfold Txt.partition headL tailL
  rw [e]
  rcases StrLaws.occ_head (tx l) ⟨#[32]⟩ 1 (Nat.le_refl 1) with ⟨h, hn⟩ | ⟨i, r, h, hi, hn⟩
  · rw [h]
    obtain ⟨a, b⟩ := takeW_no l fun i z => hn i ((at_ i).mpr z)
    rw [a, b]
    exact ⟨rfl, rfl⟩
  · rw [h]
    obtain ⟨a, b⟩ := takeW_at l i ((at_ i).mp hi) fun k hk z => hn k hk ((at_ k).mpr z)
    rw [a, b]
    dsimp only
    rw [PyProof.Rows.strSub_mk, PyProof.Rows.strSub_mk]
    have hlen : (l.drop (i + 1)).length ≤ (tx l).length - (i + (⟨#[32]⟩ : Str).length) := by
      rw [tx_len, List.length_drop]
      exact Nat.le_refl _
    constructor
    · show (⟨((l.drop 0).take (i - 0)).toArray⟩ : Str) = _
      rw [List.drop_zero, Nat.sub_zero]
      rfl
    · show (⟨((l.drop (i + 1)).take ((tx l).length - (i + (⟨#[32]⟩ : Str).length))).toArray⟩ : Str) = _
      rw [List.take_of_length_le hlen]
      rfl
def rPart : V → List V → Hp → VK → Prop := fun x xs H Q => ∃ a b : Str, x = .str a ∧ xs = [.str b] ∧ (b.length == 0) = false ∧ a.length ≤ sizeLine ∧ ∀ p, H p = none → Q (.ref p) (upd H p (.tup [.str (Txt.partition a b).1, .str (Txt.partition a b).2.1, .str (Txt.partition a b).2.2]))
theorem m_part {X : Cx} : MtR X "str.partition" rPart := mt_partition
theorem r_part1 {l : List Nat} {H : Hp} {Q : VK} (hl : l.length ≤ 1000000) (h : ∀ (p : Addr) (sp : Str), H p = none → Q (.ref p) (upd H p (.tup [.str (tx (headL l)), .str sp, .str (tx (tailL l))]))) : rPart (.str (tx l)) [.str " "] H Q := by
  refine ⟨tx l, " ", rfl, rfl, by decide +kernel, by rw [tx_len, sizeLine_eq]; omega, fun p hp => ?_⟩
  rw [(part_tx l).1, (part_tx l).2]
  exact h p _ hp
theorem headL_le (l : List Nat) : (headL l).length ≤ l.length := (List.takeWhile_sublist _).length_le
theorem tailL_le (l : List Nat) : (tailL l).length ≤ l.length := by
  unfold tailL
  rw [List.length_drop]
  have := (List.dropWhile_sublist (l := l) fun c => !decide (c = 32)).length_le
  omega
def exprOf (l : List Nat) : Option Ex := match exprAt l 20 0 with
  | some (e, k) => if k = l.length then some e else none
  | none => none
def oxD : Option Ex → PyData
  | none => .none
  | some e => e.d
def spExOf (K : PySem.W.Frag) : Sp := fun vs H Q _ => ∃ l : List Nat, vs = [.str (tx l)] ∧ l.length ≤ 1000000 ∧ ∀ (H' : Hp) (z : V), Kp [] H H' → Dt K H' z (oxD (exprOf l)) → Q z H'
def setOf (l : List Nat) : Option Pl := if isNameT (headL l) = true then (exprOf (tailL l)).map fun e => Pl.set (tx (headL l)) e else none
def opD : Option Pl → PyData
  | none => .none
  | some p => p.d
def spSetOf (K : PySem.W.Frag) : Sp := fun vs H Q _ => ∃ l : List Nat, vs = [.str (tx l)] ∧ l.length ≤ 1000000 ∧ ∀ (H' : Hp) (z : V), Kp [] H H' → Dt K H' z (opD (setOf l)) → Q z H'
def restT (l : List Nat) : Option Ts :=
  if tx (headL (tailL l)) = "of" then
    match intOf (headL l) 20, intOf (headL (tailL (tailL l))) 20, exprOf (tailL (tailL (tailL l))) with
    | some r, some b, some e => some (.rest e b r)
    | _, _, _ => none
  else none
def otD : Option Ts → PyData
  | none => .none
  | some t => t.d
def spRestT (K : PySem.W.Frag) : Sp := fun vs H Q _ => ∃ l : List Nat, vs = [.str (tx l)] ∧ l.length ≤ 1000000 ∧ ∀ (H' : Hp) (z : V), Kp [] H H' → Dt K H' z (otD (restT l)) → Q z H'
def ptOf (l : List Nat) : Option Ts :=
  if l.take 4 = [115, 101, 116, 32] then (if isNameT (l.drop 4) = true then some (.given (tx (l.drop 4))) else none)
  else if l.take 5 = [114, 101, 115, 116, 32] then restT (l.drop 5)
  else match exprAt l 20 0 with
    | none => none
    | some (a, k) => if (l.drop k).take 3 = [32, 60, 32] then (exprOf (l.drop (k + 3))).map fun b => Ts.less a b else none
def spPtOf (K : PySem.W.Frag) : Sp := fun vs H Q _ => ∃ l : List Nat, vs = [.str (tx l)] ∧ l.length ≤ 1000000 ∧ ∀ (H' : Hp) (z : V), Kp [] H H' → Dt K H' z (otD (ptOf l)) → Q z H'
theorem starts_is {l m : List Nat} {z : Str} (e : z = tx m) : Txt.startswith (tx l) z = decide (l.take m.length = m) := by
  rw [e, starts_tx]
  by_cases h : l.take m.length = m
  · rw [decide_eq_true h, h]
    exact beq_self_eq_true _
  · rw [decide_eq_false h]
    exact beq_eq_false_iff_ne.mpr h
theorem tx_set : ("set " : Str) = tx [115, 101, 116, 32] := by decide +kernel
theorem tx_rest : ("rest " : Str) = tx [114, 101, 115, 116, 32] := by decide +kernel
theorem tx_less : (" < " : Str) = tx [32, 60, 32] := by decide +kernel
theorem sl_str_from {l : List Nat} {k : Nat} {H : Hp} {Q : VK} (hl : l.length ≤ 1000000) (h : Q (.str (tx (l.drop k))) H) : rSlS (.str (tx l)) (some (k : Int)) none H Q := by
  refine r_slS ?_ (by rw [tx_len, sizeLine_eq]; omega)
  rw [cutS_from]
  exact h
/-- the "not" ahead of a test, and what follows -/
def stripN : Nat → List Nat → Nat × List Nat
  | 0, l => (0, l)
  | f + 1, l => if l.take 4 = [110, 111, 116, 32] then ((stripN f (l.drop 4)).1 + 1, (stripN f (l.drop 4)).2) else (0, l)
def addN : Nat → Ts → Ts
  | 0, t => t
  | n + 1, t => .not (addN n t)
def testOf (l : List Nat) : Option Ts := match ptOf (stripN l.length l).2 with
  | none => none
  | some t => if (stripN l.length l).1 > 20 then none else some (addN (stripN l.length l).1 t)
def spTestOf (K : PySem.W.Frag) : Sp := fun vs H Q _ => ∃ l : List Nat, vs = [.str (tx l)] ∧ l.length ≤ 1000000 ∧ ∀ (H' : Hp) (z : V), Kp [] H H' → Dt K H' z (otD (testOf l)) → Q z H'
theorem tx_not : ("not " : Str) = tx [110, 111, 116, 32] := by decide +kernel
theorem take4_len {l : List Nat} (h : l.take 4 = [110, 111, 116, 32]) : 4 ≤ l.length := by
  have := congrArg List.length h
  rw [List.length_take] at this
  simp at this
  omega
theorem stripN_no {f : Nat} {l : List Nat} (h : ¬ l.take 4 = [110, 111, 116, 32]) : stripN f l = (0, l) := by
  cases f with
  | zero => rfl
  | succ f => rw [stripN, if_neg h]
theorem stripN_yes {f : Nat} {l : List Nat} (hf : l.length ≤ f) (h : l.take 4 = [110, 111, 116, 32]) : ∃ g, f = g + 1 ∧ stripN f l = ((stripN g (l.drop 4)).1 + 1, (stripN g (l.drop 4)).2) := by
  have := take4_len h
  cases f with
  | zero => omega
  | succ f => exact ⟨f, rfl, by rw [stripN, if_pos h]⟩
def vlD (w : Str) : PyData → PyData
  | .none => .none
  | d => .tuple [.str w, d]
def spVal (K : PySem.W.Frag) : Sp := fun vs H Q _ => ∃ (w : Str) (v : V) (d : PyData), vs = [.str w, v] ∧ Dt K H v d ∧ ∀ (H' : Hp) (z : V), Kp [] H H' → Dt K H' z (vlD w d) → Q z H'
/-- what a line tells -/
inductive Ln
  | pl (p : Pl)
  | ifh (t : Ts)
  | reph (k : Int)
def Ln.d : Ln → PyData
  | .pl p => p.d
  | .ifh t => .tuple [.str "if", t.d]
  | .reph k => .tuple [.str "repeat", .int k]
def olD : Option Ln → PyData
  | none => .none
  | some x => x.d
def stmtOf (l : List Nat) : Option Ln :=
  if tx (headL l) = "say" then (if isWordT (tailL l) 8 = true then some (.pl (.say (tx (tailL l)))) else none)
  else if tx (headL l) = "stop" then (if isWordT (tailL l) 8 = true then some (.pl (.stop (tx (tailL l)))) else none)
  else if tx (headL l) = "unset" then (if isNameT (tailL l) = true then some (.pl (.unset (tx (tailL l)))) else none)
  else if tx (headL l) = "set" then (setOf (tailL l)).map Ln.pl
  else if tx (headL l) = "tell" then (exprOf (tailL l)).map fun e => .pl (.tell e)
  else if tx (headL l) = "if" then (testOf (tailL l)).map Ln.ifh
  else if tx (headL l) = "repeat" then (intOf (tailL l) 20).map Ln.reph
  else none
def spStOf (K : PySem.W.Frag) : Sp := fun vs H Q _ => ∃ l : List Nat, vs = [.str (tx l)] ∧ l.length ≤ 1000000 ∧ ∀ (H' : Hp) (z : V), Kp [] H H' → Dt K H' z (olD (stmtOf l)) → Q z H'
theorem vlD_ex (o : Option Ex) : vlD "tell" (oxD o) = olD (o.map fun e => .pl (.tell e)) := by
  cases o with
  | none => rfl
  | some e => cases e <;> rfl
theorem vlD_ts (o : Option Ts) : vlD "if" (otD o) = olD (o.map Ln.ifh) := by
  cases o with
  | none => rfl
  | some e => cases e <;> rfl
theorem opD_ln (o : Option Pl) : opD o = olD (o.map Ln.pl) := by cases o <;> rfl
theorem oiV_dt {K : PySem.W.Frag} {H : Hp} (o : Option Int) : ∃ d, Dt K H (oiV o) d ∧ vlD "repeat" d = olD (o.map Ln.reph) := by
  cases o with
  | none => exact ⟨.none, .non, rfl⟩
  | some i => exact ⟨.int i, .int i, rfl⟩
end Aw
namespace Aw
open PySem PySem.Spec L2
def sg (z : Str) : List Nat := z.cps.toList
theorem sg_app (a b : Str) : sg (a ++ b) = sg a ++ sg b := by unfold sg; rw [Str.cps_append, Array.toList_append]
theorem tx_sg (z : Str) : tx (sg z) = z := tx_of z
def Ends1 (post : List Nat) : Prop := post = [] ∨ ∃ c r, post = c :: r ∧ brk c = true
theorem takeW_all {p : Nat → Bool} : ∀ {a b : List Nat}, (∀ c ∈ a, p c = true) → (b = [] ∨ ∃ c r, b = c :: r ∧ p c = false) → (a ++ b).takeWhile p = a
  | [], b, _, h => by
    rcases h with rfl | ⟨c, r, rfl, h⟩
    · rfl
    · rw [List.nil_append, List.takeWhile_cons, h]
      rfl
  | x :: a, b, hp, h => by
    rw [List.cons_append, List.takeWhile_cons, if_pos (hp x (List.mem_cons_self ..)), takeW_all (fun c hc => hp c (List.mem_cons_of_mem _ hc)) h]
theorem wordL_is {pre a post : List Nat} (ha : ∀ c ∈ a, brk c = false) (h : Ends1 post) : wordL (pre ++ a ++ post) pre.length = a := by
  unfold wordL
  rw [List.append_assoc, List.drop_left]
  refine takeW_all (fun c hc => by rw [ha c hc]; rfl) ?_
  rcases h with h | ⟨c, r, h, hb⟩
  · exact .inl h
  · exact .inr ⟨c, r, h, by rw [hb]; rfl⟩
theorem mid_is {pre a post : List Nat} : ((pre ++ a ++ post).drop pre.length).take a.length = a := by
  rw [List.append_assoc, List.drop_left, List.take_left]
theorem first_is {pre a post : List Nat} {x : Nat} {r : List Nat} (ha : a = x :: r) : ((pre ++ a ++ post).drop pre.length).take 1 = [x] := by
  rw [List.append_assoc, List.drop_left, ha]
  rfl
theorem sgn_brk : ∀ c ∈ sg SGN, brk c = false ∧ c ≠ 40 := by decide +kernel
theorem let_fig : ∀ c ∈ sg LETT, isFig c = false ∧ c ≠ 45 := by decide +kernel
theorem name_leaf {x : Str} (h : isNameS x = true) : (∀ c ∈ sg x, brk c = false) ∧ intOf (sg x) 20 = none ∧ ∃ c r, sg x = c :: r ∧ c ≠ 40 := by
  have h0 := h
  unfold isNameS at h0
  simp only [Bool.and_eq_true, decide_eq_true_eq] at h0
  obtain ⟨⟨⟨⟨l1, _⟩, hlet⟩, hall⟩, _⟩ := h0
  have hs : ∀ c ∈ sg x, c ∈ sg SGN := fun c hc => of_decide_eq_true (List.all_eq_true.mp hall c hc)
  cases hx : sg x with
  | nil =>
    have : (sg x).length = x.length := Array.length_toList
    rw [hx, List.length_nil] at this
    omega
  | cons c r =>
    have hc : c ∈ sg LETT := by
      have : x.cps.toList.headD 0 = c := by show (sg x).headD 0 = c; rw [hx]; rfl
      rw [this] at hlet
      exact of_decide_eq_true hlet
    obtain ⟨f1, f2⟩ := let_fig c hc
    rw [← hx]
    refine ⟨fun d hd => (sgn_brk d (hs d hd)).1, ?_, c, r, hx, (sgn_brk c (hs c (by rw [hx]; exact List.mem_cons_self ..))).2⟩
    have hf : figs (sg x) = sg x := by
      rw [hx]
      unfold figs
      split
      · rename_i heq
        injection heq with q
        exact absurd q f2
      · rfl
    unfold intOf
    rw [hf, hx, List.all_cons, f1, Bool.false_and, Bool.and_false, if_neg Bool.false_ne_true]
theorem opSign_at {o : Str} (h : IsOp o) : opAt (sg (opSign o)) = o ∧ (sg (opSign o)).length = 3 ∧ o ≠ "" ∧ ∃ c r, sg (opSign o) = c :: r ∧ brk c = true := by
  rcases h with rfl | rfl | rfl
  · exact ⟨by decide +kernel, by decide +kernel, by decide +kernel, 32, [43, 32], by decide +kernel, by decide +kernel⟩
  · exact ⟨by decide +kernel, by decide +kernel, by decide +kernel, 32, [45, 32], by decide +kernel, by decide +kernel⟩
  · exact ⟨by decide +kernel, by decide +kernel, by decide +kernel, 32, [42, 32], by decide +kernel, by decide +kernel⟩
theorem headL_is {a b : List Nat} (h : ∀ c ∈ a, c ≠ 32) : headL (a ++ 32 :: b) = a ∧ tailL (a ++ 32 :: b) = b := by
  unfold headL tailL
  induction a with
  | nil => exact ⟨rfl, rfl⟩
  | cons x r ih =>
    have hx : (!decide (x = 32)) = true := by simp [h x (List.mem_cons_self ..)]
    obtain ⟨i1, i2⟩ := ih fun c hc => h c (List.mem_cons_of_mem _ hc)
    rw [List.cons_append, List.takeWhile_cons, if_pos hx, List.dropWhile_cons, if_pos hx, i1, i2]
    exact ⟨rfl, rfl⟩
end Aw
namespace Aw
open PySem PySem.Spec L2
theorem w_bl : sg " " = [32] := by decide +kernel
structure Pt where
  kind : Str
  head : List PyData
  rows : List (List PyData)
  over : Bool
def Pt.lacks (p : Pt) : Bool := !decide (p.kind = "program") && (p.rows.isEmpty && !p.over)
def Pt.blk (p : Pt) : PyData := .tuple (p.rows.map PyData.tuple)
def Pt.add (p : Pt) (r : List PyData) : Pt := { p with rows := p.rows ++ [r] }
/-- the block p ends within o -/
def endP (p o : Pt) : Pt :=
  if p.kind = "else" then { o with rows := o.rows.dropLast ++ [(o.rows.getLastD []).take 3 ++ [p.blk]] }
  else if p.kind = "if" then o.add (p.head ++ [p.blk, .tuple []])
  else o.add (p.head ++ [p.blk])
def closeN : Nat → Str → List Pt → Str × List Pt
  | n + 1, _, p :: o :: r => closeN n p.kind (endP p o :: r)
  | 0, k, R => (k, R)
  | _ + 1, k, R => (k, R)
def Ln.its : Ln → List PyData
  | .pl (.set x e) => [.str "set", .str x, e.d]
  | .pl (.unset x) => [.str "unset", .str x]
  | .pl (.tell e) => [.str "tell", e.d]
  | .pl (.say w) => [.str "say", .str w]
  | .pl (.stop w) => [.str "stop", .str w]
  | .ifh t => [.str "if", t.d]
  | .reph k => [.str "repeat", .int k]
theorem Ln.d_its (x : Ln) : x.d = .tuple x.its := by
  cases x with
  | pl p => cases p <;> rfl
  | ifh t => rfl
  | reph k => rfl
/-- a statement is put at the end -/
def putP (x : Ln) : List Pt → List Pt
  | [] => []
  | q :: r => match x with
    | .pl _ => q.add x.its :: r
    | .ifh _ => ⟨"if", x.its, [], false⟩ :: q :: r
    | .reph _ => ⟨"repeat", x.its, [], false⟩ :: q :: r
/-- a line without its blanks, the blocks ended; k: the kind of the last that was -/
def stepP (t : List Nat) (k : Str) (lacks : Bool) : List Pt → Option (List Pt)
  | [] => none
  | q :: r =>
    if tx t = "else" ∧ k = "if" then some (⟨"else", [], [], false⟩ :: q :: r)
    else if tx t = "pass" then (if lacks = true ∧ q.kind ≠ "else" then some ({ q with over := true } :: r) else none)
    else if q.over = true then none
    else (stmtOf t).map fun x => putP x (q :: r)
def lstr (l : List Nat) : List Nat := l.dropWhile fun c => decide (c = 32)
def topLacks : List Pt → Bool
  | [] => false
  | q :: _ => q.lacks
def readP (l : List Nat) (R : List Pt) : Option (List Pt) :=
  if (l.length - (lstr l).length) % 2 = 1 ∨ (l.length - (lstr l).length) / 2 > R.length - 1 ∨ (topLacks R = true ∧ (l.length - (lstr l).length) / 2 ≠ R.length - 1) then none
  else stepP (lstr l) (closeN (R.length - 1 - (l.length - (lstr l).length) / 2) "" R).1 (topLacks R) (closeN (R.length - 1 - (l.length - (lstr l).length) / 2) "" R).2
/-- the lines from the one with the number i on -/
def readL : Nat → List (List Nat) → List Pt → Nat ⊕ List Pt
  | _, [], R => .inr R
  | i, l :: ls, R => match readP l R with
    | none => .inl i
    | some R' => readL (i + 1) ls R'
def root : List Pt := [⟨"program", [], [], false⟩]
inductive Pr
  | text (i : Nat)
  | rows (rs : List (List PyData))
def parseL (ls : List (List Nat)) : Pr :=
  match ls with
  | [] => .text 0
  | h :: t => if tx h = "program" then
      match readL 1 t root with
      | .inl i => .text i
      | .inr R => if topLacks R = true then .text (t.length + 1) else .rows (((closeN (R.length - 1) "" R).2.headD ⟨"", [], [], false⟩).rows)
    else .text 0
def ind (k : Nat) : List Nat := List.replicate (2 * k) 32
theorem closeN_len : ∀ (a : Nat) (k : Str) (R : List Pt), a + 1 ≤ R.length → (closeN a k R).2.length = R.length - a
  | 0, k, R, _ => by rw [closeN]; rfl
  | a + 1, k, p :: o :: r, h => by
    rw [closeN, closeN_len a p.kind (endP p o :: r) (by simp only [List.length_cons] at h ⊢; omega)]
    simp only [List.length_cons]
    omega
  | a + 1, k, [], h => by simp at h
  | a + 1, k, [p], h => by simp at h
/-- the state R' is R once the blocks deeper than k are ended; kd: the kind of the last -/
structure At (k : Nat) (R' R : List Pt) (kd : Str) : Prop where
  len : k + 1 ≤ R'.length
  lk : topLacks R' = true → R'.length = k + 1
  cl : closeN (R'.length - 1 - k) "" R' = (kd, R)
/-- the signs of lines -/
def sgs (ls : List Str) : List (List Nat) := ls.map sg
def Sm.its : Sm → List PyData
  | .pl p => Ln.its (.pl p)
  | .ifs t y n => [.str "if", t.d, .tuple (Sm.ds y), .tuple (Sm.ds n)]
  | .rep k b => [.str "repeat", .int k, .tuple (Sm.ds b)]
theorem Sm.d_its (s : Sm) : s.d = .tuple s.its := by
  cases s with
  | pl p => rw [Sm.d, Sm.its]; exact Ln.d_its (.pl p)
  | ifs t y n => rw [Sm.d, Sm.its]
  | rep k b => rw [Sm.d, Sm.its]
theorem Sm.its_ds (b : List Sm) : (b.map Sm.its).map PyData.tuple = Sm.ds b := by
  rw [Sm.ds_map, List.map_map]
  exact List.map_congr_left fun s _ => (Sm.d_its s).symm
theorem getLast_app {α : Type} (l : List α) (x d : α) : (l ++ [x]).getLastD d = x := by simp
theorem sgs_cons (x : Str) (l : List Str) : sgs (x :: l) = sg x :: sgs l := rfl
theorem sgs_app (a b : List Str) : sgs (a ++ b) = sgs a ++ sgs b := by unfold sgs; rw [List.map_append]
end Aw
namespace Aw
open PySem PySem.Spec L2
/-- a part that stands at p, its rows at rl -/
def PtH (K : PySem.W.Frag) (C : Addr) (H : Hp) (p rl : Addr) (q : Pt) : Prop := ∃ (dx : Addr) (hv : V) (vs : List V),
  H p = some (.ins C dx [("kind", .str q.kind), ("head", hv), ("rows", .ref rl), ("is_over", .bl q.over)]) ∧ H rl = some (.lst vs) ∧ Dt K H hv (.tuple q.head) ∧ DtL K H vs (q.rows.map PyData.tuple)
theorem PtH.kp {K : PySem.W.Frag} {C p rl : Addr} {H H1 : Hp} {q : Pt} {M : List Addr} (h : PtH K C H p rl q) (k : Kp M H H1) (n1 : p ∉ M) (n2 : rl ∉ M) : PtH K C H1 p rl q := by
  obtain ⟨dx, hv, vs, a, b, c, d⟩ := h
  exact ⟨dx, hv, vs, k.get a n1, k.get b n2, c.kp k, d.kp k⟩
def Pts (K : PySem.W.Frag) (C : Addr) (H : Hp) : List (Addr × Addr) → List Pt → Prop
  | [], [] => True
  | a :: as, q :: R => PtH K C H a.1 a.2 q ∧ Pts K C H as R
  | _, _ => False
theorem Pts.kp {K : PySem.W.Frag} {C : Addr} {H H1 : Hp} {M : List Addr} (k : Kp M H H1) : ∀ {as : List (Addr × Addr)} {R : List Pt}, Pts K C H as R → (∀ a ∈ as, a.1 ∉ M ∧ a.2 ∉ M) → Pts K C H1 as R
  | [], [], _, _ => trivial
  | a :: as, q :: R, h, n => ⟨h.1.kp k (n a (List.mem_cons_self ..)).1 (n a (List.mem_cons_self ..)).2, Pts.kp k h.2 fun b hb => n b (List.mem_cons_of_mem _ hb)⟩
  | [], _ :: _, h, _ => h.elim
  | _ :: _, [], h, _ => h.elim
theorem Pts.len {K : PySem.W.Frag} {C : Addr} {H : Hp} : ∀ {as : List (Addr × Addr)} {R : List Pt}, Pts K C H as R → as.length = R.length
  | [], [], _ => rfl
  | a :: as, q :: R, h => by rw [List.length_cons, List.length_cons, Pts.len h.2]
  | [], _ :: _, h => h.elim
  | _ :: _, [], h => h.elim
def refs (as : List (Addr × Addr)) : List V := (as.map fun a => V.ref a.1).reverse
theorem refs_cons (a : Addr × Addr) (as : List (Addr × Addr)) : refs (a :: as) = refs as ++ [.ref a.1] := by unfold refs; rw [List.map_cons, List.reverse_cons]
theorem refs_len (as : List (Addr × Addr)) : (refs as).length = as.length := by unfold refs; rw [List.length_reverse, List.length_map]
structure Rdr (K : PySem.W.Frag) (C CP sf l : Addr) (as : List (Addr × Addr)) (R : List Pt) (H : Hp) : Prop where
  obj : ∃ dx, H sf = some (.ins C dx [("blocks_open", .ref l)])
  lst : H l = some (.lst (refs as))
  pts : Pts K CP H as R
  nd1 : (sf :: as.map (·.1)).Nodup
  nd2 : (l :: as.map (·.2)).Nodup
def adrs (sf l : Addr) (as : List (Addr × Addr)) : List Addr := sf :: l :: (as.map (·.1) ++ as.map (·.2))
theorem adrs_iff {sf l b : Addr} {as : List (Addr × Addr)} : b ∈ adrs sf l as ↔ b = sf ∨ b = l ∨ ∃ a ∈ as, b = a.1 ∨ b = a.2 := by
  unfold adrs
  simp only [List.mem_cons, List.mem_append, List.mem_map]
  constructor
  · rintro (h | h | ⟨a, h, e⟩ | ⟨a, h, e⟩)
    · exact .inl h
    · exact .inr (.inl h)
    · exact .inr (.inr ⟨a, h, .inl e.symm⟩)
    · exact .inr (.inr ⟨a, h, .inr e.symm⟩)
  · rintro (h | h | ⟨a, h, e | e⟩)
    · exact .inl h
    · exact .inr (.inl h)
    · exact .inr (.inr (.inl ⟨a, h, e.symm⟩))
    · exact .inr (.inr (.inr ⟨a, h, e.symm⟩))
theorem Pts.mem {K : PySem.W.Frag} {C : Addr} {H : Hp} : ∀ {as : List (Addr × Addr)} {R : List Pt}, Pts K C H as R → ∀ a ∈ as, ∃ q, PtH K C H a.1 a.2 q
  | a :: as, q :: R, h, b, hb => by
    rcases List.mem_cons.mp hb with rfl | hb
    · exact ⟨q, h.1⟩
    · exact Pts.mem h.2 b hb
  | [], _, _, b, hb => by cases hb
section
variable {K : PySem.W.Frag} {C CP sf l : Addr} {as as1 as2 : List (Addr × Addr)} {R : List Pt} {H H1 H2 : Hp}
theorem Rdr.ms (h : Rdr K C CP sf l as R H) : Ms (adrs sf l as) H := by
  intro b hb
  rcases adrs_iff.mp hb with rfl | rfl | ⟨a, ha, e⟩
  · obtain ⟨dx, e⟩ := h.obj
    exact ⟨_, e, trivial⟩
  · exact ⟨_, h.lst, trivial⟩
  · obtain ⟨q, dx, hv, vs, z1, z2, _⟩ := h.pts.mem a ha
    rcases e with rfl | rfl
    · exact ⟨_, z1, trivial⟩
    · exact ⟨_, z2, trivial⟩
/-- behind a step of the reader -/
structure Nx (sf l : Addr) (as as1 : List (Addr × Addr)) (H H1 : Hp) : Prop where
  kp : Kp (adrs sf l as) H H1
  nw : ∀ b ∈ adrs sf l as1, b ∈ adrs sf l as ∨ H b = none
theorem Nx.refl (h : Rdr K C CP sf l as R H) : Nx sf l as as H H := ⟨Kp.reflM h.ms, fun b hb => .inl hb⟩
theorem Nx.trans (h : Nx sf l as as1 H H1) (g : Nx sf l as1 as2 H1 H2) : Nx sf l as as2 H H2 := by
  have key : ∀ b o, H b = some o → b ∉ adrs sf l as → b ∉ adrs sf l as1 := fun b o e n m => by
    rcases h.nw b m with z | z
    · exact n z
    · rw [z] at e; cases e
  refine ⟨fun b o e => ⟨(h.kp b o e).1, fun n => (g.kp b o ((h.kp b o e).2 n)).2 (key b o e n)⟩, fun b hb => ?_⟩
  by_cases hm : b ∈ adrs sf l as
  · exact .inl hm
  · refine .inr ?_
    rcases g.nw b hb with z | z
    · rcases h.nw b z with y | y
      · exact absurd y hm
      · exact y
    · cases e : H b with
      | none => rfl
      | some o => rw [(h.kp b o e).2 hm] at z; cases z
/-- other things are made -/
theorem Nx.new (h : Nx sf l as as1 H H1) (k : Kp [] H1 H2) : Nx sf l as as1 H H2 :=
  ⟨fun b o e => ⟨(h.kp b o e).1, fun n => k.get ((h.kp b o e).2 n) (by simp)⟩, h.nw⟩
theorem Rdr.kp0 (h : Rdr K C CP sf l as R H) (k : Kp [] H H1) : Rdr K C CP sf l as R H1 := by
  obtain ⟨dx, e⟩ := h.obj
  exact ⟨⟨dx, k.get e (by simp)⟩, k.get h.lst (by simp), h.pts.kp k fun a _ => ⟨by simp, by simp⟩, h.nd1, h.nd2⟩
end
/-- what is open is as it must be -/
def Wf : List Pt → Prop
  | [] => False
  | [p] => p.kind = "program"
  | p :: o :: r => p.kind ≠ "program" ∧ (p.kind = "else" → ∃ rs x, o.rows = rs ++ [x] ∧ x.length = 4) ∧ (p.kind = "if" → p.head.length = 2) ∧ Wf (o :: r)
theorem Wf.end_ {p o : Pt} {r : List Pt} (h : Wf (p :: o :: r)) : Wf (endP p o :: r) := by
  have h2 := h.2.2.2
  have hk : (endP p o).kind = o.kind ∧ (endP p o).head = o.head := by
    unfold endP Pt.add
    split
    · exact ⟨rfl, rfl⟩
    · split <;> exact ⟨rfl, rfl⟩
  cases r with
  | nil =>
    show (endP p o).kind = "program"
    rw [hk.1]
    exact h2
  | cons q r =>
    show (endP p o).kind ≠ "program" ∧ ((endP p o).kind = "else" → _) ∧ ((endP p o).kind = "if" → (endP p o).head.length = 2) ∧ Wf (q :: r)
    rw [hk.1, hk.2]
    exact h2
theorem Wf.closeN : ∀ (n : Nat) (k : Str) (R : List Pt), Wf R → Wf (closeN n k R).2
  | 0, k, R, h => by rw [Aw.closeN]; exact h
  | n + 1, k, p :: o :: r, h => by
    rw [Aw.closeN]
    exact Wf.closeN n p.kind _ h.end_
  | n + 1, k, [p], h => by rw [Aw.closeN] <;> first | exact h | simp
  | n + 1, k, [], h => by exact h.elim
/-- the last block that was ended was an if -/
theorem closeN_if : ∀ (n : Nat) (k : Str) (R : List Pt), Wf R → k ≠ "if" → (closeN n k R).1 = "if" → ∃ q r rs x, (closeN n k R).2 = q :: r ∧ q.rows = rs ++ [x] ∧ x.length = 4 := by
  have key : ∀ (n : Nat) (k : Str) (R : List Pt), Wf R → (k = "if" → ∃ q r rs x, R = q :: r ∧ q.rows = rs ++ [x] ∧ x.length = 4) → (closeN n k R).1 = "if" → ∃ q r rs x, (closeN n k R).2 = q :: r ∧ q.rows = rs ++ [x] ∧ x.length = 4 := by
    intro n
    induction n with
    | zero =>
      intro k R h hk e
      simp only [closeN] at e ⊢
      exact hk e
    | succ n ih =>
      intro k R h hk e
      match R, h, hk, e with
      | p :: o :: r, h, hk, e =>
        rw [closeN] at e ⊢
        refine ih p.kind _ h.end_ (fun z => ?_) e
        have hl := h.2.2.1 z
        refine ⟨_, _, o.rows, p.head ++ [p.blk, .tuple []], rfl, ?_, by rw [List.length_append, hl]; rfl⟩
        unfold endP
        rw [if_neg (by rw [z]; decide +kernel), if_pos z]
        rfl
      | [p], h, hk, e =>
        rw [closeN] at e ⊢
        · exact hk e
        · simp
        · simp
  intro n k R h hk e
  exact key n k R h (fun z => absurd z hk) e
theorem Wf.put {x : Ln} {R : List Pt} (h : Wf R) : Wf (putP x R) := by
  match R, h with
  | q :: r, h =>
    cases x with
    | pl p =>
      show Wf (q.add _ :: r)
      cases r with
      | nil => exact h
      | cons o r => exact h
    | ifh t => exact ⟨by show ("if" : Str) ≠ "program"; decide +kernel, fun z => absurd (show ("if" : Str) = "else" from z) (by decide +kernel), fun _ => rfl, h⟩
    | reph k => exact ⟨by show ("repeat" : Str) ≠ "program"; decide +kernel, fun z => absurd (show ("repeat" : Str) = "else" from z) (by decide +kernel), fun z => absurd (show ("repeat" : Str) = "if" from z) (by decide +kernel), h⟩
theorem Wf.step {t : List Nat} {k : Str} {b : Bool} {R R' : List Pt} (h : Wf R) (hk : k = "if" → ∃ q r rs x, R = q :: r ∧ q.rows = rs ++ [x] ∧ x.length = 4) (e : stepP t k b R = some R') : Wf R' := by
  match R, h with
  | q :: r, h =>
    unfold stepP at e
    dsimp only at e
    split at e
    · rename_i hc
      cases e
      obtain ⟨q1, r1, rs, x, e1, e2, e3⟩ := hk hc.2
      cases e1
      exact ⟨by show ("else" : Str) ≠ "program"; decide +kernel, fun _ => ⟨rs, x, e2, e3⟩, fun z => absurd (show ("else" : Str) = "if" from z) (by decide +kernel), h⟩
    · split at e
      · split at e
        · cases e
          cases r with
          | nil => exact h
          | cons o r => exact h
        · cases e
      · split at e
        · cases e
        · obtain ⟨x, _, rfl⟩ := Option.map_eq_some_iff.mp e
          exact h.put
theorem Wf.read {l : List Nat} {R R' : List Pt} (h : Wf R) (e : readP l R = some R') : Wf R' := by
  unfold readP at e
  split at e
  · cases e
  · exact Wf.step (h.closeN _ _) (fun z => closeN_if _ _ _ h (by decide +kernel) z) e
section
variable {K : PySem.W.Frag} {C CP sf l : Addr} {as : List (Addr × Addr)} {R : List Pt} {H : Hp} {p rl po ro : Addr} {q o : Pt}
theorem Rdr.dx (h : Rdr K C CP sf l as R H) : (∀ a ∈ as, sf ≠ a.1 ∧ sf ≠ a.2 ∧ l ≠ a.1 ∧ l ≠ a.2) ∧ sf ≠ l := by
  obtain ⟨dx, e⟩ := h.obj
  have hl := h.lst
  refine ⟨fun a ha => ?_, ne_of e hl (by intro z; cases z)⟩
  obtain ⟨q, d1, hv, vs, z1, z2, _⟩ := h.pts.mem a ha
  have n1 := h.nd1
  have n2 := h.nd2
  rw [List.nodup_cons] at n1 n2
  exact ⟨fun z => n1.1 (List.mem_map.mpr ⟨a, ha, z.symm⟩), ne_of e z2 (by intro z; cases z), ne_of hl z1 (by intro z; cases z), fun z => n2.1 (List.mem_map.mpr ⟨a, ha, z.symm⟩)⟩
/-- the rows of the innermost part are written -/
theorem Rdr.rows {vs : List V} {rs : List (List PyData)} (h : Rdr K C CP sf l ((p, rl) :: as) (q :: R) H) (hv : DtL K H vs (rs.map PyData.tuple)) :
    Rdr K C CP sf l ((p, rl) :: as) ({ q with rows := rs } :: R) (upd H rl (.lst vs)) ∧ Nx sf l ((p, rl) :: as) ((p, rl) :: as) H (upd H rl (.lst vs)) := by
  obtain ⟨d1, d2⟩ := h.dx
  obtain ⟨dx, e⟩ := h.obj
  obtain ⟨⟨dp, hv0, vs0, z1, z2, z3, z4⟩, hP⟩ := h.pts
  have hl := h.lst
  have x1 := d1 (p, rl) (List.mem_cons_self ..)
  dsimp only at x1 z1 z2
  have k : Kp [rl] H (upd H rl (.lst vs)) := kpW2 z2 trivial
  have n2 := h.nd2
  have npr : p ≠ rl := ne_of z1 z2 (by intro z; cases z)
  rw [List.nodup_cons, List.map_cons, List.nodup_cons] at n2
  refine ⟨⟨⟨dx, k.get e (by simp [x1.2.1])⟩, k.get hl (by simp [x1.2.2.2]), ⟨⟨dp, hv0, vs, k.get z1 (by simp [npr]), upd_same, z3.kp k, hv.kp k⟩, hP.kp k fun a ha => ?_⟩, h.nd1, h.nd2⟩, ⟨(Kp.reflM h.ms).write (adrs_iff.mpr (.inr (.inr ⟨_, List.mem_cons_self .., .inr rfl⟩))), fun b hb => .inl hb⟩⟩
  obtain ⟨q', d', hv', vs', y1, y2, _⟩ := hP.mem a ha
  refine ⟨?_, ?_⟩
  · have := ne_of y1 z2 (by intro z; cases z)
    simp [this]
  · simp only [List.mem_singleton]
    intro z
    exact n2.2.1 (List.mem_map.mpr ⟨a, ha, z⟩)
/-- the innermost part is over -/
theorem Rdr.overs {dx : Addr} {hv : V} (h : Rdr K C CP sf l ((p, rl) :: as) (q :: R) H) (e0 : H p = some (.ins CP dx [("kind", .str q.kind), ("head", hv), ("rows", .ref rl), ("is_over", .bl q.over)])) :
    Rdr K C CP sf l ((p, rl) :: as) ({ q with over := true } :: R) (upd H p (.ins CP dx [("kind", .str q.kind), ("head", hv), ("rows", .ref rl), ("is_over", .bl true)])) ∧ Nx sf l ((p, rl) :: as) ((p, rl) :: as) H (upd H p (.ins CP dx [("kind", .str q.kind), ("head", hv), ("rows", .ref rl), ("is_over", .bl true)])) := by
  obtain ⟨d1, d2⟩ := h.dx
  obtain ⟨dx1, e⟩ := h.obj
  obtain ⟨⟨dp, hv0, vs0, z1, z2, z3, z4⟩, hP⟩ := h.pts
  have hl := h.lst
  have x1 := d1 (p, rl) (List.mem_cons_self ..)
  dsimp only at x1 z1 z2
  rw [e0] at z1
  cases z1
  have k : Kp [p] H (upd H p (.ins CP dx [("kind", .str q.kind), ("head", hv), ("rows", .ref rl), ("is_over", .bl true)])) := kpW2 e0 trivial
  have n1 := h.nd1
  have npr : p ≠ rl := ne_of e0 z2 (by intro z; cases z)
  rw [List.nodup_cons, List.map_cons, List.nodup_cons] at n1
  refine ⟨⟨⟨dx1, k.get e (by simp [x1.1])⟩, k.get hl (by simp [x1.2.2.1]), ⟨⟨dx, hv, vs0, upd_same, k.get z2 (by simp [Ne.symm npr]), z3.kp k, z4.kp k⟩, hP.kp k fun a ha => ?_⟩, h.nd1, h.nd2⟩, ⟨(Kp.reflM h.ms).write (adrs_iff.mpr (.inr (.inr ⟨_, List.mem_cons_self .., .inl rfl⟩))), fun b hb => .inl hb⟩⟩
  obtain ⟨q', d', hv', vs', y1, y2, _⟩ := hP.mem a ha
  refine ⟨?_, ?_⟩
  · simp only [List.mem_singleton]
    intro z
    exact n1.2.1 (List.mem_map.mpr ⟨a, ha, z⟩)
  · have := ne_of y2 e0 (by intro z; cases z)
    simp [this]
/-- the innermost part is taken away -/
theorem Rdr.pop (h : Rdr K C CP sf l ((p, rl) :: as) (q :: R) H) : Rdr K C CP sf l as R (upd H l (.lst (refs as))) ∧ Nx sf l ((p, rl) :: as) as H (upd H l (.lst (refs as))) ∧ PtH K CP (upd H l (.lst (refs as))) p rl q := by
  obtain ⟨d1, d2⟩ := h.dx
  obtain ⟨dx, e⟩ := h.obj
  obtain ⟨z, hP⟩ := h.pts
  have hl := h.lst
  have k : Kp [l] H (upd H l (.lst (refs as))) := kpW2 hl trivial
  have n1 := h.nd1
  have n2 := h.nd2
  rw [List.map_cons, List.nodup_cons, List.nodup_cons] at n1 n2
  have x1 := d1 (p, rl) (List.mem_cons_self ..)
  refine ⟨⟨⟨dx, k.get e (by simp [d2])⟩, upd_same, hP.kp k fun a ha => ?_, ?_, ?_⟩, ⟨(Kp.reflM h.ms).write (adrs_iff.mpr (.inr (.inl rfl))), fun b hb => .inl ?_⟩, z.kp k (by simp [Ne.symm x1.2.2.1]) (by simp [Ne.symm x1.2.2.2])⟩
  · have := d1 a (List.mem_cons_of_mem _ ha)
    exact ⟨by simp [Ne.symm this.2.2.1], by simp [Ne.symm this.2.2.2]⟩
  · rw [List.nodup_cons]
    exact ⟨fun z => n1.1 (List.mem_cons_of_mem _ z), n1.2.2⟩
  · rw [List.nodup_cons]
    exact ⟨fun z => n2.1 (List.mem_cons_of_mem _ z), n2.2.2⟩
  · rcases adrs_iff.mp hb with z | z | ⟨a, ha, z⟩
    · exact adrs_iff.mpr (.inl z)
    · exact adrs_iff.mpr (.inr (.inl z))
    · exact adrs_iff.mpr (.inr (.inr ⟨a, List.mem_cons_of_mem _ ha, z⟩))
/-- a new part is put at the end -/
theorem Rdr.push {H1 : Hp} (h : Rdr K C CP sf l as R H) (k : Kp [] H H1) (hp : H p = none) (hr : H rl = none) (hq : PtH K CP H1 p rl q) :
    Rdr K C CP sf l ((p, rl) :: as) (q :: R) (upd H1 l (.lst (refs ((p, rl) :: as)))) ∧ Nx sf l as ((p, rl) :: as) H (upd H1 l (.lst (refs ((p, rl) :: as)))) := by
  have h1 := h.kp0 k
  obtain ⟨d1, d2⟩ := h1.dx
  obtain ⟨dx, e⟩ := h1.obj
  have hl := h1.lst
  have ms := h.ms
  have out : ∀ b, H b = none → b ∉ adrs sf l as := fun b e m => by
    obtain ⟨o, z, _⟩ := ms b m
    rw [e] at z
    cases z
  have k2 : Kp [l] H1 (upd H1 l (.lst (refs ((p, rl) :: as)))) := kpW2 hl trivial
  have op := out p hp
  have or_ := out rl hr
  rw [adrs_iff] at op or_
  refine ⟨⟨⟨dx, k2.get e (by simp [d2])⟩, upd_same, ⟨hq.kp k2 ?_ ?_, h1.pts.kp k2 fun a ha => ?_⟩, ?_, ?_⟩, ⟨fun b o e => ⟨((Kp.reflM ms) b o e).1, fun n => k2.get (k.get e (by simp)) ?_⟩, fun b hb => ?_⟩⟩
  · simp only [List.mem_singleton]
    exact fun z => op (.inr (.inl z))
  · simp only [List.mem_singleton]
    exact fun z => or_ (.inr (.inl z))
  · have := d1 a ha
    exact ⟨by simp [Ne.symm this.2.2.1], by simp [Ne.symm this.2.2.2]⟩
  · have n1 := h.nd1
    rw [List.nodup_cons] at n1
    rw [List.map_cons, List.nodup_cons, List.nodup_cons, List.mem_cons]
    refine ⟨fun z => ?_, fun z => ?_, n1.2⟩
    · rcases z with z | z
      · exact op (.inl z.symm)
      · exact n1.1 z
    · obtain ⟨a, ha, z⟩ := List.mem_map.mp z
      exact op (.inr (.inr ⟨a, ha, .inl z.symm⟩))
  · have n2 := h.nd2
    rw [List.nodup_cons] at n2
    rw [List.map_cons, List.nodup_cons, List.nodup_cons, List.mem_cons]
    refine ⟨fun z => ?_, fun z => ?_, n2.2⟩
    · rcases z with z | z
      · exact or_ (.inr (.inl z.symm))
      · exact n2.1 z
    · obtain ⟨a, ha, z⟩ := List.mem_map.mp z
      exact or_ (.inr (.inr ⟨a, ha, .inr z.symm⟩))
  · simp only [List.mem_singleton]
    intro z
    exact n (adrs_iff.mpr (.inr (.inl z)))
  · rcases adrs_iff.mp hb with z | z | ⟨a, ha, z⟩
    · exact .inl (adrs_iff.mpr (.inl z))
    · exact .inl (adrs_iff.mpr (.inr (.inl z)))
    · rcases List.mem_cons.mp ha with rfl | ha
      · rcases z with rfl | rfl
        · exact .inr hp
        · exact .inr hr
      · exact .inl (adrs_iff.mpr (.inr (.inr ⟨a, ha, z⟩)))
end
def spPart6 (K : PySem.W.Frag) (CP : Addr) : Sp := fun vs H Q _ => ∃ (sf dx : Addr) (kd : Str) (hv : V) (hd : List PyData), vs = [.ref sf, .str kd, hv] ∧ H sf = some (.ins CP dx []) ∧ Dt K H hv (.tuple hd) ∧
  ∀ (H' : Hp) (rl : Addr), H rl = none → Kp [sf] H H' → PtH K CP H' sf rl ⟨kd, hd, [], false⟩ → Q .non H'
def spLacks (K : PySem.W.Frag) (CP : Addr) : Sp := fun vs H Q _ => ∃ (p rl : Addr) (q : Pt), vs = [.ref p] ∧ PtH K CP H p rl q ∧ ∀ H', Kp [] H H' → Q (.bl q.lacks) H'
def spRInit (K : PySem.W.Frag) (C CP : Addr) : Sp := fun vs H Q _ => ∃ (sf dx : Addr), vs = [.ref sf] ∧ H sf = some (.ins C dx []) ∧
  ∀ (H' : Hp) (l : Addr) (as : List (Addr × Addr)), Kp [sf] H H' → Rdr K C CP sf l as root H' → (∀ b ∈ adrs sf l as, b = sf ∨ H b = none) → Q .non H'
def spClose (K : PySem.W.Frag) (C CP : Addr) : Sp := fun vs H Q _ => ∃ (sf l : Addr) (a b : Addr × Addr) (as : List (Addr × Addr)) (p o : Pt) (R : List Pt), vs = [.ref sf] ∧ Rdr K C CP sf l (a :: b :: as) (p :: o :: R) H ∧ Wf (p :: o :: R) ∧ o.rows.length ≤ 10000000 ∧ p.rows.length ≤ 10000000 ∧ p.head.length ≤ 2 ∧
  ∀ (H' : Hp), Rdr K C CP sf l (b :: as) (endP p o :: R) H' → Nx sf l (a :: b :: as) (b :: as) H H' → Q (.str p.kind) H'
/-- not too many rows -/
def few (n : Nat) (R : List Pt) : Prop := ∀ q ∈ R, q.rows.length ≤ n ∧ q.head.length ≤ 2
def spCome (K : PySem.W.Frag) (C CP : Addr) : Sp := fun vs H Q _ => ∃ (sf l : Addr) (as : List (Addr × Addr)) (R : List Pt) (d m : Nat), vs = [.ref sf, .int (d : Nat)] ∧ Rdr K C CP sf l as R H ∧ Wf R ∧ few m R ∧ m + R.length ≤ 10000000 ∧ d + 1 ≤ R.length ∧
  ∀ (H' : Hp) (as' : List (Addr × Addr)), Rdr K C CP sf l as' (closeN (R.length - 1 - d) "" R).2 H' → Nx sf l as as' H H' → Q (.str (closeN (R.length - 1 - d) "" R).1) H'
def spPut (K : PySem.W.Frag) (C CP : Addr) : Sp := fun vs H Q _ => ∃ (sf l : Addr) (as : List (Addr × Addr)) (R : List Pt) (v : V) (x : Option Ln), vs = [.ref sf, v] ∧ Rdr K C CP sf l as R H ∧ R ≠ [] ∧ few 10000000 R ∧ R.length ≤ 10000000 ∧ Dt K H v (olD x) ∧
  ((x = none → ∀ H', Kp [] H H' → Q (.bl false) H') ∧ ∀ y, x = some y → ∀ (H' : Hp) (as' : List (Addr × Addr)), Rdr K C CP sf l as' (putP y R) H' → Nx sf l as as' H H' → Q (.bl true) H')
def spRead1 (K : PySem.W.Frag) (C CP : Addr) : Sp := fun vs H Q _ => ∃ (sf l : Addr) (as : List (Addr × Addr)) (R : List Pt) (t : List Nat) (m : Nat), vs = [.ref sf, .str (tx t)] ∧ Rdr K C CP sf l as R H ∧ Wf R ∧ few m R ∧ m + R.length ≤ 5000000 ∧ t.length ≤ 1000000 ∧
  ∀ (H' : Hp) (as' : List (Addr × Addr)), Nx sf l as as' H H' → (∀ R', readP t R = some R' → Rdr K C CP sf l as' R' H') → Q (.bl (readP t R).isSome) H'
/-- the classes of the reader -/
structure PT (K : PySem.W.Frag) (CP : Addr) : Prop where
  cl : Cls K CP
  nK : NoAttr K CP "kind"
  nH : NoAttr K CP "head"
  nR : NoAttr K CP "rows"
  nO : NoAttr K CP "is_over"
structure RT (K : PySem.W.Frag) (C : Addr) : Prop where
  cl : Cls K C
  nB : NoAttr K C "blocks_open"
theorem DtL.cut6 {K : PySem.W.Frag} {H : Hp} {vs : List V} {ds : List PyData} (h : DtL K H vs ds) (lo hi : Option Int) : DtL K H (cutV vs lo hi) (cutD ds lo hi) := by
  unfold cutV cutD
  rw [h.len]
  refine ⟨by rw [List.length_take, List.length_take, List.length_drop, List.length_drop, h.len], fun i v d e e' => ?_⟩
  rw [List.getElem?_take] at e e'
  split at e
  · rename_i hi
    rw [if_pos hi] at e'
    rw [List.getElem?_drop] at e e'
    exact h.all _ v d e e'
  · cases e
theorem r_slD6 {K : PySem.W.Frag} {H : Hp} {Q : VK} {v : V} {ds : List PyData} {lo hi : Option Int} (h : Dt K H v (.tuple ds)) (k : ∀ H' w, Kp [] H H' → Dt K H' w (.tuple (cutD ds lo hi)) → Q w H') : rSlA K v lo hi H Q := by
  obtain ⟨a, xs, rfl, hT, hL⟩ := h.items
  refine ⟨a, xs, rfl, hT, fun hw => ?_, fun _ p hp => k _ _ (Kp.nil.new hp) (((hL.cut6 lo hi).kp (Kp.nil.new hp)).tup upd_same)⟩
  refine k _ _ Kp.nil ?_
  have e : cutD ds lo hi = ds := by
    unfold cutD
    rw [hL.len] at hw
    rw [hw.1, hw.2, List.drop_zero, Nat.sub_zero, List.take_length]
  rw [e]
  exact h
theorem cutD_take {α : Type} (xs : List α) (n : Nat) : cutD xs none (some (n : Int)) = xs.take n := by
  unfold cutD
  rw [HT.sIx_none, HT.sIx_nat, List.drop_zero, Nat.sub_zero]
  by_cases h : n ≤ xs.length
  · rw [Nat.min_eq_left h]
  · rw [Nat.min_eq_right (by omega), List.take_length, List.take_of_length_le (by omega)]
theorem ixN_last (n : Nat) : ixN (n + 1) (-1) = some n := by
  unfold ixN
  rw [if_neg (by omega), if_pos (by omega)]
  congr 1
  omega
def rLstrip : V → List V → Hp → VK → Prop := fun x xs H Q => ∃ a b, x = .str a ∧ xs = [.str b] ∧ a.length ≤ sizeLine ∧ Q (.str (Txt.lstripChars a b)) H
theorem m_lstrip {X : Cx} : MtR X "str.lstrip" rLstrip := mt_lstripChars
theorem lstrip_tx (l : List Nat) : Txt.lstripChars (tx l) " " = tx (lstr l) := by
  unfold Txt.lstripChars
  rw [PyProof.Rows.stripBy_eq]
  have hc : ∀ c : Nat, (" " : Str).cps.contains c = decide (c = 32) := by
    intro c
    rw [show (" " : Str).cps = #[32] by decide +kernel]
    by_cases h : c = 32
    · rw [h]; simp
    · rw [decide_eq_false h]
      simp [h]
  have hg : (" " : Str).cps.contains = fun c => decide (c = 32) := funext hc
  rw [hg]
  unfold stripLo stripHi
  simp only [if_true, Bool.false_eq_true, if_false]
  rw [PyProof.Rows.strSub_mk]
  show (⟨((l.drop (l.takeWhile fun c => decide (c = 32)).length).take ((tx l).length - (l.takeWhile fun c => decide (c = 32)).length)).toArray⟩ : Str) = _
  rw [tx_len, List.take_of_length_le (by rw [List.length_drop]; exact Nat.le_refl _)]
  have e := List.takeWhile_append_dropWhile (p := fun c => decide (c = 32)) (l := l)
  have e2 : l.drop (l.takeWhile fun c => decide (c = 32)).length = l.dropWhile fun c => decide (c = 32) := by
    conv => lhs; rw [← e]
    rw [List.takeWhile_append_dropWhile]
    conv => lhs; arg 2; rw [← e]
    exact List.drop_left
  rw [e2]
  rfl
theorem r_lstrip {l : List Nat} {H : Hp} {Q : VK} (hl : l.length ≤ 1000000) (h : Q (.str (tx (lstr l))) H) : rLstrip (.str (tx l)) [.str " "] H Q :=
  ⟨tx l, " ", rfl, rfl, by rw [tx_len, sizeLine_eq]; omega, by rw [lstrip_tx]; exact h⟩
theorem lstr_le (l : List Nat) : (lstr l).length ≤ l.length := (List.dropWhile_sublist _).length_le
def rSplit1 : V → List V → Hp → VK → Prop := fun x xs H Q => ∃ a b, x = .str a ∧ xs = [.str b] ∧ (b.length == 0) = false ∧ a.length + 2 ≤ sizeLine ∧ rNewStrs (Txt.split a b) H Q
theorem m_split {X : Cx} : MtR X "str.split" rSplit1 := mt_split
/-- the lines of a text -/
def linesT (l : List Nat) : List (List Nat) := TL.spl [10] 0 [] l
theorem split_tx (l : List Nat) : Txt.split (tx l) "\n" = (linesT l).map tx := by
  have hy : TL.tl ("\n" : Str) = [10] := by decide +kernel
  have h := TL.split_spl (tx l) "\n" (by rw [hy]; simp) (by
    have e : Builtin.Str.strKind ("\n" : Str) = 1 := by decide +kernel
    rw [e]
    unfold Builtin.Str.strKind
    split
    · omega
    · split <;> omega)
  rw [hy] at h
  unfold linesT
  have e : TL.tl (tx l) = l := rfl
  rw [e] at h
  rw [← h, List.map_map]
  conv => lhs; rw [← List.map_id (Txt.split (tx l) "\n")]
  exact List.map_congr_left fun z _ => (tx_of z).symm
theorem r_split1 {l : List Nat} {H : Hp} {Q : VK} (hl : l.length ≤ 1000000) (h : ∀ p, H p = none → Q (.ref p) (upd H p (.lst ((linesT l).map fun z => V.str (tx z))))) : rSplit1 (.str (tx l)) [.str "\n"] H Q := by
  refine ⟨tx l, "\n", rfl, rfl, by decide +kernel, by rw [tx_len, sizeLine_eq]; omega, fun p hp => ?_⟩
  have := h p hp
  rw [split_tx, List.map_map]
  exact this
theorem lines_join {ls : List (List Nat)} (hne : ls ≠ []) (h : ∀ l ∈ ls, 10 ∉ l) : linesT (TL.joinL [10] ls) = ls := TL.spl_join hne h
theorem join_sg (ls : List Str) : sg (Txt.join "\n" ls) = TL.joinL [10] (sgs ls) := by
  rw [TL.join_eq]
  have := TL.tl_join "\n" ls
  rw [show TL.tl ("\n" : Str) = [10] by decide +kernel] at this
  exact this
def qDivmod : List V → Hp → VK → Prop := fun xs H Q => ∃ i j, xs = [.int i, .int j] ∧ CDiv i j ∧ ∀ p, H p = none → Q (.ref p) (upd H p (.tup [.int (i / j), .int (i % j)]))
theorem c_divmod {X : Cx} : CallR X (.builtin "divmod") qDivmod := call_divmod
section
variable {X : Cx} {CX : CXT} {k : Nat} {C : Addr} {ps : List Str} {sp : Sp} {E : XK} {x : Str} {p pos : Pos}
theorem pe_new0 (F : HasC X.prog X.w X.K X.mg X.base CX x C ps k sp) (hr : RoomG (k + 1) X.A) (hg : Gl X x) (hx : Passes CX X E)
    (hdb : (x == ("__debug__" : Str)) = false := by decide) : PE X (.Call (.Name x p) [] [] pos) (tMake C sp [] E tNil) := by
  obtain ⟨f, fd, M, hm, hb, F⟩ := F
  refine ⟨fun pins s σ H Q I h => ?_⟩
  refine wpAny_Call_Name_kw (ld_glob I hg hm ?_ hdb)
  exact PySem.W.callWith_K0 I.kIn M.kp (runMake (us := []) (vs := []) M F hr hb hx I .nil h)
end
theorem DtL.un6 {K : PySem.W.Frag} {H : Hp} {vs : List V} {ds : List PyData} {d : PyData} (h : DtL K H vs (d :: ds)) : ∃ v us, vs = v :: us ∧ Dt K H v d := by
  cases vs with
  | nil => have := h.len; cases this
  | cons v us => exact ⟨v, us, rfl, h.all 0 v d rfl rfl⟩
theorem atI06 (x : V) (xs : List V) : atI (x :: xs) 0 = some x := by
  unfold atI ixN
  simp
theorem Rdr.two {K : PySem.W.Frag} {C CP sf l : Addr} {as : List (Addr × Addr)} {R : List Pt} {H : Hp} (h : Rdr K C CP sf l as R H) (hne : R ≠ []) : ∃ p rl as' q R', as = (p, rl) :: as' ∧ R = q :: R' := by
  have := h.pts.len
  match as, R, this, hne with
  | (p, rl) :: as', q :: R', _, _ => exact ⟨p, rl, as', q, R', rfl, rfl⟩
  | [], [], _, hne => exact absurd rfl hne
theorem few.mono {m n : Nat} {R : List Pt} (h : few m R) (z : m ≤ n) : few n R := fun q hq => ⟨Nat.le_trans (h q hq).1 z, (h q hq).2⟩
theorem few_end {m : Nat} {p o : Pt} {r : List Pt} (h : few (m + 1) [p]) (ho : few m (o :: r)) : few (m + 1) [endP p o] ∧ few m r := by
  have fo := ho o (List.mem_cons_self ..)
  refine ⟨fun q hq => ?_, fun q hq => ho q (List.mem_cons_of_mem _ hq)⟩
  rw [List.mem_singleton.mp hq]
  unfold endP Pt.add
  split
  · refine ⟨?_, fo.2⟩
    simp only [List.length_append, List.length_dropLast, List.length_singleton]
    omega
  · split
    · refine ⟨?_, fo.2⟩
      simp only [List.length_append, List.length_singleton]
      omega
    · refine ⟨?_, fo.2⟩
      simp only [List.length_append, List.length_singleton]
      omega
theorem few_closeN {m : Nat} : ∀ (n : Nat) (k : Str) (q : Pt) (r : List Pt), few (m + 1) [q] → few m r → few (m + 1) (closeN n k (q :: r)).2
  | 0, k, q, r, h, g => by
    rw [closeN]
    intro x hx
    rcases List.mem_cons.mp hx with rfl | hx
    · exact h _ (List.mem_cons_self ..)
    · exact g.mono (Nat.le_succ _) _ hx
  | n + 1, k, q, [], h, g => by
    rw [closeN]
    · exact h
    · simp
  | n + 1, k, q, o :: r, h, g => by
    rw [closeN]
    obtain ⟨a, b⟩ := few_end h g
    exact few_closeN n q.kind (endP q o) r a b
theorem few_close {m n : Nat} {k : Str} {R : List Pt} (h : few m R) : few (m + 1) (closeN n k R).2 := by
  cases R with
  | nil =>
    have e : (closeN n k []).2 = [] := by cases n <;> rfl
    rw [e]
    intro q hq
    cases hq
  | cons q r => exact few_closeN n k q r (fun x hx => by rw [List.mem_singleton.mp hx]; exact (h.mono (Nat.le_succ _)) q (List.mem_cons_self ..)) fun x hx => h x (List.mem_cons_of_mem _ hx)
theorem few_step {m : Nat} {t : List Nat} {k : Str} {b : Bool} {R R' : List Pt} (h : few m R) (e : stepP t k b R = some R') : few (m + 1) R' ∧ R'.length ≤ R.length + 1 := by
  match R, h with
  | [], h => cases e
  | q :: r, h =>
    have hq := h q (List.mem_cons_self ..)
    have hr : ∀ x ∈ r, x.rows.length ≤ m + 1 ∧ x.head.length ≤ 2 := fun x hx => (h.mono (Nat.le_succ _)) x (List.mem_cons_of_mem _ hx)
    have hcons : ∀ (x : Pt), (x.rows.length ≤ m + 1 ∧ x.head.length ≤ 2) → few (m + 1) (x :: r) := fun x hx y hy => by
      rcases List.mem_cons.mp hy with rfl | hy
      · exact hx
      · exact hr y hy
    have hcons2 : ∀ (x : Pt), (x.rows.length ≤ m + 1 ∧ x.head.length ≤ 2) → few (m + 1) (x :: q :: r) := fun x hx y hy => by
      rcases List.mem_cons.mp hy with rfl | hy
      · exact hx
      · exact hcons q ⟨by omega, hq.2⟩ y hy
    unfold stepP at e
    dsimp only at e
    split at e
    · cases e
      exact ⟨hcons2 _ ⟨by simp, by simp⟩, by simp⟩
    · split at e
      · split at e
        · cases e
          exact ⟨hcons _ ⟨by show q.rows.length ≤ _; omega, hq.2⟩, by simp⟩
        · cases e
      · split at e
        · cases e
        · obtain ⟨x, _, rfl⟩ := Option.map_eq_some_iff.mp e
          cases x with
          | pl p => exact ⟨hcons _ ⟨by unfold Pt.add; simp; omega, hq.2⟩, by simp [putP]⟩
          | ifh t => exact ⟨hcons2 _ ⟨by simp, by simp [Ln.its]⟩, by simp [putP]⟩
          | reph k => exact ⟨hcons2 _ ⟨by simp, by simp [Ln.its]⟩, by simp [putP]⟩
theorem few_read {m : Nat} {t : List Nat} {R R' : List Pt} (h : few m R) (hR : R ≠ []) (e : readP t R = some R') : few (m + 2) R' ∧ R'.length ≤ R.length + 1 := by
  unfold readP at e
  split at e
  · cases e
  · obtain ⟨a, b⟩ := few_step (few_close h) e
    refine ⟨a, Nat.le_trans b ?_⟩
    have := closeN_len (R.length - 1 - (t.length - (lstr t).length) / 2) "" R (by
      have : R.length ≠ 0 := fun z => hR (List.length_eq_zero_iff.mp z)
      omega)
    rw [this]
    omega
theorem putF_over (a b c o v : V) : putF "is_over" v ([("kind", a), ("head", b), ("rows", c), ("is_over", o)] : List (Str × V)) = ([("kind", a), ("head", b), ("rows", c), ("is_over", v)] : List (Str × V)) := by
  rw [putF, if_neg (show ¬ ("kind" : Str) = "is_over" by decide +kernel), putF, if_neg (show ¬ ("head" : Str) = "is_over" by decide +kernel), putF, if_neg (show ¬ ("rows" : Str) = "is_over" by decide +kernel), putF, if_pos rfl]
theorem dec_int6 (x y : Int) : decide (V.int x = V.int y) = decide (x = y) := decide_eq_decide.mpr ⟨fun e => by injection e, fun e => by rw [e]⟩
/-- the reader and all that it has made behind the heap H0 -/
structure Rfr (K : PySem.W.Frag) (C CP sf l : Addr) (as : List (Addr × Addr)) (R : List Pt) (H0 H : Hp) : Prop where
  r : Rdr K C CP sf l as R H
  kp : Kp [] H0 H
  fr : ∀ b ∈ adrs sf l as, H0 b = none
theorem Rfr.step {K : PySem.W.Frag} {C CP sf l : Addr} {as as' : List (Addr × Addr)} {R R' : List Pt} {H0 H H1 : Hp} (h : Rfr K C CP sf l as R H0 H) (n : Nx sf l as as' H H1) (r : Rdr K C CP sf l as' R' H1) : Rfr K C CP sf l as' R' H0 H1 :=
  ⟨r, h.kp.outs (fun b hb => .inl (h.fr b hb)) n.kp, fun b hb => by
    rcases n.nw b hb with z | z
    · exact h.fr b z
    · exact h.kp.freeM Ms.nil z⟩
theorem Rfr.kp0 {K : PySem.W.Frag} {C CP sf l : Addr} {as : List (Addr × Addr)} {R : List Pt} {H0 H H1 : Hp} (h : Rfr K C CP sf l as R H0 H) (k : Kp [] H H1) : Rfr K C CP sf l as R H0 H1 := ⟨h.r.kp0 k, h.kp.trans k, h.fr⟩
theorem linesT_ne (l : List Nat) : ∃ h t, linesT l = h :: t := by
  cases e : linesT l with
  | nil =>
    have h := split_tx l
    rw [e, List.map_nil] at h
    have j := PySem.StrLaws.join_split (tx l) "\n"
    unfold Txt.split at h
    split at h
    · cases h
    · split at h
      · cases h
      · rw [PySem.StrLaws.partsBetween_eq] at h
        obtain ⟨p, r, z⟩ := PySem.StrLaws.partsFrom_ne (tx l) ("\n" : Str).length 0 (PySem.Builtin.Str.occurrences (tx l) "\n" 0 (tx l).length ((tx l).length + 1))
        rw [z] at h
        cases h
  | cons h t => exact ⟨h, t, rfl⟩
theorem spl_len (S : List Nat) : ∀ (l acc : List Nat) (n : Nat), ∀ z ∈ TL.spl S n acc l, z.length ≤ acc.length + l.length := by
  intro l
  induction l with
  | nil =>
    intro acc n z hz
    rw [TL.spl_nil, List.mem_singleton] at hz
    rw [hz]
    simp
  | cons c r ih =>
    intro acc n z hz
    rw [List.length_cons]
    cases n with
    | zero =>
      rw [TL.spl] at hz
      split at hz
      · rcases List.mem_cons.mp hz with rfl | hz
        · omega
        · have := ih [] _ z hz
          rw [List.length_nil] at this
          omega
      · have := ih _ _ z hz
        rw [List.length_append, List.length_singleton] at this
        omega
    | succ n =>
      rw [TL.spl] at hz
      have := ih _ _ z hz
      omega
theorem linesT_len (l : List Nat) : ∀ z ∈ linesT l, z.length ≤ l.length := fun z hz => by
  have := spl_len [10] l [] 0 z hz
  simpa using this
end Aw
namespace Aw
open PySem PySem.Spec PyProof.Rows L2 HT
def RevT (K : PySem.W.Frag) (Q : VK) : V → Hp → Prop := fun x H1 => ∃ a xs, x = .ref a ∧ SqT K H1 a xs ∧ ∀ p, H1 p = none → Q (.ref p) (upd H1 p (.tup xs.reverse))
theorem DtL.rev {K : PySem.W.Frag} {H : Hp} {vs : List V} {ds : List PyData} (h : DtL K H vs ds) : DtL K H vs.reverse ds.reverse := by
  refine ⟨by rw [List.length_reverse, List.length_reverse, h.len], fun i v d e e' => ?_⟩
  have hi := (List.getElem?_eq_some_iff.mp e).1
  rw [List.length_reverse] at hi
  rw [List.getElem?_reverse hi] at e
  rw [List.getElem?_reverse (by rw [← h.len]; exact hi), ← h.len] at e'
  exact h.all _ v d e e'
theorem r_RevT {K : PySem.W.Frag} {H : Hp} {Q : VK} {v : V} {ds : List PyData} (h : Dt K H v (.tuple ds)) (k : ∀ H' w, Kp [] H H' → Dt K H' w (.tuple ds.reverse) → Q w H') : RevT K Q v H := by
  obtain ⟨a, xs, rfl, hT, hL⟩ := h.items
  exact ⟨a, xs, rfl, hT, fun p hp => k _ _ (Kp.nil.new hp) ((hL.rev.kp (Kp.nil.new hp)).tup upd_same)⟩
theorem Ex.vd.ok' : ∀ {n : Nat} {e : Ex}, e.vd n → e.ok n
  | 0, _, h => h.elim
  | n + 1, .int i, h => h
  | n + 1, .name x, h => name_sok h
  | n + 1, .bin o a b, h => by
    obtain ⟨hb, ho⟩ := h
    have hop : IsOp o := by
      rcases ho with ⟨rfl, _⟩ | ⟨ho | ho, _⟩
      · exact .inr (.inr rfl)
      · exact .inl ho
      · exact .inr (.inl ho)
    refine ⟨hop, ?_, hb.ok'⟩
    rcases ho with ⟨_, i, rfl, i1, i2⟩ | ⟨_, ha⟩
    · cases n with
      | zero => exact hb.elim
      | succ n => exact ⟨by omega, by omega⟩
    · exact ha.ok'
theorem Ts.vd.ok' : ∀ {n : Nat} {t : Ts}, t.vd n → t.ok n
  | 0, .not t, h => h.elim
  | n + 1, .not t, h => Ts.vd.ok' (n := n) (t := t) h
  | n, .given x, h => by
    have h : isNameS x = true := by cases n <;> exact h
    cases n <;> exact name_sok h
  | n, .rest e b r, h => by
    have h : e.vd 3 ∧ 2 ≤ b ∧ b ≤ 6 ∧ 0 ≤ r ∧ r ≤ b - 1 := by cases n <;> exact h
    have q : e.ok 3 ∧ 0 ≤ b ∧ b ≤ 99 ∧ 0 ≤ r ∧ r ≤ 99 := ⟨h.1.ok', by omega, by omega, by omega, by omega⟩
    cases n <;> exact q
  | n, .less a b, h => by
    have h : a.vd 3 ∧ b.vd 3 := by cases n <;> exact h
    cases n <;> exact ⟨h.1.ok', h.2.ok'⟩
theorem word_sok {x : Str} (h : isWordS x = true) : Sok x 8 := ⟨(word_ok h).1, (word_ok h).2⟩
theorem Pl.vd.ok' {p : Pl} (h : p.vd) : p.ok := by
  cases p with
  | set x e => exact ⟨name_sok h.1, h.2.ok'⟩
  | unset x => exact name_sok h
  | tell e => exact Ex.vd.ok' h
  | say w => exact word_sok h
  | stop w => exact word_sok h
theorem Sm.vd.ok' : ∀ {n : Nat} {s : Sm}, s.vd n → s.ok (n + 1) := by
  intro n
  induction n with
  | zero =>
    intro s h
    cases s with
    | pl p => exact Pl.vd.ok' h
    | ifs t y z => exact ⟨h.1.ok', by rw [h.2.1]; simp, by rw [h.2.2]; simp⟩
    | rep k b => exact ⟨h.1, h.2.1, by rw [h.2.2]; simp⟩
  | succ n ih =>
    intro s h
    cases s with
    | pl p => exact Pl.vd.ok' h
    | ifs t y z => exact ⟨h.1.ok', fun s hs => ih (h.2.1 s hs), fun s hs => ih (h.2.2 s hs)⟩
    | rep k b => exact ⟨h.1, h.2.1, fun s hs => ih (h.2.2 s hs)⟩
end Aw
namespace Aw
open PySem PySem.Spec L2
mutual
/-- data of ints, texts, None and tuples -/
def noB : PyData → Bool
  | .none => true
  | .int _ => true
  | .str _ => true
  | .tuple ds => noBs ds
  | _ => false
def noBs : List PyData → Bool
  | [] => true
  | d :: r => noB d && noBs r
end
theorem Ex.noB : ∀ e : Ex, Aw.noB e.d = true
  | .int i => by rw [Ex.d, Aw.noB]
  | .name x => by rw [Ex.d, Aw.noB]
  | .bin o a b => by
    have h1 := Ex.noB a
    have h2 := Ex.noB b
    rw [Ex.d, Aw.noB]
    simp [noBs, Aw.noB, h1, h2]
theorem Ts.noB : ∀ t : Ts, Aw.noB t.d = true
  | .not t => by
    have h := Ts.noB t
    rw [Ts.d, Aw.noB]
    simp [noBs, Aw.noB, h]
  | .given x => by rw [Ts.d, Aw.noB]; simp [noBs, Aw.noB]
  | .rest e b r => by
    have h := Ex.noB e
    rw [Ts.d, Aw.noB]
    simp [noBs, Aw.noB, h]
  | .less a b => by
    have h1 := Ex.noB a
    have h2 := Ex.noB b
    rw [Ts.d, Aw.noB]
    simp [noBs, Aw.noB, h1, h2]
theorem Pl.noB (p : Pl) : Aw.noB p.d = true := by
  cases p with
  | set x e => have h := Ex.noB e; rw [Pl.d, Aw.noB]; simp [noBs, Aw.noB, h]
  | unset x => rw [Pl.d, Aw.noB]; simp [noBs, Aw.noB]
  | tell e => have h := Ex.noB e; rw [Pl.d, Aw.noB]; simp [noBs, Aw.noB, h]
  | say x => rw [Pl.d, Aw.noB]; simp [noBs, Aw.noB]
  | stop x => rw [Pl.d, Aw.noB]; simp [noBs, Aw.noB]
mutual
theorem Sm.noB : ∀ s : Sm, Aw.noB s.d = true
  | .pl p => by rw [Sm.d]; exact p.noB
  | .ifs t y z => by
    have h1 := Ts.noB t
    have h2 := Sm.noBs y
    have h3 := Sm.noBs z
    rw [Sm.d, Aw.noB]
    simp [Aw.noBs, Aw.noB, h1, h2, h3]
  | .rep k b => by
    have h2 := Sm.noBs b
    rw [Sm.d, Aw.noB]
    simp [Aw.noBs, Aw.noB, h2]
theorem Sm.noBs : ∀ b : List Sm, Aw.noBs (Sm.ds b) = true
  | [] => by rw [Sm.ds, Aw.noBs]
  | s :: r => by
    have h1 := Sm.noB s
    have h2 := Sm.noBs r
    rw [Sm.ds, Aw.noBs, h1, h2]
    rfl
end
theorem Sm.sizes_rev : ∀ b : List Sm, Sm.sizes b.reverse = Sm.sizes b
  | [] => rfl
  | s :: r => by rw [List.reverse_cons, Sm.sizes_app, Sm.sizes_rev r, Sm.sizes, Sm.sizes, Sm.sizes]; omega
/-- a value is a valid program, but for the bounds -/
structure Vp (K : PySem.W.Frag) (H : Hp) (v : V) (b : List Sm) (m : Nat) : Prop where
  d : Dt K H v (.tuple (Sm.ds b))
  vd : ∀ s ∈ b, Sm.vd 3 s
  sz : Sm.sizes b ≤ m
theorem Vp.kp {K : PySem.W.Frag} {H H1 : Hp} {v : V} {b : List Sm} {m : Nat} {M : List Addr} (h : Vp K H v b m) (k : Kp M H H1) : Vp K H1 v b m := ⟨h.d.kp k, h.vd, h.sz⟩
theorem Vp.mono {K : PySem.W.Frag} {H : Hp} {v : V} {b : List Sm} {m n : Nat} (h : Vp K H v b m) (z : m ≤ n) : Vp K H v b n := ⟨h.d, h.vd, Nat.le_trans h.sz z⟩
theorem Vp.rev {K : PySem.W.Frag} {H : Hp} {Q : VK} {v : V} {b : List Sm} {m : Nat} (h : Vp K H v b m) (k : ∀ H' w, Kp [] H H' → Vp K H' w b.reverse m → Q w H') : RevT K Q v H :=
  r_RevT h.d fun H' w k' hw => k H' w k' ⟨by rw [Sm.ds_map, ← List.map_reverse, ← Sm.ds_map] at hw; exact hw, fun s hs => h.vd s (List.mem_reverse.mp hs), by rw [Sm.sizes_rev]; exact h.sz⟩
theorem Vp.b4 {K : PySem.W.Frag} {H : Hp} {v : V} {b : List Sm} {m : Nat} (h : Vp K H v b m) : VdB 4 b := h.vd
theorem Vp.dok {K : PySem.W.Frag} {H : Hp} {v : V} {b : List Sm} {m : Nat} (h : Vp K H v b m) (hm : m ≤ 100) : Dok (.tuple (Sm.ds b)) 20001 15 := by
  have := (Sm.vd.doks 4 b h.b4).tup
  exact this.mono (by have := h.sz; omega) (by omega)
mutual
theorem lay_noB : ∀ d : PyData, shb d = true → noB d = true → d.canLay0 = true
  | .none, _, _ => by rw [PyData.canLay0]
  | .int i, _, _ => by rw [PyData.canLay0]
  | .str x, h, _ => by rw [shb] at h; rw [PyData.canLay0]; exact h
  | .tuple ds, h, g => by rw [shb] at h; rw [noB] at g; rw [PyData.canLay0]; exact lay_noBs ds h g
  | .bool _, _, g => by simp [noB] at g
  | .list _, _, g => by simp [noB] at g
  | .dict _, _, g => by simp [noB] at g
theorem lay_noBs : ∀ ds : List PyData, shbs ds = true → noBs ds = true → PyData.canLayAll0 ds = true
  | [], _, _ => by rw [PyData.canLayAll0]
  | d :: r, h, g => by
    rw [shbs, Bool.and_eq_true] at h
    rw [noBs, Bool.and_eq_true] at g
    rw [PyData.canLayAll0, lay_noB d h.1 g.1, lay_noBs r h.2 g.2]
    rfl
end
theorem Vp.shaped {K : PySem.W.Frag} {H : Hp} {v : V} {b : List Sm} {m : Nat} (h : Vp K H v b m) (hm : m ≤ 100) : SeqAt.shaped (.tuple (Sm.ds b)) = true := by
  have hd := h.dok hm
  unfold SeqAt.shaped
  rw [lay_noB _ hd.sh (by rw [noB]; exact Sm.noBs b), decide_eq_true (Nat.le_trans hd.dp (by omega))]
  rfl
def is3 (es : List DictEntry) : Prop := ∃ (h1 h2 h3 : Int) (a1 a2 a3 b1 b2 b3 : Tok), es = [⟨h1, .str " + " a1, .str "plus" b1⟩, ⟨h2, .str " - " a2, .str "minus" b2⟩, ⟨h3, .str " * " a3, .str "times" b3⟩]
theorem words_mk {K : PySem.W.Frag} {w : World} {h : Heap} {mg : Str → Option Value} {a : Addr} {es : Array DictEntry} {n : Nat} (X : K.In h) (G : h.Ns mainGlobals mg)
    (z1 : PySem.W.nsIn K mainGlobals "WORDS" = some (some (.ref a))) (z2 : K.lookup a = some ⟨.type "dict", none, .dict es n, #[]⟩) (z4 : is3 es.toList) (z5 : (a == sysModules) = false)
    (z3 : PySem.W.KeysLit w.params es.toList) : ∃ a, mg "WORDS" = some (.ref a) ∧ KD K w a wordsL := by
  refine ⟨a, PySem.W.mg_of X G z1, es, n, z2, z3, z5, fun z => ?_⟩
  obtain ⟨h1, h2, h3, a1, a2, a3, b1, b2, b3, e⟩ := z4
  have e2 : es = #[⟨h1, .str " + " a1, .str "plus" b1⟩, ⟨h2, .str " - " a2, .str "minus" b2⟩, ⟨h3, .str " * " a3, .str "times" b3⟩] := by
    apply Array.toList_inj.mp
    exact e
  rw [e2]
  unfold PySem.findBy wordsL
  simp only [List.find?_toArray, List.find?_cons, Value.isStrOf, List.find?_nil]
  by_cases c1 : z = " + "
  · subst c1
    rw [if_pos rfl]
    simp only [beq_self_eq_true, Option.map]
    exact ⟨_, rfl⟩
  · have d1 : ((" + " : Str) == z) = false := by simpa using fun q => c1 q.symm
    rw [if_neg c1, d1]
    by_cases c2 : z = " - "
    · subst c2
      rw [if_pos rfl]
      simp only [beq_self_eq_true, Option.map]
      exact ⟨_, rfl⟩
    · have d2 : ((" - " : Str) == z) = false := by simpa using fun q => c2 q.symm
      rw [if_neg c2, d2]
      by_cases c3 : z = " * "
      · subst c3
        rw [if_pos rfl]
        simp only [beq_self_eq_true, Option.map]
        exact ⟨_, rfl⟩
      · have d3 : ((" * " : Str) == z) = false := by simpa using fun q => c3 q.symm
        rw [if_neg c3, d3]
        exact trivial
theorem keptw_mk {K : PySem.W.Frag} {h : Heap} {mg : Str → Option Value} {a : Addr} {od : Option Addr} {its : Array Value} {n : Nat} {sl : Array (Option Value)} (X : K.In h) (G : h.Ns mainGlobals mg)
    (z1 : PySem.W.nsIn K mainGlobals "KEPT_WORDS" = some (some (.ref a))) (z2 : K.lookup a = some ⟨.type "tuple", od, .seq its n, sl⟩) (z3 : its.size ≤ 1000) (z4 : Vals (KEPTS.map V.str) its.toList) :
    ∃ a, mg "KEPT_WORDS" = some (.ref a) ∧ ∀ H : Hp, SqT K H a (KEPTS.map V.str) :=
  ⟨a, PySem.W.mg_of X G z1, fun H => .inr ⟨_, its, n, z2, rfl, rfl, by rw [sizeLine_eq]; omega, z4⟩⟩
/-- methods and makers where they stand -/
theorem dfm_mk6 {K : PySem.W.Frag} {C f : Addr} {m q : Str} {st : Stmt} {ps : List Str}
    {oc kV doc pm cdv ct : Value} {od an : Option Addr} {osl : Array (Option Value)}
    (a : PySem.W.findIn K (.ref C) m = some (some (.ref f)))
    (l : K.lookup f = some ⟨oc, od, .func (PySem.W.fnOf m q (defArgs st) (defBody st) (defScope st) .none kV doc pm an cdv ct), osl⟩)
    (c : PySem.W.codeIn K cdv q = true) (k : PySem.W.keepIn K (.ref f) = true) (i : PySem.W.isFn K (.ref f) = true)
    (b : ∀ (kV doc pm : Value) (an : Option Addr) (cdv ct : Value) (us : List Value), us.length = ps.length →
      bindArgs (PySem.W.fnOf m q (defArgs st) (defBody st) (defScope st) .none kV doc pm an cdv ct) ⟨us, []⟩ = pure (ps.zip us)) :
    DfM K C m q st ps := by
  have F := fun_mk (st := st) l c k
  exact ⟨f, _, F, ⟨a, i, k⟩, F.binds b⟩
theorem na_mk6 {K : PySem.W.Frag} {C : Addr} {f : Str} (h : PySem.W.findIn K (.ref C) f = some none) : NoAttr K C f := h
theorem HasC.of6 {P : Program} {w : World} {K : PySem.W.Frag} {mg : Str → Option Value} {base : Heap} {CX : CXT} {x : Str} {C : Addr} {ps : List Str} {k : Nat} {sp : Sp} (h : HasM P w K mg base CX C "__init__" ps k sp)
    (m1 : PySem.W.makesIn K C = true) (kc : PySem.W.keepIn K (.ref C) = true) (m : mg x = some (.ref C)) : HasC P w K mg base CX x C ps k sp := by
  obtain ⟨f, fd, _, M, b, F⟩ := h
  exact ⟨f, fd, ⟨m1, M.at_, M.fn, kc⟩, m, b, F⟩
end Aw
namespace Aw
open PySem PySem.Spec PyProof.Rows L2
section
variable {P : Program} {w : World} {K : PySem.W.Frag} {mg : Str → Option Value} {base : Heap}
theorem Df.hasX {x : Str} {st : Stmt} {ps N : List Str} {k : Nat} {sp : Sp} (d : Df K mg x st ps)
    (S : FnScope N ps (defScope st)) (len : ∀ vs H Q E, sp vs H Q E → vs.length = ps.length)
    (hb : ∀ (f : Addr) (cdv : Value) (A : Around) (outer : List Env) (s : Shared) (H : Hp) (vs : List V) (Q : VK) (E : XK),
      RoomG k (A.deeper (envOfC x (defScope st) s.heap.objs.size f cdv)) → sp vs H Q E →
      ∃ t, PSs (cxOf (L2.CX P w) P w K mg base N x (defScope st) f cdv A outer s H E) (defBody st) t ∧
        t { nx := fun _ H' => Q .non H', rt := Q } (start N vs) H) : Has P w K mg base (L2.CX P w) x ps (k + 1) sp := by
  obtain ⟨f, fd, F, m, b⟩ := d
  obtain ⟨oc, od, kV, doc, pm, an, cdv, ct, osl, rfl, lk, hcd⟩ := F.ex
  exact ⟨f, _, ⟨F.kp, oc, od, osl, lk⟩, m, b, fnG_of lk hcd S len fun A outer s H vs Q E hr hsp => hb f cdv A outer s H vs Q E hr hsp⟩
theorem DfM.hasX {C : Addr} {m q : Str} {st : Stmt} {ps N : List Str} {k : Nat} {sp : Sp} (d : DfM K C m q st ps) (S : FnScope N ps (defScope st)) (len : ∀ vs H Q E, sp vs H Q E → vs.length = ps.length)
    (hb : ∀ (f : Addr) (cdv : Value) (A : Around) (outer : List Env) (s : Shared) (H : Hp) (vs : List V) (Q : VK) (E : XK),
      RoomG k (A.deeper (envOfC q (defScope st) s.heap.objs.size f cdv)) → sp vs H Q E →
      ∃ t, PSs (cxOf (L2.CX P w) P w K mg base N q (defScope st) f cdv A outer s H E) (defBody st) t ∧
        t { nx := fun _ H' => Q .non H', rt := Q } (start N vs) H) : HasM P w K mg base (L2.CX P w) C m ps (k + 1) sp := by
  obtain ⟨f, fd, F, mm, b⟩ := d
  obtain ⟨oc, od, kV, doc, pm, an, cdv, ct, osl, rfl, lk, hcd⟩ := F.ex
  exact ⟨f, _, ⟨oc, od, osl, lk⟩, mm, b, fnG_of lk hcd S len fun A outer s H vs Q E hr hsp => hb f cdv A outer s H vs Q E hr hsp⟩
end
/-- what the written part says of an error's class at C, by the name x -/
structure ErrC (K : PySem.W.Frag) (mg : Str → Option Value) (x : Str) (C : Addr) : Prop where
  o : OexC K C
  f : XfC K C
  at_ : mg x = some (.ref C)
/-- the error's __init__ keeps its promise -/
def HasE (P : Program) (w : World) (K : PySem.W.Frag) (mg : Str → Option Value) (base : Heap) (x : Str) (C : Addr) (ps : List Str) (k : Nat) (sp : Sp) : Prop :=
  ErrC K mg x C ∧ ∃ (f : Addr) (fd : FuncData), PySem.W.findIn K (.ref C) "__init__" = some (some (.ref f)) ∧ PySem.W.typeIn K (.ref f) = some (.type "function") ∧ Binds K fd ps [] ∧ FnG P w K mg base CX0 k f fd ps sp
theorem HasE.of {P : Program} {w : World} {K : PySem.W.Frag} {mg : Str → Option Value} {base : Heap} {x : Str} {C : Addr} {ps : List Str} {k : Nat} {sp : Sp} (E : ErrC K mg x C) (h : HasM P w K mg base CX0 C "__init__" ps k sp) : HasE P w K mg base x C ps k sp := by
  obtain ⟨f, fd, _, M, b, F⟩ := h
  exact ⟨E, f, fd, M.at_, beq_iff_eq.mp M.fn, b, F⟩
/-- self.f = v is all that it does -/
def spErr (C : Addr) (f : Str) : Sp := fun vs H Q _ => ∃ (a : Addr) (v : V), vs = [.ref a, v] ∧ H a = some (exo a C none) ∧
  ∀ dx, H dx = none → dx ≠ a → Q .non (upd (upd H dx (exd dx [(f, v)])) a (exo a C (some dx)))
/-- x(e): the error that is made -/
def tErr (C : Addr) (f : Str) (ta : TA) : L2.St → Hp → XK → Prop := fun σ H Q => ta σ H fun vs H1 => ∃ v, vs = [v] ∧ ∀ d, H1 d = none → Q (.ref C) (some d) (upd H1 d (.xd [(f, v)]))
section
variable {X : Cx} {e : Expr} {es : List Expr} {ta : TA} {x f : Str} {C : Addr} {k : Nat} {ps : List Str} {p pos p1 p2 : Pos}
theorem mk_oexG {sp : Sp} {pins : List (Addr × Obj)} {σ : L2.St} {H1 : Hp} {Q : XK} {us : List Value} {vs : List V} {s1 : Shared} (F : HasE X.prog X.w X.K X.mg X.base x C ps k sp) (hr : RoomG (k + 1) X.A) (I1 : Inv X pins σ H1 s1) (r1 : Vals vs us) (hz : vs.length ≤ 1000)
    (q1 : ∀ a, H1 a = none → sp (.ref a :: (vs ++ [])) (upd H1 a (exo a C none)) (fun v H2 => v = .non ∧ ∃ (d : Addr) (fs : List (Str × V)), H2 a = some (exo a C (some d)) ∧ H2 d = some (exd d fs) ∧ H1 d = none ∧ Q (.ref C) (some d) (upd (del H2 a) d (.xd fs))) (fun _ _ _ => False)) :
    wpAny (model X.prog X.w) X.A (call (.ref C) us) (MkP X pins σ Q) X.xe s1 := by
  obtain ⟨⟨T, _, hm⟩, fI, fd, iC, tI, hb, F1⟩ := F
  obtain ⟨nm, q, N, bs, bm, sn, sub, ab, col, dd, k0, k1, k2, k3, k5, hC, hbm⟩ := T.cls
  obtain ⟨hp, g, dr, tk, os⟩ := s1
  have hsz : hp.objs.size ≤ hp.objs.size + 1 := Nat.le_succ _
  have hn : H1 (hp.objs.size + 1) = none := I1.hok.fresh hsz
  have hq := q1 (hp.objs.size + 1) hn
  rw [List.append_nil] at hq
  have kk : ∀ b o, hp.get? b = some o → ((hp.push (PySem.W.kdv_tup us)).push (PySem.HandSPX.excO C hp.objs.size)).get? b = some o := fun b o e => Heap.get?_push_of_some _ (Heap.get?_push_of_some _ e)
  have hget : ((hp.push (PySem.W.kdv_tup us)).push (PySem.HandSPX.excO C hp.objs.size)).get? (hp.objs.size + 1) = some (PySem.HandSPX.excO C hp.objs.size) := by heap_get
  have I2 : Inv X pins σ (upd H1 (hp.objs.size + 1) (exo (hp.objs.size + 1) C none)) ⟨(hp.push (PySem.W.kdv_tup us)).push (PySem.HandSPX.excO C hp.objs.size), g, dr, tk, os⟩ :=
    I1.laid (t' := tk) (a := hp.objs.size + 1) (o := exo (hp.objs.size + 1) C none) (h' := (hp.push (PySem.W.kdv_tup us)).push (PySem.HandSPX.excO C hp.objs.size)) kk hsz (exo_ok hget)
  have r2 : Vals (V.ref (hp.objs.size + 1) :: vs) (Value.ref (hp.objs.size + 1) :: us) := .cons rfl r1
  have hl : (Value.ref (hp.objs.size + 1) :: us ++ []).length = ps.length := by
    have e := r2.length
    rw [F1.len _ _ _ _ hq] at e
    rw [List.append_nil]
    exact e.symm
  have hus : us.length ≤ sizeLine := by
    rw [← Paired.length r1, sizeLine_eq]
    omega
  have bb := hb _ (Value.ref (hp.objs.size + 1) :: us) I2.kIn hl
  rw [List.append_nil] at bb
  refine wpAny_call (PySem.HandSPX.call_own F.excBase_ValueError (fun Y => PySem.HandSPX.refsVE_contains Y bm hbm) (I1.kIn _ _ hC) (PySem.W.looks_findIn I1.kIn iC) (fun self => PySem.W.bind_fn I1.kIn self tI) hus
    (codeAny_mono (F1.run _ X.stack _ _ ⟨Value.ref (hp.objs.size + 1) :: us, []⟩ (Value.ref (hp.objs.size + 1) :: us) _ _ (fun _ _ _ => False) (hr.make C us []) (I2.env0.make C us []) bb r2 hq) fun r s' hq' => ?_))
  cases r with
  | error er => exact pass0 pins σ _ _ er s' I2 hq'
  | ok fl =>
    cases fl with
    | ret u =>
      obtain ⟨v, H2, os2, bare2, un2, hok2, rv, ev, d, fs, ea, ed, hd1, q2⟩ := hq'
      subst ev
      obtain ⟨h2, g2, d2, t2, os'⟩ := s'
      exact ⟨rv, mk_end (raises_own T.exC T.tyC) I1 hsz kk un2 hok2 os2 bare2 ea ed hd1 q2⟩
    | next => exact False.elim hq'
    | brk => exact False.elim hq'
    | cont => exact False.elim hq'
theorem upd_exd {H : Hp} {a d : Addr} {o1 o2 o3 o4 : HO} (ha : H a = none) (hne : d ≠ a) : upd (del (upd (upd (upd H a o1) d o2) a o3) a) d o4 = upd H d o4 := by
  funext b
  by_cases hd : b = d
  · rw [hd, upd_same, upd_same]
  · rw [upd_ne hd, upd_ne hd]
    by_cases hb : b = a
    · rw [hb, del_same, ha]
    · rw [del_ne hb, upd_ne hb, upd_ne hd, upd_ne hb]
/-- x(e) of an error with one field -/
theorem pmk_err (F : HasE X.prog X.w X.K X.mg X.base x C ps k (spErr C f)) (hr : RoomG (k + 1) X.A) (hg : Gl X x) (ha : PA X [e] ta)
    (hdb : (x == ("__debug__" : Str)) = false := by decide) (he : starEach [e] X.env = (false, eval e X.env) :: starEach [] X.env := by rfl) (hpl : (backTo pos (starEach [] X.env)).any (·.1) = false := by rfl) :
    PMk X (.Call (.Name x p) [e] [] pos) (tErr C f ta) := by
  intro pins s σ H Q I h
  refine wpAny_Call_Name_kw (ld_glob I hg F.1.at_ ?_ hdb)
  refine PySem.W.callWith_K (h₀ := X.base) I.ok.mod.kin F.1.o.kC (thn (ha.run pos pins s σ H _ I h) fun us s1 ⟨vs, H1, I1, r1, v, ev, q1⟩ => ⟨I1.kIn, ?_⟩) he hpl
  subst ev
  refine mk_oexG F hr I1 r1 (by simp) fun a ha => ⟨a, v, rfl, upd_same, fun dx hdx hne => ⟨rfl, dx, [(f, v)], upd_same, ?_, ?_, ?_⟩⟩
  · rw [upd_ne hne, upd_same]
  · rw [upd_ne hne] at hdx
    exact hdx
  · rw [upd_exd ha hne]
    rw [upd_ne hne] at hdx
    exact q1 dx hdx
/-- R.__init__(self, ..), R an own class over ValueError without an __init__ -/
theorem pe_reinit {R : Str} {CR : Addr} {pl : Sem Bool} (hg : Gl X R) (hm : X.mg R = some (.ref CR)) (rd : PySem.W.readsIn X.K CR (.type "type") = true) (sp : PySem.W.specialIn X.K (.ref CR) "__getattribute__" = some (some (.builtin "type.__getattribute__")))
    (vV : PySem.W.findCls X.K (.ref CR) (.type "type") "__init__" = some (.val (.builtin "ValueError.__init__"))) (ha : PA X (e :: es) ta)
    (hdb : (R == ("__debug__" : Str)) = false := by decide)
    (hc : eval (.Call (.Attribute (.Name R p1) "__init__" p2) (e :: es) [] pos) X.env = (do
      let ov ← eval (.Name R p1) X.env
      standAt p2.atName
      let (f, first) ← holding [ov] (getMethod ov "__init__" pl)
      callWith pos f first (backTo pos (starEach (e :: es) X.env)) (backToKw pos (keywordEach [] X.env))) := by rfl)
    (he : starEach (e :: es) X.env = (false, eval e X.env) :: starEach es X.env := by rfl) (hpl : (backTo pos (starEach es X.env)).any (·.1) = false := by rfl) :
    PE X (.Call (.Attribute (.Name R p1) "__init__" p2) (e :: es) [] pos) (tVeI X.K ta) := by
  refine ⟨fun pins s σ H Q I h => ?_⟩
  refine PySem.W.methodCall_KW (ld_glob I hg hm ?_ hdb) hc
  refine PySem.W.method_cls I.kIn sp (PySem.W.cls_value I.kIn rd vV (by decide +kernel) ?_)
  show wpAny _ _ (callWith pos (Value.builtin "ValueError.__init__") [] (backTo pos (starEach (e :: es) X.env)) []) _ _ _
  refine PyProof.Rows.callWith_method1 (thn (ha.run pos pins _ σ H _ (I.tok _) h) fun us s1 ⟨vs, H1, I1, r1, a, C, ws, ev, hl, T, ea, q⟩ => ?_) he hpl
  subst ev
  cases r1 with
  | @cons _ u0 _ ur ra rw' =>
    obtain rfl : u0 = Value.ref a := ra
    have hlen : ur.length ≤ sizeLine := by
      rw [← Paired.length rw', sizeLine_eq]
      omega
    exact oinit_ok T I1 ea hlen fun s' J => ⟨.non, H1, J, rfl, q⟩
end
section
variable {X : Cx} {CX : CXT} {k : Nat} {ps : List Str} {sp : Sp} {E : L2.St → XK} {x : Str} {p pos : Pos} {e : Expr} {es : List Expr} {t : TA}
theorem runGS {f : Addr} {fd : FuncData} {pins : List (Addr × Obj)} {σ : L2.St} {H : Hp} {s : Shared} {Q : VK}
    {us : List Value} {vs : List V} (F : FnG X.prog X.w X.K X.mg X.base CX k f fd ps sp) (hr : RoomG k X.A)
    (hb : Binds X.K fd ps []) (hx : PassesAt CX X σ (E σ)) (I : Inv X pins σ H s) (r : Vals vs us) (h : sp vs H Q (E σ)) :
    wpAny (model X.prog X.w) X.A (call (.ref f) us) (EP X pins σ Q) X.xe s := by
  have hl : (us ++ []).length = ps.length := by
    rw [List.append_nil, ← r.length]
    exact F.len _ _ _ _ h
  have bb := hb s us I.kIn hl
  rw [List.append_nil] at bb
  refine wpAny_call (codeAny_mono (F.run X.A X.stack s H ⟨us, []⟩ us vs Q (E σ) hr I.env0 bb r h) fun r s' hq => ?_)
  match r, hq with
  | .error e, hq => exact hx pins H s e s' I hq
  | .ok (.ret u), hq => exact I.after hq
theorem pe_fS (F : Has X.prog X.w X.K X.mg X.base CX x ps k sp) (hr : RoomG k X.A) (hg : Gl X x) (hx : ∀ σ, PassesAt CX X σ (E σ))
    (ha : PA X (e :: es) t) (hdb : (x == ("__debug__" : Str)) = false := by decide)
    (he : starEach (e :: es) X.env = (false, eval e X.env) :: starEach es X.env := by rfl)
    (hpl : (backTo pos (starEach es X.env)).any (·.1) = false := by rfl) :
    PE X (.Call (.Name x p) (e :: es) [] pos) (tCallS sp E t) := by
  obtain ⟨f, fd, ⟨hk, _⟩, hm, hb, F⟩ := F
  refine ⟨fun pins s σ H Q I h => wpAny_Call_Name_kw (ld_glob I hg hm ?_ hdb)⟩
  refine PySem.W.callWith_K (h₀ := X.base) I.ok.mod.kin hk (thn (ha.run pos pins s σ H _ I h) fun us s1 q => ?_) he hpl
  obtain ⟨vs, H1, I1, r, q⟩ := q
  exact ⟨I1.kIn, runGS F hr hb (hx σ) I1 r q⟩
end
def wManyA (K : PySem.W.Frag) (Wout : WX) (D : Ends) : List (Value × Nat × (Addr → Value → Option Addr → TS)) → WX
  | [] => Wout
  | (c, i, ts) :: r => fun cls d σ H => ∃ b, PySem.W.exmOne K cls c = some b ∧
      (b = true → ∀ a, H a = none → ts a cls d { nx := fun σ' H' => D.nx (σ'.set i none) H', rt := D.rt, bk := fun σ' H' => D.bk (σ'.set i none) H', ct := fun σ' H' => D.ct (σ'.set i none) H' } (σ.set i (some (.ref a))) H) ∧
      (b = false → wManyA K Wout D r cls d σ H)
inductive HdsA (X : Cx) : List ExceptHandler → List (Value × Nat × (Addr → Value → Option Addr → TS)) → Prop
  | nil : HdsA X [] []
  | cons {x n : Str} {c : Value} {i : Nat} {ts : Addr → Value → Option Addr → TS} {b₀ : Stmt} {suite : List Stmt} {np pos' : Pos} {hds : List ExceptHandler} {l : List (Value × Nat × (Addr → Value → Option Addr → TS))} (hc : Names X x c)
      (hN : X.N.Nodup) (hi : X.N[i]? = some n) (hln : X.env.kindOf n = some .local)
      (hsu : ∀ (a : Addr) (oe : Obj) (cls : Value) (d : Option Addr) (pn : List (Addr × Obj)), Zc cls d oe → (∃ vs, oe.data = .fields vs) → PSs (X.suite a ((a, oe) :: pn)) (b₀ :: suite) (ts a cls d)) (r : HdsA X hds l) :
      HdsA X (.ExceptHandler (some (.Name x np)) (some n) (b₀ :: suite) pos' :: hds) ((c, i, ts) :: l)
section
variable {X : Cx} {body : List Stmt} {h₀ : ExceptHandler} {hds : List ExceptHandler} {l : List (Value × Nat × (Addr → Value → Option Addr → TS))} {pos : Pos} {tb : WX → TS} {Wout : WX}
theorem ps_try_manyA (hs : X.stack = X.env :: X.outer) (hf : X.env.frame = some X.env.locals) (tk : Takes X Wout)
    (hb : ∀ (W : WX) (pn : List (Addr × Obj)) (xe : Value → Shared → Prop), Takes (X.tr pn xe) W → PassesOwn (model X.prog X.w) X.A X.env xe → PSs (X.tr pn xe) body (tb W))
    (hh : HdsA X (h₀ :: hds) l) : PS X (.Try body (h₀ :: hds) [] [] pos) (fun D σ H => tb (wManyA X.K Wout D l) D σ H) := by
  refine ⟨fun pins s σ H D I h => ?_⟩
  have ok := I.ok
  have hfr : X.A.frames = some (X.env :: X.outer) := by rw [ok.frames, hs]
  refine wpAny_Try_except ?_
  refine wpAny_mono ((hb (wManyA X.K Wout D l) (X.pn ++ pins) (fun e s₁ => wpAny (model X.prog X.w) X.A (noteFrame e X.env) (fun _ s₂ => wpAny (model X.prog X.w) X.A (setFlight e none) (fun _ s₃ =>
    wpAny (model X.prog X.w) X.A (handleBy e X.env (h₀ :: hds)) (SP X pins D) X.xe s₃) X.xe s₂) X.xe s₁) (fun u s' xx => ?_) PassesOwn.looking).run [] s σ H D (I.toTry _) h) (fun f s1 hsp => ?_) (fun e s1 he => he)
  · obtain ⟨a, B, sI, pins', σ', H', cls, d, rfl, J', nb, up, sky, na, os, ag, w⟩ := xx
    have J : Inv X pins σ' H' sI := J'.ofTry ok
    have sky' : Sky B (X.env :: X.outer) a (Zc cls d) X.env.locals s'.heap := by rw [← hs]; exact sky
    show wpAny (model X.prog X.w) X.A (noteFrame (.ref a) X.env) _ _ _
    refine Sky.land Zc.steady hfr hf sky' fun h3 fl3 up3 => ?_
    have J3 : Inv X pins σ' H' { s' with heap := h3 } := J.landed nb fl3.1 (up.trans up3) os ag
    obtain ⟨oe3, vs3, he3, hz3, hd3⟩ := fl3.there
    have notFr : ∀ {h : Heap} {o : Obj} {vs : Array Value}, h.FunFrames B (X.env :: X.outer) → h.get? a = some o → o.data = .fields vs → a ∉ frs (X.env :: X.outer) := fun {h o vs} ff e dd hm => by
      obtain ⟨_, o', e', hnf⟩ := ff.mem hm
      rw [e] at e'; cases e'
      exact hnf _ dd
    have nfr := notFr fl3.2.2.1 he3 hd3
    have nL : a ≠ X.env.locals := fun z => nfr (List.mem_filterMap.mpr ⟨X.env, List.mem_cons_self, by rw [hf, z]⟩)
    have nF : a ∉ X.fs := fun hm => by
      obtain ⟨e, he, q⟩ := List.mem_filterMap.mp hm
      exact nfr (List.mem_filterMap.mpr ⟨e, List.mem_cons_of_mem _ he, q⟩)
    have S3 := J3.suite he3 hd3 na nL nF
    have go : ∀ {hds' : List ExceptHandler} {l' : List (Value × Nat × (Addr → Value → Option Addr → TS))}, HdsA X hds' l' → wManyA X.K Wout D l' cls d σ' H' →
        wpAny (model X.prog X.w) X.A (handleBy (.ref a) X.env hds') (SP X pins D) X.xe { s' with heap := h3 } := by
      intro hds' l' hk
      induction hk with
      | nil =>
        intro w
        refine wpAny_handleBy_nil ?_
        obtain ⟨k1, k2, k3, oe, vs, T, oT, ts', he, hz, hd, h1, hr⟩ := id fl3
        unfold PySem.passOn
        refine wpAny_bind (wpAny_field he hd h1 ?_)
        rw [if_neg (show ¬ ((Value.ref T == Value.none) = true) from by simp)]
        have fin : wpAny (model X.prog X.w) X.A (setFlight (.ref a) X.env.frame) (fun _ s4 => wpAny (model X.prog X.w) X.A (throw (.ref a) : Sem Flow) (SP X pins D) X.xe s4) X.xe { s' with heap := h3 } := by
          rw [hf]
          refine HandSPX.setFlight_upZ fl3 fun h4 hh4 up4 => wpAny_throw (tk _ _ ?_)
          exact ⟨a, B, sI, pins, σ', H', cls, d, rfl, J, nb, (up.trans up3).trans up4, .inr (.inr (by rw [hs]; exact hh4)), na, os, ag, w⟩
        first
          | exact wpAny_bind (wpAny_pure (wpAny_bind fin))
          | exact wpAny_bind fin
      | @cons x n c i ts b₀ suite np pos' hds2 l2 hc hN hi hln hsu r ih =>
        intro w
        obtain ⟨b, hb1, hyes, hno⟩ := w
        have hloc : Loc X.env.scope n := .inl hln
        refine wpAny_handleBy_cons (codeAny_handlers_test ?_) (by intro q; cases q)
        have LT : PySem.W.Looks (model X.prog X.w) h3 (typeOf (.ref a)) cls := fun A Q E s k q => wpAny_typeOf_ref (k _ _ he3) (by rw [hz3.1]; exact q)
        have LM := PySem.W.exm_one (M := model X.prog X.w) (J3.kIn) LT hb1
        have test : ∀ {Q : Value → Shared → Prop} {E : Value → Shared → Prop}, Q c { s' with heap := h3 } → wpAny (model X.prog X.w) (X.A.mark (some (.ref a))) (eval (.Name x np) X.env) Q E { s' with heap := h3 } := fun {Q E} q => by
          obtain ⟨hg, hdbg, hm | ⟨hm, hv, hnn⟩⟩ := hc
          · exact ld_glob (X := X.suite a ((a, oe3) :: (X.pn ++ pins))) S3 hg hm q hdbg
          · exact ld_blt (X := X.suite a ((a, oe3) :: (X.pn ++ pins))) S3 hg hm hv q hnn hdbg
        refine test (LM.here ?_)
        cases b with
        | true =>
          refine codeAny_handlers_suite_as ?_
          refine HandSPX.lands_againZ fl3 fun h4 fl4 up4 => ?_
          have J4 : Inv X pins σ' H' { s' with heap := h4 } := J.landed nb fl4.1 ((up.trans up3).trans up4) os ag
          obtain ⟨oe4, vs4, he4, hz4, hd4⟩ := fl4.there
          have S4 := J4.suite he4 hd4 na nL nF
          refine store_ok (X := X.suite a ((a, oe4) :: (X.pn ++ pins))) (v := .ref a) S4 hN hi hloc rfl (fun s5 S5 => ?_) (.inr hln)
          refine wpAny_mono ((hsu a oe4 cls d (X.pn ++ pins) hz4 ⟨_, hd4⟩).run [] s5 _ H' _ S5 (hyes rfl a na)) (fun f s6 hsp => ?_) (fun _ _ z => False.elim z)
          have end_ : ∀ {σ6 : L2.St} {H6 : Hp} {Q : Shared → Prop}, Inv (X.suite a ((a, oe4) :: (X.pn ++ pins))) [] σ6 H6 s6 → (∀ s7, Inv X pins (σ6.set i none) H6 s7 → Q s7) →
              wpAny (model X.prog X.w) X.A (do bindName X.env n .none; unbindBehindTheSuite X.env n pos') (fun _ s7 => Q s7) X.xe s6 := fun {σ6 H6 Q} S6 hq => gone_ok (S6.unsuite ok) hN hi hln hq
          cases f with
          | next =>
            obtain ⟨σ6, H6, S6, q6⟩ := hsp
            exact end_ S6 fun s7 J7 => ⟨_, _, J7, q6⟩
          | brk =>
            obtain ⟨σ6, H6, S6, q6⟩ := hsp
            exact end_ S6 fun s7 J7 => ⟨_, _, J7, q6⟩
          | cont =>
            obtain ⟨σ6, H6, S6, q6⟩ := hsp
            exact end_ S6 fun s7 J7 => ⟨_, _, J7, q6⟩
          | ret u =>
            obtain ⟨v6, σ6, H6, S6, r6, q6⟩ := hsp
            exact end_ S6 fun s7 J7 => ⟨_, _, _, J7, r6, q6⟩
        | false =>
          show wpAny _ X.A (handleBy (.ref a) X.env hds2) _ _ _
          exact ih (hno rfl)
    exact go hh w
  · cases f with
    | next =>
      obtain ⟨σ', H', J', q⟩ := hsp
      exact wpAny_execs_nil ⟨σ', H', J'.ofTry ok, q⟩
    | brk =>
      obtain ⟨σ', H', J', q⟩ := hsp
      exact ⟨σ', H', J'.ofTry ok, q⟩
    | cont =>
      obtain ⟨σ', H', J', q⟩ := hsp
      exact ⟨σ', H', J'.ofTry ok, q⟩
    | ret u =>
      obtain ⟨v, σ', H', J', r, q⟩ := hsp
      exact ⟨v, σ', H', J'.ofTry ok, r, q⟩
end
end Aw
namespace Aw
open PySem PySem.Spec L2
/-- an error with one field leaves -/
def Lv (H : Hp) (E : XK) (C : Addr) (f : Str) (v : V) : Prop := ∀ (H' : Hp) (d : Addr), Kp [] H H' → H d = none → H' d = some (.xd [(f, v)]) → E (.ref C) (some d) H'
noncomputable def spParseX (K : PySem.W.Frag) (CT CB : Addr) : Sp := fun vs H Q E =>
  (∃ (v : V) (dd : PyData), vs = [v] ∧ Dw [] K H v dd ∧ isaD dd "str" = false ∧ Lv H E CT "line" .non) ∨
  ∃ l : List Nat, vs = [.str (tx l)] ∧ l.length ≤ 1000000 ∧ (linesT l).length ≤ 1000001 ∧
    match parseL (linesT l) with
    | .text i => Lv H E CT "line" (.int (i : Nat))
    | .rows rs => dsz (.tuple (rs.map PyData.tuple)) ≤ 1000000 ∧
      (perr (.tuple (rs.map PyData.tuple)) = .none → ∀ (H' : Hp) (z : V), Kp [] H H' → Dt K H' z (.tuple (rs.map PyData.tuple)) → Q z H') ∧
      (perr (.tuple (rs.map PyData.tuple)) ≠ .none → ∀ (H' : Hp) (d : Addr) (v : V), Kp [] H H' → H d = none → H' d = some (.xd [("error", v)]) → Dt K H' v (perr (.tuple (rs.map PyData.tuple))) → E (.ref CB) (some d) H')
def ErrQ (C : Addr) (f : Str) (Q : XK) : List V → Hp → Prop := fun vs H1 => ∃ v, vs = [v] ∧ ∀ d, H1 d = none → Q (.ref C) (some d) (upd H1 d (.xd [(f, v)]))
theorem r_err {C : Addr} {f : Str} {ta : TA} {σ : L2.St} {H : Hp} {Q : XK} (h : ta σ H (ErrQ C f Q)) : tErr C f ta σ H Q := h
theorem r_ErrQ {C : Addr} {f : Str} {H : Hp} {Q : XK} {v : V} (h : ∀ d, H d = none → Q (.ref C) (some d) (upd H d (.xd [(f, v)]))) : ErrQ C f Q [v] H := ⟨v, rfl, h⟩
theorem Lv.use {H H1 : Hp} {E : XK} {C : Addr} {f : Str} {v : V} (h : Lv H E C f v) (k : Kp [] H H1) : ∀ d, H1 d = none → E (.ref C) (some d) (upd H1 d (.xd [(f, v)])) := fun d hd =>
  h _ d (k.new hd) (k.freeM Ms.nil hd) upd_same
/-- what a law's own _law_parsed tells -/
noncomputable def parsedD (l : List Nat) : List PyData := match parseL (linesT l) with
  | .text i => [.str "text", .int (i : Nat)]
  | .rows rs => match perr (.tuple (rs.map PyData.tuple)) with
    | .none => [.str "ok", .tuple (rs.map PyData.tuple)]
    | e => [.str "program", e]
noncomputable def spParsed (K : PySem.W.Frag) : Sp := fun vs H Q _ => ∃ l : List Nat, vs = [.str (tx l)] ∧ l.length ≤ 1000000 ∧ (linesT l).length ≤ 1000001 ∧ (∀ rs, parseL (linesT l) = .rows rs → dsz (.tuple (rs.map PyData.tuple)) ≤ 1000000) ∧
  ∀ (H' : Hp) (p : Addr) (xs : List V), Kp [] H H' → H p = none → H' p = some (.lst xs) → DtL K H' xs (parsedD l) → Q (.ref p) H'
theorem parsed_text {l : List Nat} {i : Nat} (h : parseL (linesT l) = .text i) : parsedD l = [.str "text", .int (i : Nat)] := by unfold parsedD; rw [h]
theorem parsed_ok {l : List Nat} {rs : List (List PyData)} (h : parseL (linesT l) = .rows rs) (e : perr (.tuple (rs.map PyData.tuple)) = .none) : parsedD l = [.str "ok", .tuple (rs.map PyData.tuple)] := by unfold parsedD; rw [h]; dsimp only; rw [e]
theorem parsed_bad {l : List Nat} {rs : List (List PyData)} (h : parseL (linesT l) = .rows rs) (e : perr (.tuple (rs.map PyData.tuple)) ≠ .none) : parsedD l = [.str "program", perr (.tuple (rs.map PyData.tuple))] := by
  unfold parsedD
  rw [h]
  dsimp only
  split
  · rename_i z
    exact absurd z e
  · rfl
theorem r_callS {sp : Sp} {E : L2.St → XK} {t : TA} {σ : L2.St} {H : Hp} {Q : VK} (h : t σ H fun vs H1 => sp vs H1 Q (E σ)) : tCallS sp E t σ H Q := h
def XfQ (a : Addr) (C : Addr) (cls : Value) (d : Option Addr) (f : Str) (Q : VK) : V → Hp → Prop := fun x H1 => x = .ref a ∧ cls = .ref C ∧ ∃ (dd : Addr) (fs : List (Str × V)) (v : V), d = some dd ∧ H1 dd = some (.xd fs) ∧ fs.lookup f = some v ∧ Q v H1
theorem r_xf {a C : Addr} {cls : Value} {d : Option Addr} {f : Str} {te : TE} {σ : L2.St} {H : Hp} {Q : VK} (h : te σ H (XfQ a C cls d f Q)) : tXf a cls d C f te σ H Q := h
theorem r_XfQ {a C d : Addr} {f : Str} {v : V} {H : Hp} {Q : VK} (e : H d = some (.xd [(f, v)])) (h : Q v H) : XfQ a C (.ref C) (some d) f Q (.ref a) H := ⟨rfl, rfl, d, _, v, rfl, e, by simp [List.lookup], h⟩
end Aw
namespace Aw
open PySem PySem.Spec L2
structure Wr (w : List Nat) : Prop where
  e : tx (lstr w) ≠ "else"
  p : tx (lstr w) ≠ "pass"
  s : stmtOf (lstr w) = none
  n : 10 ∉ w
theorem Wr.read {w : List Nat} (h : Wr w) (R : List Pt) : readP w R = none := by
  unfold readP
  split
  · rfl
  · generalize (closeN (R.length - 1 - (w.length - (lstr w).length) / 2) "" R) = cl
    obtain ⟨k, S⟩ := cl
    cases S with
    | nil => rfl
    | cons q r =>
      unfold stepP
      dsimp only
      rw [if_neg (fun z => h.e z.1), if_neg h.p, h.s]
      split <;> rfl
theorem cutV_take (xs : List V) (n : Nat) : cutV xs none (some (n : Int)) = xs.take n := by
  unfold cutV
  rw [HT.sIx_none, HT.sIx_nat, List.drop_zero, Nat.sub_zero]
  by_cases h : n ≤ xs.length
  · rw [Nat.min_eq_left h]
  · rw [Nat.min_eq_right (by omega), List.take_length, List.take_of_length_le (by omega)]
theorem dw_list {K : PySem.W.Frag} {H : Hp} {p : Addr} {xs : List V} {ds : List PyData} (e : H p = some (.lst xs)) (h : DtL K H xs ds) : Dw [] K H (.ref p) (.list ds) := .lst e (by simp) h.len fun i v d h1 h2 => (h.all i v d h1 h2).dw
theorem DtL.two {K : PySem.W.Frag} {H : Hp} {xs : List V} {d e : PyData} (h : DtL K H xs [d, e]) : ∃ v u, xs = [v, u] ∧ Dt K H v d ∧ Dt K H u e := by
  match xs, h with
  | [v, u], h => exact ⟨v, u, rfl, h.all 0 v d rfl rfl, h.all 1 u e rfl rfl⟩
  | [], h => have := h.len; cases this
  | [_], h => have := h.len; cases this
  | _ :: _ :: _ :: _, h => have := h.len; simp at this
end Aw
namespace Aw
open PySem PySem.Spec PyProof.Rows L2
theorem digs_back {cs : List Nat} (h : NumText.AllDigits cs) (h1 : cs ≠ []) (h0 : cs = [48] ∨ cs.headD 0 ≠ 48) : TL.numL (NumText.digitsVal cs) = cs := by
  cases hl : cs.length with
  | zero => exact absurd (List.eq_nil_of_length_eq_zero hl) h1
  | succ n =>
    unfold TL.numL
    rw [NumText.toDigits_digitsVal n cs hl h ?_, List.map_map]
    · conv => rhs; rw [← List.map_id cs]
      refine List.map_congr_left fun c hc => ?_
      have r := h c hc
      show (Char.ofNat c).toNat = c
      have hv : c.isValidChar := by unfold Nat.isValidChar; omega
      rw [Char.ofNat, dif_pos hv]
      rfl
    · rcases h0 with rfl | h0
      · left; simpa using hl.symm
      · right
        cases cs with
        | nil => exact absurd rfl h1
        | cons c r =>
          have := h.head
          have h0' : c ≠ 48 := h0
          exact ⟨c, r, rfl, by omega⟩
theorem sg_num (n : Nat) : sg (numT ((n : Nat) : Int)) = TL.numL n := TL.tl_num n
theorem sg_neg (n : Nat) (h : 0 < n) : sg (numT (-((n : Nat) : Int))) = 45 :: TL.numL n := by
  obtain ⟨m, rfl⟩ : ∃ m, n = m + 1 := ⟨n - 1, by omega⟩
  have e : (-(((m + 1 : Nat)) : Int)) = Int.negSucc m := by omega
  rw [e]
  unfold numT sg
  rw [signs_ofString]
  show (("-" ++ Nat.repr (m + 1) : String)).toList.map Char.toNat = _
  rw [String.toList_append, List.map_append, Nat.toList_repr]
  rfl
/-- what it is to be the text of an integer -/
theorem intOf_spec {l : List Nat} {i : Int} (h : intOf l 20 = some i) : sg (numT i) = l ∧ (figs l).all isFig = true ∧ 1 ≤ (figs l).length ∧ (figs l).length ≤ 20 ∧ (∀ c ∈ l, c = 45 ∨ (48 ≤ c ∧ c ≤ 57)) ∧ l ≠ [] := by
  unfold intOf at h
  split at h
  · rename_i hc
    simp only [Bool.and_eq_true, decide_eq_true_eq] at hc
    obtain ⟨⟨h1, h2⟩, h3⟩ := hc
    split at h
    · cases h
    · rename_i hz
      have hd : NumText.AllDigits (figs l) := fun c hc => (isFig_iff c).mp (List.all_eq_true.mp h3 c hc)
      by_cases hl : ∃ r, l = 45 :: r
      · obtain ⟨r, rfl⟩ := hl
        have hr : figs (45 :: r) = r := rfl
        rw [hr] at h1 h2 h3 hz hd ⊢
        have hne : r ≠ [] := fun e => by rw [e] at h1; simp at h1
        rw [intText_neg (x := tx (45 :: r)) (cs := r) rfl hd hne (by rw [tx_len, List.length_cons]; omega)] at h
        cases h
        have h0 : r.headD 0 ≠ 48 := fun e => hz ⟨e, by intro z; injection z with z; omega⟩
        have hpos : 0 < NumText.digitsVal r := by
          cases r with
          | nil => exact absurd rfl hne
          | cons c r =>
            have := hd.head
            have h0' : c ≠ 48 := h0
            exact NumText.digitsVal_pos (by omega)
        refine ⟨?_, h3, by omega, by omega, fun c hc => ?_, by simp⟩
        · rw [sg_neg _ hpos, digs_back hd hne (.inr h0)]
        · rcases List.mem_cons.mp hc with rfl | hc
          · exact .inl rfl
          · exact .inr (hd c hc)
      · have hr : figs l = l := (starts_no hl).2
        rw [hr] at h1 h2 h3 hz hd ⊢
        have hne : l ≠ [] := fun e => by rw [e] at h1; simp at h1
        rw [intText_digits (x := tx l) hd hne (by rw [tx_len]; omega)] at h
        cases h
        refine ⟨?_, h3, by omega, by omega, fun c hc => .inr (hd c hc), hne⟩
        show sg (numT ((NumText.digitsVal l : Nat) : Int)) = l
        rw [sg_num]
        refine digs_back hd hne ?_
        by_cases e : l = [48]
        · exact .inl e
        · exact .inr fun z => hz ⟨z, e⟩
  · cases h
theorem int_brk {l : List Nat} {i : Int} (h : intOf l 20 = some i) : (∀ c ∈ l, brk c = false) ∧ ∃ c r, l = c :: r ∧ c ≠ 40 := by
  obtain ⟨_, _, _, _, hc, hne⟩ := intOf_spec h
  have hb : ∀ c ∈ l, brk c = false ∧ c ≠ 40 := fun c hm => by
    rcases hc c hm with rfl | ⟨a, b⟩
    · exact ⟨by decide, by decide⟩
    · refine ⟨?_, by omega⟩
      unfold brk
      rw [decide_eq_false (by omega), decide_eq_false (by omega), decide_eq_false (by omega)]
      rfl
  refine ⟨fun c hm => (hb c hm).1, ?_⟩
  cases l with
  | nil => exact absurd rfl hne
  | cons c r => exact ⟨c, r, rfl, (hb c (List.mem_cons_self ..)).2⟩
def Ex.gd : Nat → Ex → Prop
  | 0, _ => False
  | _ + 1, .int i => intOf (sg (numT i)) 20 = some i
  | _ + 1, .name x => isNameS x = true
  | n + 1, .bin o a b => IsOp o ∧ (o = "times" → a.isI = true) ∧ a.gd n ∧ b.gd n
theorem Ex.text_bin (o : Str) (a b : Ex) : sg (Ex.bin o a b).text = [40] ++ sg a.text ++ sg (opSign o) ++ sg b.text ++ [41] := by
  rw [Ex.text, sg_app, sg_app, sg_app, sg_app]
  rfl
theorem exprAt_gd : ∀ (n : Nat) (e : Ex) (pre post : List Nat), e.gd n → Ends1 post → exprAt (pre ++ sg e.text ++ post) n pre.length = some (e, pre.length + (sg e.text).length)
  | 0, _, _, _, h, _ => h.elim
  | n + 1, .int i, pre, post, h, hp => by
    have h' : intOf (sg (Str.ofString (toString i))) 20 = some i := h
    obtain ⟨a1, c, r, a3, a4⟩ := int_brk h'
    rw [Ex.text, exprAt, if_neg (by rw [first_is a3]; intro z; injection z with z; exact a4 z)]
    unfold leafAt
    rw [wordL_is a1 hp, h']
  | n + 1, .name x, pre, post, h, hp => by
    obtain ⟨a1, a2, c, r, a3, a4⟩ := name_leaf h
    rw [Ex.text, exprAt, if_neg (by rw [first_is a3]; intro z; injection z with z; exact a4 z)]
    unfold leafAt
    rw [wordL_is a1 hp, a2]
    dsimp only
    have : isNameT (sg x) = true := by unfold isNameT; rw [tx_sg]; exact h
    rw [if_pos this, tx_sg]
  | n + 1, .bin o a b, pre, post, h, hp => by
    obtain ⟨hop, hti, ha, hb⟩ := h
    obtain ⟨o1, o2, o3, c3, r3, o4, o5⟩ := opSign_at hop
    have hI : ¬ (o = "" ∨ (o = "times" ∧ a.isI = false)) := by
      intro z
      rcases z with z | ⟨z1, z2⟩
      · exact o3 z
      · rw [hti z1] at z2; cases z2
    have hT := Ex.text_bin o a b
    generalize hl : pre ++ sg (Ex.bin o a b).text ++ post = l
    rw [hT] at hl
    have e1 : l = (pre ++ [40]) ++ sg a.text ++ (sg (opSign o) ++ sg b.text ++ [41] ++ post) := by rw [← hl]; simp only [List.append_assoc]
    have e2 : l = (pre ++ [40] ++ sg a.text ++ sg (opSign o)) ++ sg b.text ++ ([41] ++ post) := by rw [← hl]; simp only [List.append_assoc]
    have e3 : l = (pre ++ [40] ++ sg a.text) ++ sg (opSign o) ++ (sg b.text ++ [41] ++ post) := by rw [← hl]; simp only [List.append_assoc]
    have e4 : l = (pre ++ [40] ++ sg a.text ++ sg (opSign o) ++ sg b.text) ++ [41] ++ post := by rw [← hl]; simp only [List.append_assoc]
    have e0 : (l.drop pre.length).take 1 = [40] := by
      rw [← hl]
      exact first_is (r := sg a.text ++ sg (opSign o) ++ sg b.text ++ [41]) (by simp only [List.append_assoc]; rfl)
    have i1 := exprAt_gd n a (pre ++ [40]) (sg (opSign o) ++ sg b.text ++ [41] ++ post) ha (.inr ⟨c3, r3 ++ sg b.text ++ [41] ++ post, by rw [o4]; rfl, o5⟩)
    have i2 := exprAt_gd n b (pre ++ [40] ++ sg a.text ++ sg (opSign o)) ([41] ++ post) hb (.inr ⟨41, post, rfl, by decide⟩)
    rw [← e1] at i1
    rw [← e2] at i2
    have p1 : (pre ++ [40]).length = pre.length + 1 := by rw [List.length_append]; rfl
    rw [p1] at i1
    have p2 : (pre ++ [40] ++ sg a.text ++ sg (opSign o)).length = pre.length + 1 + (sg a.text).length + 3 := by rw [List.length_append, List.length_append, List.length_append, o2]; rfl
    rw [p2] at i2
    have d3 : (l.drop (pre.length + 1 + (sg a.text).length)).take 3 = sg (opSign o) := by
      rw [e3, show pre.length + 1 + (sg a.text).length = (pre ++ [40] ++ sg a.text).length by rw [List.length_append, List.length_append]; rfl, ← o2]
      exact mid_is
    have d4 : (l.drop (pre.length + 1 + (sg a.text).length + 3 + (sg b.text).length)).take 1 = [41] := by
      rw [e4, show pre.length + 1 + (sg a.text).length + 3 + (sg b.text).length = (pre ++ [40] ++ sg a.text ++ sg (opSign o) ++ sg b.text).length by rw [List.length_append, List.length_append, List.length_append, List.length_append, o2]; rfl]
      exact first_is rfl
    rw [exprAt, if_pos e0]
    unfold sumAt
    rw [i1]
    dsimp only
    rw [d3, o1, if_neg hI, i2]
    dsimp only
    rw [if_pos d4, hT]
    congr 2
    simp only [List.length_append, List.length_cons, List.length_nil, o2]
    omega
theorem take_one {l : List Nat} {c : Nat} (h : l.take 1 = [c]) : ∃ r, l = c :: r := by
  cases l with
  | nil => cases h
  | cons x r => injection h with h; exact ⟨r, by rw [h]⟩
theorem drop_word (l : List Nat) (a : Nat) : l.drop a = wordL l a ++ l.drop (a + (wordL l a).length) := by
  have e := List.take_append_drop (wordL l a).length (l.drop a)
  rw [wordL_mid, List.drop_drop] at e
  exact e.symm
theorem opAt_back {q : List Nat} (h : opAt q ≠ "") : IsOp (opAt q) ∧ sg (opSign (opAt q)) = q := by
  unfold opAt at h ⊢
  split
  · exact ⟨.inl rfl, by decide +kernel⟩
  · exact ⟨.inr (.inl rfl), by decide +kernel⟩
  · exact ⟨.inr (.inr rfl), by decide +kernel⟩
  · rename_i h1 h2 h3
    split at h
    · exact absurd rfl h1
    · exact absurd rfl h2
    · exact absurd rfl h3
    · exact absurd rfl h
theorem drop3 {l q : List Nat} {e : Nat} (h : (l.drop e).take 3 = q) : l.drop e = q ++ l.drop (e + 3) := by
  have := List.take_append_drop 3 (l.drop e)
  rw [h, List.drop_drop] at this
  exact this.symm
theorem exprAt_back (l : List Nat) : ∀ (n a : Nat) {e : Ex} {k : Nat}, exprAt l n a = some (e, k) → e.gd n ∧ l.drop a = sg e.text ++ l.drop k ∧ k = a + (sg e.text).length
  | 0, _, _, _, h => by cases h
  | n + 1, a, e, k, h => by
    rw [exprAt] at h
    split at h
    · rename_i h0
      obtain ⟨r0, e0⟩ := take_one h0
      unfold sumAt at h
      split at h
      · cases h
      · rename_i x e1 hx
        obtain ⟨g1, d1, k1⟩ := exprAt_back l n (a + 1) hx
        split at h
        · cases h
        · rename_i hop
          have hop1 : opAt ((l.drop e1).take 3) ≠ "" := fun z => hop (.inl z)
          obtain ⟨ho, ho2⟩ := opAt_back hop1
          split at h
          · cases h
          · rename_i y e2 hy
            obtain ⟨g2, d2, k2⟩ := exprAt_back l n (e1 + 3) hy
            split at h
            · rename_i h41
              obtain ⟨r41, e41⟩ := take_one h41
              cases h
              have hd1 : l.drop (a + 1) = r0 := by rw [← List.drop_drop, e0]; rfl
              have hd2 : l.drop (e2 + 1) = r41 := by rw [← List.drop_drop, e41]; rfl
              have hd3 := drop3 (l := l) (e := e1) rfl
              rw [← ho2] at hd3
              have h3 := (opSign_at ho).2.1
              generalize opAt ((l.drop e1).take 3) = o at hop hop1 ho ho2 hd3 h3 ⊢
              refine ⟨⟨ho, fun z => ?_, g1, g2⟩, ?_, ?_⟩
              · cases hI : x.isI with
                | true => rfl
                | false => exact absurd (.inr ⟨z, hI⟩) hop
              · rw [Ex.text_bin, e0, ← hd1, d1, hd3, d2, e41, hd2]
                simp only [List.append_assoc]
                rfl
              · rw [Ex.text_bin]
                simp only [List.length_append, List.length_singleton, h3]
                omega
            · cases h
    · unfold leafAt at h
      split at h
      · rename_i i hi
        cases h
        have hb := (intOf_spec hi).1
        refine ⟨?_, ?_, ?_⟩
        · show intOf (sg (numT i)) 20 = some i
          rw [hb]; exact hi
        · show l.drop a = sg (numT i) ++ _
          rw [hb]; exact drop_word l a
        · show _ = a + (sg (numT i)).length
          rw [hb]
      · split at h
        · rename_i hn
          cases h
          exact ⟨hn, drop_word l a, rfl⟩
        · cases h
/-- the texts of expressions -/
def isEx (n : Nat) (l : List Nat) : Prop := ∃ e : Ex, e.gd n ∧ l = sg e.text
theorem exprOf_iff {l : List Nat} {e : Ex} : exprOf l = some e ↔ e.gd 20 ∧ l = sg e.text := by
  unfold exprOf
  constructor
  · intro h
    split at h
    · rename_i e' k hk
      obtain ⟨g, d, k1⟩ := exprAt_back l 20 0 hk
      split at h
      · rename_i hl
        cases h
        refine ⟨g, ?_⟩
        rw [hl, List.drop_length, List.append_nil] at d
        exact d
      · cases h
    · cases h
  · rintro ⟨g, rfl⟩
    have q := exprAt_gd 20 e [] [] g (.inl rfl)
    rw [List.append_nil, List.nil_append, List.length_nil, Nat.zero_add] at q
    rw [q]
    dsimp only
    rw [if_pos rfl]
theorem isEx_some (l : List Nat) : isEx 20 l ↔ (exprOf l).isSome = true := by
  rw [Option.isSome_iff_exists]
  exact ⟨fun ⟨e, h⟩ => ⟨e, exprOf_iff.mpr h⟩, fun ⟨e, h⟩ => ⟨e, exprOf_iff.mp h⟩⟩
/-- brackets opened less brackets closed -/
def dep (l : List Nat) : Int := (l.count 40 : Nat) - (l.count 41 : Nat)
theorem dep_app (a b : List Nat) : dep (a ++ b) = dep a + dep b := by
  unfold dep
  rw [List.count_append, List.count_append]
  omega
theorem dep_free {l : List Nat} (h : ∀ c ∈ l, brk c = false) : dep l = 0 := by
  have h1 : l.count 40 = 0 := List.count_eq_zero.mpr fun m => absurd (h 40 m) (by decide)
  have h2 : l.count 41 = 0 := List.count_eq_zero.mpr fun m => absurd (h 41 m) (by decide)
  unfold dep
  rw [h1, h2]
  rfl
theorem dep_op {o : Str} (h : IsOp o) : dep (sg (opSign o)) = 0 := by rcases h with rfl | rfl | rfl <;> decide +kernel
theorem dep_ex : ∀ (n : Nat) (e : Ex), e.gd n → dep (sg e.text) = 0
  | 0, _, h => h.elim
  | n + 1, .int i, h => dep_free (int_brk (l := sg (numT i)) h).1
  | n + 1, .name x, h => dep_free (name_leaf h).1
  | n + 1, .bin o a b, ⟨ho, _, ha, hb⟩ => by
    rw [Ex.text_bin, dep_app, dep_app, dep_app, dep_app, dep_ex n a ha, dep_ex n b hb, dep_op ho]
    rfl
def cutsOf (l : List Nat) : List Nat := (List.range l.length).filter fun k => decide (dep (l.take (k + 1)) = 1) && !decide (opAt ((l.drop k).take 3) = "")
def midL (l : List Nat) (a b : Nat) : List Nat := (l.drop a).take (b - a)
def isInt (l : List Nat) : Bool := (intOf l 20).isSome
theorem isEx_leaf {n : Nat} {l : List Nat} (h : ¬ (l.take 1 = [40] ∧ l.getLast? = some 41)) : isEx (n + 1) l ↔ isNameT l = true ∨ isInt l = true := by
  constructor
  · rintro ⟨e, g, rfl⟩
    cases e with
    | int i =>
      right
      have g' : intOf (sg (numT i)) 20 = some i := g
      show (intOf (sg (numT i)) 20).isSome = true
      rw [g']; rfl
    | name x =>
      left
      unfold isNameT
      show isNameS (tx (sg x)) = true
      rw [tx_sg]; exact g
    | bin o a b =>
      refine absurd ⟨?_, ?_⟩ h
      · rw [Ex.text_bin]
        simp only [List.append_assoc]
        rfl
      · rw [Ex.text_bin, List.getLast?_append, List.getLast?_singleton]
        rfl
  · rintro (h | h)
    · refine ⟨.name (tx l), h, rfl⟩
    · obtain ⟨i, hi⟩ := Option.isSome_iff_exists.mp h
      have hb := (intOf_spec hi).1
      refine ⟨.int i, ?_, hb.symm⟩
      show intOf (sg (numT i)) 20 = some i
      rw [hb]; exact hi
theorem isEx_sum {n : Nat} {l : List Nat} (h1 : l.take 1 = [40]) (h2 : l.getLast? = some 41) :
    isEx (n + 1) l ↔ ∃ k ∈ cutsOf l, isEx n (midL l (k + 3) (l.length - 1)) ∧ ((opAt ((l.drop k).take 3) = "times" ∧ isInt (midL l 1 k) = true) ∨ (opAt ((l.drop k).take 3) ≠ "times" ∧ isEx n (midL l 1 k))) := by
  constructor
  · rintro ⟨e, g, rfl⟩
    cases e with
    | int i =>
      obtain ⟨_, c, r, a3, a4⟩ := int_brk (l := sg (numT i)) g
      have h1' : (sg (numT i)).take 1 = [40] := h1
      rw [a3] at h1'
      injection h1' with z
      exact absurd z a4
    | name x =>
      obtain ⟨_, _, c, r, a3, a4⟩ := name_leaf g
      have h1' : (sg x).take 1 = [40] := h1
      rw [a3] at h1'
      injection h1' with z
      exact absurd z a4
    | bin o a b =>
      obtain ⟨ho, hti, ha, hb⟩ := g
      obtain ⟨o1, o2, o3, c3, r3, o4, o5⟩ := opSign_at ho
      have hT := Ex.text_bin o a b
      generalize sg (Ex.bin o a b).text = l at hT ⊢
      have hlen : l.length = 1 + (sg a.text).length + 3 + (sg b.text).length + 1 := by
        rw [hT]
        simp only [List.length_append, List.length_singleton, o2]
      have e3 : l = ([40] ++ sg a.text) ++ sg (opSign o) ++ (sg b.text ++ [41]) := by rw [hT]; simp only [List.append_assoc]
      have e2 : l = ([40] ++ sg a.text ++ sg (opSign o)) ++ sg b.text ++ [41] := by rw [hT]
      have e1 : l = [40] ++ sg a.text ++ (sg (opSign o) ++ sg b.text ++ [41]) := by rw [hT]; simp only [List.append_assoc]
      have p1 : ([40] ++ sg a.text).length = 1 + (sg a.text).length := by rw [List.length_append]; rfl
      have p2 : ([40] ++ sg a.text ++ sg (opSign o)).length = 1 + (sg a.text).length + 3 := by rw [List.length_append, p1, o2]
      have d3 : (l.drop (1 + (sg a.text).length)).take 3 = sg (opSign o) := by
        rw [e3, ← p1, ← o2]
        exact mid_is
      have m1 : midL l 1 (1 + (sg a.text).length) = sg a.text := by
        unfold midL
        rw [e1, Nat.add_sub_cancel_left]
        exact mid_is (pre := [40])
      have m2 : midL l (1 + (sg a.text).length + 3) (l.length - 1) = sg b.text := by
        unfold midL
        rw [show l.length - 1 - (1 + (sg a.text).length + 3) = (sg b.text).length by omega, e2, ← p2]
        exact mid_is
      have hdep : dep (l.take (1 + (sg a.text).length + 1)) = 1 := by
        have : l.take (1 + (sg a.text).length + 1) = [40] ++ sg a.text ++ [c3] := by
          rw [e3, o4, show ([40] ++ sg a.text ++ c3 :: r3 ++ (sg b.text ++ [41])) = ([40] ++ sg a.text ++ [c3]) ++ (r3 ++ (sg b.text ++ [41])) by simp only [List.append_assoc, List.cons_append, List.nil_append],
            show 1 + (sg a.text).length + 1 = ([40] ++ sg a.text ++ [c3]).length by rw [List.length_append, p1]; rfl, List.take_left]
        rw [this, dep_app, dep_app, dep_ex n a ha]
        have hc : c3 = 32 := by
          rcases ho with rfl | rfl | rfl
          · have : sg (opSign "plus") = [32, 43, 32] := by decide +kernel
            rw [this] at o4; injection o4 with z; exact z.symm
          · have : sg (opSign "minus") = [32, 45, 32] := by decide +kernel
            rw [this] at o4; injection o4 with z; exact z.symm
          · have : sg (opSign "times") = [32, 42, 32] := by decide +kernel
            rw [this] at o4; injection o4 with z; exact z.symm
        rw [hc]
        decide
      refine ⟨1 + (sg a.text).length, ?_, ?_⟩
      · refine List.mem_filter.mpr ⟨List.mem_range.mpr (by omega), ?_⟩
        rw [hdep, d3, o1, decide_eq_true rfl, decide_eq_false o3]
        rfl
      · rw [m1, m2, d3, o1]
        refine ⟨⟨b, hb, rfl⟩, ?_⟩
        by_cases ht : o = "times"
        · left
          refine ⟨ht, ?_⟩
          have hi := hti ht
          cases a with
          | int i =>
            cases n with
            | zero => exact ha.elim
            | succ n =>
              have ha' : intOf (sg (numT i)) 20 = some i := ha
              show (intOf (sg (numT i)) 20).isSome = true
              rw [ha']; rfl
          | name x => cases hi
          | bin _ _ _ => cases hi
        · exact .inr ⟨ht, a, ha, rfl⟩
  · rintro ⟨k, hk, ⟨b, hb, eb⟩, hl⟩
    obtain ⟨hk1, hk2⟩ := List.mem_filter.mp hk
    have hk1 := List.mem_range.mp hk1
    simp only [Bool.and_eq_true, decide_eq_true_eq, Bool.not_eq_true', decide_eq_false_iff_not] at hk2
    obtain ⟨hdep, hop⟩ := hk2
    obtain ⟨ho, ho2⟩ := opAt_back hop
    obtain ⟨o1, o2, o3, c3, r3, o4, o5⟩ := opSign_at ho
    obtain ⟨r0, e0⟩ := take_one h1
    have d3 := drop3 (l := l) (e := k) rfl
    rw [← ho2] at d3
    have hk0 : 1 ≤ k := by
      cases k with
      | zero =>
        exfalso
        have q := congrArg (fun t => t.headD 0) ho2
        have h32 : (sg (opSign (opAt ((l.drop 0).take 3)))).headD 0 = 32 := by
          rcases ho with z | z | z <;> rw [z] <;> decide +kernel
        rw [h32, List.drop_zero, e0] at q
        have q' : (32 : Nat) = 40 := q
        omega
      | succ k => omega
    have hbl : sg b.text ≠ [] := by
      intro z
      cases n with
      | zero => exact hb.elim
      | succ n =>
        cases b with
        | int i =>
          obtain ⟨_, c, r, a3, _⟩ := int_brk (l := sg (numT i)) hb
          have z' : sg (numT i) = [] := z
          rw [a3] at z'; cases z'
        | name x =>
          obtain ⟨_, _, c, r, a3, _⟩ := name_leaf hb
          have z' : sg x = [] := z
          rw [a3] at z'; cases z'
        | bin o x y =>
          rw [Ex.text_bin] at z
          simp at z
    have hlt : k + 3 < l.length - 1 := by
      rcases Nat.lt_or_ge (k + 3) (l.length - 1) with z | z
      · exact z
      · exfalso
        refine hbl (eb.symm.trans ?_)
        unfold midL
        rw [Nat.sub_eq_zero_of_le z, List.take_zero]
    have hlast : l.drop (l.length - 1) = [41] := by
      cases hl2 : l.reverse with
      | nil =>
        rw [List.reverse_eq_nil_iff] at hl2
        rw [hl2] at hk1; cases hk1
      | cons x y =>
        have e : l = y.reverse ++ [x] := by rw [← List.reverse_reverse l, hl2, List.reverse_cons]
        rw [e, List.getLast?_append, List.getLast?_singleton] at h2
        have hx : x = 41 := by simpa using h2
        rw [e, List.length_append, List.length_singleton, Nat.add_sub_cancel, List.drop_left, hx]
    have hall : l = [40] ++ midL l 1 k ++ sg (opSign (opAt ((l.drop k).take 3))) ++ midL l (k + 3) (l.length - 1) ++ [41] := by
      have s1 : l = [40] ++ l.drop 1 := by rw [e0]; rfl
      have s2 : l.drop 1 = midL l 1 k ++ l.drop k := by
        unfold midL
        have := List.take_append_drop (k - 1) (l.drop 1)
        rw [List.drop_drop, show 1 + (k - 1) = k by omega] at this
        exact this.symm
      have s3 : l.drop (k + 3) = midL l (k + 3) (l.length - 1) ++ l.drop (l.length - 1) := by
        unfold midL
        have := List.take_append_drop (l.length - 1 - (k + 3)) (l.drop (k + 3))
        rw [List.drop_drop, show k + 3 + (l.length - 1 - (k + 3)) = l.length - 1 by omega] at this
        exact this.symm
      rw [hlast] at s3
      conv => lhs; rw [s1, s2, d3, s3]
      simp only [List.append_assoc]
    rw [eb] at hall
    rcases hl with ⟨ht, hi⟩ | ⟨ht, a, ha, ea⟩
    · obtain ⟨i, hi⟩ := Option.isSome_iff_exists.mp hi
      have hi1 := (intOf_spec hi).1
      refine ⟨.bin (opAt ((l.drop k).take 3)) (.int i) b, ⟨ho, fun _ => rfl, ?_, hb⟩, ?_⟩
      · cases n with
        | zero => exact hb.elim
        | succ n =>
          show intOf (sg (numT i)) 20 = some i
          rw [hi1]; exact hi
      · rw [Ex.text_bin]
        show l = [40] ++ sg (numT i) ++ _ ++ _ ++ _
        rw [hi1]
        exact hall
    · refine ⟨.bin (opAt ((l.drop k).take 3)) a b, ⟨ho, fun z => absurd z ht, ha, hb⟩, ?_⟩
      rw [Ex.text_bin, ← ea]
      exact hall
end Aw
namespace Aw
open PySem PySem.Spec PyProof.Rows L2
theorem spl_ne (S : List Nat) : ∀ (k : Nat) (acc l : List Nat), TL.spl S k acc l ≠ []
  | k, acc, [] => by rw [TL.spl_nil]; simp
  | 0, acc, c :: r => by
    rw [TL.spl]
    split
    · simp
    · exact spl_ne S 0 _ r
  | k + 1, acc, _ :: r => by
    rw [TL.spl]
    exact spl_ne S k acc r
theorem joinL_cons (S p : List Nat) {q : List (List Nat)} (h : q ≠ []) : TL.joinL S (p :: q) = p ++ (S ++ TL.joinL S q) := by
  cases q with
  | nil => exact absurd rfl h
  | cons x r => rfl
theorem join_spl {S : List Nat} (hS : S ≠ []) : ∀ (n : Nat) (l acc : List Nat), l.length ≤ n → TL.joinL S (TL.spl S 0 acc l) = acc ++ l
  | n, [], acc, _ => by rw [TL.spl_nil, List.append_nil]; rfl
  | 0, c :: r, _, h => by simp at h
  | n + 1, c :: r, acc, h => by
    rw [List.length_cons] at h
    cases hp : TL.pre S (c :: r) with
    | false =>
      rw [TL.spl_miss hp, join_spl hS n r _ (by omega), List.append_assoc]
      rfl
    | true =>
      rw [TL.spl_hit hp, TL.spl_pass, joinL_cons _ _ (spl_ne S 0 _ _), join_spl hS n _ _ (by rw [List.length_drop]; omega)]
      have e : (c :: r).take S.length = S := by simpa [TL.pre] using hp
      have e2 := List.take_append_drop S.length (c :: r)
      rw [e] at e2
      obtain ⟨x, s, rfl⟩ : ∃ x s, S = x :: s := by
        cases S with
        | nil => exact absurd rfl hS
        | cons x s => exact ⟨x, s, rfl⟩
      have e3 : (c :: r).drop (x :: s).length = r.drop ((x :: s).length - 1) := rfl
      rw [e3] at e2
      rw [List.nil_append, e2]
theorem takeW_imp {p : Nat → Bool} : ∀ {l : List Nat} {c : Nat}, c ∈ l.takeWhile p → p c = true
  | [], c, h => by cases h
  | x :: r, c, h => by
    rw [List.takeWhile_cons] at h
    split at h
    · rename_i hx
      rcases List.mem_cons.mp h with rfl | h
      · exact hx
      · exact takeW_imp h
    · cases h
def wordsT (l : List Nat) : List (List Nat) := TL.spl [32] 0 [] l
theorem head_tail {l : List Nat} (h : 32 ∈ l) : l = headL l ++ ([32] ++ tailL l) := by
  have e := List.takeWhile_append_dropWhile (p := fun c => !decide (c = 32)) (l := l)
  have hd : l.dropWhile (fun c => !decide (c = 32)) = 32 :: tailL l := by
    unfold tailL
    cases hq : l.dropWhile (fun c => !decide (c = 32)) with
    | nil =>
      exfalso
      rw [hq, List.append_nil] at e
      have := takeW_imp (by rw [e]; exact h : 32 ∈ l.takeWhile fun c => !decide (c = 32))
      exact absurd this (by decide)
    | cons x r =>
      have hx := List.head_dropWhile_not (fun c => !decide (c = 32)) (by rw [hq]; simp : l.dropWhile (fun c => !decide (c = 32)) ≠ [])
      have hx' : (l.dropWhile fun c => !decide (c = 32)).head? = some x := by rw [hq]; rfl
      have : x = 32 := by
        have e2 : (l.dropWhile fun c => !decide (c = 32)).head (by rw [hq]; simp) = x := by
          rw [List.head?_eq_some_head (by rw [hq]; simp)] at hx'
          injection hx'
        rw [e2] at hx
        simpa using hx
      rw [this]
      rfl
  rw [hd] at e
  exact e.symm
theorem head_free (l : List Nat) : 32 ∉ headL l := fun h => absurd (takeW_imp h) (by decide)
theorem words_in {l : List Nat} (h : 32 ∈ l) : wordsT l = headL l :: wordsT (tailL l) := by
  unfold wordsT
  conv => lhs; rw [head_tail h]
  rw [TL.spl_part1 (S := []) (head_free l)]
  rfl
theorem words_no {l : List Nat} (h : 32 ∉ l) : wordsT l = [l] := by
  unfold wordsT
  rw [TL.spl_last1 h]
  rfl
theorem no_head {l : List Nat} (h : 32 ∉ l) : headL l = l ∧ tailL l = [] := takeW_no l fun i e => h (List.mem_of_getElem? e)
theorem words_join (l : List Nat) : TL.joinL [32] (wordsT l) = l := join_spl (by simp) l.length l [] (Nat.le_refl _)
theorem int_nil : intOf [] 20 = none := rfl
theorem ex_nil : exprOf [] = none := by
  cases h : exprOf [] with
  | none => rfl
  | some e =>
    obtain ⟨g, t⟩ := exprOf_iff.mp h
    exfalso
    cases e with
    | int i =>
      obtain ⟨_, c, r, a, _⟩ := int_brk (l := sg (numT i)) g
      have t' : [] = sg (numT i) := t
      rw [a] at t'; cases t'
    | name x =>
      obtain ⟨_, _, c, r, a, _⟩ := name_leaf g
      have t' : [] = sg x := t
      rw [a] at t'; cases t'
    | bin o a b => rw [Ex.text_bin] at t; simp at t
theorem rest_iff (l : List Nat) : (restT l).isSome = true ↔ 4 ≤ (wordsT l).length ∧ (wordsT l)[1]? = some (sg "of") ∧ isInt ((wordsT l).getD 0 []) = true ∧ isInt ((wordsT l).getD 2 []) = true ∧ isEx 20 (TL.joinL [32] ((wordsT l).drop 3)) := by
  have w_of : sg "of" = [111, 102] := by decide +kernel
  have nof : ¬ (tx ([] : List Nat) = "of") := by decide +kernel
  by_cases h0 : 32 ∈ l
  rotate_left
  · obtain ⟨a, b⟩ := no_head h0
    rw [words_no h0]
    constructor
    · intro h
      unfold restT at h
      rw [b, show headL [] = [] from rfl, if_neg nof] at h
      cases h
    · rintro ⟨h, _⟩
      simp at h
  rw [words_in h0]
  by_cases h1 : 32 ∈ tailL l
  rotate_left
  · obtain ⟨a, b⟩ := no_head h1
    rw [words_no h1]
    constructor
    · intro h
      unfold restT at h
      rw [b, show headL [] = [] from rfl, int_nil] at h
      split at h
      · split at h
        · rename_i hh _; cases hh
        · cases h
      · cases h
    · rintro ⟨h, _⟩
      simp at h
  rw [words_in h1]
  by_cases h2 : 32 ∈ tailL (tailL l)
  rotate_left
  · obtain ⟨a, b⟩ := no_head h2
    rw [words_no h2]
    constructor
    · intro h
      unfold restT at h
      rw [b, ex_nil] at h
      split at h
      · split at h
        · rename_i hh; cases hh
        · cases h
      · cases h
    · rintro ⟨h, _⟩
      simp at h
  rw [words_in h2]
  have hd : (headL l :: headL (tailL l) :: headL (tailL (tailL l)) :: wordsT (tailL (tailL (tailL l)))).drop 3 = wordsT (tailL (tailL (tailL l))) := rfl
  have hlen : 4 ≤ (headL l :: headL (tailL l) :: headL (tailL (tailL l)) :: wordsT (tailL (tailL (tailL l)))).length := by
    have : wordsT (tailL (tailL (tailL l))) ≠ [] := spl_ne _ _ _ _
    cases hq : wordsT (tailL (tailL (tailL l))) with
    | nil => exact absurd hq this
    | cons x r => simp
  rw [hd, words_join]
  have ho : (tx (headL (tailL l)) = "of") ↔ some (headL (tailL l)) = some (sg "of") := by
    constructor
    · intro h; rw [← h]; rfl
    · intro h; injection h with h; rw [h, tx_sg]
  have e1 : (headL l :: headL (tailL l) :: headL (tailL (tailL l)) :: wordsT (tailL (tailL (tailL l))))[1]? = some (headL (tailL l)) := rfl
  have e2 : (headL l :: headL (tailL l) :: headL (tailL (tailL l)) :: wordsT (tailL (tailL (tailL l)))).getD 0 [] = headL l := rfl
  have e3 : (headL l :: headL (tailL l) :: headL (tailL (tailL l)) :: wordsT (tailL (tailL (tailL l)))).getD 2 [] = headL (tailL (tailL l)) := rfl
  rw [e1, e2, e3, isEx_some]
  unfold restT isInt
  constructor
  · intro h
    split at h
    · rename_i hof
      refine ⟨hlen, ho.mp hof, ?_⟩
      split at h
      · rename_i r b e q1 q2 q3
        rw [q1, q2, q3]
        exact ⟨rfl, rfl, rfl⟩
      · cases h
    · cases h
  · rintro ⟨_, hof, q1, q2, q3⟩
    rw [if_pos (ho.mpr hof)]
    obtain ⟨r, q1⟩ := Option.isSome_iff_exists.mp q1
    obtain ⟨b, q2⟩ := Option.isSome_iff_exists.mp q2
    obtain ⟨e, q3⟩ := Option.isSome_iff_exists.mp q3
    rw [q1, q2, q3]
    rfl
theorem rest_back {l : List Nat} {t : Ts} (h : restT l = some t) : ∃ e b r, t = .rest e b r ∧ e.gd 20 ∧ l = sg (numT r) ++ [32, 111, 102, 32] ++ sg (numT b) ++ [32] ++ sg e.text := by
  unfold restT at h
  split at h
  · rename_i hof
    split at h
    · rename_i r b e q1 q2 q3
      cases h
      have i0 : 32 ∈ l := by
        apply Classical.byContradiction; intro z
        rw [(no_head z).2] at hof
        exact absurd hof (by decide +kernel)
      have i1 : 32 ∈ tailL l := by
        apply Classical.byContradiction; intro z
        rw [(no_head z).2] at q2
        cases q2
      have i2 : 32 ∈ tailL (tailL l) := by
        apply Classical.byContradiction; intro z
        rw [(no_head z).2, ex_nil] at q3
        cases q3
      have ho : headL (tailL l) = [111, 102] := by
        have : sg (tx (headL (tailL l))) = sg "of" := congrArg sg hof
        rw [show sg "of" = [111, 102] by decide +kernel] at this
        exact this
      obtain ⟨ge, te⟩ := exprOf_iff.mp q3
      refine ⟨e, b, r, rfl, ge, ?_⟩
      conv => lhs; rw [head_tail i0, head_tail i1, head_tail i2, te]
      rw [ho, (intOf_spec q1).1, (intOf_spec q2).1]
      simp only [List.append_assoc, List.cons_append, List.nil_append]
    · cases h
  · cases h
theorem ex_60 : ∀ (n : Nat) (e : Ex), e.gd n → 60 ∉ sg e.text
  | 0, _, h => h.elim
  | n + 1, .int i, h => fun m => by
    rcases (intOf_spec (l := sg (numT i)) h).2.2.2.2.1 60 m with z | z <;> omega
  | n + 1, .name x, h => fun m => by
    have hs : ∀ c ∈ sg x, c ∈ sg SGN := by
      have h0 := h
      unfold Ex.gd isNameS at h0
      simp only [Bool.and_eq_true, decide_eq_true_eq] at h0
      exact fun c hc => of_decide_eq_true (List.all_eq_true.mp h0.1.2 c hc)
    exact absurd (hs 60 m) (by decide +kernel)
  | n + 1, .bin o a b, ⟨ho, _, ha, hb⟩ => by
    rw [Ex.text_bin]
    have h1 : 60 ∉ sg (opSign o) := by rcases ho with rfl | rfl | rfl <;> decide +kernel
    simp only [List.mem_append, List.mem_singleton, not_or]
    exact ⟨⟨⟨⟨by decide, ex_60 n a ha⟩, h1⟩, ex_60 n b hb⟩, by decide⟩
def lessT (l : List Nat) : Option Ts := match exprAt l 20 0 with
  | none => none
  | some (a, k) => if (l.drop k).take 3 = [32, 60, 32] then (exprOf (l.drop (k + 3))).map fun b => Ts.less a b else none
theorem less_back {l : List Nat} {t : Ts} (h : lessT l = some t) : ∃ a b, t = .less a b ∧ a.gd 20 ∧ b.gd 20 ∧ l = sg a.text ++ ([32, 60, 32] ++ sg b.text) := by
  unfold lessT at h
  split at h
  · cases h
  · rename_i a k hk
    split at h
    · rename_i h3
      obtain ⟨b, hb, rfl⟩ := Option.map_eq_some_iff.mp h
      obtain ⟨ga, d, _⟩ := exprAt_back l 20 0 hk
      obtain ⟨gb, tb⟩ := exprOf_iff.mp hb
      refine ⟨a, b, rfl, ga, gb, ?_⟩
      rw [← tb, ← drop3 h3, ← d, List.drop_zero]
    · cases h
theorem less_of {a b : Ex} (ha : a.gd 20) (hb : b.gd 20) : lessT (sg a.text ++ ([32, 60, 32] ++ sg b.text)) = some (.less a b) := by
  have q := exprAt_gd 20 a [] ([32, 60, 32] ++ sg b.text) ha (.inr ⟨32, _, rfl, by decide⟩)
  rw [List.nil_append, List.length_nil, Nat.zero_add] at q
  unfold lessT
  rw [q]
  dsimp only
  rw [List.drop_left]
  have e : (sg a.text ++ ([32, 60, 32] ++ sg b.text)).drop ((sg a.text).length + 3) = sg b.text := by
    rw [← List.drop_drop, List.drop_left]
    rfl
  rw [if_pos (by rfl), e, exprOf_iff.mpr ⟨hb, rfl⟩]
  rfl
def lessW (l : List Nat) : List (List Nat) := TL.spl [32, 60, 32] 0 [] l
theorem pre_less {x : Nat} {r : List Nat} (h : r.headD 0 ≠ 60) : TL.pre [32, 60, 32] (x :: r) = false := by
  cases hp : TL.pre [32, 60, 32] (x :: r) with
  | false => rfl
  | true =>
    exfalso
    have e : (x :: r).take 3 = [32, 60, 32] := by simpa [TL.pre] using hp
    cases r with
    | nil => simp at e
    | cons y r =>
      simp only [List.take_succ_cons, List.cons.injEq] at e
      exact h e.2.1
theorem less_free {p q : List Nat} (h : 60 ∉ p) (hq : q.headD 0 ≠ 60) : ∀ i, i < p.length → TL.pre [32, 60, 32] ((p ++ q).drop i) = false := fun i hi => by
  have hlt : i < (p ++ q).length := by rw [List.length_append]; omega
  rw [List.drop_eq_getElem_cons hlt]
  refine pre_less ?_
  by_cases hl : i + 1 < p.length
  · have hlt2 : i + 1 < (p ++ q).length := by rw [List.length_append]; omega
    rw [List.drop_eq_getElem_cons hlt2]
    show (p ++ q)[i + 1] ≠ 60
    rw [List.getElem_append_left hl]
    exact fun z => h (z ▸ List.getElem_mem hl)
  · have : i + 1 = p.length := by omega
    rw [this, List.drop_left]
    exact hq
theorem less_iff (l : List Nat) : (lessT l).isSome = true ↔ (lessW l).length = 2 ∧ isEx 20 ((lessW l).getD 0 []) ∧ isEx 20 ((lessW l).getD 1 []) := by
  constructor
  · intro h
    obtain ⟨t, h⟩ := Option.isSome_iff_exists.mp h
    obtain ⟨a, b, rfl, ga, gb, hl⟩ := less_back h
    have e : lessW l = [sg a.text, sg b.text] := by
      unfold lessW
      rw [hl, TL.spl_part (by simp) (less_free (ex_60 20 a ga) (show (32 : Nat) ≠ 60 by decide)), TL.spl_last]
      · rfl
      · intro i hi
        have z := less_free (p := sg b.text) (q := []) (ex_60 20 b gb) (by decide) i hi
        rw [List.append_nil] at z
        exact z
    rw [e]
    exact ⟨rfl, ⟨a, ga, rfl⟩, ⟨b, gb, rfl⟩⟩
  · rintro ⟨h1, h2, h3⟩
    have e : TL.joinL [32, 60, 32] (lessW l) = l := join_spl (by simp) l.length l [] (Nat.le_refl _)
    match hw : lessW l, h1 with
    | [p, q], _ =>
      rw [hw] at h2 h3 e
      obtain ⟨a, ga, ea⟩ := h2
      obtain ⟨b, gb, eb⟩ := h3
      have ea' : p = sg a.text := ea
      have eb' : q = sg b.text := eb
      rw [ea', eb'] at e
      have e' : sg a.text ++ ([32, 60, 32] ++ sg b.text) = l := e
      rw [← e', less_of ga gb]
      rfl
theorem ptOf_eq (l : List Nat) : ptOf l = if l.take 4 = [115, 101, 116, 32] then (if isNameT (l.drop 4) = true then some (.given (tx (l.drop 4))) else none)
  else if l.take 5 = [114, 101, 115, 116, 32] then restT (l.drop 5) else lessT l := rfl
/-- the tests of texts -/
def Ts.gd : Ts → Prop
  | .not t => t.gd
  | .given x => isNameS x = true
  | .rest e _ _ => e.gd 20
  | .less a b => a.gd 20 ∧ b.gd 20
theorem ptOf_back {l : List Nat} {t : Ts} (h : ptOf l = some t) : t.gd ∧ l = sg t.text := by
  rw [ptOf_eq] at h
  split at h
  · rename_i h4
    split at h
    · rename_i hn
      cases h
      refine ⟨hn, ?_⟩
      have e := List.take_append_drop 4 l
      rw [h4] at e
      show l = sg ("set " ++ tx (l.drop 4))
      rw [sg_app, show sg "set " = [115, 101, 116, 32] by decide +kernel]
      exact e.symm
    · cases h
  · split at h
    · rename_i h5
      obtain ⟨e, b, r, rfl, g, hl⟩ := rest_back h
      refine ⟨g, ?_⟩
      have e5 := List.take_append_drop 5 l
      rw [h5, hl] at e5
      show l = sg ("rest " ++ numT r ++ " of " ++ numT b ++ " " ++ e.text)
      rw [sg_app, sg_app, sg_app, sg_app, sg_app, show sg "rest " = [114, 101, 115, 116, 32] by decide +kernel, show sg " of " = [32, 111, 102, 32] by decide +kernel, w_bl, ← e5]
      simp only [List.append_assoc, List.cons_append, List.nil_append]
    · obtain ⟨a, b, rfl, ga, gb, hl⟩ := less_back h
      refine ⟨⟨ga, gb⟩, ?_⟩
      show l = sg (a.text ++ " < " ++ b.text)
      rw [sg_app, sg_app, show sg " < " = [32, 60, 32] by decide +kernel, hl, List.append_assoc]
theorem strip_back : ∀ (f : Nat) (l : List Nat) (t : Ts), t.gd ∧ (stripN f l).2 = sg t.text → (addN (stripN f l).1 t).gd ∧ l = sg (addN (stripN f l).1 t).text
  | 0, l, t, h => ⟨h.1, h.2⟩
  | f + 1, l, t, h => by
    by_cases h4 : l.take 4 = [110, 111, 116, 32]
    · have e1 : stripN (f + 1) l = ((stripN f (l.drop 4)).1 + 1, (stripN f (l.drop 4)).2) := by rw [stripN, if_pos h4]
      rw [e1] at h ⊢
      obtain ⟨g, e⟩ := strip_back f (l.drop 4) t h
      refine ⟨g, ?_⟩
      show l = sg ("not " ++ (addN (stripN f (l.drop 4)).1 t).text)
      rw [sg_app, show sg "not " = [110, 111, 116, 32] by decide +kernel, ← e]
      have := List.take_append_drop 4 l
      rw [h4] at this
      exact this.symm
    · have e1 : stripN (f + 1) l = (0, l) := stripN_no h4
      rw [e1] at h ⊢
      exact h
theorem testOf_back {l : List Nat} {t : Ts} (h : testOf l = some t) : t.gd ∧ l = sg t.text := by
  unfold testOf at h
  split at h
  · cases h
  · rename_i t0 ht
    split at h
    · cases h
    · cases h
      exact strip_back l.length l t0 (ptOf_back ht)
def Ln.text : Ln → Str
  | .pl p => p.text
  | .ifh t => "if " ++ t.text
  | .reph k => "repeat" ++ " " ++ numT k
def Pl.gd : Pl → Prop
  | .set x e => isNameS x = true ∧ e.gd 20
  | .unset x => isNameS x = true
  | .tell e => e.gd 20
  | .say w => isWordT (sg w) 8 = true
  | .stop w => isWordT (sg w) 8 = true
def Ln.gd : Ln → Prop
  | .pl p => p.gd
  | .ifh t => t.gd
  | .reph _ => True
theorem line_split {l : List Nat} {w : Str} (hw : tx (headL l) = w) (h : tailL l ≠ []) : l = sg w ++ ([32] ++ tailL l) := by
  by_cases hi : 32 ∈ l
  · have e := head_tail hi
    rw [← hw]
    exact e
  · exact absurd (no_head hi).2 h
theorem word_nil : isWordT [] 8 = false := by decide
theorem name_nil : isNameT [] = false := by decide +kernel
theorem stmtOf_back {l : List Nat} {x : Ln} (h : stmtOf l = some x) : x.gd ∧ l = sg x.text := by
  unfold stmtOf at h
  split at h
  · rename_i hw
    split at h
    · rename_i hq
      cases h
      refine ⟨hq, (line_split hw fun z => ?_).trans ?_⟩
      · rw [z, word_nil] at hq; cases hq
      · show _ = sg ("say" ++ " " ++ tx (tailL l))
        rw [sg_app, sg_app, w_bl, List.append_assoc]; rfl
    · cases h
  · split at h
    · rename_i hw
      split at h
      · rename_i hq
        cases h
        refine ⟨hq, (line_split hw fun z => ?_).trans ?_⟩
        · rw [z, word_nil] at hq; cases hq
        · show _ = sg ("stop" ++ " " ++ tx (tailL l))
          rw [sg_app, sg_app, w_bl, List.append_assoc]; rfl
      · cases h
    · split at h
      · rename_i hw
        split at h
        · rename_i hq
          cases h
          refine ⟨hq, (line_split hw fun z => ?_).trans ?_⟩
          · rw [z, name_nil] at hq; cases hq
          · show _ = sg ("unset" ++ " " ++ tx (tailL l))
            rw [sg_app, sg_app, w_bl, List.append_assoc]; rfl
        · cases h
      · split at h
        · rename_i hw
          obtain ⟨p, hp, rfl⟩ := Option.map_eq_some_iff.mp h
          unfold setOf at hp
          split at hp
          · rename_i hn
            obtain ⟨e, he, rfl⟩ := Option.map_eq_some_iff.mp hp
            obtain ⟨ge, te⟩ := exprOf_iff.mp he
            have i1 : 32 ∈ tailL l := by
              apply Classical.byContradiction; intro z
              rw [(no_head z).2, ex_nil] at he
              cases he
            refine ⟨⟨hn, ge⟩, (line_split hw fun z => ?_).trans ?_⟩
            · rw [z] at i1; simp at i1
            · show _ = sg ("set " ++ tx (headL (tailL l)) ++ " " ++ e.text)
              rw [sg_app, sg_app, sg_app, w_bl, ← te, show sg "set " = sg "set" ++ [32] by decide +kernel]
              conv => lhs; rw [head_tail i1]
              simp only [List.append_assoc]
              rfl
          · cases hp
        · split at h
          · rename_i hw
            obtain ⟨e, he, rfl⟩ := Option.map_eq_some_iff.mp h
            obtain ⟨ge, te⟩ := exprOf_iff.mp he
            refine ⟨ge, (line_split hw fun z => ?_).trans ?_⟩
            · rw [z, ex_nil] at he; cases he
            · show _ = sg ("tell " ++ e.text)
              rw [sg_app, ← te, show sg "tell " = sg "tell" ++ [32] by decide +kernel, List.append_assoc]
          · split at h
            · rename_i hw
              obtain ⟨t, ht, rfl⟩ := Option.map_eq_some_iff.mp h
              obtain ⟨g, te⟩ := testOf_back ht
              refine ⟨g, (line_split hw fun z => ?_).trans ?_⟩
              · rw [z] at ht
                exact absurd ht (by
                  have : testOf [] = none := by
                    unfold testOf
                    rw [show (stripN ([] : List Nat).length []).2 = [] from rfl, ptOf_eq]
                    rw [if_neg (by decide), if_neg (by decide)]
                    have : lessT [] = none := by
                      cases hq : lessT [] with
                      | none => rfl
                      | some t =>
                        obtain ⟨a, b, _, _, _, hl⟩ := less_back hq
                        simp at hl
                    rw [this]
                  rw [this]
                  simp)
              · show _ = sg ("if " ++ t.text)
                rw [sg_app, ← te, show sg "if " = sg "if" ++ [32] by decide +kernel, List.append_assoc]
            · split at h
              · rename_i hw
                obtain ⟨k, hk, rfl⟩ := Option.map_eq_some_iff.mp h
                refine ⟨trivial, (line_split hw fun z => ?_).trans ?_⟩
                · rw [z, int_nil] at hk; cases hk
                · show _ = sg ("repeat" ++ " " ++ numT k)
                  rw [sg_app, sg_app, w_bl, (intOf_spec hk).1, List.append_assoc]
              · cases h
end Aw
namespace Aw
open PySem PySem.Spec PyProof.Rows L2
mutual
def Sm.gd : Sm → Prop
  | .pl p => p.gd
  | .ifs t y n => t.gd ∧ Sm.gds y ∧ Sm.gds n
  | .rep _ b => Sm.gds b
def Sm.gds : List Sm → Prop
  | [] => True
  | s :: r => s.gd ∧ Sm.gds r
end
theorem gds_app : ∀ {a b : List Sm}, Sm.gds (a ++ b) ↔ Sm.gds a ∧ Sm.gds b
  | [], b => by simp [Sm.gds]
  | s :: r, b => by rw [List.cons_append, Sm.gds, Sm.gds, gds_app (a := r), and_assoc]
theorem gds_one (s : Sm) : Sm.gds [s] ↔ s.gd := by simp [Sm.gds]
theorem all_app (ah : Str) : ∀ (a b : List Sm), Sm.all ah (a ++ b) = Sm.all ah a ++ Sm.all ah b
  | [], b => by rw [List.nil_append, Sm.all, List.nil_append]
  | s :: r, b => by rw [List.cons_append, Sm.all, Sm.all, all_app ah r, List.append_assoc]
theorem all_one (ah : Str) (s : Sm) : Sm.all ah [s] = Sm.lines ah s := by rw [Sm.all, Sm.all, List.append_nil]
def ahN (k : Nat) : Str := tx (ind k)
theorem ahN_sg (k : Nat) : sg (ahN k) = ind k := rfl
theorem sg_inj {a b : Str} (h : sg a = sg b) : a = b := by rw [← tx_sg a, ← tx_sg b, h]
theorem ahN_next (k : Nat) : ahN k ++ "  " = ahN (k + 1) := sg_inj (by
  rw [sg_app, ahN_sg, ahN_sg, show sg "  " = List.replicate 2 32 by decide +kernel]
  unfold ind
  rw [List.replicate_append_replicate]
  rfl)
theorem ahN_zero : ahN 0 = "" := by decide +kernel
inductive Hd
  | root
  | ifp (t : Ts)
  | rep (k : Int)
  | els
structure Tp where
  hd : Hd
  rows : List Sm
  over : Bool
def Hd.kind : Hd → Str
  | .root => "program"
  | .ifp _ => "if"
  | .rep _ => "repeat"
  | .els => "else"
def Hd.head : Hd → List PyData
  | .root => []
  | .ifp t => Ln.its (.ifh t)
  | .rep k => Ln.its (.reph k)
  | .els => []
def Tp.pt (p : Tp) : Pt := ⟨p.hd.kind, p.hd.head, p.rows.map Sm.its, p.over⟩
def Tp.body (k : Nat) (p : Tp) : List Str := if p.over = true then [ahN k ++ "pass"] else Sm.all (ahN k) p.rows
def Hd.line (k : Nat) : Hd → List Str
  | .root => []
  | .ifp t => [ahN (k - 1) ++ ("if " ++ t.text)]
  | .rep c => [ahN (k - 1) ++ ("repeat" ++ " " ++ numT c)]
  | .els => [ahN (k - 1) ++ "else"]
def Tp.ls (k : Nat) (p : Tp) : List Str := p.hd.line k ++ p.body k
def LsT : List Tp → List Str
  | [] => []
  | p :: r => LsT r ++ p.ls r.length
def Hd.gd : Hd → Prop
  | .ifp t => t.gd
  | _ => True
def Wt : List Tp → Prop
  | [] => False
  | [p] => p.hd = .root ∧ p.over = false ∧ Sm.gds p.rows
  | p :: o :: r => p.hd ≠ .root ∧ p.hd.gd ∧ (p.over = true → p.rows = [] ∧ p.hd ≠ .els) ∧ (p.hd = .els → ∃ b t y, o.rows = b ++ [.ifs t y []]) ∧ o.over = false ∧ Sm.gds p.rows ∧ Wt (o :: r)
theorem Wt.gds {p : Tp} {r : List Tp} (h : Wt (p :: r)) : Sm.gds p.rows := by
  cases r with
  | nil => exact h.2.2
  | cons o r => exact h.2.2.2.2.2.1
/-- only the rows of the last part changed, what stood there stands -/
theorem Wt.rows {p p' : Tp} {r : List Tp} (h : Wt (p :: r)) (e1 : p'.hd = p.hd) (e2 : p'.over = false) (e3 : Sm.gds p'.rows) : Wt (p' :: r) := by
  cases r with
  | nil => exact ⟨e1.trans h.1, e2, e3⟩
  | cons o r =>
    obtain ⟨h1, h2, h3, h4, h5, h6, h7⟩ := h
    exact ⟨by rw [e1]; exact h1, by rw [e1]; exact h2, (fun z => by rw [e2] at z; cases z), (fun z => h4 (by rw [← e1]; exact z)), h5, e3, h7⟩
def Tp.has (p : Tp) : Prop := p.rows ≠ [] ∨ p.over = true
theorem isEmpty_map {α β : Type} (f : α → β) (l : List α) : (l.map f).isEmpty = l.isEmpty := by cases l <;> rfl
theorem Tp.lacks_iff (p : Tp) : p.pt.lacks = false ↔ p.hd = .root ∨ p.has := by
  obtain ⟨hd, rows, over⟩ := p
  unfold Pt.lacks Tp.pt Tp.has
  dsimp only
  rw [isEmpty_map]
  cases hd with
  | root =>
    rw [show decide (Hd.kind .root = "program") = true by decide +kernel]
    simp
  | ifp t =>
    rw [show decide (Hd.kind (.ifp t) = "program") = false from decide_eq_false (show ¬ (("if" : Str) = "program") by decide +kernel)]
    cases rows <;> cases over <;> simp
  | rep k =>
    rw [show decide (Hd.kind (.rep k) = "program") = false from decide_eq_false (show ¬ (("repeat" : Str) = "program") by decide +kernel)]
    cases rows <;> cases over <;> simp
  | els =>
    rw [show decide (Hd.kind .els = "program") = false by decide +kernel]
    cases rows <;> cases over <;> simp
theorem endP_if {p o : Pt} (h : p.kind = "if") : endP p o = o.add (p.head ++ [p.blk, .tuple []]) := by
  unfold endP
  rw [h, if_neg (by decide +kernel), if_pos rfl]
theorem endP_rep {p o : Pt} (h : p.kind = "repeat") : endP p o = o.add (p.head ++ [p.blk]) := by
  unfold endP
  rw [h, if_neg (by decide +kernel), if_neg (by decide +kernel)]
theorem endP_els {p o : Pt} (h : p.kind = "else") : endP p o = { o with rows := o.rows.dropLast ++ [(o.rows.getLastD []).take 3 ++ [p.blk]] } := by
  unfold endP
  rw [if_pos h]
theorem Tp.blk_eq (p : Tp) : p.pt.blk = .tuple (Sm.ds p.rows) := by
  unfold Pt.blk Tp.pt
  dsimp only
  rw [Sm.its_ds]
theorem dropLast_map {α β : Type} (f : α → β) (l : List α) (x : α) : ((l ++ [x]).map f).dropLast = l.map f := by simp
theorem getLast_map {α β : Type} (f : α → β) (l : List α) (x : α) (d : β) : ((l ++ [x]).map f).getLastD d = f x := by simp
def hds : List Tp → List Str
  | [] => []
  | [_] => []
  | p :: o :: r => hds (o :: r) ++ [p.hd.kind]
theorem hds_len : ∀ (p : Tp) (r : List Tp), (hds (p :: r)).length = r.length
  | p, [] => rfl
  | p, o :: r => by rw [hds, List.length_append, hds_len o r]; rfl
theorem hds_hd {o o' : Tp} (h : o'.hd = o.hd) (r : List Tp) : hds (o' :: r) = hds (o :: r) := by
  cases r with
  | nil => rfl
  | cons x r => rw [hds, hds, h]
theorem close_one {p o : Tp} {r : List Tp} (h : Wt (p :: o :: r)) (hh : p.has) : ∃ o' : Tp, endP p.pt o.pt = o'.pt ∧ Wt (o' :: r) ∧ LsT (o' :: r) = LsT (p :: o :: r) ∧ o'.rows ≠ [] ∧ o'.over = false ∧ (p.hd.kind = "if" → ∃ b t y, o'.rows = b ++ [.ifs t y []]) ∧ o'.hd = o.hd := by
  obtain ⟨hd, rows, over⟩ := p
  obtain ⟨h1, h2, h3, h4, h5, h6, h7⟩ := h
  dsimp only at h1 h2 h3 h4 h6
  have hb : ∀ (k : Nat), (if rows.isEmpty = true then [ahN k ++ "pass"] else Sm.all (ahN k) rows) = (⟨hd, rows, over⟩ : Tp).body k := by
    intro k
    unfold Tp.body
    dsimp only
    cases over with
    | true =>
      rw [(h3 rfl).1]
      rfl
    | false =>
      rcases hh with z | z
      · have z' : rows ≠ [] := z
        cases rows with
        | nil => exact absurd rfl z'
        | cons x y => rfl
      · cases z
  have key : ∀ (s : Sm), s.gd → (∀ k, Sm.lines (ahN k) s = hd.line (k + 1) ++ (⟨hd, rows, over⟩ : Tp).body (k + 1)) → endP (⟨hd, rows, over⟩ : Tp).pt o.pt = o.pt.add s.its →
      (hd.kind = "if" → ∃ t y, s = .ifs t y []) →
      ∃ o' : Tp, endP (⟨hd, rows, over⟩ : Tp).pt o.pt = o'.pt ∧ Wt (o' :: r) ∧ LsT (o' :: r) = LsT (⟨hd, rows, over⟩ :: o :: r) ∧ o'.rows ≠ [] ∧ o'.over = false ∧ (hd.kind = "if" → ∃ b t y, o'.rows = b ++ [.ifs t y []]) ∧ o'.hd = o.hd := by
    intro s gs hl he hi
    refine ⟨⟨o.hd, o.rows ++ [s], false⟩, ?_, h7.rows rfl rfl (gds_app.mpr ⟨h7.gds, (gds_one s).mpr gs⟩), ?_, by simp, rfl, ?_, rfl⟩
    · rw [he]
      unfold Tp.pt Pt.add
      rw [List.map_append, h5]
      rfl
    · unfold LsT
      rw [LsT]
      unfold Tp.ls
      rw [List.length_cons, List.append_assoc, List.append_assoc]
      congr 1
      congr 1
      show Tp.body r.length ⟨o.hd, o.rows ++ [s], false⟩ = Tp.body r.length o ++ _
      unfold Tp.body
      rw [h5, if_neg Bool.false_ne_true, if_neg Bool.false_ne_true, all_app, all_one, hl]
      rfl
    · intro z
      obtain ⟨t, y, e⟩ := hi z
      exact ⟨o.rows, t, y, by rw [← e]⟩
  have ha : ∀ k, ahN k ++ ("  " : Str) = ahN (k + 1) := ahN_next
  cases hd with
  | root => exact absurd rfl h1
  | ifp t =>
    refine key (.ifs t rows []) ⟨h2, h6, trivial⟩ (fun k => ?_) ?_ (fun _ => ⟨t, rows, rfl⟩)
    · rw [Sm.lines, ha, hb]
      simp [Hd.line]
    · rw [endP_if rfl, Tp.blk_eq]
      rfl
  | rep c =>
    refine key (.rep c rows) h6 (fun k => ?_) ?_ (fun z => absurd z (show ¬ (("repeat" : Str) = "if") by decide +kernel))
    · rw [Sm.lines, ha, hb]
      simp [Hd.line]
    · rw [endP_rep rfl, Tp.blk_eq]
      rfl
  | els =>
    obtain ⟨b, t, y, eo⟩ := h4 rfl
    have hov : over = false := by
      cases over with
      | false => rfl
      | true => exact absurd rfl (h3 rfl).2
    have hne : rows ≠ [] := by
      rcases hh with z | z
      · exact z
      · rw [hov] at z; cases z
    have go := h7.gds
    rw [eo, gds_app, gds_one] at go
    refine ⟨⟨o.hd, b ++ [.ifs t y rows], false⟩, ?_, h7.rows rfl rfl (gds_app.mpr ⟨go.1, (gds_one (.ifs t y rows)).mpr ⟨go.2.1, go.2.2.1, h6⟩⟩), ?_, by simp, rfl, fun z => absurd z (show ¬ (("else" : Str) = "if") by decide +kernel), rfl⟩
    · rw [endP_els rfl, Tp.blk_eq]
      show (⟨o.hd.kind, o.hd.head, (o.rows.map Sm.its).dropLast ++ [((o.rows.map Sm.its).getLastD []).take 3 ++ [_]], o.over⟩ : Pt) = _
      rw [eo, dropLast_map, getLast_map, h5]
      unfold Tp.pt
      rw [List.map_append]
      rfl
    · unfold LsT
      rw [LsT]
      unfold Tp.ls
      rw [List.length_cons, List.append_assoc, List.append_assoc]
      congr 1
      congr 1
      show Tp.body r.length ⟨o.hd, b ++ [.ifs t y rows], false⟩ = Tp.body r.length o ++ _
      unfold Tp.body
      dsimp only
      rw [h5, hov, if_neg Bool.false_ne_true, if_neg Bool.false_ne_true, if_neg Bool.false_ne_true, eo, all_app, all_app, all_one, all_one, List.append_assoc]
      congr 1
      rw [Sm.lines, Sm.lines]
      have hre : rows.isEmpty = false := by
        cases rows with
        | nil => exact absurd rfl hne
        | cons _ _ => rfl
      rw [hre, if_neg Bool.false_ne_true, ha]
      simp [Hd.line]
theorem Wt.tail {p o : Tp} {r : List Tp} (h : Wt (p :: o :: r)) : Wt (o :: r) := h.2.2.2.2.2.2
theorem close_all : ∀ (n : Nat) (k : Str) (p : Tp) (r : List Tp), Wt (p :: r) → n ≤ r.length → (1 ≤ n → p.has) →
    ∃ (p' : Tp) (r' : List Tp) (k' : Str), closeN n k ((p :: r).map Tp.pt) = (k', (p' :: r').map Tp.pt) ∧ Wt (p' :: r') ∧ LsT (p' :: r') = LsT (p :: r) ∧ r'.length = r.length - n ∧
      (n = 0 → k' = k ∧ p' = p ∧ r' = r) ∧ (1 ≤ n → p'.rows ≠ [] ∧ p'.over = false ∧ (k' = "if" → ∃ b t y, p'.rows = b ++ [.ifs t y []])) ∧
      hds (p' :: r') = (hds (p :: r)).take r'.length ∧ (1 ≤ n → (hds (p :: r))[r'.length]? = some k')
  | 0, k, p, r, h, _, _ => ⟨p, r, k, rfl, h, rfl, rfl, fun _ => ⟨rfl, rfl, rfl⟩, (fun z => by omega), by rw [← hds_len p r, List.take_length], (fun z => by omega)⟩
  | n + 1, k, p, [], h, hn, _ => by simp at hn
  | n + 1, k, p, o :: r, h, hn, hh => by
    obtain ⟨o', e1, w1, l1, n1, v1, i1, hd1⟩ := close_one h (hh (by omega))
    rw [List.length_cons] at hn
    obtain ⟨p', r', k', e2, w2, l2, len2, z2, y2, t2, x2⟩ := close_all n p.pt.kind o' r w1 (by omega) (fun _ => .inl n1)
    have hlen := hds_len o r
    rw [hds_hd hd1 r] at t2 x2
    refine ⟨p', r', k', ?_, w2, l2.trans l1, by rw [len2, List.length_cons]; omega, (fun z => by omega), fun _ => ?_, ?_, fun _ => ?_⟩
    rotate_right 2
    · rw [t2, hds, List.take_append_of_le_length (by omega)]
    · rcases Nat.eq_zero_or_pos n with z | z
      · obtain ⟨a, b, c⟩ := z2 z
        rw [a, c, hds, List.getElem?_append_right (by omega), hlen, Nat.sub_self]
        rfl
      · rw [hds, List.getElem?_append_left (by omega)]
        exact x2 z
    · rw [List.map_cons, List.map_cons, closeN, e1]
      exact e2
    · rcases Nat.eq_zero_or_pos n with z | z
      · obtain ⟨a, b, c⟩ := z2 z
        rw [b]
        exact ⟨n1, v1, fun y => i1 (by rw [a] at y; exact y)⟩
      · exact y2 z
theorem lstr_split (l : List Nat) : l = List.replicate (l.length - (lstr l).length) 32 ++ lstr l := by
  unfold lstr
  induction l with
  | nil => rfl
  | cons c r ih =>
    rw [List.dropWhile_cons]
    split
    · rename_i hc
      have hc' : c = 32 := of_decide_eq_true hc
      have hle : (r.dropWhile fun c => decide (c = 32)).length ≤ r.length := (List.dropWhile_sublist _).length_le
      rw [List.length_cons, show r.length + 1 - (r.dropWhile fun c => decide (c = 32)).length = (r.length - (r.dropWhile fun c => decide (c = 32)).length) + 1 by omega, List.replicate_succ, List.cons_append, ← ih, hc']
    · rw [Nat.sub_self]
      rfl
theorem ind_split {l : List Nat} (h : ¬ (l.length - (lstr l).length) % 2 = 1) : l = ind ((l.length - (lstr l).length) / 2) ++ lstr l := by
  have e := lstr_split l
  unfold ind
  rw [show 2 * ((l.length - (lstr l).length) / 2) = l.length - (lstr l).length by omega]
  exact e
theorem Ln.push {x : Ln} (hx : x.gd) {q : Tp} {r : List Tp} (w : Wt (q :: r)) (ho : q.over = false) :
    ∃ R' : List Tp, putP x ((q :: r).map Tp.pt) = R'.map Tp.pt ∧ Wt R' ∧ LsT R' = LsT (q :: r) ++ [ahN r.length ++ x.text] := by
  cases x with
  | pl p =>
    refine ⟨⟨q.hd, q.rows ++ [.pl p], false⟩ :: r, ?_, w.rows rfl rfl (gds_app.mpr ⟨w.gds, (gds_one (.pl p)).mpr hx⟩), ?_⟩
    · rw [List.map_cons, List.map_cons, putP]
      unfold Tp.pt Pt.add
      rw [List.map_append, ho]
      rfl
    · unfold LsT Tp.ls Tp.body
      rw [ho, if_neg Bool.false_ne_true, if_neg Bool.false_ne_true, all_app, all_one, Sm.lines]
      simp only [List.append_assoc]
      rfl
  | ifh t =>
    refine ⟨⟨.ifp t, [], false⟩ :: q :: r, rfl, ⟨(fun z => by cases z), hx, (fun z => by cases z), (fun z => by cases z), ho, trivial, w⟩, ?_⟩
    rw [LsT]
    rfl
  | reph c =>
    refine ⟨⟨.rep c, [], false⟩ :: q :: r, rfl, ⟨(fun z => by cases z), trivial, (fun z => by cases z), (fun z => by cases z), ho, trivial, w⟩, ?_⟩
    rw [LsT]
    rfl
theorem topLacks_map (p : Tp) (r : List Tp) : topLacks ((p :: r).map Tp.pt) = p.pt.lacks := rfl
theorem read_one {l : List Nat} {p : Tp} {r : List Tp} {R2 : List Pt} (w : Wt (p :: r)) (h : readP l ((p :: r).map Tp.pt) = some R2) :
    ∃ p' r', R2 = (p' :: r').map Tp.pt ∧ Wt (p' :: r') ∧ sgs (LsT (p' :: r')) = sgs (LsT (p :: r)) ++ [l] := by
  unfold readP at h
  split at h
  · cases h
  · rename_i hc
    rw [topLacks_map] at h hc
    rw [List.length_map, List.length_cons, Nat.add_sub_cancel] at h hc
    have c1 : ¬ (l.length - (lstr l).length) % 2 = 1 := fun z => hc (.inl z)
    have c2 : (l.length - (lstr l).length) / 2 ≤ r.length := by
      rcases Nat.lt_or_ge r.length ((l.length - (lstr l).length) / 2) with z | z
      · exact absurd (.inr (.inl z)) hc
      · exact z
    have c3 : p.pt.lacks = true → (l.length - (lstr l).length) / 2 = r.length := fun z => by
      apply Classical.byContradiction
      intro y
      exact hc (.inr (.inr ⟨z, y⟩))
    have hl := ind_split c1
    generalize (l.length - (lstr l).length) / 2 = k at *
    generalize lstr l = t at *
    have hroot : p.hd = .root → r = [] := fun z => by
      cases r with
      | nil => rfl
      | cons o r => exact absurd z w.1
    have hh : 1 ≤ r.length - k → p.has := fun z => by
      have : p.pt.lacks = false := by
        cases y : p.pt.lacks with
        | false => rfl
        | true => have := c3 y; omega
      rcases (Tp.lacks_iff p).mp this with y | y
      · rw [hroot y] at z
        simp at z
      · exact y
    obtain ⟨p', r', k', e2, w2, l2, len2, z2, y2, _, _⟩ := close_all (r.length - k) "" p r w (by omega) hh
    rw [e2] at h
    have hk : r'.length = k := by omega
    rw [List.map_cons, stepP] at h
    have line : ∀ (z : Str), sg z = t → sgs (LsT (p' :: r') ++ [ahN k ++ z]) = sgs (LsT (p :: r)) ++ [l] := by
      intro z hz
      rw [sgs_app, l2, hl]
      show _ ++ [sg (ahN k ++ z)] = _
      rw [sg_app, hz]
      rfl
    split at h
    · rename_i he
      cases h
      have hn : 1 ≤ r.length - k := by
        rcases Nat.eq_zero_or_pos (r.length - k) with z | z
        · have := (z2 z).1
          have h2 : k' = "if" := he.2
          rw [h2] at this
          exact absurd this (by decide +kernel)
        · exact z
      obtain ⟨a1, a2, a3⟩ := y2 hn
      refine ⟨⟨.els, [], false⟩, p' :: r', rfl, ⟨(fun z => by cases z), trivial, (fun z => by cases z), (fun _ => a3 he.2), a2, trivial, w2⟩, ?_⟩
      rw [← line "else" (by rw [← he.1]; rfl)]
      congr 1
      rw [LsT]
      show LsT (p' :: r') ++ [ahN ((p' :: r').length - 1) ++ "else"] = _
      rw [List.length_cons, Nat.add_sub_cancel, hk]
    · split at h
      · rename_i hp
        split at h
        · rename_i hq
          cases h
          have n0 : r.length - k = 0 := by have := c3 hq.1; omega
          obtain ⟨_, e4, e5⟩ := z2 n0
          subst e4
          subst e5
          have hlk := hq.1
          have hnl : ¬ (p'.hd = .root ∨ p'.has) := fun z => by rw [(Tp.lacks_iff p').mpr z] at hlk; cases hlk
          have hrow : p'.rows = [] := by
            apply Classical.byContradiction; intro z
            exact hnl (.inr (.inl z))
          have hov : p'.over = false := by
            cases z : p'.over with
            | false => rfl
            | true => exact absurd (.inr (.inr z)) hnl
          refine ⟨⟨p'.hd, p'.rows, true⟩, r', rfl, ?_, ?_⟩
          · cases r' with
            | nil => exact absurd (.inl w2.1) hnl
            | cons o r =>
              obtain ⟨h1, h2, h3, h4, h5, h6, h7⟩ := w2
              refine ⟨h1, h2, fun _ => ⟨hrow, fun z => hq.2 ?_⟩, h4, h5, h6, h7⟩
              show p'.hd.kind = "else"
              have z' : p'.hd = .els := z
              rw [z']; rfl
          · rw [← line "pass" (by rw [← hp]; rfl)]
            congr 1
            unfold LsT Tp.ls Tp.body
            rw [if_pos rfl, hov, if_neg Bool.false_ne_true, hrow, Sm.all, List.append_nil, hk, List.append_assoc]
        · cases h
      · split at h
        · cases h
        · rename_i hov
          obtain ⟨x, hx, rfl⟩ := Option.map_eq_some_iff.mp h
          obtain ⟨g, tx'⟩ := stmtOf_back hx
          obtain ⟨R', e6, w6, l6⟩ := Ln.push g w2 (by
            cases z : p'.over with
            | false => rfl
            | true => exact absurd z hov)
          cases R' with
          | nil => exact w6.elim
          | cons p6 r6 =>
            refine ⟨p6, r6, ?_, w6, ?_⟩
            · rw [← e6]; rfl
            · rw [l6, hk]
              exact line x.text tx'.symm
theorem read_all : ∀ (ls : List (List Nat)) (i : Nat) (p : Tp) (r : List Tp) (R2 : List Pt), Wt (p :: r) → readL i ls ((p :: r).map Tp.pt) = .inr R2 →
    ∃ p' r', R2 = (p' :: r').map Tp.pt ∧ Wt (p' :: r') ∧ sgs (LsT (p' :: r')) = sgs (LsT (p :: r)) ++ ls
  | [], i, p, r, R2, w, h => by
    rw [readL] at h
    cases h
    exact ⟨p, r, rfl, w, by rw [List.append_nil]⟩
  | l :: ls, i, p, r, R2, w, h => by
    rw [readL] at h
    split at h
    · cases h
    · rename_i R' hR
      obtain ⟨p', r', rfl, w', l'⟩ := read_one w hR
      obtain ⟨p2, r2, e2, w2, l2⟩ := read_all ls (i + 1) p' r' R2 w' h
      exact ⟨p2, r2, e2, w2, by rw [l2, l', List.append_assoc]; rfl⟩
def rootT : Tp := ⟨.root, [], false⟩
theorem root_eq : root = [rootT].map Tp.pt := rfl
theorem parse_back {ls : List (List Nat)} {rs : List (List PyData)} (h : parseL ls = .rows rs) : ∃ b : List Sm, rs = b.map Sm.its ∧ Sm.gds b ∧ ls = sgs ("program" :: Sm.all "" b) := by
  unfold parseL at h
  cases ls with
  | nil => cases h
  | cons h0 t =>
    dsimp only at h
    split at h
    · rename_i hp
      cases hr : readL 1 t root with
      | inl i => rw [hr] at h; cases h
      | inr R =>
        rw [hr] at h
        dsimp only at h
        split at h
        · cases h
        · rename_i hlk
          rw [root_eq] at hr
          obtain ⟨p, r, rfl, w, hl⟩ := read_all t 1 rootT [] R ⟨rfl, rfl, trivial⟩ hr
          have hroot : p.hd = .root → r = [] := fun z => by
            cases r with
            | nil => rfl
            | cons o r => exact absurd z w.1
          have hh : 1 ≤ r.length → p.has := fun z => by
            have hf : p.pt.lacks = false := by
              cases y : p.pt.lacks with
              | false => rfl
              | true => exact absurd y hlk
            rcases (Tp.lacks_iff p).mp hf with y | y
            · rw [hroot y] at z
              simp at z
            · exact y
          rw [List.length_map, List.length_cons, Nat.add_sub_cancel] at h
          obtain ⟨p', r', k', e2, w2, l2, len2, _, _, _, _⟩ := close_all r.length "" p r w (Nat.le_refl _) hh
          have hr' : r' = [] := List.eq_nil_of_length_eq_zero (by omega)
          subst hr'
          rw [e2] at h
          have h' : p'.rows.map Sm.its = rs := by injection h
          obtain ⟨q1, q2, q3⟩ := w2
          refine ⟨p'.rows, h'.symm, q3, ?_⟩
          have e3 : LsT [p'] = Sm.all "" p'.rows := by
            unfold LsT Tp.ls Tp.body
            rw [LsT, q1, q2, if_neg Bool.false_ne_true, show ([] : List Tp).length = 0 from rfl, ahN_zero]
            rfl
          rw [sgs_cons, ← e3, l2, hl]
          have e4 : sgs (LsT [rootT]) = [] := rfl
          rw [e4, List.nil_append, ← hp]
          rfl
    · cases h
end Aw
namespace Aw
open PySem PySem.Spec PyProof.Rows L2
def Ln.word : Ln → Str
  | .pl (.set _ _) => "set"
  | .pl (.unset _) => "unset"
  | .pl (.tell _) => "tell"
  | .pl (.say _) => "say"
  | .pl (.stop _) => "stop"
  | .ifh _ => "if"
  | .reph _ => "repeat"
theorem stmt_word {l : List Nat} {x : Ln} (h : stmtOf l = some x) : tx (headL l) = x.word := by
  unfold stmtOf at h
  split at h
  · rename_i hw
    split at h
    · cases h; exact hw
    · cases h
  · split at h
    · rename_i hw
      split at h
      · cases h; exact hw
      · cases h
    · split at h
      · rename_i hw
        split at h
        · cases h; exact hw
        · cases h
      · split at h
        · rename_i hw
          obtain ⟨p, hp, rfl⟩ := Option.map_eq_some_iff.mp h
          unfold setOf at hp
          split at hp
          · obtain ⟨e, he, rfl⟩ := Option.map_eq_some_iff.mp hp
            exact hw
          · cases hp
        · split at h
          · rename_i hw
            obtain ⟨e, he, rfl⟩ := Option.map_eq_some_iff.mp h
            exact hw
          · split at h
            · rename_i hw
              obtain ⟨e, he, rfl⟩ := Option.map_eq_some_iff.mp h
              exact hw
            · split at h
              · rename_i hw
                obtain ⟨e, he, rfl⟩ := Option.map_eq_some_iff.mp h
                exact hw
              · cases h
def isHead (w : Str) : Bool := decide (w = "if") || decide (w = "repeat")
theorem Ln.word_head : ∀ x : Ln, isHead x.word = (match x with
    | .pl _ => false
    | _ => true)
  | .pl (.set _ _) => (by decide +kernel : isHead "set" = false)
  | .pl (.unset _) => (by decide +kernel : isHead "unset" = false)
  | .pl (.tell _) => (by decide +kernel : isHead "tell" = false)
  | .pl (.say _) => (by decide +kernel : isHead "say" = false)
  | .pl (.stop _) => (by decide +kernel : isHead "stop" = false)
  | .ifh _ => (by decide +kernel : isHead "if" = true)
  | .reph _ => (by decide +kernel : isHead "repeat" = true)
/-- the state of the law's reader: waits, heads, over -/
abbrev LwS := Nat × List Str × Bool
def blk (l : List Nat) : Nat := l.length - (lstr l).length
def lwStep (l : List Nat) (w : Nat) (hs : List Str) (ov : Bool) : Option LwS :=
  if blk l % 2 = 1 ∨ 2 * hs.length < blk l then none
  else if 0 < w ∧ blk l ≠ 2 * hs.length then none
  else if tx (lstr l) = "else" ∧ (hs.drop (blk l / 2)).take 1 = [("if" : Str)] then some (2, hs.take (blk l / 2) ++ [("else" : Str)], ov && (hs.drop (blk l / 2)).isEmpty)
  else if tx (lstr l) = "pass" ∧ w = 1 then some (0, hs.take (blk l / 2), true)
  else if (ov && (hs.drop (blk l / 2)).isEmpty) = true ∨ stmtOf (lstr l) = none then none
  else if isHead (tx (headL (lstr l))) = true then some (1, hs.take (blk l / 2) ++ [tx (headL (lstr l))], ov && (hs.drop (blk l / 2)).isEmpty)
  else some (0, hs.take (blk l / 2), ov && (hs.drop (blk l / 2)).isEmpty)
def wt (p : Tp) : Nat := if p.pt.lacks = true then (if p.hd.kind = "else" then 2 else 1) else 0
theorem wt_pos (p : Tp) : 0 < wt p ↔ p.pt.lacks = true := by
  unfold wt
  constructor
  · intro h
    split at h
    · assumption
    · omega
  · intro h
    rw [if_pos h]
    split <;> omega
theorem wt_one (p : Tp) : wt p = 1 ↔ p.pt.lacks = true ∧ p.hd.kind ≠ "else" := by
  unfold wt
  constructor
  · intro h
    split at h
    · rename_i h1
      split at h
      · omega
      · rename_i h2; exact ⟨h1, h2⟩
    · omega
  · rintro ⟨h1, h2⟩
    rw [if_pos h1, if_neg h2]
def LwS.of (p : Tp) (r : List Tp) : LwS := (wt p, hds (p :: r), p.over)
theorem read_sim {l : List Nat} {p : Tp} {r : List Tp} (w : Wt (p :: r)) :
    (readP l ((p :: r).map Tp.pt) = none ∧ lwStep l (wt p) (hds (p :: r)) p.over = none) ∨
    ∃ p' r', readP l ((p :: r).map Tp.pt) = some ((p' :: r').map Tp.pt) ∧ Wt (p' :: r') ∧ lwStep l (wt p) (hds (p :: r)) p.over = some (LwS.of p' r') := by
  have hlen := hds_len p r
  unfold readP lwStep
  rw [topLacks_map, List.length_map, List.length_cons, Nat.add_sub_cancel, hlen]
  rw [show l.length - (lstr l).length = blk l from rfl]
  by_cases c1 : blk l % 2 = 1
  · left
    exact ⟨if_pos (.inl c1), if_pos (.inl c1)⟩
  by_cases c2 : r.length < blk l / 2
  · left
    exact ⟨if_pos (.inr (.inl c2)), if_pos (.inr (by omega))⟩
  rw [if_neg (show ¬ (blk l % 2 = 1 ∨ 2 * r.length < blk l) by omega)]
  by_cases c3 : p.pt.lacks = true ∧ blk l / 2 ≠ r.length
  · left
    exact ⟨if_pos (.inr (.inr c3)), if_pos ⟨(wt_pos p).mpr c3.1, by have := c3.2; omega⟩⟩
  rw [if_neg (fun z => by
    rcases z with z | z | z
    · exact c1 z
    · exact c2 z
    · exact c3 z), if_neg (fun z => c3 ⟨(wt_pos p).mp z.1, by have := z.2; omega⟩)]
  generalize blk l / 2 = k at *
  generalize lstr l = t at *
  have c3' : p.pt.lacks = true → k = r.length := fun z => by
    apply Classical.byContradiction
    intro y
    exact c3 ⟨z, y⟩
  have hroot : p.hd = .root → r = [] := fun z => by
    cases r with
    | nil => rfl
    | cons o r => exact absurd z w.1
  have hh : 1 ≤ r.length - k → p.has := fun z => by
    have : p.pt.lacks = false := by
      cases y : p.pt.lacks with
      | false => rfl
      | true => have := c3' y; omega
    rcases (Tp.lacks_iff p).mp this with y | y
    · rw [hroot y] at z
      simp at z
    · exact y
  obtain ⟨p', r', k', e2, w2, l2, len2, z2, y2, t2, x2⟩ := close_all (r.length - k) "" p r w (by omega) hh
  have hk : r'.length = k := by omega
  rw [e2, ← hk, ← t2]
  have hcl : (k' = "if") ↔ ((hds (p :: r)).drop r'.length).take 1 = [("if" : Str)] := by
    rcases Nat.eq_zero_or_pos (r.length - k) with z | z
    · have a := (z2 z).1
      rw [List.drop_of_length_le (by omega)]
      constructor
      · intro y; rw [a] at y; exact absurd y (by decide +kernel)
      · intro y; cases y
    · have x := x2 z
      have hlt : r'.length < (hds (p :: r)).length := by omega
      rw [List.drop_eq_getElem_cons hlt]
      rw [List.getElem?_eq_getElem hlt] at x
      have x' : (hds (p :: r))[r'.length] = k' := by injection x
      rw [x']
      constructor
      · intro y; rw [y]; rfl
      · intro y; have : [k'] = [("if" : Str)] := y; injection this
  have hov : (p.over && ((hds (p :: r)).drop r'.length).isEmpty) = p'.over := by
    rcases Nat.eq_zero_or_pos (r.length - k) with z | z
    · rw [List.drop_of_length_le (by omega), (z2 z).2.1]
      simp
    · rw [(y2 z).2.1]
      have hlt : r'.length < (hds (p :: r)).length := by omega
      rw [List.drop_eq_getElem_cons hlt]
      exact Bool.and_false _
  rw [hov, List.map_cons]
  dsimp only
  rw [stepP]
  by_cases he : tx t = "else" ∧ k' = "if"
  · right
    rw [if_pos he, if_pos ⟨he.1, hcl.mp he.2⟩]
    have hn : 1 ≤ r.length - k := by
      rcases Nat.eq_zero_or_pos (r.length - k) with z | z
      · have := (z2 z).1
        rw [he.2] at this
        exact absurd this (by decide +kernel)
      · exact z
    obtain ⟨a1, a2, a3⟩ := y2 hn
    refine ⟨⟨.els, [], false⟩, p' :: r', rfl, ⟨(fun z => by cases z), trivial, (fun z => by cases z), (fun _ => a3 he.2), a2, trivial, w2⟩, ?_⟩
    rw [a2]
    unfold LwS.of
    rw [hds, show wt ⟨.els, [], false⟩ = 2 by decide +kernel]
    rfl
  · rw [if_neg he, if_neg (show ¬ (tx t = "else" ∧ ((hds (p :: r)).drop r'.length).take 1 = [("if" : Str)]) from fun z => he ⟨z.1, hcl.mpr z.2⟩)]
    by_cases hp : tx t = "pass"
    · rw [if_pos hp]
      by_cases hq : p.pt.lacks = true ∧ p'.pt.kind ≠ "else"
      · have n0 : r.length - k = 0 := by have := c3' hq.1; omega
        obtain ⟨_, e4, e5⟩ := z2 n0
        subst e4
        subst e5
        right
        rw [if_pos hq, if_pos ⟨hp, (wt_one p').mpr hq⟩]
        have hlk := hq.1
        have hnl : ¬ (p'.hd = .root ∨ p'.has) := fun z => by rw [(Tp.lacks_iff p').mpr z] at hlk; cases hlk
        have hrow : p'.rows = [] := by
          apply Classical.byContradiction; intro z
          exact hnl (.inr (.inl z))
        refine ⟨⟨p'.hd, p'.rows, true⟩, r', rfl, ?_, ?_⟩
        · cases r' with
          | nil => exact absurd (.inl w2.1) hnl
          | cons o r =>
            obtain ⟨h1, h2, h3, h4, h5, h6, h7⟩ := w2
            refine ⟨h1, h2, fun _ => ⟨hrow, fun z => hq.2 ?_⟩, h4, h5, h6, h7⟩
            show p'.hd.kind = "else"
            have z' : p'.hd = .els := z
            rw [z']; rfl
        · unfold LwS.of
          have : wt ⟨p'.hd, p'.rows, true⟩ = 0 := by
            unfold wt
            rw [if_neg]
            rw [(Tp.lacks_iff _).mpr (.inr (.inr rfl))]
            exact Bool.false_ne_true
          rw [this, hds_hd (o := p') (o' := ⟨p'.hd, p'.rows, true⟩) rfl]
      · left
        refine ⟨if_neg hq, ?_⟩
        have hw : ¬ wt p = 1 := fun z => by
          obtain ⟨z1, z3⟩ := (wt_one p).mp z
          have n0 : r.length - k = 0 := by have := c3' z1; omega
          refine hq ⟨z1, ?_⟩
          rw [(z2 n0).2.1]
          exact z3
        rw [if_neg (show ¬ (tx t = "pass" ∧ wt p = 1) from fun z => hw z.2), if_pos]
        right
        have : t = sg "pass" := by rw [← hp]; rfl
        rw [this]
        decide +kernel
    · rw [if_neg hp, if_neg (show ¬ (tx t = "pass" ∧ wt p = 1) from fun z => hp z.1)]
      by_cases ho : p'.over = true
      · left
        exact ⟨if_pos ho, if_pos (.inl ho)⟩
      · have ho' : p'.over = false := by
          cases z : p'.over with
          | false => rfl
          | true => exact absurd z ho
        rw [if_neg (show ¬ p'.pt.over = true from ho)]
        cases hs : stmtOf t with
        | none =>
          left
          exact ⟨rfl, if_pos (.inr rfl)⟩
        | some x =>
          right
          obtain ⟨g, _⟩ := stmtOf_back hs
          have hw := stmt_word hs
          rw [if_neg (fun z => by rcases z with z | z; exact ho z; cases z), hw, Ln.word_head, ho']
          cases x with
          | pl q =>
            refine ⟨⟨p'.hd, p'.rows ++ [.pl q], false⟩, r', ?_, w2.rows rfl rfl (gds_app.mpr ⟨w2.gds, (gds_one (.pl q)).mpr g⟩), ?_⟩
            · rw [Option.map_some, putP, List.map_cons]
              unfold Tp.pt Pt.add
              rw [List.map_append, ho']
              rfl
            · unfold LwS.of
              have : wt ⟨p'.hd, p'.rows ++ [.pl q], false⟩ = 0 := by
                unfold wt
                rw [if_neg]
                rw [(Tp.lacks_iff _).mpr (.inr (.inl (by simp)))]
                exact Bool.false_ne_true
              have hh2 : hds (⟨p'.hd, p'.rows ++ [Sm.pl q], false⟩ :: r') = hds (p' :: r') := hds_hd (o := p') (o' := ⟨p'.hd, p'.rows ++ [Sm.pl q], false⟩) rfl r'
              rw [this, hh2]
              rfl
          | ifh q =>
            refine ⟨⟨.ifp q, [], false⟩, p' :: r', rfl, ⟨(fun z => by cases z), g, (fun z => by cases z), (fun z => by cases z), ho', trivial, w2⟩, ?_⟩
            unfold LwS.of
            have hlk : (⟨.ifp q, [], false⟩ : Tp).pt.lacks = true := by
              cases z : (⟨.ifp q, [], false⟩ : Tp).pt.lacks with
              | true => rfl
              | false =>
                rcases (Tp.lacks_iff _).mp z with y | y | y
                · cases y
                · exact absurd rfl y
                · cases y
            have : wt ⟨.ifp q, [], false⟩ = 1 := (wt_one _).mpr ⟨hlk, show ¬ (("if" : Str) = "else") by decide +kernel⟩
            rw [this, hds]
            rfl
          | reph q =>
            refine ⟨⟨.rep q, [], false⟩, p' :: r', rfl, ⟨(fun z => by cases z), trivial, (fun z => by cases z), (fun z => by cases z), ho', trivial, w2⟩, ?_⟩
            unfold LwS.of
            have hlk : (⟨.rep q, [], false⟩ : Tp).pt.lacks = true := by
              cases z : (⟨.rep q, [], false⟩ : Tp).pt.lacks with
              | true => rfl
              | false =>
                rcases (Tp.lacks_iff _).mp z with y | y | y
                · cases y
                · exact absurd rfl y
                · cases y
            have : wt ⟨.rep q, [], false⟩ = 1 := (wt_one _).mpr ⟨hlk, show ¬ (("repeat" : Str) = "else") by decide +kernel⟩
            rw [this, hds]
            rfl
def lwL : Nat → List (List Nat) → LwS → Nat ⊕ LwS
  | _, [], s => .inr s
  | i, l :: ls, s => match lwStep l s.1 s.2.1 s.2.2 with
    | none => .inl i
    | some s' => lwL (i + 1) ls s'
theorem reads_sim : ∀ (ls : List (List Nat)) (i : Nat) (p : Tp) (r : List Tp), Wt (p :: r) →
    (∃ j, readL i ls ((p :: r).map Tp.pt) = .inl j ∧ lwL i ls (LwS.of p r) = .inl j) ∨
    ∃ p' r', readL i ls ((p :: r).map Tp.pt) = .inr ((p' :: r').map Tp.pt) ∧ Wt (p' :: r') ∧ lwL i ls (LwS.of p r) = .inr (LwS.of p' r')
  | [], i, p, r, w => .inr ⟨p, r, rfl, w, rfl⟩
  | l :: ls, i, p, r, w => by
    rw [readL, lwL]
    rcases read_sim (l := l) w with ⟨h1, h2⟩ | ⟨p', r', h1, w', h2⟩
    · left
      refine ⟨i, by rw [h1], ?_⟩
      show (match lwStep l (wt p) (hds (p :: r)) p.over with
        | none => Sum.inl i
        | some s' => lwL (i + 1) ls s') = _
      rw [h2]
    · rw [h1]
      have e : (match lwStep l (LwS.of p r).1 (LwS.of p r).2.1 (LwS.of p r).2.2 with
        | none => Sum.inl i
        | some s' => lwL (i + 1) ls s') = lwL (i + 1) ls (LwS.of p' r') := by
        show (match lwStep l (wt p) (hds (p :: r)) p.over with
          | none => Sum.inl i
          | some s' => lwL (i + 1) ls s') = _
        rw [h2]
      rw [e]
      exact reads_sim ls (i + 1) p' r' w'
/-- the first wrong line, by the law's reader -/
def wrongL : List (List Nat) → Option Nat
  | [] => none
  | h :: t => if tx h = "program" then
      match lwL 1 t (0, [], false) with
      | .inl i => some i
      | .inr s => if 0 < s.1 then some (t.length + 1) else none
    else some 0
def Pr.wrong : Pr → Option Nat
  | .text i => some i
  | .rows _ => none
theorem wrong_eq {ls : List (List Nat)} (h : ls ≠ []) : wrongL ls = (parseL ls).wrong := by
  cases ls with
  | nil => exact absurd rfl h
  | cons h0 t =>
    unfold wrongL parseL
    dsimp only
    split
    · rw [root_eq]
      have e : ((0, [], false) : LwS) = LwS.of rootT [] := by
        unfold LwS.of
        rw [show wt rootT = 0 by decide +kernel]
        rfl
      rw [e]
      rcases reads_sim t 1 rootT [] ⟨rfl, rfl, trivial⟩ with ⟨j, h1, h2⟩ | ⟨p', r', h1, w', h2⟩
      · rw [h1, h2]
        rfl
      · rw [h1, h2]
        dsimp only
        rw [topLacks_map]
        show (if 0 < wt p' then _ else _) = _
        by_cases z : p'.pt.lacks = true
        · rw [if_pos ((wt_pos p').mpr z), if_pos z]
          rfl
        · rw [if_neg (fun y => z ((wt_pos p').mp y)), if_neg z]
          rfl
    · rfl
end Aw
namespace Aw
open PySem PySem.Spec PyProof.Rows L2
theorem sg_len (z : Str) : (sg z).length = z.length := Array.length_toList
theorem op_len {o : Str} (h : IsOp o) : o.length ≤ 5 := by rcases h with rfl | rfl | rfl <;> decide +kernel
theorem Ex.dsz2 : ∀ (n : Nat) (e : Ex), e.gd n → dsz e.d ≤ 2 * (sg e.text).length
  | 0, _, h => h.elim
  | n + 1, .int i, h => by
    obtain ⟨_, c, r, a, _⟩ := int_brk (l := sg (numT i)) h
    have e : sg (Ex.int i).text = c :: r := a
    rw [e, Ex.d, dsz, List.length_cons]
    omega
  | n + 1, .name x, h => by
    obtain ⟨_, _, c, r, a, _⟩ := name_leaf h
    have e : sg (Ex.name x).text = c :: r := a
    have l : x.length = (c :: r).length := by rw [← sg_len, a]
    rw [e, Ex.d, dsz, l, List.length_cons]
    omega
  | n + 1, .bin o a b, ⟨ho, _, ha, hb⟩ => by
    have h1 := Ex.dsz2 n a ha
    have h2 := Ex.dsz2 n b hb
    have h3 := (opSign_at ho).2.1
    have h4 := op_len ho
    rw [Ex.text_bin, Ex.d]
    simp only [dsz, dszs, List.length_append, List.length_singleton, h3]
    omega
theorem Ts.dsz2 : ∀ t : Ts, t.gd → dsz t.d ≤ 2 * (sg t.text).length
  | .not t, h => by
    have h1 := Ts.dsz2 t h
    have e : ("not" : Str).length = 3 := by decide +kernel
    have e2 : (sg "not ").length = 4 := by decide +kernel
    rw [Ts.text, Ts.d, sg_app]
    simp only [dsz, dszs, List.length_append, e, e2]
    omega
  | .given x, h => by
    have e : ("given" : Str).length = 5 := by decide +kernel
    have e2 : (sg "set ").length = 4 := by decide +kernel
    rw [Ts.text, Ts.d, sg_app]
    simp only [dsz, dszs, List.length_append, e, e2, sg_len]
    omega
  | .rest e b r, h => by
    have h1 := Ex.dsz2 20 e h
    have e1 : ("rest" : Str).length = 4 := by decide +kernel
    have e2 : (sg "rest ").length = 5 := by decide +kernel
    have e3 : (sg " of ").length = 4 := by decide +kernel
    rw [Ts.text, Ts.d, sg_app, sg_app, sg_app, sg_app, sg_app]
    simp only [dsz, dszs, List.length_append, e1, e2, e3]
    omega
  | .less a b, h => by
    have h1 := Ex.dsz2 20 a h.1
    have h2 := Ex.dsz2 20 b h.2
    have e1 : ("less" : Str).length = 4 := by decide +kernel
    have e2 : (sg " < ").length = 3 := by decide +kernel
    rw [Ts.text, Ts.d, sg_app, sg_app]
    simp only [dsz, dszs, List.length_append, e1, e2]
    omega
theorem Pl.dsz2 (p : Pl) (h : p.gd) : dsz p.d ≤ 2 * (sg p.text).length := by
  cases p with
  | set x e =>
    have h1 := Ex.dsz2 20 e h.2
    have e1 : ("set" : Str).length = 3 := by decide +kernel
    have e2 : (sg "set ").length = 4 := by decide +kernel
    rw [Pl.text, Pl.d, sg_app, sg_app, sg_app]
    simp only [dsz, dszs, List.length_append, e1, e2, sg_len]
    simp only [sg_len] at h1
    omega
  | unset x =>
    have e1 : ("unset" : Str).length = 5 := by decide +kernel
    rw [Pl.text, Pl.d, sg_app, sg_app, w_bl]
    simp only [dsz, dszs, List.length_append, e1, sg_len, List.length_singleton]
    omega
  | tell e =>
    have h1 := Ex.dsz2 20 e h
    have e1 : ("tell" : Str).length = 4 := by decide +kernel
    have e2 : (sg "tell ").length = 5 := by decide +kernel
    rw [Pl.text, Pl.d, sg_app]
    simp only [dsz, dszs, List.length_append, e1, e2]
    omega
  | say w =>
    have e1 : ("say" : Str).length = 3 := by decide +kernel
    rw [Pl.text, Pl.d, sg_app, sg_app, w_bl]
    simp only [dsz, dszs, List.length_append, e1, sg_len, List.length_singleton]
    omega
  | stop w =>
    have e1 : ("stop" : Str).length = 4 := by decide +kernel
    rw [Pl.text, Pl.d, sg_app, sg_app, w_bl]
    simp only [dsz, dszs, List.length_append, e1, sg_len, List.length_singleton]
    omega
/-- the signs of all lines -/
def sumL : List Str → Nat
  | [] => 0
  | z :: r => (sg z).length + sumL r
theorem sumL_app : ∀ a b : List Str, sumL (a ++ b) = sumL a + sumL b
  | [], b => by rw [List.nil_append, sumL, Nat.zero_add]
  | z :: r, b => by rw [List.cons_append, sumL, sumL, sumL_app r b]; omega
mutual
theorem Sm.dsz2 : ∀ (s : Sm) (ah : Str), s.gd → dsz s.d ≤ 2 * sumL (Sm.lines ah s)
  | .pl p, ah, h => by
    have h1 := Pl.dsz2 p h
    rw [Sm.lines, Sm.d]
    simp only [sumL, sg_app, List.length_append]
    omega
  | .ifs t y n, ah, ⟨ht, hy, hn⟩ => by
    have h1 := Ts.dsz2 t ht
    have h2 := Sm.dszs2 y (ah ++ "  ") hy
    have h3 := Sm.dszs2 n (ah ++ "  ") hn
    have e1 : ("if" : Str).length = 2 := by decide +kernel
    have e2 : (sg "if ").length = 3 := by decide +kernel
    rw [Sm.lines, Sm.d]
    simp only [sumL, sumL_app, sg_app, List.length_append, dsz, dszs, e1, e2]
    have g1 : dszs (Sm.ds y) ≤ 2 * sumL (if y.isEmpty = true then [ah ++ "  " ++ "pass"] else Sm.all (ah ++ "  ") y) := by
      cases y with
      | nil => rw [Sm.ds, dszs]; omega
      | cons a b => exact h2
    have g2 : dszs (Sm.ds n) ≤ 2 * sumL (if n.isEmpty = true then [] else (ah ++ "else") :: Sm.all (ah ++ "  ") n) := by
      cases n with
      | nil => rw [Sm.ds, dszs]; omega
      | cons a b =>
        rw [if_neg (by simp), sumL]
        omega
    omega
  | .rep k b, ah, h => by
    have h2 := Sm.dszs2 b (ah ++ "  ") h
    have e1 : ("repeat" : Str).length = 6 := by decide +kernel
    rw [Sm.lines, Sm.d]
    simp only [sumL, sumL_app, sg_app, List.length_append, dsz, dszs, e1, w_bl, List.length_singleton, sg_len]
    have g1 : dszs (Sm.ds b) ≤ 2 * sumL (if b.isEmpty = true then [ah ++ "  " ++ "pass"] else Sm.all (ah ++ "  ") b) := by
      cases b with
      | nil => rw [Sm.ds, dszs]; omega
      | cons x y => exact h2
    omega
theorem Sm.dszs2 : ∀ (b : List Sm) (ah : Str), Sm.gds b → dszs (Sm.ds b) ≤ 2 * sumL (Sm.all ah b)
  | [], ah, _ => by rw [Sm.ds, dszs]; omega
  | s :: r, ah, ⟨h1, h2⟩ => by
    have a := Sm.dsz2 s ah h1
    have b := Sm.dszs2 r ah h2
    rw [Sm.ds, dszs, Sm.all, sumL_app]
    omega
end
theorem joinL_len (S : List Nat) : ∀ ls : List Str, sumL ls ≤ (TL.joinL S (sgs ls)).length
  | [] => Nat.zero_le _
  | [z] => by
    show (sg z).length + 0 ≤ (sg z).length
    omega
  | z :: y :: r => by
    have ih := joinL_len S (y :: r)
    have e : TL.joinL S (sgs (z :: y :: r)) = sg z ++ (S ++ TL.joinL S (sgs (y :: r))) := rfl
    rw [e, sumL, List.length_append, List.length_append]
    omega
theorem lines_back (l : List Nat) : TL.joinL [10] (linesT l) = l := join_spl (by simp) l.length l [] (Nat.le_refl _)
theorem read_again {l : List Nat} {rs : List (List PyData)} (h : parseL (linesT l) = .rows rs) :
    ∃ b : List Sm, rs.map PyData.tuple = Sm.ds b ∧ dsz (.tuple (rs.map PyData.tuple)) ≤ 2 * l.length + 1 ∧ tx l = progT b := by
  obtain ⟨b, rfl, g, e⟩ := parse_back h
  have hl := lines_back l
  rw [e] at hl
  refine ⟨b, Sm.its_ds b, ?_, ?_⟩
  · rw [Sm.its_ds, dsz]
    have a := Sm.dszs2 b "" g
    have c := joinL_len [10] ("program" :: Sm.all "" b)
    rw [hl, sumL] at c
    omega
  · refine sg_inj ?_
    unfold progT
    rw [join_sg, hl]
    rfl
end Aw
namespace Aw
open PySem PySem.Spec PyProof.Rows L2
noncomputable def exB (n : Nat) (l : List Nat) : Bool := @decide (isEx n l) (Classical.propDecidable _)
theorem exB_true {n : Nat} {l : List Nat} (h : isEx n l) : exB n l = true := @decide_eq_true _ (Classical.propDecidable _) h
theorem exB_false {n : Nat} {l : List Nat} (h : ¬ isEx n l) : exB n l = false := @decide_eq_false _ (Classical.propDecidable _) h
theorem exB_iff {n : Nat} {l : List Nat} : exB n l = true ↔ isEx n l := ⟨@of_decide_eq_true _ (Classical.propDecidable _), exB_true⟩
theorem exB_20 (l : List Nat) : exB 20 l = (exprOf l).isSome := by
  cases h : (exprOf l).isSome with
  | true => exact exB_true ((isEx_some l).mpr h)
  | false => exact exB_false fun z => by rw [(isEx_some l).mp z] at h; cases h
def spTB (f : List Nat → Bool) : Sp := fun vs H Q _ => ∃ l : List Nat, vs = [.str (tx l)] ∧ l.length ≤ 1000000 ∧ ∀ H', Kp [] H H' → Q (.bl (f l)) H'
def spLWord : Sp := spTB fun l => isWordT l 8
def spLName : Sp := spTB isNameT
def spLInt : Sp := spTB isInt
def spLRest : Sp := spTB fun l => (restT l).isSome
def spLTest : Sp := spTB fun l => (testOf l).isSome
def spLLine : Sp := spTB fun l => (stmtOf l).isSome
def spLCut : Sp := fun vs H Q _ => ∃ l : List Nat, vs = [.str (tx l)] ∧ l.length ≤ 1000000 ∧ ∀ (H' : Hp) (p : Addr), Kp [] H H' → H p = none → H' p = some (.lst ((cutsOf l).map fun k => V.int (k : Nat))) → Q (.ref p) H'
noncomputable def spLEx (n : Nat) : Sp := fun vs H Q _ => ∃ l : List Nat, vs = [.str (tx l), .int (n : Nat)] ∧ l.length ≤ 1000000 ∧ ∀ H', Kp [] H H' → Q (.bl (exB n l)) H'
def spWrong : Sp := fun vs H Q _ => ∃ (a : Addr) (ls : List (List Nat)), vs = [.ref a] ∧ H a = some (.lst (ls.map fun z => V.str (tx z))) ∧ ls.length ≤ 1000001 ∧ (∀ z ∈ ls, z.length ≤ 1000000) ∧
  ∀ H', Kp [] H H' → Q (oiV ((wrongL ls).map fun n => ((n : Nat) : Int))) H'
def spRight : Sp := fun vs H Q _ => ∃ l : List Nat, vs = [.str (tx l)] ∧ l.length ≤ 400000 ∧ ∀ H', Kp [] H H' → Q (.bl true) H'
theorem cutS_to (l : List Nat) (b : Nat) : cutS (tx l) none (some (b : Int)) = tx (l.take b) := by
  unfold cutS
  rw [HT.sIx_nat, HT.sIx_none]
  show (⟨((l.drop 0).take (min b (tx l).length - 0)).toArray⟩ : Str) = _
  rw [tx_len, List.drop_zero, Nat.sub_zero]
  unfold tx
  congr 2
  by_cases h2 : b ≤ l.length
  · rw [Nat.min_eq_left h2]
  · rw [Nat.min_eq_right (by omega), List.take_length, List.take_of_length_le (by omega)]
theorem sIx_neg1 (n d : Nat) : HT.sIx n d (some (-1)) = n - 1 := by
  unfold HT.sIx
  simp
  omega
theorem cutS_last (l : List Nat) : cutS (tx l) (some (-1)) none = tx (l.drop (l.length - 1)) := by
  unfold cutS
  rw [sIx_neg1, HT.sIx_none]
  show (⟨((l.drop ((tx l).length - 1)).take ((tx l).length - ((tx l).length - 1))).toArray⟩ : Str) = _
  rw [tx_len, List.take_of_length_le (by rw [List.length_drop]; omega)]
  rfl
theorem cutS_in (l : List Nat) (a : Nat) : cutS (tx l) (some (a : Int)) (some (-1)) = tx (midL l a (l.length - 1)) := by
  unfold cutS
  rw [sIx_neg1, HT.sIx_nat]
  show (⟨((l.drop (min a (tx l).length)).take ((tx l).length - 1 - min a (tx l).length)).toArray⟩ : Str) = _
  rw [tx_len]
  unfold midL tx
  congr 2
  by_cases h : a ≤ l.length
  · rw [Nat.min_eq_left h]
  · rw [Nat.min_eq_right (by omega), List.drop_length, List.drop_eq_nil_of_le (by omega), List.take_nil, List.take_nil]
theorem last_iff (l : List Nat) : l.drop (l.length - 1) = [41] ↔ l.getLast? = some 41 := by
  cases hl2 : l.reverse with
  | nil =>
    rw [List.reverse_eq_nil_iff] at hl2
    rw [hl2]
    simp
  | cons x y =>
    have e : l = y.reverse ++ [x] := by rw [← List.reverse_reverse l, hl2, List.reverse_cons]
    rw [e, List.length_append, List.length_singleton, Nat.add_sub_cancel, List.drop_left, List.getLast?_append, List.getLast?_singleton]
    simp
theorem split_gen (l S : List Nat) (y : Str) (hy : TL.tl y = S) (hS : S ≠ []) (hk : Builtin.Str.strKind y = 1) : Txt.split (tx l) y = (TL.spl S 0 [] l).map tx := by
  have h := TL.split_spl (tx l) y (by rw [hy]; exact hS) (by
    rw [hk]
    unfold Builtin.Str.strKind
    split
    · omega
    · split <;> omega)
  rw [hy] at h
  have e : TL.tl (tx l) = l := rfl
  rw [e] at h
  rw [← h, List.map_map]
  conv => lhs; rw [← List.map_id (Txt.split (tx l) y)]
  exact List.map_congr_left fun z _ => (tx_of z).symm
theorem r_words {l : List Nat} {H : Hp} {Q : VK} (hl : l.length ≤ 1000000) (h : ∀ p, H p = none → Q (.ref p) (upd H p (.lst ((wordsT l).map fun z => V.str (tx z))))) : rSplit1 (.str (tx l)) [.str " "] H Q := by
  refine ⟨tx l, " ", rfl, rfl, by decide +kernel, by rw [tx_len, sizeLine_eq]; omega, fun p hp => ?_⟩
  have := h p hp
  rw [split_gen l [32] " " (by decide +kernel) (by simp) (by decide +kernel), List.map_map]
  exact this
theorem r_lessW {l : List Nat} {H : Hp} {Q : VK} (hl : l.length ≤ 1000000) (h : ∀ p, H p = none → Q (.ref p) (upd H p (.lst ((lessW l).map fun z => V.str (tx z))))) : rSplit1 (.str (tx l)) [.str " < "] H Q := by
  refine ⟨tx l, " < ", rfl, rfl, by decide +kernel, by rw [tx_len, sizeLine_eq]; omega, fun p hp => ?_⟩
  have := h p hp
  rw [split_gen l [32, 60, 32] " < " (by decide +kernel) (by simp) (by decide +kernel), List.map_map]
  exact this
theorem sgn_let (c : Nat) (h : isSgn c = true) : isLet c = !decide (c ∈ ("0123456789" : Str).cps.toList) := by
  have q : ∀ c ∈ SGN.cps.toList, isLet c = !decide (c ∈ ("0123456789" : Str).cps.toList) := by decide +kernel
  exact q c (of_decide_eq_true h)
theorem op_in (q : List Nat) : inV (.str (tx q)) [.str " + ", .str " - ", .str " * "] = !decide (opAt q = "") := by
  have e := inV_strs (tx q) [" + ", " - ", " * "]
  have e1 : ([" + ", " - ", " * "] : List Str).map V.str = [.str " + ", .str " - ", .str " * "] := rfl
  rw [e1] at e
  rw [e]
  by_cases h : opAt q = ""
  · rw [decide_eq_true h]
    cases hc : ([" + ", " - ", " * "] : List Str).contains (tx q) with
    | false => rfl
    | true =>
      exfalso
      have m := List.contains_iff_mem.mp hc
      simp only [List.mem_cons, List.not_mem_nil, or_false] at m
      have b : ∀ y : Str, tx q = y → q = sg y := fun y z => by rw [← z]; rfl
      rcases m with z | z | z <;> (rw [b _ z] at h; exact absurd h (by decide +kernel))
  · rw [decide_eq_false h]
    obtain ⟨ho, hq⟩ := opAt_back h
    have e2 : tx q = opSign (opAt q) := by rw [← tx_sg (opSign (opAt q)), hq]
    rw [e2]
    generalize opAt q = o at ho
    rcases ho with rfl | rfl | rfl <;> decide +kernel
theorem chr_eq (c d : Nat) (y : Str) (hy : y = tx [d]) : decide (V.str ⟨#[c]⟩ = V.str y) = decide (c = d) := decide_eq_decide.mpr ⟨fun e => by
    injection e with e
    have := tx_inj (a := [c]) (b := [d]) (by rw [← hy]; exact e)
    injection this, fun e => by rw [e, hy]; rfl⟩
theorem tx_eq (q : List Nat) (y : Str) : decide (V.str (tx q) = V.str y) = decide (q = sg y) := decide_eq_decide.mpr ⟨fun e => by
    injection e with e
    rw [← e]; rfl, fun e => by rw [e, tx_sg]⟩
theorem dep_step {l : List Nat} {j c : Nat} (h : l[j]? = some c) : dep (l.take (j + 1)) = dep (l.take j) + (if decide (c = 40) = true then 1 else 0) - (if decide (c = 41) = true then 1 else 0) := by
  rw [List.take_add_one, h, dep_app]
  unfold dep
  simp only [Option.toList_some, List.count_cons, List.count_nil]
  by_cases h1 : c = 40
  · subst h1; simp
  · by_cases h2 : c = 41
    · subst h2; simp; omega
    · simp [h1, h2]
def cutP (l : List Nat) (k : Nat) : Bool := decide (dep (l.take (k + 1)) = 1) && !decide (opAt ((l.drop k).take 3) = "")
def cutsTo (l : List Nat) (j : Nat) : List Nat := (List.range j).filter (cutP l)
theorem cutsTo_len (l : List Nat) (j : Nat) : (cutsTo l j).length ≤ j := by
  have := List.length_filter_le (cutP l) (List.range j)
  rw [List.length_range] at this
  exact this
theorem cutsTo_succ (l : List Nat) (j : Nat) : cutsTo l (j + 1) = cutsTo l j ++ (if cutP l j = true then [j] else []) := by
  unfold cutsTo
  rw [List.range_succ, List.filter_append]
  congr 1
  rw [List.filter_cons, List.filter_nil]
theorem ex_leafB {n : Nat} {l : List Nat} (z : ¬ (l.take 1 = [40] ∧ l.getLast? = some 41)) : exB (n + 1) l = (isNameT l || isInt l) := by
  have q := isEx_leaf (n := n) z
  cases h1 : isNameT l with
  | true => exact exB_true (q.mpr (.inl h1))
  | false =>
    cases h2 : isInt l with
    | true => exact exB_true (q.mpr (.inr h2))
    | false =>
      refine exB_false fun y => ?_
      rcases q.mp y with z | z
      · rw [h1] at z; cases z
      · rw [h2] at z; cases z
theorem times_iff (q : List Nat) : decide (V.str (tx q) = V.str " * ") = decide (opAt q = "times") := by
  rw [tx_eq]
  refine decide_eq_decide.mpr ⟨fun e => by rw [e]; decide +kernel, fun e => ?_⟩
  have h : opAt q ≠ "" := by rw [e]; decide +kernel
  have := (opAt_back h).2
  rw [e] at this
  rw [← this]
  decide +kernel
theorem cutV_drop (xs : List V) (n : Nat) : cutV xs (some (n : Int)) none = xs.drop n := by
  unfold cutV
  rw [HT.sIx_none, HT.sIx_nat]
  by_cases h : n ≤ xs.length
  · rw [Nat.min_eq_left h, List.take_of_length_le (by rw [List.length_drop]; omega)]
  · rw [Nat.min_eq_right (by omega), List.drop_length, List.drop_eq_nil_of_le (by omega), List.take_nil]
theorem join_sp (ls : List (List Nat)) : Txt.join " " (ls.map tx) = tx (TL.joinL [32] ls) := by
  refine sg_inj ?_
  rw [TL.join_eq]
  have := TL.tl_join " " (ls.map tx)
  rw [show TL.tl (" " : Str) = [32] by decide +kernel, List.map_map, show (TL.tl ∘ tx : List Nat → List Nat) = id from rfl, List.map_id] at this
  exact this
theorem joinL_le (S : List Nat) : ∀ ls : List (List Nat), (TL.joinL S ls).length ≤ (ls.map List.length).sum + ls.length * S.length
  | [] => Nat.zero_le _
  | [z] => by
    show z.length ≤ _
    simp
  | z :: y :: r => by
    have ih := joinL_le S (y :: r)
    have e : TL.joinL S (z :: y :: r) = z ++ (S ++ TL.joinL S (y :: r)) := rfl
    rw [e, List.length_append, List.length_append, List.map_cons, List.sum_cons, List.length_cons, Nat.succ_mul]
    omega
theorem joinL_ge (S : List Nat) : ∀ ls : List (List Nat), ls ≠ [] → (ls.map List.length).sum + ls.length * S.length ≤ (TL.joinL S ls).length + S.length
  | [], h => absurd rfl h
  | [z], _ => by
    show _ ≤ z.length + _
    simp
  | z :: y :: r, _ => by
    have ih := joinL_ge S (y :: r) (by simp)
    have e : TL.joinL S (z :: y :: r) = z ++ (S ++ TL.joinL S (y :: r)) := rfl
    rw [e, List.length_append, List.length_append, List.map_cons, List.sum_cons, List.length_cons, Nat.succ_mul]
    omega
def testB (R : Nat × List Nat) : Bool := !decide (R.1 > 20) && (ptOf R.2).isSome
theorem testOf_B (l : List Nat) : (testOf l).isSome = testB (stripN l.length l) := by
  unfold testOf testB
  cases h : ptOf (stripN l.length l).2 with
  | none =>
    rw [Option.isSome_none, Bool.and_false]
    try rfl
  | some t =>
    dsimp only
    by_cases c : (stripN l.length l).1 > 20
    · rw [if_pos c, decide_eq_true c]
      rfl
    · rw [if_neg c, decide_eq_false c]
      rfl
noncomputable def stmtB (l : List Nat) : Bool :=
  if (decide (tx (headL l) = "say") || decide (tx (headL l) = "stop")) = true then isWordT (tailL l) 8
  else if tx (headL l) = "tell" then exB 20 (tailL l)
  else if tx (headL l) = "if" then (testOf (tailL l)).isSome
  else if tx (headL l) = "repeat" then isInt (tailL l)
  else if tx (headL l) = "unset" then isNameT (tailL l)
  else decide (tx (headL l) = "set") && (isNameT (headL (tailL l)) && exB 20 (tailL (tailL l)))
theorem map_some {α β : Type} (o : Option α) (f : α → β) : (o.map f).isSome = o.isSome := by cases o <;> rfl
theorem ite_some {α : Type} (b : Bool) (x : α) : (if b = true then some x else none).isSome = b := by cases b <;> rfl
theorem stmtOf_B (l : List Nat) : (stmtOf l).isSome = stmtB l := by
  unfold stmtOf stmtB
  generalize tx (headL l) = w
  by_cases c1 : w = "say"
  · rw [if_pos c1, decide_eq_true c1, ite_some]
    rfl
  rw [if_neg c1]
  by_cases c2 : w = "stop"
  · rw [if_pos c2, decide_eq_true c2, Bool.or_true, ite_some]
    rfl
  rw [if_neg c2, decide_eq_false c1, decide_eq_false c2, if_neg (show ¬ (false || false) = true by decide)]
  by_cases c3 : w = "unset"
  · have n1 : ¬ w = "tell" := fun z => absurd (c3.symm.trans z) (by decide +kernel)
    have n2 : ¬ w = "if" := fun z => absurd (c3.symm.trans z) (by decide +kernel)
    have n3 : ¬ w = "repeat" := fun z => absurd (c3.symm.trans z) (by decide +kernel)
    rw [if_pos c3, ite_some, if_neg n1, if_neg n2, if_neg n3, if_pos c3]
  rw [if_neg c3]
  by_cases c4 : w = "set"
  · have n1 : ¬ w = "tell" := fun z => absurd (c4.symm.trans z) (by decide +kernel)
    have n2 : ¬ w = "if" := fun z => absurd (c4.symm.trans z) (by decide +kernel)
    have n3 : ¬ w = "repeat" := fun z => absurd (c4.symm.trans z) (by decide +kernel)
    rw [if_pos c4, map_some, if_neg n1, if_neg n2, if_neg n3, if_neg c3, decide_eq_true c4]
    unfold setOf
    rw [exB_20]
    cases isNameT (headL (tailL l)) with
    | false => rfl
    | true =>
      rw [if_pos rfl, map_some]
      rfl
  rw [if_neg c4]
  by_cases c5 : w = "tell"
  · rw [if_pos c5, map_some, if_pos c5, exB_20]
  rw [if_neg c5, if_neg c5]
  by_cases c6 : w = "if"
  · rw [if_pos c6, map_some, if_pos c6]
  rw [if_neg c6, if_neg c6]
  by_cases c7 : w = "repeat"
  · rw [if_pos c7, map_some, if_pos c7]
    rfl
  rw [if_neg c7, if_neg c7, if_neg c3, decide_eq_false c4]
  rfl
/-- what the rest of the lines tells -/
def resL (r : Nat ⊕ LwS) (n : Nat) : Option Nat := match r with
  | .inl i => some i
  | .inr s => if 0 < s.1 then some n else none
theorem wrongL_bad {h : List Nat} {t : List (List Nat)} (e : ¬ tx h = "program") : wrongL (h :: t) = some 0 := by
  unfold wrongL
  dsimp only
  rw [if_neg e]
theorem wrongL_go {h : List Nat} {t : List (List Nat)} (e : tx h = "program") : wrongL (h :: t) = resL (lwL 1 t (0, [], false)) (h :: t).length := by
  unfold wrongL
  dsimp only
  rw [if_pos e]
  unfold resL
  cases lwL 1 t (0, [], false) <;> rfl
theorem lwL_no {i : Nat} {l : List Nat} {ls : List (List Nat)} {s : LwS} (h : lwStep l s.1 s.2.1 s.2.2 = none) : lwL i (l :: ls) s = .inl i := by
  rw [lwL, h]
theorem lwL_yes {i : Nat} {l : List Nat} {ls : List (List Nat)} {s s' : LwS} (h : lwStep l s.1 s.2.1 s.2.2 = some s') : lwL i (l :: ls) s = lwL (i + 1) ls s' := by
  rw [lwL, h]
end Aw
namespace Aw
open PySem PySem.Spec PyProof.Rows L2
def HdW (x : Str) : Prop := x = "if" ∨ x = "repeat" ∨ x = "else"
theorem eq_ifs (x : Str) (h : HdW x) : SeqAt.shaped (.list [.str x]) = true ∧ PyData.eqv (.list [.str x]) (.list [.str "if"]) = decide ([x] = [("if" : Str)]) := by
  rcases h with rfl | rfl | rfl <;> exact ⟨by decide +kernel, by decide +kernel⟩
theorem eq_ifn : SeqAt.shaped (.list []) = true ∧ SeqAt.shaped (.list [.str "if"]) = true ∧ PyData.eqv (.list []) (.list [.str "if"]) = false := ⟨by decide +kernel, by decide +kernel, by decide +kernel⟩
theorem r_eqIf0 {K : PySem.W.Frag} {H : Hp} {Q : VK} {p q : Addr} (h1 : SqL K H p []) (h2 : SqL K H q [.str "if"]) (hq : Q (.bl false) H) : rEqD K (.ref p) (.ref q) H Q :=
  ⟨.list [], .list [.str "if"], .lst h1 .nil, .lst h2 (.cons (.str _) .nil), eq_ifn.1, eq_ifn.2.1, by rw [eq_ifn.2.2]; exact hq⟩
theorem r_eqIf1 {K : PySem.W.Frag} {H : Hp} {Q : VK} {p q : Addr} {x : Str} (h1 : SqL K H p [.str x]) (h2 : SqL K H q [.str "if"]) (hx : HdW x) (hq : Q (.bl (decide ([x] = [("if" : Str)]))) H) : rEqD K (.ref p) (.ref q) H Q :=
  ⟨.list [.str x], .list [.str "if"], .lst h1 (.cons (.str _) .nil), .lst h2 (.cons (.str _) .nil), (eq_ifs x hx).1, eq_ifn.2.1, by rw [(eq_ifs x hx).2]; exact hq⟩
theorem r_eqIf {K : PySem.W.Frag} {H : Hp} {Q : VK} {p q : Addr} {xs : List Str} (h1 : SqL K H p (xs.map V.str)) (h2 : SqL K H q [.str "if"]) (hl : xs.length ≤ 1) (hx : ∀ x ∈ xs, HdW x) (hq : Q (.bl (decide (xs = [("if" : Str)]))) H) : rEqD K (.ref p) (.ref q) H Q := by
  cases xs with
  | nil =>
    have e : decide (([] : List Str) = [("if" : Str)]) = false := by decide +kernel
    rw [e] at hq
    exact r_eqIf0 h1 h2 hq
  | cons x r =>
    cases r with
    | nil => exact r_eqIf1 h1 h2 (hx x (List.mem_cons_self ..)) hq
    | cons y r =>
      rw [List.length_cons, List.length_cons] at hl
      omega
/-- a test that may make new lists: its answer is joined -/
theorem r_ifST {c : TT} {t u : TS} {D : Ends} {σ : L2.St} {H : Hp} (J : Bool → Hp → Prop) (h : ∀ R : Bool → Hp → Prop, (∀ b H', J b H' → R b H') → c σ H R) (ht : ∀ H', J true H' → t D σ H') (hu : ∀ H', J false H' → u D σ H') : tIfS c t u D σ H := by
  refine h _ fun b H' j => ?_
  cases b with
  | true =>
    rw [if_pos rfl]
    exact ht H' j
  | false =>
    rw [if_neg Bool.false_ne_true]
    exact hu H' j
theorem inV_head (w : Str) : inV (.str w) [.str "if", .str "repeat"] = isHead w := by
  have e := inV_strs w ["if", "repeat"]
  have e1 : (["if", "repeat"] : List Str).map V.str = [.str "if", .str "repeat"] := rfl
  rw [e1] at e
  rw [e]
  unfold isHead
  by_cases c1 : w = "if"
  · rw [decide_eq_true c1, Bool.true_or]
    exact List.contains_iff_mem.mpr (by rw [c1]; exact List.mem_cons_self ..)
  · by_cases c2 : w = "repeat"
    · rw [decide_eq_true c2, Bool.or_true]
      exact List.contains_iff_mem.mpr (by rw [c2]; exact List.mem_cons_of_mem _ (List.mem_cons_self ..))
    · rw [decide_eq_false c1, decide_eq_false c2]
      cases h : ([("if" : Str), "repeat"]).contains w with
      | false => rfl
      | true =>
        have m := List.contains_iff_mem.mp h
        simp only [List.mem_cons, List.not_mem_nil, or_false] at m
        rcases m with m | m
        · exact absurd m c1
        · exact absurd m c2
theorem linesT_many (l : List Nat) : (linesT l).length ≤ l.length + 1 := by
  obtain ⟨h, t, e⟩ := linesT_ne l
  have q := joinL_ge [10] (linesT l) (by rw [e]; simp)
  rw [lines_back, List.length_singleton] at q
  omega
theorem readL_lt : ∀ (ls : List (List Nat)) (i j : Nat) (R : List Pt), readL i ls R = .inl j → j < i + ls.length
  | [], i, j, R, h => by cases h
  | l :: ls, i, j, R, h => by
    rw [readL] at h
    cases hr : readP l R with
    | none =>
      rw [hr] at h
      cases h
      rw [List.length_cons]
      omega
    | some R' =>
      rw [hr] at h
      have := readL_lt ls (i + 1) j R' h
      rw [List.length_cons]
      omega
theorem parse_le {ls : List (List Nat)} {i : Nat} (h : parseL ls = .text i) : i ≤ ls.length := by
  unfold parseL at h
  cases ls with
  | nil => cases h; omega
  | cons a t =>
    dsimp only at h
    split at h
    · split at h
      · rename_i hr
        cases h
        have := readL_lt t 1 _ root hr
        rw [List.length_cons]
        omega
      · split at h
        · cases h
          rw [List.length_cons]
          omega
        · cases h
    · cases h
      omega
theorem shw_textW (x : Str) (i : Nat) (hx : Sok x 10) (hi : i ≤ 2000000) : ShwD (.list [.str x, .int ((i : Nat) : Int)]) 1 1000 := by
  have h : Shw (.list [.str x, .int ((i : Nat) : Int)]) (0 + 1) (2 * (102 + 2) + 3) := Shw.list (k := 0) (n := 102) fun d hd => by
    simp only [List.mem_cons, List.not_mem_nil, or_false] at hd
    rcases hd with rfl | rfl
    · exact (Shw.str (k := 0) hx).mono (by omega) (by omega)
    · exact (Shw.int (k := 0) (by omega) (by omega)).mono (by omega) (by omega)
  exact (h.mono (by omega) (by omega)).toD
end Aw
namespace Aw
open PySem PySem.Spec PyProof.Rows L2
structure LnsM (ls : List Str) (m : Nat) : Prop where
  n : ls.length ≤ 301 + m
  l : ∀ z ∈ ls, z.length ≤ 318 + 2 * m
theorem LnsM.put {ls mid : List Str} {m a b : Nat} (h : LnsM ls m) (hab : (ls.take a).length + mid.length + (ls.drop b).length ≤ ls.length + 1) (hm : ∀ z ∈ mid, z.length ≤ 320 + 2 * m) : LnsM (ls.take a ++ mid ++ ls.drop b) (m + 1) := by
  refine ⟨?_, fun z hz => ?_⟩
  · have := h.n
    rw [List.length_append, List.length_append]
    omega
  · rcases List.mem_append.mp hz with hz | hz
    · rcases List.mem_append.mp hz with hz | hz
      · have := h.l z (List.mem_of_mem_take hz)
        omega
      · have := hm z hz
        omega
    · have := h.l z (List.mem_of_mem_drop hz)
      omega
section
variable {K : PySem.W.Frag} {H : Hp} {Q : VK} {a b : Addr} {ls zs : List Str}
theorem r_catSS (h : H a = some (.lst (ls.map V.str))) (g : H b = some (.lst (zs.map V.str))) (hl : ls.length + zs.length ≤ 16777216) (q : ∀ H' p, Kp [] H H' → H p = none → H' p = some (.lst ((ls ++ zs).map V.str)) → Q (.ref p) H') : rCat (.ref a) (.ref b) H Q := by
  refine r_cat h g (by rw [List.length_map, List.length_map, sizeLine_eq]; exact hl) fun p hp => ?_
  rw [← List.map_append]
  exact q _ p (Kp.nil.new hp) hp upd_same
end
theorem joinN_len {ls : List Str} {m : Nat} (h : ∀ z ∈ ls, z.length ≤ m) : (sg (Txt.join "\n" ls)).length ≤ ls.length * (m + 1) := by
  rw [join_sg]
  have a := joinL_le [10] (sgs ls)
  have b : ∀ ys : List Str, (∀ z ∈ ys, z.length ≤ m) → ((sgs ys).map List.length).sum ≤ ys.length * m ∧ (sgs ys).length = ys.length := by
    intro ys
    induction ys with
    | nil => intro _; exact ⟨Nat.zero_le _, rfl⟩
    | cons y r ih =>
      intro hz
      obtain ⟨i1, i2⟩ := ih fun z q => hz z (List.mem_cons_of_mem _ q)
      have hy := hz y (List.mem_cons_self ..)
      have hl : (sg y).length = y.length := Array.length_toList
      refine ⟨?_, by show (sgs r).length + 1 = _; rw [i2]; rfl⟩
      show (sg y).length + ((sgs r).map List.length).sum ≤ (r.length + 1) * m
      rw [Nat.succ_mul]
      omega
  obtain ⟨b1, b2⟩ := b ls h
  rw [b2, List.length_singleton] at a
  rw [Nat.mul_add]
  omega
theorem joinN_sum {ls : List Str} {m : Nat} (h : ∀ z ∈ ls, z.length ≤ m) : (ls.map (·.length)).sum ≤ ls.length * m := by
  induction ls with
  | nil => exact Nat.zero_le _
  | cons y r ih =>
    have a := h y (List.mem_cons_self ..)
    have b := ih fun z hz => h z (List.mem_cons_of_mem _ hz)
    rw [List.map_cons, List.sum_cons, List.length_cons, Nat.succ_mul]
    omega
end Aw
namespace Aw
open PySem PySem.Spec PyProof.Rows L2
def rMulS : R2 := fun x y H Q => ∃ (z : Str) (n : Int), x = .str z ∧ y = .int n ∧ 0 ≤ n ∧ n ≤ 10000 ∧ z.length ≤ 1000 ∧ Q (.str (Txt.mul z n)) H
theorem op_mulS {X : Cx} : OpR X (binaryOp .Mult) rMulS := by
  intro pins s σ H x y v u Q I rx ry h
  obtain ⟨z, n, rfl, rfl, h0, h1, h2, q⟩ := h
  obtain ⟨t, rfl⟩ := rx
  obtain ⟨t', rfl⟩ := ry
  exact PySem.SB.mul (PyProof.Rows.mulOk_of 1000 10000 h2 h1 (by omega) (by decide) (by decide)) fun t'' k => ⟨.str (Txt.mul z n), H, I.tok _, ⟨_, rfl⟩, q⟩
theorem r_mulS {H : Hp} {Q : VK} {z : Str} {n : Int} (h0 : 0 ≤ n) (h1 : n ≤ 10000) (h2 : z.length ≤ 1000) (q : Q (.str (Txt.mul z n)) H) : rMulS (.str z) (.int n) H Q := ⟨z, n, rfl, rfl, h0, h1, h2, q⟩
theorem foldl_rep (c : Nat) : ∀ (k : Nat) (acc : Array Nat), ((List.replicate k #[c]).foldl (· ++ ·) acc) = (acc.toList ++ List.replicate k c).toArray
  | 0, acc => by simp
  | k + 1, acc => by
    rw [List.replicate_succ, List.foldl_cons, foldl_rep c k]
    simp [List.replicate_succ]
theorem mul_one (c : Nat) (n : Int) (h : 0 ≤ n) : Txt.mul (tx [c]) n = tx (List.replicate n.toNat c) := by
  unfold Txt.mul
  by_cases h1 : n < 1
  · rw [if_pos h1, show n = 0 by omega]
    rfl
  · rw [if_neg h1]
    split
    · rename_i h2
      have e : n = 1 := by
        rw [Bool.or_eq_true] at h2
        rcases h2 with h2 | h2
        · exact eq_of_beq h2
        · have := eq_of_beq h2
          rw [tx_len] at this
          simp at this
      rw [e]
      rfl
    · show (⟨(List.replicate n.toNat #[c]).foldl (· ++ ·) #[]⟩ : Str) = _
      rw [foldl_rep]
      unfold tx
      simp
def spChanged (K : PySem.W.Frag) : Sp := fun vs H Q _ => ∃ (d c : Addr) (n : Int) (z p : Str), vs = [.ref d, .str z, .str p] ∧ Deck H d c n ∧ n + 3 < 10 ^ 12 ∧ z.length ≤ 300000 ∧ 1 ≤ p.length ∧ p.length ≤ 100 ∧
  ∀ (H' : Hp) (y : Str), y.length ≤ z.length + 1 → Deck H' d c (n + 3) → Kp [d, c] H H' → Q (.str y) H'
noncomputable def spParsedA (K : PySem.W.Frag) : Sp := fun vs H Q E => spParsed K vs H Q E ∨ ∃ (v : V) (dd : PyData), vs = [v] ∧ Dw [] K H v dd ∧ isaD dd "str" = false ∧
  ∀ (H' : Hp) (p : Addr), Kp [] H H' → H p = none → H' p = some (.lst [.str "text", .non]) → Q (.ref p) H'
def spNoText (K : PySem.W.Frag) : Sp := fun vs H Q _ => ∃ (d c : Addr) (n : Int), vs = [.ref d] ∧ Deck H d c n ∧ n + 3 < 10 ^ 12 ∧
  ∀ (H' : Hp) (v : V) (dd : PyData), Dw [] K H' v dd → isaD dd "str" = false → Deck H' d c (n + 1) → Kp [d, c] H H' → Q v H'
abbrev NTX : List PyData := [.none, .bool true, .int 0, .int (-7), .int (10 ^ (59 : Int).toNat), .tuple [], .tuple [.str "tell", .str "n"], .list [], .list [.str "program"], .dict [], .tuple [.tuple [.str "say", .str "a"]]]
theorem ntx_ok : ∀ e ∈ NTX, isaD e "str" = false := by
  intro e he
  simp only [List.mem_cons, List.not_mem_nil, or_false] at he
  rcases he with rfl | rfl | rfl | rfl | rfl | rfl | rfl | rfl | rfl | rfl | rfl <;> simp [isaD, tyD]
theorem exprAt_deep (l : List Nat) (a m : Nat) (h : ∀ i, a ≤ i → (l.drop i).take 1 = [40] ∨ l.length ≤ i) : ∀ (n i : Nat), a ≤ i → exprAt l n i = none
  | 0, i, _ => rfl
  | n + 1, i, hi => by
    rw [exprAt]
    split
    · unfold sumAt
      rw [exprAt_deep l a m h n (i + 1) (by omega)]
    · rename_i hn
      rcases h i hi with z | z
      · exact absurd z hn
      · unfold leafAt wordL
        rw [List.drop_eq_nil_of_le z, List.takeWhile_nil, show intOf [] 20 = none by decide +kernel]
        dsimp only
        rw [if_neg (show ¬ isNameT [] = true by decide +kernel)]
theorem expr_deep (m : Nat) : exprOf (List.replicate m 40) = none := by
  unfold exprOf
  rw [exprAt_deep _ 0 m (fun i _ => ?_) 20 0 (by omega)]
  by_cases h : m ≤ i
  · exact .inr (by rw [List.length_replicate]; exact h)
  · left
    rw [List.drop_replicate, show m - i = (m - i - 1) + 1 by omega, List.replicate_succ]
    rfl
theorem stmt_deep1 (m : Nat) : stmtOf (sg "tell " ++ List.replicate m 40) = none := by
  obtain ⟨h1, h2⟩ := headL_is (a := sg "tell") (b := List.replicate m 40) (by decide +kernel)
  rw [show sg "tell " ++ List.replicate m 40 = sg "tell" ++ 32 :: List.replicate m 40 by rw [show sg "tell " = sg "tell" ++ [32] by decide +kernel, List.append_assoc]; rfl]
  unfold stmtOf
  rw [h1, h2, tx_sg, if_neg (by decide +kernel), if_neg (by decide +kernel), if_neg (by decide +kernel), if_neg (by decide +kernel), if_pos rfl, expr_deep]
  rfl
theorem stmt_deep2 (m : Nat) : stmtOf (sg "set a " ++ List.replicate m 40) = none := by
  obtain ⟨h1, h2⟩ := headL_is (a := sg "set") (b := sg "a " ++ List.replicate m 40) (by decide +kernel)
  obtain ⟨h3, h4⟩ := headL_is (a := sg "a") (b := List.replicate m 40) (by decide +kernel)
  have e : sg "a " ++ List.replicate m 40 = sg "a" ++ 32 :: List.replicate m 40 := by rw [show sg "a " = sg "a" ++ [32] by decide +kernel, List.append_assoc]; rfl
  rw [show sg "set a " ++ List.replicate m 40 = sg "set" ++ 32 :: (sg "a " ++ List.replicate m 40) by rw [show sg "set a " = sg "set" ++ 32 :: sg "a " by decide +kernel, List.append_assoc]; rfl]
  unfold stmtOf
  rw [h1, h2, tx_sg, if_neg (by decide +kernel), if_neg (by decide +kernel), if_neg (by decide +kernel), if_pos rfl]
  unfold setOf
  rw [e, h3, h4, if_pos (by decide +kernel), expr_deep]
  rfl
theorem stmt_deep3 (m : Nat) : stmtOf (sg "if rest 0 of 2 " ++ List.replicate m 40) = none := by
  obtain ⟨h1, h2⟩ := headL_is (a := sg "if") (b := sg "rest 0 of 2 " ++ List.replicate m 40) (by decide +kernel)
  obtain ⟨h3, h4⟩ := headL_is (a := sg "0") (b := sg "of 2 " ++ List.replicate m 40) (by decide +kernel)
  obtain ⟨h5, h6⟩ := headL_is (a := sg "of") (b := sg "2 " ++ List.replicate m 40) (by decide +kernel)
  obtain ⟨h7, h8⟩ := headL_is (a := sg "2") (b := List.replicate m 40) (by decide +kernel)
  rw [show sg "if rest 0 of 2 " ++ List.replicate m 40 = sg "if" ++ 32 :: (sg "rest 0 of 2 " ++ List.replicate m 40) by rw [show sg "if rest 0 of 2 " = sg "if" ++ 32 :: sg "rest 0 of 2 " by decide +kernel, List.append_assoc]; rfl]
  unfold stmtOf
  rw [h1, h2, tx_sg, if_neg (by decide +kernel), if_neg (by decide +kernel), if_neg (by decide +kernel), if_neg (by decide +kernel), if_neg (by decide +kernel), if_pos rfl]
  have e0 : sg "rest 0 of 2 " = [114, 101, 115, 116, 32] ++ (sg "0" ++ 32 :: (sg "of" ++ 32 :: (sg "2" ++ [32]))) := by decide +kernel
  have e1 : sg "rest 0 of 2 " ++ List.replicate m 40 = [114, 101, 115, 116, 32] ++ (sg "0" ++ 32 :: (sg "of 2 " ++ List.replicate m 40)) := by
    rw [show sg "rest 0 of 2 " = [114, 101, 115, 116, 32] ++ (sg "0" ++ 32 :: sg "of 2 ") by decide +kernel, List.append_assoc, List.append_assoc]; rfl
  have e2 : sg "of 2 " ++ List.replicate m 40 = sg "of" ++ 32 :: (sg "2 " ++ List.replicate m 40) := by rw [show sg "of 2 " = sg "of" ++ 32 :: sg "2 " by decide +kernel, List.append_assoc]; rfl
  have e3 : sg "2 " ++ List.replicate m 40 = sg "2" ++ 32 :: List.replicate m 40 := by rw [show sg "2 " = sg "2" ++ [32] by decide +kernel, List.append_assoc]; rfl
  unfold testOf
  rw [e1, stripN_no (by simp)]
  dsimp only
  unfold ptOf
  rw [if_neg (by simp), if_pos (by simp)]
  rw [show List.drop 5 ([114, 101, 115, 116, 32] ++ (sg "0" ++ 32 :: (sg "of 2 " ++ List.replicate m 40))) = sg "0" ++ 32 :: (sg "of 2 " ++ List.replicate m 40) from rfl]
  unfold restT
  rw [h3, h4, e2, h5, h6, e3, h7, h8, expr_deep]
  rw [if_pos (tx_sg _)]
  generalize intOf (sg "0") 20 = a
  generalize intOf (sg "2") 20 = b
  cases a <;> cases b <;> rfl
/-- a second line that is none -/
theorem parse_bad {t : List Nat} (h : stmtOf t = none) (h2 : ∃ c r, t = c :: r ∧ c ≠ 32) (h3 : 10 ∉ t) : parseL (linesT (sg "program\n" ++ t)) = .text 1 := by
  have e : sg "program\n" ++ t = TL.joinL [10] [sg "program", t] := by
    rw [show sg "program\n" = sg "program" ++ [10] by decide +kernel, List.append_assoc]
    rfl
  rw [e, lines_join (by simp) (fun l hl => by
    simp only [List.mem_cons, List.not_mem_nil, or_false] at hl
    rcases hl with rfl | rfl
    · decide +kernel
    · exact h3)]
  obtain ⟨c, r, rfl, hc⟩ := h2
  have el : lstr (c :: r) = c :: r := by
    unfold lstr
    rw [List.dropWhile_cons, if_neg (by simp [hc])]
  have er : readP (c :: r) root = none := by
    unfold readP
    rw [el, if_neg (by
      rintro (z | z | z)
      · rw [Nat.sub_self] at z
        omega
      · rw [Nat.sub_self] at z
        omega
      · have : topLacks root = false := by decide +kernel
        rw [this] at z
        cases z.1)]
    rw [Nat.sub_self, show root.length - 1 - 0 / 2 = 0 from rfl]
    show stepP (c :: r) "" (topLacks root) root = none
    unfold root
    unfold stepP
    dsimp only
    rw [if_neg (fun z => absurd z.2 (by decide +kernel)), h]
    split
    · rw [if_neg (fun z => absurd z.1 (by decide +kernel))]
    · rfl
  unfold parseL
  dsimp only
  rw [tx_sg, if_pos rfl, readL, er]
def WORDS3 : List Str := ["unset", "tell", "say", "stop", "if", "else", "repeat", "pass", "rest", "of", "set", "not", "program", "N", "aB", "a_", "nN", "a.b"]
def PRE4 : List Str := ["tell ", "if n < ", "set x ", "tell (2 * "]
def closed3 (z : Str) : Str := z ++ Txt.mul ")" (if decide (40 ∈ z.cps.toList) = true then 1 else 0)
theorem bad_words : ∀ p ∈ PRE4, ∀ w ∈ WORDS3, ((stmtOf (sg (closed3 (p ++ w)))).isNone && (!decide (10 ∈ sg (closed3 (p ++ w))) && (decide (((sg (closed3 (p ++ w))).headD 32) ≠ 32) && decide ((closed3 (p ++ w)).length ≤ 40)))) = true := by decide +kernel
theorem bad_word {p w : Str} (hp : p ∈ PRE4) (hw : w ∈ WORDS3) : parseL (linesT (sg ("program\n" ++ closed3 (p ++ w)))) = .text 1 ∧ (closed3 (p ++ w)).length ≤ 40 := by
  have h := bad_words p hp w hw
  simp only [Bool.and_eq_true, Bool.not_eq_true', decide_eq_false_iff_not, decide_eq_true_eq] at h
  obtain ⟨h1, h2, h3, h4⟩ := h
  refine ⟨?_, h4⟩
  rw [sg_app]
  refine parse_bad (Option.isNone_iff_eq_none.mp h1) ?_ h2
  cases hs : sg (closed3 (p ++ w)) with
  | nil => rw [hs] at h3; exact absurd rfl h3
  | cons c r => rw [hs] at h3; exact ⟨c, r, rfl, h3⟩
theorem deep_bad {p : Str} (m : Nat) (hp : p = "tell " ∨ p = "if rest 0 of 2 " ∨ p = "set a ") : parseL (linesT (sg ("program\n" ++ p ++ tx (List.replicate m 40)))) = .text 1 := by
  rw [sg_app, sg_app, List.append_assoc]
  have hn : 10 ∉ List.replicate m 40 := fun z => by
    have := List.eq_of_mem_replicate z
    omega
  rcases hp with rfl | rfl | rfl
  · exact parse_bad (stmt_deep1 m) ⟨116, _, rfl, by decide⟩ (fun z => (List.mem_append.mp z).elim (by decide +kernel) hn)
  · exact parse_bad (stmt_deep3 m) ⟨105, _, rfl, by decide⟩ (fun z => (List.mem_append.mp z).elim (by decide +kernel) hn)
  · exact parse_bad (stmt_deep2 m) ⟨115, _, rfl, by decide⟩ (fun z => (List.mem_append.mp z).elim (by decide +kernel) hn)
def SOME3 : List Str := ["", " ", "program ", " program", "Program", "program\n", "program\n\n", "\nprogram", "program\nsay on\n", "program\ntell 00", "program\ntell -0", "program\ntell n+1", "program\ntell (n  + 1)", "say on", "program\ntell ((n + 1))", "program\ntell (n * 3)", "program\nset x  n", "program\nset of n", "program\nset x", "program\nunset set", "program\nif set not", "program\nif rest 1 of n"]
theorem some_len : ∀ z ∈ SOME3, z.length ≤ 40 := by decide +kernel
theorem bad_word3 {p w : Str} (hp : p ∈ PRE4) (hw : w ∈ WORDS3) : parseL (linesT (sg ("program\n" ++ (p ++ w) ++ Txt.mul ")" (if decide (40 ∈ (p ++ w).cps.toList) = true then 1 else 0)))) = .text 1 ∧
    (sg ("program\n" ++ (p ++ w) ++ Txt.mul ")" (if decide (40 ∈ (p ++ w).cps.toList) = true then 1 else 0))).length ≤ 48 ∧ (p ++ w).length ≤ 40 := by
  obtain ⟨h1, h2⟩ := bad_word hp hw
  have e : sg ("program\n" ++ (p ++ w) ++ Txt.mul ")" (if decide (40 ∈ (p ++ w).cps.toList) = true then 1 else 0)) = sg ("program\n" ++ closed3 (p ++ w)) := by
    unfold closed3
    rw [sg_app, sg_app, sg_app ("program\n" : Str) (p ++ w ++ _), sg_app (p ++ w), List.append_assoc]
  rw [e]
  refine ⟨h1, ?_, ?_⟩
  · rw [sg_app, List.length_append, show (sg "program\n").length = 8 by decide +kernel]
    have : (sg (closed3 (p ++ w))).length = (closed3 (p ++ w)).length := Array.length_toList
    omega
  · unfold closed3 at h2
    rw [Str.length_append] at h2
    omega
theorem spParsedA.text {K : PySem.W.Frag} {H : Hp} {Q : VK} {E : XK} {z : Str} {i : Nat} (hp : parseL (linesT (sg z)) = .text i) (hz : (sg z).length ≤ 100000)
    (k : ∀ (H' : Hp) (p : Addr) (xs : List V), Kp [] H H' → H p = none → H' p = some (.lst xs) → DtL K H' xs [.str "text", .int (i : Nat)] → Q (.ref p) H') : spParsedA K [.str z] H Q E := by
  have hm := linesT_many (sg z)
  refine .inl ⟨sg z, by rw [tx_sg], by omega, by omega, fun rs hrs => ?_, fun H' p xs k' hp' he hx => ?_⟩
  · rw [hp] at hrs
    cases hrs
  · rw [parsed_text hp] at hx
    exact k H' p xs k' hp' he hx
theorem one_dwQ {K : PySem.W.Frag} {M : List Addr} {H : Hp} {Q : VK} {E : XK} {d c p : Addr} {n : Int} {vs : List V} {ds : List PyData} (D : Deck H d c n) (hn : n < 10 ^ 12) (h : H p = some (.lst vs)) (hL : DwL (d :: c :: M) K H vs ds) (h1 : p ≠ d) (h2 : p ≠ c) (l1 : 1 ≤ ds.length) (l2 : ds.length ≤ 1000)
    (k : ∀ (H' : Hp) (x : V) (e : PyData), e ∈ ds → Dw (d :: c :: M) K H' x e → Deck H' d c (n + 1) → Kp [d, c] H H' → Q x H') : spOne K [.ref d, .ref p] H Q E := by
  have ll := hL.len
  refine spOne.list D hn (SqL.of h) h1 h2 (by omega) (by omega) fun H' i x hx D' k' => ?_
  obtain ⟨e, he, hxe⟩ := hL.get hx
  exact k H' x e (List.mem_of_getElem? he) (hxe.kpS k' dcM) D' k'
end Aw
namespace Aw
open PySem L2
def topS (i : Nat) : Stmt := PySem.Challenge.pw_anewread_k03_wrong_signs_in_texts.main.body.getD i (.Pass ⟨0, 0, 0, 0⟩)
local macro_rules | `(tactic| walk_at "isa") => `(tactic| first | assumption | (focus (simp [isaD, tyD]; done)))
local macro_rules | `(tactic| walk_at "hd") => `(tactic| first
  | exact Dp.int _ | exact Dp.str _ | exact Dp.bl _ | exact Dp.non
  | exact Dt.dp (by assumption) | assumption)
local macro_rules | `(tactic| walk_at "ne") => `(tactic| first
  | assumption
  | exact Ne.symm (by assumption)
  | exact ne_of_none (by assumption) (by assumption)
  | exact Ne.symm (ne_of_none (by assumption) (by assumption)))
local macro_rules | `(tactic| walk_at "hp") => `(tactic| first
  | assumption
  | exact upd_same
  | ((refine Eq.trans (upd_ne ?_) ?_); (walk_at "ne"); (walk_at "hp")))
local macro_rules | `(tactic| walk_at "hs") => `(tactic| first
  | assumption
  | ((with_reducible apply SqL.of); (walk_at "hp"))
  | ((with_reducible apply SqT.of); (walk_at "hp")))
local macro_rules | `(tactic| walk_at "hw") => `(tactic| first | assumption | exact Dw.int _ | exact Dw.str _ | exact Dw.bl _ | exact Dw.non)
local macro_rules | `(tactic| walk_at "cd") => `(tactic| repeat (first | with_reducible exact cd_str | with_reducible exact cd_int | with_reducible exact cd_non | with_reducible exact cds_nil | with_reducible refine cds_cons ?_ ?_ | with_reducible refine cd_tup ?_ (by simp) | ((with_reducible apply cd_var); (exact rfl); assumption)))
local macro_rules | `(tactic| walk_at "cw") => `(tactic| repeat (first | with_reducible exact cw_str | with_reducible exact cw_int | with_reducible exact cw_bl | with_reducible exact cw_non | with_reducible exact cw_neg | with_reducible exact cws_nil | with_reducible exact cw_pow (c_pow (by decide) (by decide) (by decide)) | with_reducible exact cw_d0 (by assumption) | with_reducible exact cw_d1 (by assumption) | with_reducible refine cws_cons ?_ ?_ | with_reducible refine cw_tup ?_ (by simp) | with_reducible refine cw_lst (by assumption) ?_ (by simp) | ((with_reducible apply cw_var); (exact rfl); assumption)))
local macro_rules | `(tactic| walk_at "rd1") => `(tactic| first
  | ((with_reducible refine g_TE ?_); first
      | ((with_reducible apply r_var); exact rfl) | with_reducible refine r_C ?_ | with_reducible refine r_op ?_ | with_reducible refine r_call ?_ | (with_reducible refine r_lst ?_) | with_reducible refine r_sl ?_ | (with_reducible refine r_tup ?_) | with_reducible refine r_CB ?_ | with_reducible refine r_M1 ?_ | with_reducible refine r_meth ?_ | with_reducible refine r_fld ?_ | with_reducible refine r_un ?_ | with_reducible refine r_andV ?_ | with_reducible refine r_revL ?_ | with_reducible refine r_BM ?_ | with_reducible refine r_BM0 ?_ | with_reducible refine r_lcT ?_ | with_reducible refine r_orV ?_ | with_reducible refine r_notV ?_ | with_reducible refine r_chain ?_ | with_reducible refine r_lcL ?_ | with_reducible refine r_lcR ?_ | with_reducible refine r_dget2 ?_ | with_reducible refine r_lcR2 ?_ | with_reducible refine r_lcS ?_ | with_reducible refine r_dget ?_ | with_reducible refine r_din ?_ | with_reducible refine r_dget1 ?_ | with_reducible refine r_dpop1 ?_ | with_reducible refine r_lcV ?_ | with_reducible refine r_listVals ?_ | with_reducible refine r_listItems ?_)
  | ((with_reducible refine g_TA ?_); first
      | with_reducible refine r_cons ?_ | with_reducible refine r_nil ?_)
  | ((with_reducible refine g_TS ?_); first
      | with_reducible refine r_next ?_ | with_reducible refine r_ifS ?_ | with_reducible refine r_ret ?_ | with_reducible refine r_asg ?_ | (with_reducible refine r_par ?_) | with_reducible refine r_drop ?_ | with_reducible refine r_forR ?_ | ((with_reducible apply r_aug); exact rfl) | with_reducible refine r_forE ?_ | with_reducible refine r_retN ?_ | (with_reducible refine r_par3 ?_) | with_reducible refine r_forT ?_ | with_reducible refine r_forL ?_ | with_reducible refine r_forR2 ?_ | with_reducible refine r_dput ?_ | with_reducible refine r_sfld ?_ | with_reducible refine r_forK ?_)
  | ((with_reducible refine g_VH ?_); first
      | with_reducible refine r_bl ?_ | with_reducible refine r_partI ?_ | ((with_reducible apply r_Meth); assumption; exact rfl) | ((with_reducible apply r_Fld); assumption; assumption; assumption; exact rfl) | ((with_reducible apply r_DG2a); (walk_at "hp")) | ((with_reducible apply r_DG2); (walk_at "hp")) | ((with_reducible apply r_DIn); assumption) | ((with_reducible apply r_DG1a); assumption) | ((with_reducible apply r_DG1); assumption) | ((with_reducible apply r_DG2i); assumption))
  | ((with_reducible refine g_TT ?_); first
      | with_reducible refine r_test ?_ | with_reducible refine r_B ?_ | with_reducible refine r_not ?_ | ((with_reducible apply r_andP); (focus (intro _ hR_; (walk_at "rd"); exact hR_)); (focus (intro _ hR_; (walk_at "rd"); exact hR_))) | ((with_reducible apply r_orP); (focus (intro _ hR_; (walk_at "rd"); exact hR_)); (focus (intro _ hR_; (walk_at "rd"); exact hR_))) | with_reducible refine r_and ?_ | with_reducible refine r_or ?_ | with_reducible refine r_yes ?_)
  | ((with_reducible refine g_R2 ?_); first
      | with_reducible refine r_I0 ?_ | ((with_reducible apply r_eqT); (with_reducible rfl); exact rfl) | ((with_reducible apply r_ixL); (walk_at "hs"); (first | exact rfl | assumption)) | ((with_reducible apply r_eqF); (decide +kernel); exact rfl) | ((with_reducible apply r_neF); (with_reducible rfl); exact rfl) | with_reducible refine r_addS ?_ ?_ | with_reducible refine r_I ?_ ?_ | with_reducible refine r_ipI ?_ | ((with_reducible apply r_eq); exact rfl) | ((with_reducible apply r_neT); (decide +kernel); exact rfl) | ((with_reducible apply r_ne); exact rfl) | ((with_reducible apply r_ixT); (walk_at "hs"); (first | exact rfl | assumption)) | ((with_reducible apply r_ixD); assumption) | with_reducible refine r_inC ?_ | with_reducible refine r_notinC ?_ | ((with_reducible apply r_eqNL); (walk_at "hs"); (walk_at "hs")) | ((with_reducible apply r_eqNT); (walk_at "hs"); (walk_at "hs")) | ((with_reducible apply r_neNL); (walk_at "hs"); (walk_at "hs")) | ((with_reducible apply r_neNT); (walk_at "hs"); (walk_at "hs")))
  | ((with_reducible refine g_TG ?_); first
      | with_reducible refine r_name ?_ | ((with_reducible apply r_gtup); (walk_at "hs"); exact rfl) | with_reducible refine r_sub ?_)
  | ((with_reducible refine g_TO ?_); first
      | with_reducible refine r_part ?_ | with_reducible refine r_noPart ?_)
  | ((with_reducible refine g_Ite ?_); first
      | with_reducible refine ifT ?_ | with_reducible refine ifF ?_ | with_reducible refine ifnT ?_ | with_reducible refine ifnF ?_)
  | ((with_reducible refine g_TGs ?_); first
      | with_reducible refine r_gcons ?_ | with_reducible refine r_gnil ?_)
  | ((with_reducible refine g_And ?_); first
      | with_reducible refine r_isS ?_ | ((with_reducible apply r_tyL); (walk_at "hp")))
  | ((with_reducible refine g_Ex ?_); first
      | (with_reducible refine r_two ?_) | (with_reducible refine r_three ?_))
  | ((with_reducible refine g_CB ?_); first
      | with_reducible refine r_lenS ?_ ?_ | with_reducible refine r_int ?_ | ((with_reducible apply r_is2T); (walk_at "hw"); (walk_at "isa"); decide) | ((with_reducible apply r_is2F); (walk_at "hw"); (walk_at "isa"); decide) | ((with_reducible apply r_extend); (walk_at "hp"); (walk_at "hp")) | with_reducible refine r_abs ?_ | with_reducible refine r_intB ?_ | with_reducible refine r_strI ?_ ?_ | with_reducible refine r_strS ?_ | ((with_reducible apply r_lenL); (walk_at "hs")) | ((with_reducible apply r_lenT); (walk_at "hs")) | ((with_reducible apply r_isT); (walk_at "hd"); (walk_at "isa"); decide) | ((with_reducible apply r_isF); (walk_at "hd"); (walk_at "isa"); decide) | ((with_reducible apply r_append); (walk_at "hp")))
  | with_reducible refine r_U ?_
  | ((with_reducible apply r_setL); (walk_at "hp"); (first | exact rfl | assumption))
  | (with_reducible refine r_LcTurn rfl ?_)
  | with_reducible refine r_pcons ?_
  | with_reducible refine r_pnil ?_
  | ((with_reducible apply r_wN); assumption)
  | ((with_reducible apply r_wS); assumption)
  | ((with_reducible apply r_wR); assumption)
  | ((with_reducible apply r_wF); assumption))
local macro_rules | `(tactic| walk_at "rds") => `(tactic| repeat (walk_at "rd1"))
local macro_rules | `(tactic| walk_at "rdj") => `(tactic| repeat (first | with_reducible refine r_seq ?_ | walk_at "rd1"))
local macro_rules | `(tactic| walk_at "rd") => `(tactic| repeat (first | with_reducible refine r_seq ?_ | walk_at "rd1" | with_reducible refine r_if ?_))
local macro_rules | `(tactic| walk_at "sc") => `(tactic| first
  | omega | decide
  | exact c_pow (by first | decide | omega) (by decide) (by decide)
  | exact c_div (by omega) (by omega)
  | exact c_mulL (by first | decide | omega) (by first | decide | omega)
  | exact c_mulR (by first | decide | omega) (by first | decide | omega))
local macro_rules | `(tactic| walk_at "sl") => `(tactic| ((try simp only [Str.length_append]); rw [sizeLine_eq]; omega))
local macro_rules | `(tactic| walk_at "sz") => `(tactic| ((try simp only [sizeLine_eq, List.length_append, List.length_map, List.length_cons, List.length_nil, Str.length_append]); omega))
section
variable {P : Program} {w : World} {K : PySem.W.Frag} {mg : Str → Option Value} {base : Heap}
abbrev s_law_deck : Stmt := topS 68
abbrev N_law_deck : List Str := ["_law_script", "_law_cell"]
abbrev P_law_deck : List Str := ["_law_script"]
theorem sc_law_deck : FnScope N_law_deck P_law_deck (defScope s_law_deck) :=
  ⟨rfl, rfl, rfl, by decide +kernel, rfl, by decide +kernel, by decide +kernel⟩
theorem ok_law_deck (D : Df K mg "_law_deck" s_law_deck P_law_deck) (B : Blt mg) : Has P w K mg base CX0 "_law_deck" P_law_deck 1 (spDeck K) := by
  refine D.has sc_law_deck (fun vs H Q E h => ?_) (fun f cdv A outer s H vs Q E hr h => ?_)
  · obtain ⟨a, ns, rfl, _⟩ := h
    rfl
  obtain ⟨a, ns, rfl, hS, hl, k⟩ := h
  refine ⟨_, (pss_one (ps_ret (pe_lst (pa_cons (pe_lc (own := [("_law_cell", 1)]) (g := gName 1) (by rfl) sc_law_deck.nd (pi_list (pe_slice sl_list (pv 0) po_none (po_some pe_int))) (blkOk_by (own := [("_law_cell", 1)]) (N := N_law_deck) (sc := defScope s_law_deck) (by decide +kernel)) (fun _ _ _ _ _ => (pg_name (i := 1) sc_law_deck.nd rfl (Or.inl rfl))) (fun _ _ _ _ _ => pts_nil) (fun _ _ _ _ _ => (pe_callB c_abs (by rfl) B.abs (by decide +kernel) (pa_cons (pv 1) pa_nil)))) (pa_cons pe_int pa_nil))))), ?_⟩
  walk_at "rd"
  refine r_slL hS fun p hp => ?_
  obtain ⟨ms, e, hm, _⟩ := cutV_map V.int ns none (some 63)
  rw [e]
  have k1 : Kp [] H (upd H p (.lst (ms.map V.int))) := Kp.nil.new hp
  have h1 : upd H p (.lst (ms.map V.int)) p = some (.lst (ms.map V.int)) := upd_same
  generalize upd H p (.lst (ms.map V.int)) = H1 at k1 h1 ⊢
  refine r_LcL (SqL.of h1) fun c hc => ?_
  refine ⟨fun i H' => ∃ cs : List Int, H' c = some (.lst (cs.map V.int)) ∧ (∀ x ∈ cs, 0 ≤ x) ∧ cs.length = i ∧ Kp [] H1 H', ⟨[], upd_same, (fun _ h => (nomatch h)), rfl, Kp.nil.new hc⟩,
    fun i H' ⟨_, _, _, _, kk⟩ => SqL.of (kk.get h1 (by simp)), ?_, ?_⟩
  · rintro i x H2 hx ⟨cs, h2, h3, h4, k2⟩
    rw [List.getElem?_map] at hx
    obtain ⟨y, hy, rfl⟩ := Option.map_eq_some_iff.mp hx
    have hi : i < ms.length := (List.getElem?_eq_some_iff.mp hy).1
    walk_at "rd"
    refine r_LcEnd h2 (by walk_at "sz") ⟨cs ++ [if y < 0 then -y else y], ?_, ?_, ?_, k2.own hc⟩
    · rw [upd_same, List.map_append]
      rfl
    · intro z hz
      rcases List.mem_append.mp hz with hz | hz
      · exact h3 z hz
      · rw [List.mem_singleton.mp hz]
        split <;> omega
    · rw [List.length_append, h4]
      rfl
  · rintro H2 ⟨cs, h2, h3, h4, k2⟩
    rw [List.length_map] at h4
    walk_at "rd"
    refine ⟨by simp [sizeLine_eq], fun d hd => ?_⟩
    have hcd : d ≠ c := Ne.symm (ne_of_none h2 hd)
    refine k _ d c ((k1.trans k2).same.free hd) (k1.same.free hc) ⟨upd_same, ⟨cs, ?_, h3, by omega⟩, hcd, by omega⟩ ((k1.trans k2).new hd)
    rw [upd_ne hcd.symm]
    exact h2
abbrev s_law_draw : Stmt := topS 69
abbrev N_law_draw : List Str := ["_law_deck_here", "_law_many", "_law_cell", "_law_at", "_law_mixed"]
abbrev P_law_draw : List Str := ["_law_deck_here", "_law_many"]
theorem sc_law_draw : FnScope N_law_draw P_law_draw (defScope s_law_draw) :=
  ⟨rfl, rfl, rfl, by decide +kernel, rfl, by decide +kernel, by decide +kernel⟩
theorem ok_law_draw (D : Df K mg "_law_draw" s_law_draw P_law_draw) (B : Blt mg) : Has P w K mg base CX0 "_law_draw" P_law_draw 1 spDraw := by
  refine D.has sc_law_draw (fun vs H Q E h => ?_) (fun f cdv A outer s H vs Q E hr h => ?_)
  · obtain ⟨d, c, n, m, rfl, _⟩ := h
    rfl
  obtain ⟨d, c, n, m, rfl, Dk, hn, h1, h2, k⟩ := h
  refine ⟨_, (pss_cons (ps_asg (pe_op op_add (pe_ix ix_list (pv 0) pe_int (fun _ _ => rfl)) pe_int) (pg_sub (pv 0) pe_int set_list))
      (pss_cons (ps_asg (pe_tup (pa_cons pe_int (pa_cons (pe_un un_neg pe_int) pa_nil))) (pg_tup rfl (pgs_cons (pg_name (i := 2) sc_law_draw.nd rfl (Or.inl rfl)) (pgs_cons (pg_name (i := 3) sc_law_draw.nd rfl (Or.inl rfl)) pgs_nil))))
      (pss_cons (ps_if (pt_cmpR op_gt (pe_callB c_len (by rfl) B.len (by decide +kernel) (pa_cons (pe_ix ix_list (pv 0) pe_int (fun _ _ => rfl)) pa_nil)) pe_int (nomark _)) (pss_cons (ps_set (i := 3) sc_law_draw.nd rfl (Or.inl rfl) (pe_op op_mod (pe_callTy c_int (by rfl) B.int (by decide +kernel) (pa_cons (pe_ix ix_list (pv 0) pe_int (fun _ _ => rfl)) pa_nil)) (pe_callB c_len (by rfl) B.len (by decide +kernel) (pa_cons (pe_ix ix_list (pv 0) pe_int (fun _ _ => rfl)) pa_nil))))
      (pss_one (ps_set (i := 2) sc_law_draw.nd rfl (Or.inl rfl) (pe_ix ix_list (pe_ix ix_list (pv 0) pe_int (fun _ _ => rfl)) (pv 3) (fun _ _ => rfl)))))
        pss_nil)
      (pss_cons (ps_if (pt_cmpR op_ge (pv 2) (pe_op op_pow pe_int pe_int) (nomark _)) (pss_cons (ps_asg (pe_op op_fdiv (pe_callTy c_int (by rfl) B.int (by decide +kernel) (pa_cons (pv 2) pa_nil)) (pv 1)) (pg_sub (pe_ix ix_list (pv 0) pe_int (fun _ _ => rfl)) (pv 3) set_list))
      (pss_one (ps_ret (pe_op op_mod (pe_callTy c_int (by rfl) B.int (by decide +kernel) (pa_cons (pv 2) pa_nil)) (pv 1)))))
        pss_nil)
      (pss_cons (ps_set (i := 4) sc_law_draw.nd rfl (Or.inl rfl) (pe_op op_add (pe_op op_add (pe_op op_mod (pe_callTy c_int (by rfl) B.int (by decide +kernel) (pa_cons (pv 2) pa_nil)) pe_int) (pe_op op_mul pe_int (pe_ix ix_list (pv 0) pe_int (fun _ _ => rfl)))) pe_int))
      (pss_one (ps_ret (pe_op op_mod (pe_callTy c_int (by rfl) B.int (by decide +kernel) (pa_cons (pe_op op_mod (pe_callTy c_int (by rfl) B.int (by decide +kernel) (pa_cons (pe_op op_pow (pv 4) pe_int) pa_nil)) pe_int) pa_nil)) (pv 1))))))))), ?_⟩
  obtain ⟨hd, ⟨cs, hc, hp, hl⟩, ne, n0⟩ := Dk
  walk_at "rd"
  refine ⟨by decide, fun p hp' => ?_⟩
  have pd : p ≠ d := fun z => by
    rw [z, upd_same] at hp'
    cases hp'
  have pH : H p = none := by
    rw [upd_ne pd] at hp'
    exact hp'
  have pc : p ≠ c := Ne.symm (ne_of_none hc pH)
  generalize eH : upd (upd H d (HO.lst ([V.ref c, V.int n].set (Int.toNat 1) (V.int (n + 1))))) p (HO.tup [V.int 0, V.int (-1)]) = H1
  have hT : H1 p = some (.tup [V.int 0, V.int (-1)]) := by rw [← eH]; exact upd_same
  have hd1 : H1 d = some (.lst [V.ref c, V.int (n + 1)]) := by
    rw [← eH, upd_ne pd.symm]
    exact upd_same
  have hc1 : H1 c = some (.lst (cs.map V.int)) := by
    rw [← eH, upd_ne pc.symm, upd_ne ne.symm]
    exact hc
  have kp : Kp [d, c] H H1 := by
    rw [← eH]
    exact ((Kp.refl (Deck.ls ⟨hd, ⟨cs, hc, hp, hl⟩, ne, n0⟩)).write (by simp)).new hp'
  walk_at "rd"
  have last : ∀ (x : Int), 0 ≤ x → ∀ (y : Int), y = x % 2147483563 + 8117 * (n + 1) + 3 → y.natAbs < 2 ^ 64 := by
    intro x hx y e
    omega
  refine ifd (fun c1 => ?_) (fun c1 => ?_)
  · rw [List.length_map] at c1
    have hlt : ((n + 1) % (cs.length : Int)).toNat < cs.length := by
      have q1 := Int.emod_nonneg (n + 1) (show (cs.length : Int) ≠ 0 by omega)
      have q2 := Int.emod_lt_of_pos (n + 1) c1
      omega
    have h0 := Int.emod_nonneg (n + 1) (show (cs.length : Int) ≠ 0 by omega)
    have hlt2 := Int.emod_lt_of_pos (n + 1) c1
    have hat : atI (cs.map V.int) ((n + 1) % ((cs.map V.int).length : Nat)) = some (.int cs[((n + 1) % (cs.length : Int)).toNat]) := by
      rw [List.length_map]
      refine at_of (j := ((n + 1) % (cs.length : Int)).toNat) (by omega) ?_
      rw [List.getElem?_map, List.getElem?_eq_getElem hlt]
      rfl
    have hset : ixN (cs.map V.int).length ((n + 1) % ((cs.map V.int).length : Nat)) = some ((n + 1) % (cs.length : Int)).toNat := by
      unfold ixN
      rw [List.length_map, if_pos h0, if_pos hlt2]
    have hx := hp _ (List.getElem_mem hlt)
    generalize cs[((n + 1) % (cs.length : Int)).toNat] = x at hat hx
    walk_at "rd"
    refine ifd (fun c2 => ?_) (fun c2 => ?_)
    all_goals walk_at "rd"
    · refine k _ _ (Int.emod_nonneg _ (by omega)) (Int.emod_lt_of_pos _ (by omega)) ⟨?_, ⟨cs.set ((n + 1) % (cs.length : Int)).toNat (x / m), ?_, ?_, ?_⟩, ne, by omega⟩ (kp.write (by simp))
      · rw [upd_ne ne]
        exact hd1
      · rw [upd_same, List.map_set]
      · intro y hy
        rcases List.mem_or_eq_of_mem_set hy with hy | rfl
        · exact hp y hy
        · exact Int.ediv_nonneg hx (by omega)
      · rw [List.length_set]
        exact hl
    · walk_at "sc"
    · walk_at "sc"
    · exact k _ _ (Int.emod_nonneg _ (by omega)) (Int.emod_lt_of_pos _ (by omega)) ⟨hd1, ⟨cs, hc1, hp, hl⟩, ne, by omega⟩ kp
    · walk_at "sc"
    · walk_at "sc"
    · walk_at "sc"
    · walk_at "sc"
    · walk_at "sc"
    · walk_at "sc"
    · rw [List.length_map]
      exact c1
  · walk_at "rd"
    · refine ifd (fun c2 => ?_) (fun c2 => ?_)
      · exact absurd c2 (by decide)
      · walk_at "rd"
        · exact k _ _ (Int.emod_nonneg _ (by omega)) (Int.emod_lt_of_pos _ (by omega)) ⟨hd1, ⟨cs, hc1, hp, hl⟩, ne, by omega⟩ kp
        all_goals walk_at "sc"
    · walk_at "sc"
abbrev s_law_one : Stmt := topS 70
abbrev N_law_one : List Str := ["_law_deck_here", "_law_items"]
abbrev P_law_one : List Str := ["_law_deck_here", "_law_items"]
theorem sc_law_one : FnScope N_law_one P_law_one (defScope s_law_one) :=
  ⟨rfl, rfl, rfl, by decide +kernel, rfl, by decide +kernel, by decide +kernel⟩
theorem ok_law_one (D : Df K mg "_law_one" s_law_one P_law_one) (B : Blt mg)
    (G_law_draw : Has P w K mg base CX0 "_law_draw" ["_law_deck_here", "_law_many"] 1 spDraw) : Has P w K mg base CX0 "_law_one" P_law_one 2 (spOne K) := by
  refine D.has sc_law_one (fun vs H Q E h => ?_) (fun f cdv A outer s H vs Q E hr h => ?_)
  · rcases h with ⟨d, c, a, n, xs, rfl, _⟩ | ⟨d, c, n, z, rfl, _⟩ <;> rfl
  refine ⟨_, (pss_one (ps_ret (pe_ix ix_seq (pv 1) (pe_f G_law_draw (hr.mono (by omega)) (by rfl) pass0 (pa_cons (pv 0) (pa_cons (pe_callB c_len (by rfl) B.len (by decide +kernel) (pa_cons (pv 1) pa_nil)) pa_nil))) (fun _ _ => rfl)))), ?_⟩
  rcases h with ⟨d, c, a, n, xs, rfl, Dk, hn, hS, h1, h2, h3, h4, k⟩ | ⟨d, c, n, z, rfl, Dk, hn, h3, h4, k⟩
  · walk_at "rd"
    refine spDraw.use Dk hn (by omega) (by omega) fun H1 r r0 r1 D1 k1 => ?_
    have hlt : r.toNat < xs.length := by omega
    refine .inl (r_ixL (sqL_kp k1 (by simp [h1, h2]) hS) (at_of (j := r.toNat) (by omega) (List.getElem?_eq_getElem hlt)) ?_)
    exact k _ r.toNat _ (List.getElem?_eq_getElem hlt) D1 k1
  · have hz : z.length ≤ sizeLine := by rw [sizeLine_eq]; omega
    have hsz : z.cps.toList.length = z.length := by rw [Array.length_toList]; rfl
    walk_at "rd"
    · refine spDraw.use Dk hn (by omega) (by omega) fun H1 r r0 r1 D1 k1 => ?_
      have hlt : r.toNat < z.cps.toList.length := by omega
      refine .inr (.inr (r_ixS (c := z.cps.toList[r.toNat]) hz ?_ ?_))
      · exact at_nn r0 (List.getElem?_eq_getElem hlt)
      · exact k _ _ (List.getElem_mem hlt) D1 k1
    · exact hz
abbrev s_law_expr : Stmt := topS 71
abbrev N_law_expr : List Str := ["_law_deck_here", "_law_names_here", "_law_deep", "_law_way", "_law_numbers"]
abbrev P_law_expr : List Str := ["_law_deck_here", "_law_names_here", "_law_deep"]
theorem sc_law_expr : FnScope N_law_expr P_law_expr (defScope s_law_expr) :=
  ⟨rfl, rfl, rfl, by decide +kernel, rfl, by decide +kernel, by decide +kernel⟩
theorem ok_law_expr (D : Df K mg "_law_expr" s_law_expr P_law_expr) (B : Blt mg)
    (G_law_draw : Has P w K mg base CX0 "_law_draw" ["_law_deck_here", "_law_many"] 1 spDraw) (G_law_one : Has P w K mg base CX0 "_law_one" ["_law_deck_here", "_law_items"] 2 (spOne K)) :
    ∀ m, 1 ≤ m → m ≤ 3 → Has P w K mg base CX0 "_law_expr" P_law_expr (m + 2) (spExpr K m) := by
  intro m
  induction m with
  | zero => intro h; omega
  | succ m ih =>
    intro _ hm
    have Gx : ∃ sp, Has P w K mg base CX0 "_law_expr" P_law_expr (m + 2) sp ∧ (1 ≤ m → sp = spExpr K m) := by
      by_cases h : 1 ≤ m
      · exact ⟨_, ih h (by omega), fun _ => rfl⟩
      · exact ⟨fun _ _ _ _ => False, (D.void fun _ _ _ _ h => h).mono (by omega), fun q => absurd q h⟩
    obtain ⟨sp, G_law_expr, hsp⟩ := Gx
    refine D.has sc_law_expr (fun vs H Q E h => ?_) (fun f cdv A outer s H vs Q E hr h => ?_)
    · obtain ⟨d, c, nm, n, xs, rfl, _⟩ := h
      rfl
    obtain ⟨d, c, nm, n, xs, rfl, Dk, hn, N, n1, n2, k⟩ := h
    have eD : eDraws (m + 1) = 3 + 2 * eDraws m := rfl
    have hE : eDraws m ≤ 21 := eDraws_le (by omega)
    have n0 := Dk.n0
    refine ⟨_, (pss_cons (ps_set (i := 3) sc_law_expr.nd rfl (Or.inl rfl) (pe_f G_law_draw (hr.mono (by omega)) (by rfl) pass0 (pa_cons (pv 0) (pa_cons pe_int pa_nil))))
      (pss_cons (ps_if (PW.pt (pw_or (pt_cmpR op_eq (pv 2) pe_int (nomark _)) (pw_or1 (pt_cmpR op_lt (pv 3) pe_int (nomark _))))) (pss_cons (ps_set (i := 4) sc_law_expr.nd rfl (Or.inl rfl) (pe_lst (pa_cons pe_int (pa_cons pe_int (pa_cons (pe_un un_neg pe_int) (pa_cons pe_int (pa_cons pe_int (pa_cons (pe_un un_neg pe_int) (pa_cons (pe_op op_sub (pe_f G_law_draw (hr.mono (by omega)) (by rfl) pass0 (pa_cons (pv 0) (pa_cons pe_int pa_nil))) pe_int) pa_nil)))))))))
      (pss_one (ps_ret (pe_ifExp (pt_cmpR op_lt (pv 3) pe_int (nomark _)) (pe_f G_law_one (hr.mono (by omega)) (by rfl) pass0 (pa_cons (pv 0) (pa_cons (pv 1) pa_nil))) (pe_f G_law_one (hr.mono (by omega)) (by rfl) pass0 (pa_cons (pv 0) (pa_cons (pv 4) pa_nil)))))))
        pss_nil)
      (pss_cons (ps_if (pt_cmpR op_eq (pv 3) pe_int (nomark _)) (pss_one (ps_ret (pe_tup (pa_cons pe_str (pa_cons (pe_op op_sub (pe_f G_law_draw (hr.mono (by omega)) (by rfl) pass0 (pa_cons (pv 0) (pa_cons pe_int pa_nil))) pe_int) (pa_cons (pe_f G_law_expr (hr.mono (by omega)) (by rfl) pass0 (pa_cons (pv 0) (pa_cons (pv 1) (pa_cons (pe_op op_sub (pv 2) pe_int) pa_nil)))) pa_nil))))))
        pss_nil)
      (pss_one (ps_ret (pe_tup (pa_cons (pe_f G_law_one (hr.mono (by omega)) (by rfl) pass0 (pa_cons (pv 0) (pa_cons (pe_lst (pa_cons pe_str (pa_cons pe_str pa_nil))) pa_nil))) (pa_cons (pe_f G_law_expr (hr.mono (by omega)) (by rfl) pass0 (pa_cons (pv 0) (pa_cons (pv 1) (pa_cons (pe_op op_sub (pv 2) pe_int) pa_nil)))) (pa_cons (pe_f G_law_expr (hr.mono (by omega)) (by rfl) pass0 (pa_cons (pv 0) (pa_cons (pv 1) (pa_cons (pe_op op_sub (pv 2) pe_int) pa_nil)))) pa_nil))))))))), ?_⟩
    walk_at "rd"
    refine spDraw.use Dk (by omega) (by omega) (by omega) fun H1 r r0 r1 D1 k1 => ?_
    have N1 := N.kp k1 (by simp [n1, n2])
    walk_at "rd"
    refine ite2 (fun c1 => ?_) (fun c1 => ?_)
    all_goals simp only [Bool.or_eq_true, decide_eq_true_eq, V.int.injEq] at c1
    · walk_at "rd"
      refine spDraw.use D1 (by omega) (by omega) (by omega) fun H2 z z0 z1 D2 k2 => ?_
      walk_at "rd"
      refine ⟨by simp [sizeLine_eq], fun p hp => ?_⟩
      have k3 : Kp [d, c] H2 (upd H2 p (.lst [.int 0, .int 1, .int (-1), .int 2, .int 99, .int (-99), .int (z - 99)])) := (Kp.refl D2.ls).new hp
      have D3 := D2.kp (Kp.nil.new (o := .lst [.int 0, .int 1, .int (-1), .int 2, .int 99, .int (-99), .int (z - 99)]) hp) (by simp) (by simp)
      have h3 : upd H2 p (.lst [.int 0, .int 1, .int (-1), .int 2, .int 99, .int (-99), .int (z - 99)]) p = some (.lst [.int 0, .int 1, .int (-1), .int 2, .int 99, .int (-99), .int (z - 99)]) := upd_same
      have pd : p ≠ d := Ne.symm (ne_of_none D2.hd hp)
      have pc : p ≠ c := by
        obtain ⟨cs, hc, _⟩ := D2.hc
        exact Ne.symm (ne_of_none hc hp)
      generalize upd H2 p (.lst [.int 0, .int 1, .int (-1), .int 2, .int 99, .int (-99), .int (z - 99)]) = H3 at k3 D3 h3 ⊢
      have N3 := (N1.kp k2 (by simp [n1, n2])).kp k3 (by simp [n1, n2])
      walk_at "rd"
      refine ifd (fun c2 => ?_) (fun c2 => ?_)
      · walk_at "rd"
        refine spOne.list D3 (by omega) (SqL.of N3.h) n1 n2 (by rw [List.length_map]; exact N3.ne) (by rw [List.length_map]; have := N3.len; omega) fun H4 i x hx D4 k4 => ?_
        obtain ⟨y, rfl, hy⟩ := N3.item hx
        exact k H4 _ (.name y) _ D4 (by omega) (by omega) (((k1.trans k2).trans k3).trans k4) (.str y) hy
      · walk_at "rd"
        refine spOne.list D3 (by omega) (SqL.of h3) pd pc (by simp) (by simp) fun H4 i x hx D4 k4 => ?_
        have hx' : ∃ t : Int, x = .int t ∧ -99 ≤ t ∧ t ≤ 99 := by
          have hm := List.mem_of_getElem? hx
          simp only [List.mem_cons, List.not_mem_nil, or_false] at hm
          rcases hm with rfl | rfl | rfl | rfl | rfl | rfl | rfl <;> exact ⟨_, rfl, by omega, by omega⟩
        obtain ⟨t, rfl, t0, t1⟩ := hx'
        exact k H4 _ (.int t) _ D4 (by omega) (by omega) (((k1.trans k2).trans k3).trans k4) (.int t) ⟨t0, t1⟩
    · have m1 : 1 ≤ m := by omega
      obtain rfl := hsp m1
      have em : (((m + 1 : Nat) : Int) - 1) = (m : Int) := by omega
      walk_at "rd"
      refine ifd (fun c2 => ?_) (fun c2 => ?_)
      · walk_at "rd"
        refine spDraw.use D1 (by omega) (by omega) (by omega) fun H2 z z0 z1 D2 k2 => ?_
        have N2 := N1.kp k2 (by simp [n1, n2])
        walk_at "rd"
        rw [em]
        refine ⟨d, c, nm, _, xs, rfl, D2, by omega, N2, n1, n2, fun H3 v e n3 D3 q1 q2 k3 hv he => ?_⟩
        walk_at "rd"
        refine ⟨by simp [sizeLine_eq], fun p hp => ?_⟩
        have k4 : Kp [] H3 (upd H3 p (.tup [.str "times", .int (z - 9), v])) := Kp.nil.new hp
        refine k _ _ (.bin "times" (.int (z - 9)) e) n3 (D3.kp k4 (by simp) (by simp)) (by omega) (by omega) (((k1.trans k2).trans k3).new hp) (Dt.mk3 upd_same (.str _) (.int _) (hv.kp k4)) ⟨.inr (.inr rfl), Ex.ok_int m1 (by omega) (by omega), he⟩
      · walk_at "rd"
        refine ⟨by decide, fun p hp => ?_⟩
        have k2 : Kp [d, c] H1 (upd H1 p (.lst [.str "plus", .str "minus"])) := (Kp.refl D1.ls).new hp
        have D2 := D1.kp (Kp.nil.new (o := .lst [.str "plus", .str "minus"]) hp) (by simp) (by simp)
        have pd : p ≠ d := Ne.symm (ne_of_none D1.hd hp)
        have pc : p ≠ c := by
          obtain ⟨cs, hc, _⟩ := D1.hc
          exact Ne.symm (ne_of_none hc hp)
        have h2 : upd H1 p (.lst [.str "plus", .str "minus"]) p = some (.lst [.str "plus", .str "minus"]) := upd_same
        generalize upd H1 p (.lst [.str "plus", .str "minus"]) = H2 at k2 D2 h2 ⊢
        have N2 := N1.kp k2 (by simp [n1, n2])
        walk_at "rd"
        refine spOne.list D2 (by omega) (SqL.of h2) pd pc (by simp) (by simp) fun H3 i x hx D3 k3 => ?_
        have hx' : ∃ t : Str, x = .str t ∧ IsOp t := by
          have hm := List.mem_of_getElem? hx
          simp only [List.mem_cons, List.not_mem_nil, or_false] at hm
          rcases hm with rfl | rfl
          · exact ⟨_, rfl, .inl rfl⟩
          · exact ⟨_, rfl, .inr (.inl rfl)⟩
        obtain ⟨t, rfl, ht⟩ := hx'
        have N3 := N2.kp k3 (by simp [n1, n2])
        walk_at "rd"
        rw [em]
        refine ⟨d, c, nm, _, xs, rfl, D3, by omega, N3, n1, n2, fun H4 v e n4 D4 q1 q2 k4 hv he => ?_⟩
        have N4 := N3.kp k4 (by simp [n1, n2])
        walk_at "rd"
        rw [em]
        refine ⟨d, c, nm, _, xs, rfl, D4, by omega, N4, n1, n2, fun H5 v2 e2 n5 D5 q3 q4 k5 hv2 he2 => ?_⟩
        walk_at "rd"
        refine ⟨by simp [sizeLine_eq], fun p6 hp6 => ?_⟩
        have k6 : Kp [] H5 (upd H5 p6 (.tup [.str t, v, v2])) := Kp.nil.new hp6
        exact k _ _ (.bin t e e2) n5 (D5.kp k6 (by simp) (by simp)) (by omega) (by omega) (((((k1.trans k2).trans k3).trans k4).trans k5).new hp6) (Dt.mk3 upd_same (.str _) ((hv.kp k5).kp k6) (hv2.kp k6)) ⟨ht, he, he2⟩
abbrev s_law_test : Stmt := topS 72
abbrev N_law_test : List Str := ["_law_deck_here", "_law_names_here", "_law_sort", "_law_test_here", "_law_by", "_law_left", "_law_k"]
abbrev P_law_test : List Str := ["_law_deck_here", "_law_names_here", "_law_sort"]
theorem sc_law_test : FnScope N_law_test P_law_test (defScope s_law_test) :=
  ⟨rfl, rfl, rfl, by decide +kernel, rfl, by decide +kernel, by decide +kernel⟩
theorem ok_law_test (D : Df K mg "_law_test" s_law_test P_law_test) (B : Blt mg)
    (G_law_draw : Has P w K mg base CX0 "_law_draw" ["_law_deck_here", "_law_many"] 1 spDraw) (G_law_one : Has P w K mg base CX0 "_law_one" ["_law_deck_here", "_law_items"] 2 (spOne K))
    (G_law_expr : Has P w K mg base CX0 "_law_expr" ["_law_deck_here", "_law_names_here", "_law_deep"] 5 (spExprA K)) :
    Has P w K mg base CX0 "_law_test" P_law_test 6 (spTest K) := by
  refine D.has sc_law_test (fun vs H Q E h => ?_) (fun f cdv A outer s H vs Q E hr h => ?_)
  · obtain ⟨d, c, nm, n, so, xs, rfl, _⟩ := h
    rfl
  obtain ⟨d, c, nm, n, so, xs, rfl, Dk, hn, N, n1, n2, k⟩ := h
  have n0 := Dk.n0
  refine ⟨_, (pss_cons (ps_set (i := 3) sc_law_test.nd rfl (Or.inl rfl) (pe_tup (pa_cons pe_str (pa_cons (pe_f G_law_one (hr.mono (by omega)) (by rfl) pass0 (pa_cons (pv 0) (pa_cons (pe_op op_cat (pv 1) (pe_lst (pa_cons pe_str pa_nil))) pa_nil))) pa_nil))))
      (pss_cons (ps_if (pt_cmpR op_eq (pv 2) pe_int (nomark _)) (pss_cons (ps_set (i := 4) sc_law_test.nd rfl (Or.inl rfl) (pe_op op_add pe_int (pe_f G_law_draw (hr.mono (by omega)) (by rfl) pass0 (pa_cons (pv 0) (pa_cons pe_int pa_nil)))))
      (pss_one (ps_set (i := 3) sc_law_test.nd rfl (Or.inl rfl) (pe_tup (pa_cons pe_str (pa_cons (pe_f G_law_expr (hr.mono (by omega)) (by rfl) pass0 (pa_cons (pv 0) (pa_cons (pv 1) (pa_cons (pe_op op_add pe_int (pe_f G_law_draw (hr.mono (by omega)) (by rfl) pass0 (pa_cons (pv 0) (pa_cons pe_int pa_nil)))) pa_nil)))) (pa_cons (pv 4) (pa_cons (pe_f G_law_draw (hr.mono (by omega)) (by rfl) pass0 (pa_cons (pv 0) (pa_cons (pv 4) pa_nil))) pa_nil))))))))
        pss_nil)
      (pss_cons (ps_if (pt_cmpR op_eq (pv 2) pe_int (nomark _)) (pss_cons (ps_set (i := 5) sc_law_test.nd rfl (Or.inl rfl) (pe_f G_law_expr (hr.mono (by omega)) (by rfl) pass0 (pa_cons (pv 0) (pa_cons (pv 1) (pa_cons (pe_op op_add pe_int (pe_f G_law_draw (hr.mono (by omega)) (by rfl) pass0 (pa_cons (pv 0) (pa_cons pe_int pa_nil)))) pa_nil)))))
      (pss_one (ps_set (i := 3) sc_law_test.nd rfl (Or.inl rfl) (pe_tup (pa_cons pe_str (pa_cons (pv 5) (pa_cons (pe_f G_law_expr (hr.mono (by omega)) (by rfl) pass0 (pa_cons (pv 0) (pa_cons (pv 1) (pa_cons (pe_op op_add pe_int (pe_f G_law_draw (hr.mono (by omega)) (by rfl) pass0 (pa_cons (pv 0) (pa_cons pe_int pa_nil)))) pa_nil)))) pa_nil)))))))
        pss_nil)
      (pss_cons (ps_for PassesOwn.never rfl (pi_range1 (by rfl) B.range (pa_cons (pe_f G_law_one (hr.mono (by omega)) (by rfl) pass0 (pa_cons (pv 0) (pa_cons (pe_lst (pa_cons pe_int (pa_cons pe_int (pa_cons pe_int (pa_cons pe_int pa_nil))))) pa_nil))) pa_nil)) (pg_name (i := 6) sc_law_test.nd rfl (Or.inl rfl))
        (pss_one (ps_set (i := 3) sc_law_test.nd rfl (Or.inl rfl) (pe_tup (pa_cons pe_str (pa_cons (pv 3) pa_nil))))))
      (pss_one (ps_ret (pv 3))))))), ?_⟩
  walk_at "rd"
  refine ⟨by decide, fun p hp => ?_⟩
  have k1 : Kp [d, c] H (upd H p (.lst [.str "y"])) := (Kp.refl Dk.ls).new hp
  have D1 := Dk.kp (Kp.nil.new (o := .lst [.str "y"]) hp) (by simp) (by simp)
  have N1 := N.kp k1 (by simp [n1, n2])
  have h1 : upd H p (.lst [.str "y"]) p = some (.lst [.str "y"]) := upd_same
  generalize upd H p (.lst [.str "y"]) = H1 at k1 D1 h1 N1 ⊢
  refine r_cat N1.h h1 (by have := N1.len; walk_at "sz") fun p2 hp2 => ?_
  have k2 : Kp [d, c] H1 (upd H1 p2 (.lst (xs.map V.str ++ [.str "y"]))) := (Kp.refl D1.ls).new hp2
  have D2 := D1.kp (Kp.nil.new (o := .lst (xs.map V.str ++ [.str "y"])) hp2) (by simp) (by simp)
  have N2 := N1.kp k2 (by simp [n1, n2])
  have h2 : upd H1 p2 (.lst (xs.map V.str ++ [.str "y"])) p2 = some (.lst ((xs ++ [("y" : Str)]).map V.str)) := by rw [upd_same, List.map_append]; rfl
  have pd : p2 ≠ d := Ne.symm (ne_of_none D1.hd hp2)
  have pc : p2 ≠ c := by
    obtain ⟨cs, hc, _⟩ := D1.hc
    exact Ne.symm (ne_of_none hc hp2)
  generalize upd H1 p2 (.lst (xs.map V.str ++ [.str "y"])) = H2 at k2 D2 h2 N2 ⊢
  refine spOne.list D2 (by omega) (SqL.of h2) pd pc (by simp) (by have := N.len; simp; omega) fun H3 i x hx D3 k3 => ?_
  have hx' : ∃ z : Str, x = .str z ∧ Sok z 8 := by
    rw [List.getElem?_map] at hx
    obtain ⟨z, hz, rfl⟩ := Option.map_eq_some_iff.mp hx
    refine ⟨z, rfl, ?_⟩
    rcases List.mem_append.mp (List.mem_of_getElem? hz) with hm | hm
    · exact N.ok z hm
    · rw [List.mem_singleton.mp hm]
      exact Sok.lit (by decide +kernel)
  obtain ⟨z, rfl, hz⟩ := hx'
  walk_at "rd"
  refine ⟨by simp [sizeLine_eq], fun p4 hp4 => ?_⟩
  have k4 : Kp [] H3 (upd H3 p4 (.tup [.str "given", .str z])) := Kp.nil.new hp4
  have D4 := D3.kp k4 (by simp) (by simp)
  have kk : Kp [d, c] H (upd H3 p4 (.tup [.str "given", .str z])) := ((k1.trans k2).trans k3).new hp4
  have v4 : Dt K (upd H3 p4 (.tup [.str "given", .str z])) (.ref p4) (Ts.given z).d := Dt.mk2 upd_same (.str _) (.str _)
  have N4 := N.kp kk (by simp [n1, n2])
  generalize upd H3 p4 (.tup [.str "given", .str z]) = H4 at k4 D4 kk v4 N4 ⊢
  clear hp2 h2 N2 N1 h1 k1 k2 k3 k4 D1 D2 D3 hp hp4
  walk_at "rds"
  with_reducible refine r_seqJ (fun σ H' => ∃ (v : V) (t : Ts) (n' : Int) (b : Option V), σ = [some (.ref d), some (.ref nm), some (.int so), some v, b, none, none] ∧ Deck H' d c n' ∧ n ≤ n' ∧ n' ≤ n + 25 ∧ Kp [d, c] H H' ∧ Dt K H' v t.d ∧ t.ok 0) (fun nx' kn => ?_) ?_
  · walk_at "rd"
    refine ifd (fun c1 => ?_) (fun c1 => ?_)
    · walk_at "rd"
      refine spDraw.use D4 (by omega) (by omega) (by omega) fun H5 r r0 r1 D5 k5 => ?_
      have N5 := N4.kp k5 (by simp [n1, n2])
      walk_at "rd"
      refine spDraw.use D5 (by omega) (by omega) (by omega) fun H6 u u0 u1 D6 k6 => ?_
      have N6 := N5.kp k6 (by simp [n1, n2])
      walk_at "rd"
      refine spExprA.use D6 (by omega) N6 n1 n2 (by omega) (by omega) fun H7 v e n7 D7 q1 q2 k7 hv he => ?_
      walk_at "rd"
      refine spDraw.use D7 (by omega) (by omega) (by omega) fun H8 y y0 y1 D8 k8 => ?_
      walk_at "rd"
      refine ⟨by simp [sizeLine_eq], fun p9 hp9 => ?_⟩
      have k9 : Kp [] H8 (upd H8 p9 (.tup [.str "rest", v, .int (2 + r), .int y])) := Kp.nil.new hp9
      refine kn _ _ ⟨_, .rest e (2 + r) y, _, _, rfl, D8.kp k9 (by simp) (by simp), by omega, by omega, ((((kk.trans k5).trans k6).trans k7).trans k8).new hp9, ?_, ⟨he, by omega, by omega, by omega, by omega⟩⟩
      exact Dt.mk4 upd_same (.str _) ((hv.kp k8).kp k9) (.int _) (.int _)
    · walk_at "rd"
      exact kn _ _ ⟨_, .given z, _, _, rfl, D4, by omega, by omega, kk, v4, hz⟩
  rintro σ H5 ⟨v5, t5, n5, b5, rfl, D5, q1, q2, kk5, hv5, ht5⟩
  have N5 := N.kp kk5 (by simp [n1, n2])
  clear D4 kk v4 N4 Dk
  walk_at "rds"
  with_reducible refine r_seqJ (fun σ H' => ∃ (v : V) (t : Ts) (n' : Int) (b l : Option V), σ = [some (.ref d), some (.ref nm), some (.int so), some v, b, l, none] ∧ Deck H' d c n' ∧ n ≤ n' ∧ n' ≤ n + 75 ∧ Kp [d, c] H H' ∧ Dt K H' v t.d ∧ t.ok 0) (fun nx' kn => ?_) ?_
  · walk_at "rd"
    refine ifd (fun c1 => ?_) (fun c1 => ?_)
    · walk_at "rd"
      refine spDraw.use D5 (by omega) (by omega) (by omega) fun H6 u u0 u1 D6 k6 => ?_
      have N6 := N5.kp k6 (by simp [n1, n2])
      walk_at "rd"
      refine spExprA.use D6 (by omega) N6 n1 n2 (by omega) (by omega) fun H7 v e n7 D7 q3 q4 k7 hv he => ?_
      have N7 := N6.kp k7 (by simp [n1, n2])
      walk_at "rd"
      refine spDraw.use D7 (by omega) (by omega) (by omega) fun H8 y y0 y1 D8 k8 => ?_
      have N8 := N7.kp k8 (by simp [n1, n2])
      walk_at "rd"
      refine spExprA.use D8 (by omega) N8 n1 n2 (by omega) (by omega) fun H9 v9 e9 n9 D9 q5 q6 k9 hv9 he9 => ?_
      walk_at "rd"
      refine ⟨by simp [sizeLine_eq], fun pa hpa => ?_⟩
      have ka : Kp [] H9 (upd H9 pa (.tup [.str "less", v, v9])) := Kp.nil.new hpa
      refine kn _ _ ⟨_, .less e e9, _, _, _, rfl, D9.kp ka (by simp) (by simp), by omega, by omega, ((((kk5.trans k6).trans k7).trans k8).trans k9).new hpa, ?_, ⟨he, he9⟩⟩
      exact Dt.mk3 upd_same (.str _) (((hv.kp k8).kp k9).kp ka) (hv9.kp ka)
    · walk_at "rd"
      exact kn _ _ ⟨_, t5, _, _, _, rfl, D5, by omega, by omega, kk5, hv5, ht5⟩
  rintro σ H6 ⟨v6, t6, n6, b6, l6, rfl, D6, q3, q4, kk6, hv6, ht6⟩
  walk_at "rd"
  refine ⟨by decide, fun p7 hp7 => ?_⟩
  have k7 : Kp [d, c] H6 (upd H6 p7 (.lst [.int 0, .int 0, .int 1, .int 2])) := (Kp.refl D6.ls).new hp7
  have D7 := D6.kp (Kp.nil.new (o := .lst [.int 0, .int 0, .int 1, .int 2]) hp7) (by simp) (by simp)
  have h7 : upd H6 p7 (.lst [.int 0, .int 0, .int 1, .int 2]) p7 = some (.lst [.int 0, .int 0, .int 1, .int 2]) := upd_same
  have pd : p7 ≠ d := Ne.symm (ne_of_none D6.hd hp7)
  have pc : p7 ≠ c := by
    obtain ⟨cs, hc, _⟩ := D6.hc
    exact Ne.symm (ne_of_none hc hp7)
  generalize upd H6 p7 (.lst [.int 0, .int 0, .int 1, .int 2]) = H7 at k7 D7 h7 ⊢
  refine spOne.list D7 (by omega) (SqL.of h7) pd pc (by simp) (by simp) fun H8 i x hx D8 k8 => ?_
  have hx' : ∃ u : Int, x = .int u ∧ 0 ≤ u ∧ u ≤ 2 := by
    have hm := List.mem_of_getElem? hx
    simp only [List.mem_cons, List.not_mem_nil, or_false] at hm
    rcases hm with rfl | rfl | rfl | rfl <;> exact ⟨_, rfl, by omega, by omega⟩
  obtain ⟨u, rfl, u0, u1⟩ := hx'
  walk_at "rd"
  refine r_ForR (fun i σ H' => ∃ (v : V) (t : Ts) (b l kx : Option V), σ = [some (.ref d), some (.ref nm), some (.int so), some v, b, l, kx] ∧ Deck H' d c (n6 + 1) ∧ Kp [d, c] H H' ∧ Dt K H' v t.d ∧ t.ok i)
    (by omega) (by omega) ⟨_, t6, _, _, _, rfl, D8, (kk6.trans k7).trans k8, (hv6.kp k7).kp k8, ht6⟩ ?_ ?_
  · rintro i σ H9 hi ⟨v, t, b, l, kx, rfl, D9, k9, hv, ht⟩
    walk_at "rd"
    refine ⟨by simp [sizeLine_eq], fun pa hpa => ?_⟩
    have ka : Kp [] H9 (upd H9 pa (.tup [.str "not", v])) := Kp.nil.new hpa
    walk_at "rd"
    exact ⟨_, .not t, _, _, _, rfl, D9.kp ka (by simp) (by simp), k9.new hpa, Dt.mk2 upd_same (.str _) (hv.kp ka), ht⟩
  · rintro σ H9 ⟨v, t, b, l, kx, rfl, D9, k9, hv, ht⟩
    walk_at "rd"
    exact k _ _ t _ D9 (by omega) (by omega) k9 hv (ht.mono (by omega))
abbrev s_law_block : Stmt := topS 73
abbrev N_law_block : List Str := ["_law_deck_here", "_law_names_here", "_law_depth", "_law_times", "_law_left", "_law_found", "_law_k"]
abbrev P_law_block : List Str := ["_law_deck_here", "_law_names_here", "_law_depth", "_law_times", "_law_left"]
theorem sc_law_block : FnScope N_law_block P_law_block (defScope s_law_block) :=
  ⟨rfl, rfl, rfl, by decide +kernel, rfl, by decide +kernel, by decide +kernel⟩
theorem ok_law_block (D : Df K mg "_law_block" s_law_block P_law_block) (B : Blt mg) {e lv : Nat} (hlv : 3 ≤ lv)
    (G_law_one : Has P w K mg base CX0 "_law_one" ["_law_deck_here", "_law_items"] 2 (spOne K))
    (G_law_statement : Has P w K mg base CX0 "_law_statement" ["_law_deck_here", "_law_names_here", "_law_depth", "_law_times", "_law_left"] lv (spStmt K e)) :
    Has P w K mg base CX0 "_law_block" P_law_block (lv + 1) (spBlock K e) := by
  refine D.has sc_law_block (fun vs H Q E h => ?_) (fun f cdv A outer s H vs Q E hr h => ?_)
  · obtain ⟨d, c, nm, l, n, dep, ti, a, b, r, s, xs, rfl, _⟩ := h
    rfl
  obtain ⟨d, c, nm, l, n, dep, ti, a, b, r, s, xs, rfl, Dk, hn, N, n1, n2, n3, l1, l2, hL, ha, ha1, hdep, k⟩ := h
  have n0 := Dk.n0
  refine ⟨_, (pss_cons (ps_set (i := 5) sc_law_block.nd rfl (Or.inl rfl) (pe_lst pa_nil))
      (pss_cons (ps_for PassesOwn.never rfl (pi_range1 (by rfl) B.range (pa_cons (pe_op op_add (pe_f G_law_one (hr.mono (by omega)) (by rfl) pass0 (pa_cons (pv 0) (pa_cons (pe_lst (pa_cons pe_int (pa_cons pe_int (pa_cons pe_int (pa_cons pe_int (pa_cons pe_int pa_nil)))))) pa_nil))) (pe_callTy c_int (by rfl) B.int (by decide +kernel) (pa_cons (pe_cmpR op_eq (pv 2) pe_int (nomark _)) pa_nil))) pa_nil)) (pg_name (i := 6) sc_law_block.nd rfl (Or.inl rfl))
        (pss_one (ps_if (PW.pt (pw_and (pt_cmpR op_gt (pe_ix ix_list (pv 4) pe_int (fun _ _ => rfl)) pe_int (nomark _)) (pw_and1 (pt_cmpR op_ge (pe_ix ix_list (pv 4) pe_int (fun _ _ => rfl)) (pv 3) (nomark _))))) (pss_one (ps_expr (pe_bm PySem.F.plainAttrs_list PySem.F.slot_list_append PySem.F.type_list_append mt_append (pv 5) (pa_cons (pe_f G_law_statement (hr.mono (by omega)) (by rfl) pass0 (pa_cons (pv 0) (pa_cons (pv 1) (pa_cons (pv 2) (pa_cons (pv 3) (pa_cons (pv 4) pa_nil)))))) pa_nil))))
        pss_nil)))
      (pss_one (ps_ret (pe_callTy c_tup (by rfl) B.tuple (by decide +kernel) (pa_cons (pv 5) pa_nil)))))), ?_⟩
  walk_at "rd"
  refine ⟨by decide, fun q hq => ?_⟩
  have hqd : q ≠ d := Ne.symm (ne_of_none Dk.hd hq)
  have hqc : q ≠ c := by
    obtain ⟨cs, hc, _⟩ := Dk.hc
    exact Ne.symm (ne_of_none hc hq)
  have hql : q ≠ l := Ne.symm (ne_of_none (show H l = _ from hL) hq)
  have hqn : q ≠ nm := Ne.symm (ne_of_none N.h hq)
  have ls : Ls [d, c, l] H := by
    intro z hz
    rcases List.mem_cons.mp hz with rfl | hz
    · exact ⟨_, Dk.hd⟩
    rcases List.mem_cons.mp hz with rfl | hz
    · obtain ⟨cs, hc, _⟩ := Dk.hc
      exact ⟨_, hc⟩
    · rw [List.mem_singleton.mp hz]
      exact ⟨_, hL⟩
  have k1 : Kp [d, c, l] H (upd H q (.lst [])) := (Kp.refl ls).new hq
  have k1' : Kp [] H (upd H q (.lst [])) := Kp.nil.new hq
  have D1 := Dk.kp k1' (by simp) (by simp)
  have L1 : Lft (upd H q (.lst [])) l a b r s := k1'.get hL (by simp)
  have q1 : upd H q (.lst []) q = some (.lst []) := upd_same
  generalize upd H q (.lst []) = H1 at k1 k1' D1 L1 q1 ⊢
  walk_at "rd"
  refine ⟨by decide, fun p hp => ?_⟩
  have k2' : Kp [] H1 (upd H1 p (.lst [.int 1, .int 2, .int 2, .int 3, .int 4])) := Kp.nil.new hp
  have D2 := D1.kp k2' (by simp) (by simp)
  have p2 : upd H1 p (.lst [.int 1, .int 2, .int 2, .int 3, .int 4]) p = some (.lst [.int 1, .int 2, .int 2, .int 3, .int 4]) := upd_same
  have k2 : Kp [d, c, l] H (upd H1 p (.lst [.int 1, .int 2, .int 2, .int 3, .int 4])) := k1.new hp
  have L2 : Lft (upd H1 p (.lst [.int 1, .int 2, .int 2, .int 3, .int 4])) l a b r s := k2'.get L1 (by simp)
  have q2 := k2'.get q1 (by simp)
  have pd : p ≠ d := Ne.symm (ne_of_none D1.hd hp)
  have pc : p ≠ c := by
    obtain ⟨cs, hc, _⟩ := D1.hc
    exact Ne.symm (ne_of_none hc hp)
  generalize upd H1 p (.lst [.int 1, .int 2, .int 2, .int 3, .int 4]) = H2 at k2 D2 p2 L2 q2 ⊢
  refine spOne.list D2 (by omega) (SqL.of p2) pd pc (by simp) (by simp) fun H3 i x hx D3 k3 => ?_
  have hx' : ∃ u : Int, x = .int u ∧ 1 ≤ u ∧ u ≤ 4 := by
    have hm := List.mem_of_getElem? hx
    simp only [List.mem_cons, List.not_mem_nil, or_false] at hm
    rcases hm with rfl | rfl | rfl | rfl | rfl <;> exact ⟨_, rfl, by omega, by omega⟩
  obtain ⟨u, rfl, u0, u1⟩ := hx'
  have k3' : Kp [d, c, l] H2 H3 := k3.sub (fun z hz => by
    rcases List.mem_cons.mp hz with rfl | hz
    · exact ⟨_, D2.hd⟩
    rcases List.mem_cons.mp hz with rfl | hz
    · obtain ⟨cs, hc, _⟩ := D2.hc
      exact ⟨_, hc⟩
    · rw [List.mem_singleton.mp hz]
      exact ⟨_, L2⟩) (by simp)
  have kk3 := k2.trans k3'
  have L3 : Lft H3 l a b r s := k3.get L2 (by simp [l1, l2])
  have q3 := k3.get q2 (by simp [hqd, hqc])
  walk_at "rd"
  generalize ew : u + (if decide (V.int dep = V.int 0) = true then 1 else 0) = m
  have hm0 : 0 ≤ m ∧ m ≤ 5 := by
    rw [← ew]
    split <;> omega
  refine r_ForR (fun i σ H' => ∃ (vs : List V) (x : List Sm) (n' a' b' r' s' : Int) (kx : Option V), σ = [some (.ref d), some (.ref nm), some (.int dep), some (.int ti), some (.ref l), some (.ref q), kx] ∧
      Deck H' d c n' ∧ n ≤ n' ∧ n' ≤ n + 1 + 150 * (a - a') ∧ Lft H' l a' b' r' s' ∧ 0 ≤ a' ∧ (Sm.sizes x : Int) ≤ a - a' ∧ Kp [d, c, l] H H' ∧ H' q = some (.lst vs) ∧ DtL K H' vs (Sm.ds x) ∧ vs.length ≤ i ∧ ∀ s ∈ x, Sm.ok e s)
    (by omega) (by omega) ⟨[], [], n + 1, a, b, r, s, none, rfl, D3, by omega, by omega, L3, ha, by rw [Sm.sizes]; omega, kk3, q3, by rw [Sm.ds]; exact DtL.nil, Nat.le_refl _, fun _ h => (nomatch h)⟩ ?_ ?_
  · rintro i σ H4 hi ⟨vs, x, n4, a4, b4, r4, s4, kx, rfl, D4, m1, m2, L4, a40, sz4, k4, q4, t4, v4, o4⟩
    have L4' := L4
    unfold Lft at L4'
    walk_at "rd"
    refine ite2 (fun c1 => ?_) (fun c1 => ?_)
    · simp only [Bool.and_eq_true, decide_eq_true_eq] at c1
      walk_at "rd"
      refine ⟨d, c, nm, l, n4, dep, ti, a4, b4, r4, s4, xs, rfl, D4, by omega, N.kp k4 (by simp [n1, n2, n3]), n1, n2, n3, l1, l2, L4, by omega, by omega, hdep, fun H5 v y n5 a5 b5 r5 s5 D5 m3 m4 L5 a50 sz5 k5 hv hy => ?_⟩
      have q5 := k5.get q4 (by simp [hqd, hqc, hql])
      walk_at "rd"
      · have k6 := kpW (o := .lst (vs ++ [v])) q5
        refine ⟨vs ++ [v], x ++ [y], n5, a5, b5, r5, s5, _, rfl, D5.kp k6 (by simp [Ne.symm hqd]) (by simp [Ne.symm hqc]), by omega, by omega, k6.get L5 (by simp [Ne.symm hql]), a50, ?_, (k4.trans k5).own hq, upd_same, ?_, ?_, ?_⟩
        · rw [Sm.sizes_snoc]
          omega
        · rw [Sm.ds_snoc]
          exact ((t4.kp k5).kp k6).snoc (hv.kp k6)
        · rw [List.length_append, List.length_singleton]
          omega
        · intro z hz
          rcases List.mem_append.mp hz with hz | hz
          · exact o4 z hz
          · rw [List.mem_singleton.mp hz]
            exact hy
      · walk_at "sz"
    · walk_at "rd"
      exact ⟨vs, x, n4, a4, b4, r4, s4, _, rfl, D4, m1, m2, L4, a40, sz4, k4, q4, t4, by omega, o4⟩
  · rintro σ H4 ⟨vs, x, n4, a4, b4, r4, s4, kx, rfl, D4, m1, m2, L4, a40, sz4, k4, q4, t4, v4, o4⟩
    walk_at "rd"
    refine r_tupL (SqL.of q4) fun t ht => ?_
    have k5 : Kp [] H4 (upd H4 t (.tup vs)) := Kp.nil.new ht
    exact k _ _ x n4 a4 b4 r4 s4 (D4.kp k5 (by simp) (by simp)) m1 m2 (k5.get L4 (by simp)) a40 sz4 (k4.new ht) ((t4.kp k5).tup upd_same) o4
abbrev s_law_if : Stmt := topS 74
abbrev N_law_if : List Str := ["_law_deck_here", "_law_names_here", "_law_depth", "_law_times", "_law_left", "_law_at", "_law_test_here", "_law_yes", "_law_no"]
abbrev P_law_if : List Str := ["_law_deck_here", "_law_names_here", "_law_depth", "_law_times", "_law_left", "_law_at"]
theorem sc_law_if : FnScope N_law_if P_law_if (defScope s_law_if) :=
  ⟨rfl, rfl, rfl, by decide +kernel, rfl, by decide +kernel, by decide +kernel⟩
theorem ok_law_if (D : Df K mg "_law_if" s_law_if P_law_if) (B : Blt mg) {e lv : Nat} (hlv : 6 ≤ lv)
    (G_law_draw : Has P w K mg base CX0 "_law_draw" ["_law_deck_here", "_law_many"] 1 spDraw)
    (G_law_test : Has P w K mg base CX0 "_law_test" ["_law_deck_here", "_law_names_here", "_law_sort"] 6 (spTest K))
    (G_law_block : Has P w K mg base CX0 "_law_block" ["_law_deck_here", "_law_names_here", "_law_depth", "_law_times", "_law_left"] lv (spBlock K e)) :
    Has P w K mg base CX0 "_law_if" P_law_if (lv + 1) (spIf K e) := by
  refine D.has sc_law_if (fun vs H Q E h => ?_) (fun f cdv A outer s H vs Q E hr h => ?_)
  · obtain ⟨d, c, nm, l, n, dep, ti, a, b, r, s, at_, xs, rfl, _⟩ := h
    rfl
  obtain ⟨d, c, nm, l, n, dep, ti, a, b, r, s, at_, xs, rfl, Dk, hn, N, n1, n2, n3, l1, l2, hL, ha, ha1, hdep, at0, at1, k⟩ := h
  have n0 := Dk.n0
  refine ⟨_, (pss_cons (ps_if (pt_cmpR op_lt (pv 5) pe_int (nomark _)) (pss_one (ps_asg (pe_op op_sub (pe_ix ix_list (pv 4) (pv 5) (fun _ _ => rfl)) (pv 3)) (pg_sub (pv 4) (pv 5) set_list)))
        pss_nil)
      (pss_cons (ps_par3 (i := 6) (j := 7) (l := 8) (by rfl) sc_law_if.nd rfl rfl rfl (by decide) (by decide) (by decide) rfl rfl rfl (pa_cons (pe_f G_law_test (hr.mono (by omega)) (by rfl) pass0 (pa_cons (pv 0) (pa_cons (pv 1) (pa_cons (pv 5) pa_nil)))) (pa_cons (pe_tup pa_nil) (pa_cons (pe_tup pa_nil) pa_nil))) (by rfl))
      (pss_cons (ps_if (pt_cmpR op_gt (pe_f G_law_draw (hr.mono (by omega)) (by rfl) pass0 (pa_cons (pv 0) (pa_cons pe_int pa_nil))) pe_int (nomark _)) (pss_one (ps_set (i := 7) sc_law_if.nd rfl (Or.inl rfl) (pe_f G_law_block (hr.mono (by omega)) (by rfl) pass0 (pa_cons (pv 0) (pa_cons (pv 1) (pa_cons (pe_op op_add (pv 2) pe_int) (pa_cons (pv 3) (pa_cons (pv 4) pa_nil))))))))
        pss_nil)
      (pss_cons (ps_if (pt_cmpR op_gt (pe_f G_law_draw (hr.mono (by omega)) (by rfl) pass0 (pa_cons (pv 0) (pa_cons pe_int pa_nil))) pe_int (nomark _)) (pss_one (ps_set (i := 8) sc_law_if.nd rfl (Or.inl rfl) (pe_f G_law_block (hr.mono (by omega)) (by rfl) pass0 (pa_cons (pv 0) (pa_cons (pv 1) (pa_cons (pe_op op_add (pv 2) pe_int) (pa_cons (pv 3) (pa_cons (pv 4) pa_nil))))))))
        pss_nil)
      (pss_one (ps_ret (pe_tup (pa_cons pe_str (pa_cons (pv 6) (pa_cons (pv 7) (pa_cons (pv 8) pa_nil))))))))))), ?_⟩
  with_reducible refine r_seqJ (fun σ H' => σ = [some (.ref d), some (.ref nm), some (.int dep), some (.int ti), some (.ref l), some (.int at_), none, none, none] ∧
    ∃ r1 s1, Lft H' l a b r1 s1 ∧ Deck H' d c n ∧ Kp [d, c, l] H H') (fun nx' kn => ?_) ?_
  · have hL' := hL
    unfold Lft at hL'
    walk_at "rd"
    refine ifd (fun c1 => ?_) (fun c1 => ?_)
    · have kw : ∀ o, Kp [l] H (upd H l o) := fun o => kpW hL'
      have kw3 : ∀ o, Kp [d, c, l] H (upd H l o) := fun o => (Kp.refl (Dk.ls3 hL')).write (by simp)
      have ne1 : d ∉ [l] := by simp [Ne.symm l1]
      have ne2 : c ∉ [l] := by simp [Ne.symm l2]
      rcases (show at_ = 2 ∨ at_ = 3 by omega) with rfl | rfl
      · walk_at "rd"
        exact kn _ _ ⟨rfl, _, _, upd_same, Dk.kp (kw _) ne1 ne2, kw3 _⟩
      · walk_at "rd"
        exact kn _ _ ⟨rfl, _, _, upd_same, Dk.kp (kw _) ne1 ne2, kw3 _⟩
    · walk_at "rd"
      exact kn _ _ ⟨rfl, r, s, hL, Dk, Kp.refl (Dk.ls3 hL')⟩
  rintro σ H1 ⟨rfl, r1, s1, L1, D1, k1⟩
  have N1 := N.kp k1 (by simp [n1, n2, n3])
  walk_at "rd"
  refine ⟨d, c, nm, n, at_, xs, rfl, D1, by omega, N1, n1, n2, fun H2 v t nn2 D2 q1 q2 k2 hv ht => ?_⟩
  have L2 : Lft H2 l a b r1 s1 := k2.get L1 (by simp [l1, l2])
  have k2' := k1.trans (k2.sub (D1.ls3 L1) (by simp))
  have N2 := N1.kp k2 (by simp [n1, n2])
  walk_at "rd"
  refine ⟨by decide, fun p3 hp3 => ?_⟩
  have k3 : Kp [] H2 (upd H2 p3 (.tup [])) := Kp.nil.new hp3
  have D3 := D2.kp k3 (by simp) (by simp)
  have L3 : Lft (upd H2 p3 (.tup [])) l a b r1 s1 := k3.get L2 (by simp)
  have kk3 := k2'.new (o := .tup []) hp3
  have v3 := hv.kp k3
  have y3 : Dt K (upd H2 p3 (.tup [])) (.ref p3) (.tuple []) := Dt.mk0 upd_same
  have N3 := N2.kp k3 (by simp)
  generalize upd H2 p3 (.tup []) = H3 at D3 L3 kk3 v3 y3 N3 ⊢
  walk_at "rd"
  refine ⟨by decide, fun p4 hp4 => ?_⟩
  have k4 : Kp [] H3 (upd H3 p4 (.tup [])) := Kp.nil.new hp4
  have D4 := D3.kp k4 (by simp) (by simp)
  have L4 : Lft (upd H3 p4 (.tup [])) l a b r1 s1 := k4.get L3 (by simp)
  have kk4 := kk3.new (o := .tup []) hp4
  have v4 := v3.kp k4
  have y4 := y3.kp k4
  have z4 : Dt K (upd H3 p4 (.tup [])) (.ref p4) (.tuple []) := Dt.mk0 upd_same
  have N4 := N3.kp k4 (by simp)
  generalize upd H3 p4 (.tup []) = H4 at D4 L4 kk4 v4 y4 z4 N4 ⊢
  clear hv y3 v3 N3 N2 k2' kk3 D3 L3 k1 D1 L1 k2 k3 k4 D2 L2 hp3 hp4 N1
  walk_at "rds"
  with_reducible refine r_seqJ (fun σ H' => ∃ (yv : V) (y : List Sm) (n' a' b' r' s' : Int), σ = [some (.ref d), some (.ref nm), some (.int dep), some (.int ti), some (.ref l), some (.int at_), some v, some yv, some (.ref p4)] ∧
    Deck H' d c n' ∧ n ≤ n' ∧ n' ≤ n + 82 + 150 * (a - a') ∧ Lft H' l a' b' r' s' ∧ 0 ≤ a' ∧ a' ≤ a ∧ (Sm.sizes y : Int) ≤ a - a' ∧ Kp [d, c, l] H H' ∧ Dt K H' v t.d ∧ Dt K H' yv (.tuple (Sm.ds y)) ∧ (∀ s ∈ y, Sm.ok e s) ∧ Dt K H' (.ref p4) (.tuple [])) (fun nx' kn => ?_) ?_
  · walk_at "rd"
    refine spDraw.use D4 (by omega) (by omega) (by omega) fun H5 u u0 u1 D5 k5 => ?_
    have L5 : Lft H5 l a b r1 s1 := k5.get L4 (by simp [l1, l2])
    have kk5 := kk4.trans (k5.sub (D4.ls3 L4) (by simp))
    have N5 := N4.kp k5 (by simp [n1, n2])
    walk_at "rd"
    refine ifd (fun c1 => ?_) (fun c1 => ?_)
    · walk_at "rd"
      refine ⟨d, c, nm, l, _, dep + 1, ti, a, b, r1, s1, xs, rfl, D5, by omega, N5, n1, n2, n3, l1, l2, L5, ha, ha1, by omega, fun H6 yv y n6 a6 b6 r6 s6 D6 q3 q4 L6 a60 sz6 k6 hy oy => ?_⟩
      walk_at "rd"
      exact kn _ _ ⟨yv, y, n6, a6, b6, r6, s6, rfl, D6, by omega, by omega, L6, a60, by omega, sz6, kk5.trans k6, (v4.kp k5).kp k6, hy, oy, (z4.kp k5).kp k6⟩
    · walk_at "rd"
      exact kn _ _ ⟨_, [], _, a, b, r1, s1, rfl, D5, by omega, by omega, L5, ha, by omega, by rw [Sm.sizes]; omega, kk5, v4.kp k5, by rw [Sm.ds]; exact y4.kp k5, fun _ h => (nomatch h), z4.kp k5⟩
  rintro σ H5 ⟨yv, y, n5, a5, b5, r5, s5, rfl, D5, q3, q4, L5, a50, a51, sz5, k5, v5, y5, oy, z5⟩
  have N5 := N.kp k5 (by simp [n1, n2, n3])
  walk_at "rds"
  with_reducible refine r_seqJ (fun σ H' => ∃ (zv : V) (z : List Sm) (n' a' b' r' s' : Int), σ = [some (.ref d), some (.ref nm), some (.int dep), some (.int ti), some (.ref l), some (.int at_), some v, some yv, some zv] ∧
    Deck H' d c n' ∧ n ≤ n' ∧ n' ≤ n + 84 + 150 * (a - a') ∧ Lft H' l a' b' r' s' ∧ 0 ≤ a' ∧ (Sm.sizes y + Sm.sizes z : Int) ≤ a - a' ∧ Kp [d, c, l] H H' ∧ Dt K H' v t.d ∧ Dt K H' yv (.tuple (Sm.ds y)) ∧ (∀ s ∈ z, Sm.ok e s) ∧ Dt K H' zv (.tuple (Sm.ds z))) (fun nx' kn => ?_) ?_
  · walk_at "rd"
    refine spDraw.use D5 (by omega) (by omega) (by omega) fun H6 u u0 u1 D6 k6 => ?_
    have L6 : Lft H6 l a5 b5 r5 s5 := k6.get L5 (by simp [l1, l2])
    have kk6 := k5.trans (k6.sub (D5.ls3 L5) (by simp))
    have N6 := N5.kp k6 (by simp [n1, n2])
    walk_at "rd"
    refine ifd (fun c1 => ?_) (fun c1 => ?_)
    · walk_at "rd"
      refine ⟨d, c, nm, l, _, dep + 1, ti, a5, b5, r5, s5, xs, rfl, D6, by omega, N6, n1, n2, n3, l1, l2, L6, a50, by omega, by omega, fun H7 zv z n7 a7 b7 r7 s7 D7 q5 q6 L7 a70 sz7 k7 hz oz => ?_⟩
      walk_at "rd"
      exact kn _ _ ⟨zv, z, n7, a7, b7, r7, s7, rfl, D7, by omega, by omega, L7, a70, by omega, kk6.trans k7, (v5.kp k6).kp k7, (y5.kp k6).kp k7, oz, hz⟩
    · walk_at "rd"
      exact kn _ _ ⟨_, [], _, a5, b5, r5, s5, rfl, D6, by omega, by omega, L6, a50, by rw [Sm.sizes]; omega, kk6, v5.kp k6, y5.kp k6, fun _ h => (nomatch h), by rw [Sm.ds]; exact z5.kp k6⟩
  rintro σ H6 ⟨zv, z, n6, a6, b6, r6, s6, rfl, D6, q5, q6, L6, a60, sz6, k6, v6, y6, oz, z6⟩
  walk_at "rd"
  refine ⟨by simp [sizeLine_eq], fun p7 hp7 => ?_⟩
  have k7 : Kp [] H6 (upd H6 p7 (.tup [.str "if", v, yv, zv])) := Kp.nil.new hp7
  refine k _ _ (.ifs t y z) n6 a6 b6 r6 s6 (D6.kp k7 (by simp) (by simp)) q5 (by omega) (k7.get L6 (by simp)) a60 (by rw [Sm.size]; omega) (k6.new hp7) ?_ ⟨ht, oy, oz⟩
  rw [Sm.d]
  exact Dt.mk4 upd_same (.str _) (v6.kp k7) (y6.kp k7) (z6.kp k7)
abbrev s_law_statement : Stmt := topS 75
abbrev N_law_statement : List Str := ["_law_deck_here", "_law_names_here", "_law_depth", "_law_times", "_law_left", "_law_way", "_law_at", "_law_many", "_law_is_empty"]
abbrev P_law_statement : List Str := ["_law_deck_here", "_law_names_here", "_law_depth", "_law_times", "_law_left"]
theorem sc_law_statement : FnScope N_law_statement P_law_statement (defScope s_law_statement) :=
  ⟨rfl, rfl, rfl, by decide +kernel, rfl, by decide +kernel, by decide +kernel⟩
theorem ok_law_statement (D : Df K mg "_law_statement" s_law_statement P_law_statement) (B : Blt mg) {e lv : Nat} {sp1 sp2 : Sp} (hlv : 6 ≤ lv)
    (G_law_draw : Has P w K mg base CX0 "_law_draw" ["_law_deck_here", "_law_many"] 1 spDraw) (G_law_one : Has P w K mg base CX0 "_law_one" ["_law_deck_here", "_law_items"] 2 (spOne K))
    (G_law_expr : Has P w K mg base CX0 "_law_expr" ["_law_deck_here", "_law_names_here", "_law_deep"] 5 (spExprA K))
    (G_law_if : Has P w K mg base CX0 "_law_if" ["_law_deck_here", "_law_names_here", "_law_depth", "_law_times", "_law_left", "_law_at"] lv sp1)
    (G_law_block : Has P w K mg base CX0 "_law_block" ["_law_deck_here", "_law_names_here", "_law_depth", "_law_times", "_law_left"] lv sp2)
    (hs : ∀ m, e = m + 1 → sp1 = spIf K m ∧ sp2 = spBlock K m) :
    Has P w K mg base CX0 "_law_statement" P_law_statement (lv + 1) (spStmt K e) := by
  refine D.has sc_law_statement (fun vs H Q E h => ?_) (fun f cdv A outer s H vs Q E hr h => ?_)
  · obtain ⟨d, c, nm, l, n, dep, ti, a, b, r, s, xs, rfl, _⟩ := h
    rfl
  obtain ⟨d, c, nm, l, n, dep, ti, a, b, r, s, xs, rfl, Dk, hn, N, n1, n2, n3, l1, l2, hL, ha, ha1, hdep, k⟩ := h
  have n0 := Dk.n0
  refine ⟨_, (pss_cons (ps_asg (pe_tup (pa_cons (pe_op op_sub (pe_ix ix_list (pv 4) pe_int (fun _ _ => rfl)) pe_int) (pa_cons (pe_op op_sub (pe_ix ix_list (pv 4) pe_int (fun _ _ => rfl)) (pv 3)) pa_nil))) (pg_tup rfl (pgs_cons (pg_sub (pv 4) pe_int set_list) (pgs_cons (pg_sub (pv 4) pe_int set_list) pgs_nil))))
      (pss_cons (ps_par (i := 5) (j := 6) (by rfl) sc_law_statement.nd rfl rfl (by decide) rfl rfl (pa_cons (pe_f G_law_draw (hr.mono (by omega)) (by rfl) pass0 (pa_cons (pv 0) (pa_cons pe_int pa_nil))) (pa_cons (pe_f G_law_one (hr.mono (by omega)) (by rfl) pass0 (pa_cons (pv 0) (pa_cons (pe_lst (pa_cons pe_int (pa_cons pe_int (pa_cons pe_int pa_nil)))) pa_nil))) pa_nil)) (by rfl))
      (pss_cons (ps_if (PW.pt (pw_and (pt_cmpR op_in_seq (pv 5) (pe_lst (pa_cons pe_int (pa_cons pe_int pa_nil))) (by rfl)) (pw_and (pt_cmpR op_lt (pv 2) pe_int (nomark _)) (pw_and1 (PW.pt (pw_or (pt_cmpR op_eq (pv 6) pe_int (nomark _)) (pw_or1 (pt_cmpR op_ge (pe_ix ix_list (pv 4) (pv 6) (fun _ _ => rfl)) (pv 3) (nomark _))))))))) (pss_one (ps_ret (pe_f G_law_if (hr.mono (by omega)) (by rfl) pass0 (pa_cons (pv 0) (pa_cons (pv 1) (pa_cons (pv 2) (pa_cons (pv 3) (pa_cons (pv 4) (pa_cons (pv 6) pa_nil)))))))))
        pss_nil)
      (pss_cons (ps_if (PW.pt (pw_and (pt_cmpR op_eq (pv 5) pe_int (nomark _)) (pw_and1 (pt_cmpR op_lt (pv 2) pe_int (nomark _))))) (pss_cons (ps_par (i := 7) (j := 8) (by rfl) sc_law_statement.nd rfl rfl (by decide) rfl rfl (pa_cons (pe_f G_law_one (hr.mono (by omega)) (by rfl) pass0 (pa_cons (pv 0) (pa_cons (pe_lst (pa_cons pe_int (pa_cons pe_int (pa_cons pe_int (pa_cons pe_int (pa_cons pe_int (pa_cons pe_int pa_nil))))))) pa_nil))) (pa_cons (pe_cmpR op_eq (pe_f G_law_draw (hr.mono (by omega)) (by rfl) pass0 (pa_cons (pv 0) (pa_cons pe_int pa_nil))) pe_int (nomark _)) pa_nil)) (by rfl))
      (pss_one (ps_ret (pe_tup (pa_cons pe_str (pa_cons (pv 7) (pa_cons (pe_ifExp (pt_val (pv 8)) (pe_tup pa_nil) (pe_f G_law_block (hr.mono (by omega)) (by rfl) pass0 (pa_cons (pv 0) (pa_cons (pv 1) (pa_cons (pe_op op_add (pv 2) pe_int) (pa_cons (pe_op op_mul (pv 3) (pv 7)) (pa_cons (pv 4) pa_nil))))))) pa_nil)))))))
        pss_nil)
      (pss_cons (ps_if (pt_cmpR op_eq (pv 5) pe_int (nomark _)) (pss_one (ps_ret (pe_tup (pa_cons pe_str (pa_cons (pe_f G_law_one (hr.mono (by omega)) (by rfl) pass0 (pa_cons (pv 0) (pa_cons (pe_lst (pa_strT (pat_cons (CwR.PET.of pe_str) (pat_cons (CwR.PET.of pe_str) (pat_cons (CwR.PET.of pe_str) (pat_cons (CwR.PET.of pe_str) (pat_cons (CwR.pet_replC (pe_ix ix_list (pv 1) (pe_un un_neg pe_int) (fun _ _ => rfl))) pat_nil))))))) pa_nil))) pa_nil)))))
        pss_nil)
      (pss_cons (ps_if (PW.pt (pw_and (pt_cmpR op_eq (pv 5) pe_int (nomark _)) (pw_and1 (pt_cmpR op_eq (pe_f G_law_draw (hr.mono (by omega)) (by rfl) pass0 (pa_cons (pv 0) (pa_cons pe_int pa_nil))) pe_int (nomark _))))) (pss_one (ps_ret (pe_tup (pa_cons pe_str (pa_cons (pe_f G_law_one (hr.mono (by omega)) (by rfl) pass0 (pa_cons (pv 0) (pa_cons (pe_lst (pa_cons pe_str (pa_cons pe_str (pa_cons pe_str pa_nil)))) pa_nil))) pa_nil)))))
        pss_nil)
      (pss_cons (ps_if (PW.pt (pw_and (pt_cmpR op_eq (pv 5) pe_int (nomark _)) (pw_and1 (pt_cmpR op_eq (pe_f G_law_draw (hr.mono (by omega)) (by rfl) pass0 (pa_cons (pv 0) (pa_cons pe_int pa_nil))) pe_int (nomark _))))) (pss_one (ps_ret (pe_tup (pa_cons pe_str (pa_cons (pe_f G_law_one (hr.mono (by omega)) (by rfl) pass0 (pa_cons (pv 0) (pa_cons (pv 1) pa_nil))) pa_nil)))))
        pss_nil)
      (pss_cons (ps_if (pt_cmpR op_lt (pv 5) pe_int (nomark _)) (pss_one (ps_ret (pe_tup (pa_cons pe_str (pa_cons (pe_f G_law_one (hr.mono (by omega)) (by rfl) pass0 (pa_cons (pv 0) (pa_cons (pv 1) pa_nil))) (pa_cons (pe_f G_law_expr (hr.mono (by omega)) (by rfl) pass0 (pa_cons (pv 0) (pa_cons (pv 1) (pa_cons (pe_op op_add pe_int (pe_f G_law_draw (hr.mono (by omega)) (by rfl) pass0 (pa_cons (pv 0) (pa_cons pe_int pa_nil)))) pa_nil)))) pa_nil))))))
        pss_nil)
      (pss_one (ps_ret (pe_tup (pa_cons pe_str (pa_cons (pe_f G_law_expr (hr.mono (by omega)) (by rfl) pass0 (pa_cons (pv 0) (pa_cons (pv 1) (pa_cons (pe_op op_add pe_int (pe_f G_law_draw (hr.mono (by omega)) (by rfl) pass0 (pa_cons (pv 0) (pa_cons pe_int pa_nil)))) pa_nil)))) pa_nil))))))))))))), ?_⟩
  have hL' := hL
  unfold Lft at hL'
  walk_at "rd"
  refine ⟨by simp [sizeLine_eq], fun p1 hp1 => ?_⟩
  have k1 : Kp [] H (upd H p1 (.tup [.int (a - 1), .int (b - ti)])) := Kp.nil.new hp1
  have D1 := Dk.kp k1 (by simp) (by simp)
  have kk1 : Kp [d, c, l] H (upd H p1 (.tup [.int (a - 1), .int (b - ti)])) := (Kp.refl (Dk.ls3 hL')).new hp1
  have L1 := k1.get hL' (by simp)
  have t1 : upd H p1 (.tup [.int (a - 1), .int (b - ti)]) p1 = some (.tup [.int (a - 1), .int (b - ti)]) := upd_same
  generalize upd H p1 (.tup [.int (a - 1), .int (b - ti)]) = H1 at k1 D1 kk1 L1 t1 ⊢
  walk_at "rd"
  rw [upd_upd]
  have k2 := kpW (o := .lst (([V.int a, V.int b, V.int r, V.int s].set (Int.toNat 0) (V.int (a - 1))).set (Int.toNat 1) (V.int (b - ti)))) L1
  have D2 := D1.kp k2 (by simp [Ne.symm l1]) (by simp [Ne.symm l2])
  have kk2 : Kp [d, c, l] H (upd H1 l (.lst (([V.int a, V.int b, V.int r, V.int s].set (Int.toNat 0) (V.int (a - 1))).set (Int.toNat 1) (V.int (b - ti))))) := kk1.write (by simp)
  have L2 : Lft (upd H1 l (.lst (([V.int a, V.int b, V.int r, V.int s].set (Int.toNat 0) (V.int (a - 1))).set (Int.toNat 1) (V.int (b - ti))))) l (a - 1) (b - ti) r s := upd_same
  generalize upd H1 l (.lst (([V.int a, V.int b, V.int r, V.int s].set (Int.toNat 0) (V.int (a - 1))).set (Int.toNat 1) (V.int (b - ti)))) = H2 at k2 D2 kk2 L2 ⊢
  clear k1 D1 kk1 L1 t1 k2
  refine spDraw.use D2 (by omega) (by omega) (by omega) fun H3 way w0 w1 D3 k3 => ?_
  have L3 : Lft H3 l (a - 1) (b - ti) r s := k3.get L2 (by simp [l1, l2])
  have kk3 := kk2.trans (k3.sub (D2.ls3 L2) (by simp))
  clear D2 kk2 L2 k3
  walk_at "rd"
  refine ⟨by decide, fun p4 hp4 => ?_⟩
  have k4 : Kp [] H3 (upd H3 p4 (.lst [.int 2, .int 3, .int 4])) := Kp.nil.new hp4
  have D4 := D3.kp k4 (by simp) (by simp)
  have L4 : Lft (upd H3 p4 (.lst [.int 2, .int 3, .int 4])) l (a - 1) (b - ti) r s := k4.get L3 (by simp)
  have kk4 := kk3.new (o := .lst [.int 2, .int 3, .int 4]) hp4
  have h4 : upd H3 p4 (.lst [.int 2, .int 3, .int 4]) p4 = some (.lst [.int 2, .int 3, .int 4]) := upd_same
  have f4 := D3.fresh hp4
  generalize upd H3 p4 (.lst [.int 2, .int 3, .int 4]) = H4 at k4 D4 L4 kk4 h4 ⊢
  refine spOne.list D4 (by omega) (SqL.of h4) f4.1 f4.2 (by simp) (by simp) fun H5 i x hx D5 k5 => ?_
  have hx' : ∃ u : Int, x = .int u ∧ 2 ≤ u ∧ u ≤ 4 := by
    have hm := List.mem_of_getElem? hx
    simp only [List.mem_cons, List.not_mem_nil, or_false] at hm
    rcases hm with rfl | rfl | rfl <;> exact ⟨_, rfl, by omega, by omega⟩
  obtain ⟨u, rfl, u0, u1⟩ := hx'
  have L5 : Lft H5 l (a - 1) (b - ti) r s := k5.get L4 (by simp [l1, l2])
  have kk5 := kk4.trans (k5.sub (D4.ls3 L4) (by simp))
  clear D4 kk4 L4 k5 k4 D3 L3 kk3 hp4 h4 f4 hx hp1 hL'
  walk_at "rds"
  -- if: a test that is made by a call
  with_reducible refine r_seqJ (fun σ H' => σ = [some (.ref d), some (.ref nm), some (.int dep), some (.int ti), some (.ref l), some (.int way), some (.int u), none, none] ∧
    ∃ n', Deck H' d c n' ∧ n ≤ n' ∧ n' ≤ n + 2 ∧ Lft H' l (a - 1) (b - ti) r s ∧ Kp [d, c, l] H H') (fun nx' kn => ?_) ?_
  · walk_at "rd"
    refine ⟨by decide, fun p6 hp6 => ?_⟩
    have k6 : Kp [] H5 (upd H5 p6 (.lst [.int 3, .int 4])) := Kp.nil.new hp6
    have D6 := D5.kp k6 (by simp) (by simp)
    have L6 : Lft (upd H5 p6 (.lst [.int 3, .int 4])) l (a - 1) (b - ti) r s := k6.get L5 (by simp)
    have kk6 := kk5.new (o := .lst [.int 3, .int 4]) hp6
    have h6 : upd H5 p6 (.lst [.int 3, .int 4]) p6 = some (.lst [.int 3, .int 4]) := upd_same
    generalize upd H5 p6 (.lst [.int 3, .int 4]) = H6 at D6 L6 kk6 h6 ⊢
    have L6' := L6
    unfold Lft at L6'
    have N6 := N.kp kk6 (by simp [n1, n2, n3])
    have callIf : ∀ m, e = m + 1 → spIf K m [.ref d, .ref nm, .int dep, .int ti, .ref l, .int u] H6 Q E0 := by
      intro m hm
      refine ⟨d, c, nm, l, _, dep, ti, a - 1, b - ti, r, s, u, xs, rfl, D6, by omega, N6, n1, n2, n3, l1, l2, L6, by omega, by omega, by omega, u0, u1, fun H7 v x n7 a7 b7 r7 s7 D7 q1 q2 L7 a70 sz7 k7 hv hx => ?_⟩
      exact k H7 v x n7 a7 b7 r7 s7 D7 (by omega) (by omega) L7 a70 (by omega) (kk6.trans k7) hv (by rw [hm]; exact hx)
    refine r_in (.inl (SqL.of h6)) rfl rfl ?_
    walk_at "rd"
    refine ite2 (fun c1 => ?_) (fun c1 => ?_)
    · walk_at "rd"
      refine ifd (fun c2 => ?_) (fun c2 => ?_)
      · obtain ⟨m, rfl⟩ : ∃ m, e = m + 1 := ⟨e - 1, by omega⟩
        obtain ⟨rfl, rfl⟩ := hs m rfl
        walk_at "rd"
        refine ifd (fun c3 => ?_) (fun c3 => ?_)
        · walk_at "rd"
          exact callIf m rfl
        · rw [V.int.injEq] at c3
          rcases (show u = 2 ∨ u = 3 by omega) with rfl | rfl
          · walk_at "rd"
            refine ifd (fun c4 => ?_) (fun c4 => ?_)
            · walk_at "rd"
              exact callIf m rfl
            · walk_at "rd"
              exact kn _ _ ⟨rfl, _, D6, by omega, by omega, L6, kk6⟩
          · walk_at "rd"
            refine ifd (fun c4 => ?_) (fun c4 => ?_)
            · walk_at "rd"
              exact callIf m rfl
            · walk_at "rd"
              exact kn _ _ ⟨rfl, _, D6, by omega, by omega, L6, kk6⟩
      · walk_at "rd"
        exact kn _ _ ⟨rfl, _, D6, by omega, by omega, L6, kk6⟩
    · walk_at "rd"
      exact kn _ _ ⟨rfl, _, D6, by omega, by omega, L6, kk6⟩
  clear D5 L5 kk5
  rintro σ H5 ⟨rfl, n5, D5, m1, m2, L5, kk5⟩
  have N5 := N.kp kk5 (by simp [n1, n2, n3])
  walk_at "rds"
  -- repeat
  with_reducible refine r_seqJ (fun σ H' => σ = [some (.ref d), some (.ref nm), some (.int dep), some (.int ti), some (.ref l), some (.int way), some (.int u), none, none] ∧ H' = H5) (fun nx' kn => ?_) ?_
  · walk_at "rd"
    refine ite2 (fun c1 => ?_) (fun c1 => ?_)
    · simp only [Bool.and_eq_true, decide_eq_true_eq, V.int.injEq] at c1
      obtain ⟨m, rfl⟩ : ∃ m, e = m + 1 := ⟨e - 1, by omega⟩
      obtain ⟨rfl, rfl⟩ := hs m rfl
      walk_at "rd"
      refine ⟨by decide, fun p6 hp6 => ?_⟩
      have k6 : Kp [] H5 (upd H5 p6 (.lst [.int 0, .int 1, .int 2, .int 2, .int 3, .int 8])) := Kp.nil.new hp6
      have D6 := D5.kp k6 (by simp) (by simp)
      have L6 : Lft (upd H5 p6 (.lst [.int 0, .int 1, .int 2, .int 2, .int 3, .int 8])) l (a - 1) (b - ti) r s := k6.get L5 (by simp)
      have kk6 := kk5.new (o := .lst [.int 0, .int 1, .int 2, .int 2, .int 3, .int 8]) hp6
      have h6 : upd H5 p6 (.lst [.int 0, .int 1, .int 2, .int 2, .int 3, .int 8]) p6 = some (.lst [.int 0, .int 1, .int 2, .int 2, .int 3, .int 8]) := upd_same
      have f6 := D5.fresh hp6
      generalize upd H5 p6 (.lst [.int 0, .int 1, .int 2, .int 2, .int 3, .int 8]) = H6 at D6 L6 kk6 h6 ⊢
      refine spOne.list D6 (by omega) (SqL.of h6) f6.1 f6.2 (by simp) (by simp) fun H7 i x hx D7 k7 => ?_
      have hx' : ∃ t : Int, x = .int t ∧ 0 ≤ t ∧ t ≤ 8 := by
        have hm := List.mem_of_getElem? hx
        simp only [List.mem_cons, List.not_mem_nil, or_false] at hm
        rcases hm with rfl | rfl | rfl | rfl | rfl | rfl <;> exact ⟨_, rfl, by omega, by omega⟩
      obtain ⟨t, rfl, t0, t1⟩ := hx'
      have L7 : Lft H7 l (a - 1) (b - ti) r s := k7.get L6 (by simp [l1, l2])
      have kk7 := kk6.trans (k7.sub (D6.ls3 L6) (by simp))
      walk_at "rd"
      refine spDraw.use D7 (by omega) (by omega) (by omega) fun H8 z z0 z1 D8 k8 => ?_
      have L8 : Lft H8 l (a - 1) (b - ti) r s := k8.get L7 (by simp [l1, l2])
      have kk8 := kk7.trans (k8.sub (D7.ls3 L7) (by simp))
      have N8 := N.kp kk8 (by simp [n1, n2, n3])
      walk_at "rd"
      refine ifd (fun c2 => ?_) (fun c2 => ?_)
      · walk_at "rd"
        refine ⟨by decide, fun p9 hp9 => ?_⟩
        have k9 : Kp [] H8 (upd H8 p9 (.tup [])) := Kp.nil.new hp9
        have y9 : Dt K (upd H8 p9 (.tup [])) (.ref p9) (.tuple []) := Dt.mk0 upd_same
        have D9 := D8.kp k9 (by simp) (by simp)
        have L9 := k9.get L8 (by simp)
        have kk9 := kk8.new (o := .tup []) hp9
        generalize upd H8 p9 (.tup []) = H9 at k9 y9 D9 L9 kk9 ⊢
        walk_at "rd"
        refine ⟨by simp [sizeLine_eq], fun pa hpa => ?_⟩
        have ka : Kp [] H9 (upd H9 pa (.tup [.str "repeat", .int t, .ref p9])) := Kp.nil.new hpa
        refine k _ _ (.rep t []) _ (a - 1) (b - ti) r s (D9.kp ka (by simp) (by simp)) (by omega) (by omega) (ka.get L9 (by simp)) (by omega) (by rw [Sm.size, Sm.sizes]; omega) (kk9.new hpa) ?_ ⟨t0, t1, fun _ h => (nomatch h)⟩
        rw [Sm.d, Sm.ds]
        exact Dt.mk3 upd_same (.str _) (.int _) (y9.kp ka)
      · walk_at "rd"
        · refine ⟨d, c, nm, l, _, dep + 1, ti * t, a - 1, b - ti, r, s, xs, rfl, D8, by omega, N8, n1, n2, n3, l1, l2, L8, by omega, by omega, by omega, fun H9 v y n9 a9 b9 r9 s9 D9 q1 q2 L9 a90 sz9 k9 hv hy => ?_⟩
          walk_at "rd"
          refine ⟨by simp [sizeLine_eq], fun pa hpa => ?_⟩
          have ka : Kp [] H9 (upd H9 pa (.tup [.str "repeat", .int t, v])) := Kp.nil.new hpa
          refine k _ _ (.rep t y) _ a9 b9 r9 s9 (D9.kp ka (by simp) (by simp)) (by omega) (by omega) (ka.get L9 (by simp)) a90 (by rw [Sm.size]; omega) ((kk8.trans k9).new hpa) ?_ ⟨t0, t1, hy⟩
          rw [Sm.d]
          exact Dt.mk3 upd_same (.str _) (.int _) (hv.kp ka)
        · walk_at "sc"
    · walk_at "rd"
      exact kn _ _ ⟨rfl, rfl⟩
  rintro σ H6 ⟨rfl, rfl⟩
  -- what is left is plain
  have plain : ∀ (v : V) (p : Pl) (H' : Hp) (n' : Int), Deck H' d c n' → n ≤ n' → n' ≤ n + 100 → Kp [d, c] H6 H' → Dt K H' v p.d → p.ok → Q v H' := by
    intro v p H' n' D' q1 q2 k' hv hp
    refine k H' v (.pl p) n' (a - 1) (b - ti) r s D' q1 (by omega) (k'.get L5 (by simp [l1, l2])) (by omega) (by rw [Sm.size]; omega) (kk5.trans (k'.sub (D5.ls3 L5) (by simp))) (by rw [Sm.d]; exact hv) ?_
    cases e <;> exact hp
  clear hs G_law_if G_law_block k hL
  walk_at "rds"
  -- say
  with_reducible refine r_seqJ (fun σ H' => σ = [some (.ref d), some (.ref nm), some (.int dep), some (.int ti), some (.ref l), some (.int way), some (.int u), none, none] ∧ H' = H6) (fun nx' kn => ?_) ?_
  · walk_at "rd"
    refine ifd (fun c1 => ?_) (fun c1 => ?_)
    · obtain ⟨z, hz, hlast⟩ : ∃ z : Str, Sok z 8 ∧ atI (xs.map V.str) (-1) = some (.str z) := by
        have hne := N.ne
        have hlt : xs.length - 1 < xs.length := by omega
        refine ⟨xs[xs.length - 1], N.ok _ (List.getElem_mem hlt), ?_⟩
        unfold atI ixN
        rw [List.length_map, if_neg (by omega), if_pos (by omega)]
        show (xs.map V.str)[((-1 : Int) + (xs.length : Int)).toNat]? = _
        rw [show ((-1 : Int) + (xs.length : Int)).toNat = xs.length - 1 by omega, List.getElem?_map, List.getElem?_eq_getElem hlt]
        rfl
      have hN := N5.h
      walk_at "rd"
      refine r_repl ?_
      walk_at "rd"
      have e2 : ("go" : Str).length = 2 := by decide +kernel
      refine ⟨z, rfl, by have := hz.len; rw [e2]; omega, ?_⟩
      have hz' : Sok (Txt.replace z "unsure" "go") 8 := hz.repl (by decide +kernel) (by decide +kernel) (Sok.lit (by decide +kernel))
      generalize Txt.replace z "unsure" "go" = z' at hz' ⊢
      walk_at "rd"
      refine ⟨by simp [sizeLine_eq], fun p7 hp7 => ?_⟩
      have k7 : Kp [] H6 (upd H6 p7 (.lst [.str "on", .str "unset", .str "7", .str "z9", .str "program", .str z'])) := Kp.nil.new hp7
      have D7 := D5.kp k7 (by simp) (by simp)
      have h7 : upd H6 p7 (.lst [.str "on", .str "unset", .str "7", .str "z9", .str "program", .str z']) p7 = some (.lst [.str "on", .str "unset", .str "7", .str "z9", .str "program", .str z']) := upd_same
      have f7 := D5.fresh hp7
      have kk7 : Kp [d, c] H6 (upd H6 p7 (.lst [.str "on", .str "unset", .str "7", .str "z9", .str "program", .str z'])) := (Kp.refl D5.ls).new hp7
      generalize upd H6 p7 (.lst [.str "on", .str "unset", .str "7", .str "z9", .str "program", .str z']) = H7 at D7 h7 kk7 ⊢
      refine spOne.list D7 (by omega) (SqL.of h7) f7.1 f7.2 (by simp) (by simp) fun H8 i x hx D8 k8 => ?_
      have hx' : ∃ y : Str, x = .str y ∧ Sok y 8 := by
        have hm := List.mem_of_getElem? hx
        simp only [List.mem_cons, List.not_mem_nil, or_false] at hm
        rcases hm with rfl | rfl | rfl | rfl | rfl | rfl
        · exact ⟨_, rfl, Sok.lit (by decide +kernel)⟩
        · exact ⟨_, rfl, Sok.lit (by decide +kernel)⟩
        · exact ⟨_, rfl, Sok.lit (by decide +kernel)⟩
        · exact ⟨_, rfl, Sok.lit (by decide +kernel)⟩
        · exact ⟨_, rfl, Sok.lit (by decide +kernel)⟩
        · exact ⟨_, rfl, hz'⟩
      obtain ⟨y, rfl, hy⟩ := hx'
      walk_at "rd"
      refine ⟨by simp [sizeLine_eq], fun p9 hp9 => ?_⟩
      have k9 : Kp [] H8 (upd H8 p9 (.tup [.str "say", .str y])) := Kp.nil.new hp9
      exact plain _ (.say y) _ _ (D8.kp k9 (by simp) (by simp)) (by omega) (by omega) ((kk7.trans k8).new hp9) (Dt.mk2 upd_same (.str _) (.str _)) hy
    · walk_at "rd"
      exact kn _ _ ⟨rfl, rfl⟩
  rintro σ H7 ⟨rfl, rfl⟩
  walk_at "rds"
  -- stop
  with_reducible refine r_seqJ (fun σ H' => σ = [some (.ref d), some (.ref nm), some (.int dep), some (.int ti), some (.ref l), some (.int way), some (.int u), none, none] ∧
    ∃ n', Deck H' d c n' ∧ n ≤ n' ∧ n' ≤ n + 10 ∧ Kp [d, c] H7 H') (fun nx' kn => ?_) ?_
  · walk_at "rd"
    refine ifd (fun c1 => ?_) (fun c1 => ?_)
    · walk_at "rd"
      refine spDraw.use D5 (by omega) (by omega) (by omega) fun H8 z z0 z1 D8 k8 => ?_
      walk_at "rd"
      refine ifd (fun c2 => ?_) (fun c2 => ?_)
      · walk_at "rd"
        refine ⟨by decide, fun p9 hp9 => ?_⟩
        have k9 : Kp [] H8 (upd H8 p9 (.lst [.str "end", .str "0", .str "stop"])) := Kp.nil.new hp9
        have D9 := D8.kp k9 (by simp) (by simp)
        have h9 : upd H8 p9 (.lst [.str "end", .str "0", .str "stop"]) p9 = some (.lst [.str "end", .str "0", .str "stop"]) := upd_same
        have f9 := D8.fresh hp9
        have kk9 : Kp [d, c] H7 (upd H8 p9 (.lst [.str "end", .str "0", .str "stop"])) := k8.new hp9
        generalize upd H8 p9 (.lst [.str "end", .str "0", .str "stop"]) = H9 at D9 h9 kk9 ⊢
        refine spOne.list D9 (by omega) (SqL.of h9) f9.1 f9.2 (by simp) (by simp) fun Ha i x hx Da ka => ?_
        have hx' : ∃ y : Str, x = .str y ∧ Sok y 8 := by
          have hm := List.mem_of_getElem? hx
          simp only [List.mem_cons, List.not_mem_nil, or_false] at hm
          rcases hm with rfl | rfl | rfl <;> exact ⟨_, rfl, Sok.lit (by decide +kernel)⟩
        obtain ⟨y, rfl, hy⟩ := hx'
        walk_at "rd"
        refine ⟨by simp [sizeLine_eq], fun pb hpb => ?_⟩
        have kb : Kp [] Ha (upd Ha pb (.tup [.str "stop", .str y])) := Kp.nil.new hpb
        exact plain _ (.stop y) _ _ (Da.kp kb (by simp) (by simp)) (by omega) (by omega) ((kk9.trans ka).new hpb) (Dt.mk2 upd_same (.str _) (.str _)) hy
      · walk_at "rd"
        exact kn _ _ ⟨rfl, _, D8, by omega, by omega, k8⟩
    · walk_at "rd"
      exact kn _ _ ⟨rfl, _, D5, by omega, by omega, Kp.refl D5.ls⟩
  rintro σ H8 ⟨rfl, n8, D8, q1, q2, k8⟩
  walk_at "rds"
  -- unset
  with_reducible refine r_seqJ (fun σ H' => σ = [some (.ref d), some (.ref nm), some (.int dep), some (.int ti), some (.ref l), some (.int way), some (.int u), none, none] ∧
    ∃ n', Deck H' d c n' ∧ n ≤ n' ∧ n' ≤ n + 20 ∧ Kp [d, c] H7 H') (fun nx' kn => ?_) ?_
  · walk_at "rd"
    refine ifd (fun c1 => ?_) (fun c1 => ?_)
    · walk_at "rd"
      refine spDraw.use D8 (by omega) (by omega) (by omega) fun H9 z z0 z1 D9 k9 => ?_
      have N9 := N5.kp (k8.trans k9) (by simp [n1, n2])
      walk_at "rd"
      refine ifd (fun c2 => ?_) (fun c2 => ?_)
      · walk_at "rd"
        refine spOne.list D9 (by omega) (SqL.of N9.h) n1 n2 (by rw [List.length_map]; exact N9.ne) (by rw [List.length_map]; have := N9.len; omega) fun Ha i x hx Da ka => ?_
        obtain ⟨y, rfl, hy⟩ := N9.item hx
        walk_at "rd"
        refine ⟨by simp [sizeLine_eq], fun pb hpb => ?_⟩
        have kb : Kp [] Ha (upd Ha pb (.tup [.str "unset", .str y])) := Kp.nil.new hpb
        exact plain _ (.unset y) _ _ (Da.kp kb (by simp) (by simp)) (by omega) (by omega) (((k8.trans k9).trans ka).new hpb) (Dt.mk2 upd_same (.str _) (.str _)) hy
      · walk_at "rd"
        exact kn _ _ ⟨rfl, _, D9, by omega, by omega, k8.trans k9⟩
    · walk_at "rd"
      exact kn _ _ ⟨rfl, _, D8, by omega, by omega, k8⟩
  clear D8 q1 q2 k8
  rintro σ H8 ⟨rfl, n8, D8, q1, q2, k8⟩
  have N8 := N5.kp k8 (by simp [n1, n2])
  walk_at "rd"
  refine ifd (fun c1 => ?_) (fun c1 => ?_)
  · walk_at "rd"
    refine spOne.list D8 (by omega) (SqL.of N8.h) n1 n2 (by rw [List.length_map]; exact N8.ne) (by rw [List.length_map]; have := N8.len; omega) fun Ha i x hx Da ka => ?_
    obtain ⟨y, rfl, hy⟩ := N8.item hx
    walk_at "rd"
    refine spDraw.use Da (by omega) (by omega) (by omega) fun Hb z z0 z1 Db kb => ?_
    have Nb := (N8.kp ka (by simp [n1, n2])).kp kb (by simp [n1, n2])
    walk_at "rd"
    refine spExprA.use Db (by omega) Nb n1 n2 (by omega) (by omega) fun Hc v ex nc Dc q3 q4 kc hv he => ?_
    walk_at "rd"
    refine ⟨by simp [sizeLine_eq], fun pd hpd => ?_⟩
    have kd : Kp [] Hc (upd Hc pd (.tup [.str "set", .str y, v])) := Kp.nil.new hpd
    exact plain _ (.set y ex) _ _ (Dc.kp kd (by simp) (by simp)) (by omega) (by omega) ((((k8.trans ka).trans kb).trans kc).new hpd) (Dt.mk3 upd_same (.str _) (.str _) (hv.kp kd)) ⟨hy, he⟩
  · walk_at "rd"
    refine spDraw.use D8 (by omega) (by omega) (by omega) fun Hb z z0 z1 Db kb => ?_
    have Nb := N8.kp kb (by simp [n1, n2])
    walk_at "rd"
    refine spExprA.use Db (by omega) Nb n1 n2 (by omega) (by omega) fun Hc v ex nc Dc q3 q4 kc hv he => ?_
    walk_at "rd"
    refine ⟨by simp [sizeLine_eq], fun pd hpd => ?_⟩
    have kd : Kp [] Hc (upd Hc pd (.tup [.str "tell", v])) := Kp.nil.new hpd
    exact plain _ (.tell ex) _ _ (Dc.kp kd (by simp) (by simp)) (by omega) (by omega) (((k8.trans kb).trans kc).new hpd) (Dt.mk2 upd_same (.str _) (hv.kp kd)) he
abbrev s_law_program : Stmt := topS 76
abbrev N_law_program : List Str := ["_law_deck_here", "_law_names_here", "_law_most"]
abbrev P_law_program : List Str := ["_law_deck_here", "_law_names_here", "_law_most"]
theorem sc_law_program : FnScope N_law_program P_law_program (defScope s_law_program) :=
  ⟨rfl, rfl, rfl, by decide +kernel, rfl, by decide +kernel, by decide +kernel⟩
theorem ok_law_program (D : Df K mg "_law_program" s_law_program P_law_program) (B : Blt mg) {lv : Nat}
    (G_law_block : Has P w K mg base CX0 "_law_block" ["_law_deck_here", "_law_names_here", "_law_depth", "_law_times", "_law_left"] lv (spBlock K 3)) :
    Has P w K mg base CX0 "_law_program" P_law_program (lv + 1) (spProg K) := by
  refine D.has sc_law_program (fun vs H Q E h => ?_) (fun f cdv A outer s H vs Q E hr h => ?_)
  · obtain ⟨d, c, nm, n, mo, xs, rfl, _⟩ := h
    rfl
  obtain ⟨d, c, nm, n, mo, xs, rfl, Dk, hn, N, n1, n2, m0, m1, k⟩ := h
  have n0 := Dk.n0
  refine ⟨_, (pss_one (ps_ret (pe_f G_law_block (hr.mono (by omega)) (by rfl) pass0 (pa_cons (pv 0) (pa_cons (pv 1) (pa_cons pe_int (pa_cons pe_int (pa_cons (pe_lst (pa_cons (pv 2) (pa_cons pe_int (pa_cons pe_int (pa_cons pe_int pa_nil))))) pa_nil)))))))), ?_⟩
  walk_at "rd"
  refine ⟨by simp [sizeLine_eq], fun l hl => ?_⟩
  have k1 : Kp [] H (upd H l (.lst [.int mo, .int 30, .int 2, .int 2])) := Kp.nil.new hl
  have kk1 : Kp [d, c] H (upd H l (.lst [.int mo, .int 30, .int 2, .int 2])) := (Kp.refl Dk.ls).new hl
  have D1 := Dk.kp k1 (by simp) (by simp)
  have N1 := N.kp k1 (by simp)
  have L1 : Lft (upd H l (.lst [.int mo, .int 30, .int 2, .int 2])) l mo 30 2 2 := upd_same
  have f1 := Dk.fresh hl
  have f2 : nm ≠ l := ne_of_none N.h hl
  generalize upd H l (.lst [.int mo, .int 30, .int 2, .int 2]) = H1 at k1 kk1 D1 N1 L1 ⊢
  walk_at "rd"
  refine ⟨d, c, nm, l, n, 0, 1, mo, 30, 2, 2, xs, rfl, D1, by omega, N1, n1, n2, f2, f1.1, f1.2, L1, m0, by omega, by omega, fun H2 v x n2 a2 b2 r2 s2 D2 q1 q2 L2 a20 sz2 k2 hv hx => ?_⟩
  refine k H2 v x n2 D2 q1 (by omega) (by omega) (fun z o e => ⟨(kk1 z o e).1, fun nm' => ?_⟩) hv hx
  refine (k2 z o ((kk1 z o e).2 nm')).2 fun hz => ?_
  simp only [List.mem_cons, List.not_mem_nil, or_false, not_or] at hz nm'
  rcases hz with rfl | rfl | rfl
  · exact nm'.1 rfl
  · exact nm'.2 rfl
  · rw [hl] at e
    cases e
abbrev s_law_names : Stmt := topS 77
abbrev N_law_names : List Str := ["_law_deck_here", "_law_many", "_law_letters", "_law_found", "_law_size", "_law_left", "_law_k", "_law_right", "_law_word"]
abbrev P_law_names : List Str := ["_law_deck_here", "_law_many"]
theorem sc_law_names : FnScope N_law_names P_law_names (defScope s_law_names) :=
  ⟨rfl, rfl, rfl, by decide +kernel, rfl, by decide +kernel, by decide +kernel⟩
theorem ok_law_names (D : Df K mg "_law_names" s_law_names P_law_names) (B : Blt mg)
    (G_law_draw : Has P w K mg base CX0 "_law_draw" ["_law_deck_here", "_law_many"] 1 spDraw) (G_law_one : Has P w K mg base CX0 "_law_one" ["_law_deck_here", "_law_items"] 2 (spOne K)) :
    Has P w K mg base CX0 "_law_names" P_law_names 3 spNames := by
  refine D.has sc_law_names (fun vs H Q E h => ?_) (fun f cdv A outer s H vs Q E hr h => ?_)
  · obtain ⟨d, c, n, m, rfl, _⟩ := h
    rfl
  obtain ⟨d, c, n, m, rfl, Dk, hn, m0, m1, k⟩ := h
  have n0 := Dk.n0
  refine ⟨_, (pss_cons (ps_asg (pe_tup (pa_cons pe_str (pa_cons (pe_lst (pa_cons pe_str pa_nil)) pa_nil))) (pg_tup rfl (pgs_cons (pg_name (i := 2) sc_law_names.nd rfl (Or.inr rfl)) (pgs_cons (pg_name (i := 3) sc_law_names.nd rfl (Or.inl rfl)) pgs_nil))))
      (pss_cons (ps_set (i := 4) sc_law_names.nd rfl (Or.inl rfl) (pe_f G_law_one (hr.mono (by omega)) (by rfl) pass0 (pa_cons (pv 0) (pa_cons (pe_lst (pa_cons pe_int (pa_cons pe_int (pa_cons pe_int (pa_cons pe_int (pa_cons pe_int (pa_cons pe_int pa_nil))))))) pa_nil))))
      (pss_cons (ps_set (i := 5) sc_law_names.nd rfl (Or.inl rfl) (pe_join pe_str (pe_lc (own := [("_law_k", 6)]) (g := gName 6) (by rfl) sc_law_names.nd (pi_range1 (by rfl) B.range (pa_cons (pv 4) pa_nil)) (blkOk_by (own := [("_law_k", 6)]) (N := N_law_names) (sc := defScope s_law_names) (by decide +kernel)) (fun _ _ _ _ _ => (pg_name (i := 6) sc_law_names.nd rfl (Or.inl rfl))) (fun _ _ _ _ _ => pts_nil) (fun _ _ _ _ _ => (pe_f G_law_one (hr.mono (by omega)) (by rfl) pass0 (pa_cons (pv 0) (pa_cons (pv 2) pa_nil)))))))
      (pss_cons (ps_set (i := 7) sc_law_names.nd rfl (Or.inl rfl) (pe_join pe_str (pe_lc (own := [("_law_k", 6)]) (g := gName 6) (by rfl) sc_law_names.nd (pi_range1 (by rfl) B.range (pa_cons (pe_f G_law_draw (hr.mono (by omega)) (by rfl) pass0 (pa_cons (pv 0) (pa_cons (pe_op op_sub pe_int (pv 4)) pa_nil))) pa_nil)) (blkOk_by (own := [("_law_k", 6)]) (N := N_law_names) (sc := defScope s_law_names) (by decide +kernel)) (fun _ _ _ _ _ => (pg_name (i := 6) sc_law_names.nd rfl (Or.inl rfl))) (fun _ _ _ _ _ => pts_nil) (fun _ _ _ _ _ => (pe_f G_law_one (hr.mono (by omega)) (by rfl) pass0 (pa_cons (pv 0) (pa_cons (pe_op op_addS (pv 2) pe_str) pa_nil)))))))
      (pss_cons (ps_for PassesOwn.never rfl (pi_range1 (by rfl) B.range (pa_cons (pv 1) pa_nil)) (pg_name (i := 6) sc_law_names.nd rfl (Or.inl rfl))
        (pss_one (ps_expr (pe_bm PySem.F.plainAttrs_list PySem.F.slot_list_append PySem.F.type_list_append mt_append (pv 3) (pa_cons (pe_op op_addS (pe_op op_addS (pv 5) (pe_ix ix_str pe_str (pv 6) (fun _ _ => rfl))) (pv 7)) pa_nil)))))
      (pss_cons (ps_set (i := 8) sc_law_names.nd rfl (Or.inl rfl) (pe_f G_law_one (hr.mono (by omega)) (by rfl) pass0 (pa_cons (pv 0) (pa_cons (pe_lst (pa_cons pe_str (pa_cons pe_str (pa_cons pe_str (pa_cons pe_str (pa_cons pe_str (pa_cons pe_str (pa_cons pe_str pa_nil)))))))) pa_nil))))
      (pss_one (ps_ret (pe_ifExp (pt_cmpR op_gt (pe_f G_law_draw (hr.mono (by omega)) (by rfl) pass0 (pa_cons (pv 0) (pa_cons pe_int pa_nil))) pe_int (nomark _)) (pv 3) (pe_op op_cat (pe_slice sl_list (pv 3) po_none (po_some (pe_un un_neg pe_int))) (pe_lst (pa_cons (pv 8) pa_nil)))))))))))), ?_⟩
  walk_at "rd"
  refine ⟨by decide, fun q hq => ?_⟩
  have k1 : Kp [] H (upd H q (.lst [.str "n"])) := Kp.nil.new hq
  have kk1 : Kp [d, c] H (upd H q (.lst [.str "n"])) := (Kp.refl Dk.ls).new hq
  have D1 := Dk.kp k1 (by simp) (by simp)
  have q1 : upd H q (.lst [.str "n"]) q = some (.lst [.str "n"]) := upd_same
  have fq := Dk.fresh hq
  generalize upd H q (.lst [.str "n"]) = H1 at k1 kk1 D1 q1 ⊢
  walk_at "rd"
  refine ⟨by simp [sizeLine_eq], fun p2 hp2 => ?_⟩
  have k2 : Kp [] H1 (upd H1 p2 (.tup [.str "abcdefghijklmnopqrstuvwxyz", .ref q])) := Kp.nil.new hp2
  have D2 := D1.kp k2 (by simp) (by simp)
  have q2 := k2.get q1 (by simp)
  have kk2 := kk1.new (o := .tup [.str "abcdefghijklmnopqrstuvwxyz", .ref q]) hp2
  have t2 : upd H1 p2 (.tup [.str "abcdefghijklmnopqrstuvwxyz", .ref q]) p2 = some (.tup [.str "abcdefghijklmnopqrstuvwxyz", .ref q]) := upd_same
  generalize upd H1 p2 (.tup [.str "abcdefghijklmnopqrstuvwxyz", .ref q]) = H2 at k2 D2 q2 kk2 t2 ⊢
  walk_at "rd"
  refine ⟨by decide, fun p3 hp3 => ?_⟩
  have k3 : Kp [] H2 (upd H2 p3 (.lst [.int 0, .int 0, .int 1, .int 3, .int 5, .int 7])) := Kp.nil.new hp3
  have D3 := D2.kp k3 (by simp) (by simp)
  have q3 := k3.get q2 (by simp)
  have kk3 := kk2.new (o := .lst [.int 0, .int 0, .int 1, .int 3, .int 5, .int 7]) hp3
  have h3 : upd H2 p3 (.lst [.int 0, .int 0, .int 1, .int 3, .int 5, .int 7]) p3 = some (.lst [.int 0, .int 0, .int 1, .int 3, .int 5, .int 7]) := upd_same
  have f3 := D2.fresh hp3
  generalize upd H2 p3 (.lst [.int 0, .int 0, .int 1, .int 3, .int 5, .int 7]) = H3 at k3 D3 q3 kk3 h3 ⊢
  refine spOne.list D3 (by omega) (SqL.of h3) f3.1 f3.2 (by simp) (by simp) fun H4 i x hx D4 k4 => ?_
  have hx' : ∃ u : Int, x = .int u ∧ 0 ≤ u ∧ u ≤ 7 := by
    have hm := List.mem_of_getElem? hx
    simp only [List.mem_cons, List.not_mem_nil, or_false] at hm
    rcases hm with rfl | rfl | rfl | rfl | rfl | rfl <;> exact ⟨_, rfl, by omega, by omega⟩
  obtain ⟨u, rfl, u0, u1⟩ := hx'
  have q4 := k4.get q3 (by simp [fq.1, fq.2])
  have kk4 := kk3.trans k4
  clear k1 kk1 D1 q1 k2 kk2 D2 q2 t2 k3 D3 q3 kk3 h3 f3 hp2 hp3 hx
  have let26 : Sok ("abcdefghijklmnopqrstuvwxyz" : Str) 26 := Sok.lit (by decide +kernel)
  have let36 : Sok (("abcdefghijklmnopqrstuvwxyz" : Str) ++ ("0123456789" : Str)) 36 := Sok.lit (by decide +kernel)
  have emp : Sok ("" : Str) 0 := Sok.lit (by decide +kernel)
  have emp0 : ("" : Str).length = 0 := by decide +kernel
  walk_at "rd"
  refine r_LcR (by omega) (by omega) fun p5 hp5 => ?_
  have f5 := D4.fresh hp5
  have H5p : H p5 = none := kk4.free D4.ls hp5
  have fq5 : p5 ≠ q := Ne.symm (ne_of_none q4 hp5)
  refine ⟨fun i H' => ∃ (ys : List Str), H' p5 = some (.lst (ys.map V.str)) ∧ ys.length = i ∧ (∀ y ∈ ys, Sok y 1) ∧ (∃ n', Deck H' d c n' ∧ n ≤ n' ∧ n' ≤ n + 1 + i) ∧ H' q = some (.lst [.str "n"]) ∧ Kp [d, c] H H',
    ⟨[], upd_same, rfl, (fun _ h => (nomatch h)), ⟨_, D4.kp (Kp.nil.new hp5) (by simp) (by simp), by omega, by omega⟩, (Kp.nil.new hp5).get q4 (by simp), kk4.new hp5⟩, ?_, ?_⟩
  · rintro i H5 hi ⟨ys, y1, y2, y3, ⟨n5, D5, m2, m3⟩, q5, k5⟩
    walk_at "rd"
    refine spOne.text D5 (by omega) (by decide +kernel) (by decide +kernel) fun H6 z hz D6 k6 => ?_
    have y6 := k6.get y1 (by simp [f5.1, f5.2])
    refine r_LcEnd y6 (by walk_at "sz") ⟨ys ++ [⟨#[z]⟩], ?_, ?_, ?_, ?_, ?_, (k5.trans k6).own H5p⟩
    · rw [upd_same, List.map_append]
      rfl
    · rw [List.length_append, y2]
      rfl
    · intro y hy
      rcases List.mem_append.mp hy with hy | hy
      · exact y3 y hy
      · rw [List.mem_singleton.mp hy]
        exact let26.sign hz
    · exact ⟨_, D6.kp (kpW (o := .lst (ys.map V.str ++ [.str ⟨#[z]⟩])) y6) (by simp [Ne.symm f5.1]) (by simp [Ne.symm f5.2]), by omega, by omega⟩
    · rw [upd_ne (Ne.symm fq5)]
      exact k6.get q5 (by simp [fq.1, fq.2])
  rintro H5 ⟨ys, y1, y2, y3, ⟨n5, D5, m2, m3⟩, q5, k5⟩
  have hL : Sok (Txt.join "" ys) u.toNat := (Sok.join emp y3).mono (by rw [y2]; omega)
  have sm := sum_len y3
  refine ⟨"", p5, ys, rfl, rfl, .inl (SqL.of y1), by rw [emp0]; omega, ?_⟩
  generalize Txt.join "" ys = left at hL ⊢
  clear y1 y2 y3 sm hp5 f5 H5p fq5 D4 k4 q4 kk4
  walk_at "rd"
  refine spDraw.use D5 (by omega) (by omega) (by omega) fun H6 t t0 t1 D6 k6 => ?_
  have q6 := k6.get q5 (by simp [fq.1, fq.2])
  have kk6 := k5.trans k6
  walk_at "rd"
  refine r_LcR (by omega) (by omega) fun p7 hp7 => ?_
  have f7 := D6.fresh hp7
  have H7p : H p7 = none := kk6.free D6.ls hp7
  have fq7 : p7 ≠ q := Ne.symm (ne_of_none q6 hp7)
  refine ⟨fun i H' => ∃ (ys : List Str), H' p7 = some (.lst (ys.map V.str)) ∧ ys.length = i ∧ (∀ y ∈ ys, Sok y 1) ∧ (∃ n', Deck H' d c n' ∧ n ≤ n' ∧ n' ≤ n + 10 + i) ∧ H' q = some (.lst [.str "n"]) ∧ Kp [d, c] H H',
    ⟨[], upd_same, rfl, (fun _ h => (nomatch h)), ⟨_, D6.kp (Kp.nil.new hp7) (by simp) (by simp), by omega, by omega⟩, (Kp.nil.new hp7).get q6 (by simp), kk6.new hp7⟩, ?_, ?_⟩
  · rintro i H7 hi ⟨ys, y1, y2, y3, ⟨n7, D7, m2, m3⟩, q7, k7⟩
    walk_at "rd"
    · refine spOne.text D7 (by omega) (by decide +kernel) (by decide +kernel) fun H8 z hz D8 k8 => ?_
      have y8 := k8.get y1 (by simp [f7.1, f7.2])
      refine r_LcEnd y8 (by walk_at "sz") ⟨ys ++ [⟨#[z]⟩], ?_, ?_, ?_, ⟨_, D8.kp (kpW (o := .lst (ys.map V.str ++ [.str ⟨#[z]⟩])) y8) (by simp [Ne.symm f7.1]) (by simp [Ne.symm f7.2]), by omega, by omega⟩, ?_, (k7.trans k8).own H7p⟩
      · rw [upd_same, List.map_append]
        rfl
      · rw [List.length_append, y2]
        rfl
      · intro y hy
        rcases List.mem_append.mp hy with hy | hy
        · exact y3 y hy
        · rw [List.mem_singleton.mp hy]
          exact let36.sign hz
      · rw [upd_ne (Ne.symm fq7)]
        exact k8.get q7 (by simp [fq.1, fq.2])
    · decide +kernel
  rintro H7 ⟨ys, y1, y2, y3, ⟨n7, D7, m2, m3⟩, q7, k7⟩
  have hR : Sok (Txt.join "" ys) t.toNat := (Sok.join emp y3).mono (by rw [y2]; omega)
  have sm := sum_len y3
  refine ⟨"", p7, ys, rfl, rfl, .inl (SqL.of y1), by rw [emp0]; omega, ?_⟩
  generalize Txt.join "" ys = right at hR ⊢
  clear y1 y2 y3 sm hp7 f7 H7p fq7 D6 k6 q6 kk6
  walk_at "rd"
  have hq5 : Sok ("qxzkw" : Str) 5 := Sok.lit (by decide +kernel)
  refine r_ForR (fun i σ H' => ∃ (xs : List Str) (kx : Option V), σ = [some (.ref d), some (.int m), some (.str "abcdefghijklmnopqrstuvwxyz"), some (.ref q), some (.int u), some (.str left), kx, some (.str right), none] ∧
      H' q = some (.lst (xs.map V.str)) ∧ xs.length = i + 1 ∧ (∀ x ∈ xs, Sok x 8) ∧ Deck H' d c n7 ∧ Kp [d, c] H H') (by omega) (by omega) ⟨["n"], none, rfl, q7, rfl, ?_, D7, k7⟩ ?_ ?_
  · intro x hx
    rw [List.mem_singleton.mp hx]
    exact Sok.lit (by decide +kernel)
  · rintro i σ H8 hi ⟨xs, kx, rfl, q8, l8, o8, D8, k8⟩
    have hlt : i < ("qxzkw" : Str).cps.toList.length := by
      show i < 5
      omega
    have hat : atI ("qxzkw" : Str).cps.toList (i : Int) = some (("qxzkw" : Str).cps.toList[i]) := atI_nat (List.getElem?_eq_getElem hlt)
    have hsg := hq5.sign (List.getElem_mem hlt)
    generalize ("qxzkw" : Str).cps.toList[i] = sg at hat hsg
    have hw : Sok (left ++ ⟨#[sg]⟩ ++ right) 8 := ((hL.app hsg).app hR).mono (by omega)
    have hw1 := hw.len
    rw [Str.length_append, Str.length_append] at hw1
    walk_at "rd"
    refine r_ixS (by decide +kernel) hat ?_
    walk_at "rd"
    · refine ⟨xs ++ [left ++ ⟨#[sg]⟩ ++ right], _, rfl, ?_, by rw [List.length_append, l8]; rfl, ?_, D8.kp (kpW q8) (by simp [Ne.symm fq.1]) (by simp [Ne.symm fq.2]), k8.own hq⟩
      · rw [upd_same, List.map_append]
        rfl
      · intro y hy
        rcases List.mem_append.mp hy with hy | hy
        · exact o8 y hy
        · rw [List.mem_singleton.mp hy]
          exact hw
    all_goals walk_at "sz"
  rintro σ H8 ⟨xs, kx, rfl, q8, l8, o8, D8, k8⟩
  walk_at "rd"
  refine ⟨by decide, fun p9 hp9 => ?_⟩
  have k9 : Kp [] H8 (upd H8 p9 (.lst [.str "plus", .str "minus", .str "times", .str "less", .str "given", .str "unsure", .str "hold"])) := Kp.nil.new hp9
  have D9 := D8.kp k9 (by simp) (by simp)
  have q9 := k9.get q8 (by simp)
  have kk9 := k8.new (o := .lst [.str "plus", .str "minus", .str "times", .str "less", .str "given", .str "unsure", .str "hold"]) hp9
  have h9 : upd H8 p9 (.lst [.str "plus", .str "minus", .str "times", .str "less", .str "given", .str "unsure", .str "hold"]) p9 = some (.lst [.str "plus", .str "minus", .str "times", .str "less", .str "given", .str "unsure", .str "hold"]) := upd_same
  have f9 := D8.fresh hp9
  generalize upd H8 p9 (.lst [.str "plus", .str "minus", .str "times", .str "less", .str "given", .str "unsure", .str "hold"]) = H9 at D9 q9 kk9 h9 ⊢
  refine spOne.list D9 (by omega) (SqL.of h9) f9.1 f9.2 (by simp) (by simp) fun Ha i x hx Da ka => ?_
  have hx' : ∃ y : Str, x = .str y ∧ Sok y 8 := by
    have hm := List.mem_of_getElem? hx
    simp only [List.mem_cons, List.not_mem_nil, or_false] at hm
    rcases hm with rfl | rfl | rfl | rfl | rfl | rfl | rfl <;> exact ⟨_, rfl, Sok.lit (by decide +kernel)⟩
  obtain ⟨wd, rfl, hwd⟩ := hx'
  have qa := ka.get q9 (by simp [fq.1, fq.2])
  walk_at "rd"
  refine spDraw.use Da (by omega) (by omega) (by omega) fun Hb z z0 z1 Db kb => ?_
  have qb := kb.get qa (by simp [fq.1, fq.2])
  have kkb := (kk9.trans ka).trans kb
  walk_at "rd"
  refine ifd (fun c1 => ?_) (fun c1 => ?_)
  · walk_at "rd"
    exact k _ q xs _ hq Db (by omega) (by omega) kkb ⟨qb, by omega, o8, by omega⟩
  · walk_at "rd"
    refine r_slL (SqL.of qb) fun pc hpc => ?_
    obtain ⟨cs, ec, hcl, hcm⟩ := cutV_map V.str xs none (some (-1))
    rw [ec]
    have kc : Kp [] Hb (upd Hb pc (.lst (cs.map V.str))) := Kp.nil.new hpc
    have Dc := Db.kp kc (by simp) (by simp)
    have hc : upd Hb pc (.lst (cs.map V.str)) pc = some (.lst (cs.map V.str)) := upd_same
    have kkc := kkb.new (o := .lst (cs.map V.str)) hpc
    generalize upd Hb pc (.lst (cs.map V.str)) = Hc at Dc hc kkc ⊢
    walk_at "rd"
    refine ⟨by simp [sizeLine_eq], fun pd hpd => ?_⟩
    have kd : Kp [] Hc (upd Hc pd (.lst [.str wd])) := Kp.nil.new hpd
    have Dd := Dc.kp kd (by simp) (by simp)
    have hcd := kd.get hc (by simp)
    have hd : upd Hc pd (.lst [.str wd]) pd = some (.lst [.str wd]) := upd_same
    have kkd := kkc.new (o := .lst [.str wd]) hpd
    generalize upd Hc pd (.lst [.str wd]) = Hd at Dd hcd hd kkd ⊢
    refine r_cat hcd hd (by walk_at "sz") fun pe hpe => ?_
    have ke : Kp [] Hd (upd Hd pe (.lst (cs.map V.str ++ [.str wd]))) := Kp.nil.new hpe
    refine k _ pe (cs ++ [wd]) _ (kkd.free Dd.ls hpe) (Dd.kp ke (by simp) (by simp)) (by omega) (by omega) (kkd.new hpe) ⟨by rw [upd_same, List.map_append]; rfl, by simp, ?_, by rw [List.length_append, List.length_singleton]; omega⟩
    intro y hy
    rcases List.mem_append.mp hy with hy | hy
    · exact o8 y (hcm y hy)
    · rw [List.mem_singleton.mp hy]
      exact hwd
abbrev sis_whole : Stmt := topS 22
abbrev Nis_whole : List Str := ["value", "least", "most"]
abbrev Pis_whole : List Str := ["value", "least", "most"]
theorem scis_whole : FnScope Nis_whole Pis_whole (defScope sis_whole) :=
  ⟨rfl, rfl, rfl, by decide +kernel, rfl, by decide +kernel, by decide +kernel⟩
theorem ok_is_whole (D : Df K mg "is_whole" sis_whole Pis_whole) (B : Blt mg) : Has P w K mg base CX0 "is_whole" Pis_whole 1 (spWhole K) := by
  refine D.has scis_whole (fun vs H Q E h => ?_) (fun f cdv A outer s H vs Q E hr h => ?_)
  · obtain ⟨v, d, lo, hi, rfl, _⟩ := h
    rfl
  obtain ⟨v, d, lo, hi, rfl, hd, k⟩ := h
  refine ⟨_, (pss_one (ps_ret (pe_and (pe_callB c_is2 (by rfl) B.isinstance (by decide +kernel) (pa_cons (pv 0) (pa_cons (pe_ty (T := "int") (by rfl) B.int (by decide +kernel)) pa_nil))) (pe_and (pe_not (pe_callB c_is2 (by rfl) B.isinstance (by decide +kernel) (pa_cons (pv 0) (pa_cons (pe_ty (T := "bool") (by rfl) B.bool (by decide +kernel)) pa_nil)))) (pe_one (pe_chain op_le op_le (pv 1) (pv 0) (pv 2))))))), ?_⟩
  cases d with
  | int i =>
    obtain rfl := hd.isInt
    walk_at "rd"
    have q : Q (.bl (decide (lo ≤ i) && decide (i ≤ hi))) H := k
    refine ifd (fun c => ?_) (fun c => ?_)
    · walk_at "rd"
      rw [decide_eq_true c, Bool.true_and] at q
      exact q
    · rw [decide_eq_false c, Bool.false_and] at q
      exact q
  | _ => walk_at "rd"; exact k
abbrev sis_word_programs : Stmt := topS 23
abbrev Nis_word_programs : List Str := ["value", "sign"]
abbrev Pis_word_programs : List Str := ["value"]
theorem scis_word_programs : FnScope Nis_word_programs Pis_word_programs (defScope sis_word_programs) :=
  ⟨rfl, rfl, rfl, by decide +kernel, rfl, by decide +kernel, by decide +kernel⟩
theorem ok_is_word_programs (D : DfA K mg "is_word_programs" "is_word" sis_word_programs Pis_word_programs) (B : Blt mg) {t1 t2 t3 : Tok} (g_MAX_WORD : mg "MAX_WORD" = some (.int 8 t1)) (g_UNSURE : mg "UNSURE" = some (.str "unsure" t2)) (g_SIGNS : mg "SIGNS" = some (.str SGN t3)) :
    Has P w K mg base CX0 "is_word_programs" Pis_word_programs 1 (spAsk K isWord) := by
  refine D.has scis_word_programs (fun vs H Q E h => ?_) (fun f cdv A outer s H vs Q E hr h => ?_)
  · obtain ⟨v, d, rfl, _⟩ := h
    rfl
  obtain ⟨v, d, rfl, hd, hz, k⟩ := h
  refine ⟨_, (pss_cons (ps_if (PW.pt (pw_or (pt_not (pt_val (pe_callB c_is2 (by rfl) B.isinstance (by decide +kernel) (pa_cons (pv 0) (pa_cons (pe_ty (T := "str") (by rfl) B.str (by decide +kernel)) pa_nil))))) (pw_or (pt_not (pt_chain op_le op_le pe_int (pe_callB c_len (by rfl) B.len (by decide +kernel) (pa_cons (pv 0) pa_nil)) (pe_gint (by rfl) g_MAX_WORD))) (pw_or1 (pt_cmpR op_eq (pv 0) (pe_gstr (by rfl) g_UNSURE) (nomark _)))))) (pss_one (ps_ret pe_bl))
        pss_nil)
      (pss_one (ps_ret (pe_cmpR (op_eqNil hr.h64) (pe_lc (own := [("sign", 1)]) (g := gName 1) (by rfl) scis_word_programs.nd (pi_str (pv 0)) (blkOk_by (own := [("sign", 1)]) (N := Nis_word_programs) (sc := defScope sis_word_programs) (by decide +kernel)) (fun _ _ _ _ _ => (pg_name (i := 1) scis_word_programs.nd rfl (Or.inl rfl))) (fun _ _ _ _ _ => (pts_one (pt_cmpR op_notinC (pv 1) (pe_gstr (by rfl) g_SIGNS) (by rfl)))) (fun _ _ _ _ _ => (pv 1))) (pe_lst pa_nil) (nomark _))))), ?_⟩
  cases d with
  | str x =>
    obtain rfl := hd.isStr
    rw [dsz] at hz
    change ∀ H', Kp [] H H' → Q (.bl (isWordS x)) H' at k
    have kf : isWordS x = false → Q (.bl false) H := fun e => by
      have q := k H Kp.nil
      rw [e] at q
      exact q
    walk_at "rd"
    rotate_left 1
    · walk_at "sz"
    refine ifd (fun c1 => ?_) (fun c1 => ?_)
    rotate_left 1
    · walk_at "rd"
      refine kf ?_
      unfold isWordS
      rw [decide_eq_false (by omega), Bool.false_and, Bool.false_and, Bool.false_and]
    walk_at "rd"
    refine ifn (fun c2 => ?_) (fun c2 => ?_)
    · walk_at "rd"
      refine kf ?_
      unfold isWordS
      rw [decide_eq_false (p := x.length ≤ 8) (by omega), Bool.and_false, Bool.false_and, Bool.false_and]
    walk_at "rd"
    refine ifd (fun c3 => ?_) (fun c3 => ?_)
    · walk_at "rd"
      refine kf ?_
      unfold isWordS
      cases c3
      rw [decide_eq_true (p := ("unsure" : Str) = "unsure") rfl, Bool.not_true, Bool.and_false, Bool.false_and]
    have c3 : x ≠ "unsure" := fun e => c3 (by rw [e])
    walk_at "rd"
    refine r_LcSf (f := fun c => !isSgn c) (i := 1) (by omega) (fun c H' R h => ?_) (fun c H' R h => ?_) (fun _ => rfl) fun p hp => ?_
    · walk_at "rd"
      exact h
    · walk_at "rd"
      exact h
    walk_at "rd"
    refine ⟨by decide, fun q hq => ?_⟩
    have e1 : upd (upd H p (.lst ((x.cps.toList.filter fun c => !isSgn c).map fun c => V.str ⟨#[c]⟩))) q (.lst []) p = some (.lst ((x.cps.toList.filter fun c => !isSgn c).map fun c => V.str ⟨#[c]⟩)) := by
      rw [upd_ne (Ne.symm (Ne.symm (ne_of_none upd_same hq)))]
      exact upd_same
    refine r_eqNL (SqL.of e1) (SqL.of upd_same) ?_
    have q := k _ ((Kp.nil.new hp).new (o := .lst []) hq)
    unfold isWordS at q
    rw [decide_eq_true (by omega), decide_eq_true (by omega), decide_eq_false c3, Bool.not_false, Bool.true_and, Bool.true_and, Bool.true_and] at q
    rw [List.isEmpty_map, filter_all]
    exact q
  | _ => walk_at "rd"; exact k _ Kp.nil
abbrev sis_name_programs : Stmt := topS 25
abbrev Nis_name_programs : List Str := ["value", "sign"]
abbrev Pis_name_programs : List Str := ["value"]
theorem scis_name_programs : FnScope Nis_name_programs Pis_name_programs (defScope sis_name_programs) :=
  ⟨rfl, rfl, rfl, by decide +kernel, rfl, by decide +kernel, by decide +kernel⟩
theorem ok_is_name_programs (D : DfA K mg "is_name_programs" "is_name" sis_name_programs Pis_name_programs) (B : Blt mg) {t1 t2 t3 : Tok} (g_MAX_NAME : mg "MAX_NAME" = some (.int 8 t1)) (g_LETTERS_programs : mg "LETTERS_programs" = some (.str LETT t2)) {aK : Addr} (g_KEPT : mg "KEPT" = some (.ref aK)) (hK : ∀ H : Hp, SqT K H aK (KEPTS.map V.str)) (g_SIGNS : mg "SIGNS" = some (.str SGN t3)) :
    Has P w K mg base CX0 "is_name_programs" Pis_name_programs 1 (spAsk K isName) := by
  refine D.has scis_name_programs (fun vs H Q E h => ?_) (fun f cdv A outer s H vs Q E hr h => ?_)
  · obtain ⟨v, d, rfl, _⟩ := h
    rfl
  obtain ⟨v, d, rfl, hd, hz, k⟩ := h
  refine ⟨_, (pss_cons (ps_if (PW.pt (pw_or (pt_not (pt_val (pe_callB c_is2 (by rfl) B.isinstance (by decide +kernel) (pa_cons (pv 0) (pa_cons (pe_ty (T := "str") (by rfl) B.str (by decide +kernel)) pa_nil))))) (pw_or (pt_not (pt_chain op_le op_le pe_int (pe_callB c_len (by rfl) B.len (by decide +kernel) (pa_cons (pv 0) pa_nil)) (pe_gint (by rfl) g_MAX_NAME))) (pw_or1 (pt_cmpR op_notinC (pe_ix ix_str (pv 0) pe_int (fun _ _ => rfl)) (pe_gstr (by rfl) g_LETTERS_programs) (by rfl)))))) (pss_one (ps_ret pe_bl))
        pss_nil)
      (pss_one (ps_ret (pe_and (pe_cmpR (op_eqNil hr.h64) (pe_lc (own := [("sign", 1)]) (g := gName 1) (by rfl) scis_name_programs.nd (pi_str (pv 0)) (blkOk_by (own := [("sign", 1)]) (N := Nis_name_programs) (sc := defScope sis_name_programs) (by decide +kernel)) (fun _ _ _ _ _ => (pg_name (i := 1) scis_name_programs.nd rfl (Or.inl rfl))) (fun _ _ _ _ _ => (pts_one (pt_cmpR op_notinC (pv 1) (pe_gstr (by rfl) g_SIGNS) (by rfl)))) (fun _ _ _ _ _ => (pv 1))) (pe_lst pa_nil) (nomark _)) (pe_one (pe_cmpR op_notIn_seq (pv 0) (pe_gref (by rfl) g_KEPT) (by rfl))))))), ?_⟩
  cases d with
  | str x =>
    obtain rfl := hd.isStr
    rw [dsz] at hz
    change ∀ H', Kp [] H H' → Q (.bl (isNameS x)) H' at k
    have kf : isNameS x = false → Q (.bl false) H := fun e => by
      have q := k H Kp.nil
      rw [e] at q
      exact q
    walk_at "rd"
    rotate_left 1
    · walk_at "sz"
    refine ifd (fun c1 => ?_) (fun c1 => ?_)
    rotate_left 1
    · walk_at "rd"
      refine kf ?_
      unfold isNameS
      rw [decide_eq_false (by omega), Bool.false_and, Bool.false_and, Bool.false_and, Bool.false_and]
    walk_at "rd"
    refine ifn (fun c2 => ?_) (fun c2 => ?_)
    · walk_at "rd"
      refine kf ?_
      unfold isNameS
      rw [decide_eq_false (p := x.length ≤ 8) (by omega), Bool.and_false, Bool.false_and, Bool.false_and, Bool.false_and]
    walk_at "rd"
    have hne : x.cps.toList ≠ [] := fun e => by
      have q : x.cps.toList.length = x.length := by rw [Array.length_toList]; rfl
      rw [e, List.length_nil] at q
      omega
    obtain ⟨c0, cr, hc0⟩ := List.exists_cons_of_ne_nil hne
    have hat : atI x.cps.toList 0 = some c0 := at_nn (Int.le_refl 0) (by rw [hc0]; rfl)
    have hlet : x.cps.toList.headD 0 = c0 := by rw [hc0]; rfl
    refine r_ixS (by walk_at "sz") hat ?_
    walk_at "rd"
    refine ifn (fun c3 => ?_) (fun c3 => ?_)
    · walk_at "rd"
      refine kf ?_
      unfold isNameS isLet
      rw [hlet, decide_eq_false (p := c0 ∈ LETT.cps.toList) c3, Bool.and_false, Bool.false_and, Bool.false_and]
    walk_at "rd"
    refine r_LcSf (f := fun c => !isSgn c) (i := 1) (by omega) (fun c H' R h => ?_) (fun c H' R h => ?_) (fun _ => rfl) fun p hp => ?_
    · walk_at "rd"
      exact h
    · walk_at "rd"
      exact h
    walk_at "rd"
    refine ⟨by decide, fun q hq => ?_⟩
    have e1 : upd (upd H p (.lst ((x.cps.toList.filter fun c => !isSgn c).map fun c => V.str ⟨#[c]⟩))) q (.lst []) p = some (.lst ((x.cps.toList.filter fun c => !isSgn c).map fun c => V.str ⟨#[c]⟩)) := by
      rw [upd_ne (Ne.symm (Ne.symm (ne_of_none upd_same hq)))]
      exact upd_same
    refine r_eqNL (SqL.of e1) (SqL.of upd_same) ?_
    have q := k _ ((Kp.nil.new hp).new (o := .lst []) hq)
    unfold isNameS isLet at q
    rw [hlet, decide_eq_true (by omega), decide_eq_true (by omega), decide_eq_true c3, Bool.true_and, Bool.true_and, Bool.true_and] at q
    rw [List.isEmpty_map, filter_all]
    walk_at "rd"
    cases hall : x.cps.toList.all isSgn with
    | false =>
      rw [hall, Bool.false_and] at q
      walk_at "rd"
      exact q
    | true =>
      rw [hall, Bool.true_and] at q
      walk_at "rd"
      refine ⟨aK, _, rfl, .inr (hK _), rfl, by decide +kernel, ?_⟩
      rw [if_pos rfl, inV_strs]
      exact q
  | _ => walk_at "rd"; exact k _ Kp.nil
abbrev sis_expression : Stmt := topS 27
abbrev Nis_expression : List Str := ["value", "left"]
abbrev Pis_expression : List Str := ["value", "left"]
theorem scis_expression : FnScope Nis_expression Pis_expression (defScope sis_expression) :=
  ⟨rfl, rfl, rfl, by decide +kernel, rfl, by decide +kernel, by decide +kernel⟩
theorem ok_is_expression1 (D : Df K mg "is_expression" sis_expression Pis_expression) (B : Blt mg) {n lv : Nat} {sp2 : Sp} {t1 t2 : Tok} (hlv : 1 ≤ lv)
    (g_MOST_NUMBER : mg "MOST_NUMBER" = some (.int 99 t1)) (g_MOST_FACTOR : mg "MOST_FACTOR" = some (.int 9 t2))
    (Gis_whole : Has P w K mg base CX0 "is_whole" ["value", "least", "most"] 1 (spWhole K)) (Gis_name_programs : Has P w K mg base CX0 "is_name_programs" ["value"] 1 (spAsk K isName))
    (Gis_expression : Has P w K mg base CX0 "is_expression" Pis_expression lv sp2) (hs : ∀ m, n = m + 1 → sp2 = spAskN K isExpr m) :
    Has P w K mg base CX0 "is_expression" Pis_expression (lv + 1) (spAskN K isExpr n) := by
  refine D.has scis_expression (fun vs H Q E h => ?_) (fun f cdv A outer s H vs Q E hr h => ?_)
  · obtain ⟨v, d, rfl, _⟩ := h
    rfl
  obtain ⟨v, d, rfl, hd, hz, k⟩ := h
  refine ⟨_, (pss_cons (ps_if (pt_cmpR op_eq (pv 1) pe_int (nomark _)) (pss_one (ps_ret pe_bl))
        pss_nil)
      (pss_cons (ps_if (pt_not (pt_val (pe_callB c_is2 (by rfl) B.isinstance (by decide +kernel) (pa_cons (pv 0) (pa_cons (pe_ty (T := "tuple") (by rfl) B.tuple (by decide +kernel)) pa_nil))))) (pss_one (ps_ret (pe_or (pe_f Gis_name_programs (hr.mono (by omega)) (by rfl) pass0 (pa_cons (pv 0) pa_nil)) (pe_one (pe_f Gis_whole (hr.mono (by omega)) (by rfl) pass0 (pa_cons (pv 0) (pa_cons (pe_op op_sub pe_int (pe_gint (by rfl) g_MOST_NUMBER)) (pa_cons (pe_gint (by rfl) g_MOST_NUMBER) pa_nil))))))))
        pss_nil)
      (pss_cons (ps_if (PW.pt (pw_or (pt_cmpR op_ne (pe_callB c_len (by rfl) B.len (by decide +kernel) (pa_cons (pv 0) pa_nil)) pe_int (nomark _)) (pw_or (pt_not (pt_val (pe_callB c_is2 (by rfl) B.isinstance (by decide +kernel) (pa_cons (pe_ix ix_tup (pv 0) pe_int (fun _ _ => rfl)) (pa_cons (pe_ty (T := "str") (by rfl) B.str (by decide +kernel)) pa_nil))))) (pw_or1 (pt_not (pt_val (pe_f Gis_expression (hr.mono (by omega)) (by rfl) pass0 (pa_cons (pe_ix ix_tup (pv 0) pe_int (fun _ _ => rfl)) (pa_cons (pe_op op_sub (pv 1) pe_int) pa_nil))))))))) (pss_one (ps_ret pe_bl))
        pss_nil)
      (pss_cons (ps_if (pt_cmpR op_eq (pe_ix ix_tup (pv 0) pe_int (fun _ _ => rfl)) pe_str (nomark _)) (pss_one (ps_ret (pe_f Gis_whole (hr.mono (by omega)) (by rfl) pass0 (pa_cons (pe_ix ix_tup (pv 0) pe_int (fun _ _ => rfl)) (pa_cons (pe_op op_sub pe_int (pe_gint (by rfl) g_MOST_FACTOR)) (pa_cons (pe_gint (by rfl) g_MOST_FACTOR) pa_nil))))))
        pss_nil)
      (pss_one (ps_ret (pe_and (pe_cmpR op_in_seq (pe_ix ix_tup (pv 0) pe_int (fun _ _ => rfl)) (pe_tup (pa_cons pe_str (pa_cons pe_str pa_nil))) (by rfl)) (pe_one (pe_f Gis_expression (hr.mono (by omega)) (by rfl) pass0 (pa_cons (pe_ix ix_tup (pv 0) pe_int (fun _ _ => rfl)) (pa_cons (pe_op op_sub (pv 1) pe_int) pa_nil))))))))))), ?_⟩
  walk_at "rd"
  refine ifd (fun c => ?_) (fun c => ?_)
  · obtain rfl : n = 0 := by
      have q := V.int.inj c
      omega
    walk_at "rd"
    exact k _ Kp.nil
  obtain ⟨m, rfl⟩ : ∃ m, n = m + 1 := ⟨n - 1, by
    have q : n ≠ 0 := fun e => c (by rw [e]; rfl)
    omega⟩
  obtain rfl := hs m rfl
  have em : ((m + 1 : Nat) : Int) - 1 = (m : Int) := by omega
  cases d with
  | tuple ds =>
    obtain ⟨a, xs, rfl, hT, hL⟩ := hd.items
    rw [dsz] at hz
    change ∀ H', Kp [] H H' → Q (.bl (isExprL (isExpr m) ds)) H' at k
    walk_at "rd"
    refine ifn (fun c1 => ?_) (fun c1 => ?_)
    · walk_at "rd"
      have q := k _ Kp.nil
      rw [isExprL_len (fun e => c1 (by rw [hL.len, e]; rfl))] at q
      exact q
    have c1 : xs.length = 3 := by
      have q := V.int.inj c1
      omega
    obtain ⟨x, y, z, d0, d1, d2, rfl, rfl, h0, h1, h2⟩ := hL.is3 c1
    simp only [dszs] at hz
    walk_at "rd"
    cases hx : isaD d0 "str" with
    | false =>
      walk_at "rd"
      have q := k _ Kp.nil
      rw [isExprL_str hx] at q
      exact q
    | true =>
      obtain ⟨u, rfl⟩ := isStr_of hx
      obtain rfl := h0.isStr
      walk_at "rd"
      refine ⟨z, d2, by rw [em]; rfl, h2, by omega, fun H1 k1 => ?_⟩
      have hT1 := sqT_kp k1 hT
      cases he : isExpr m d2 with
      | false =>
        walk_at "rd"
        have q := k _ k1
        rw [isExprL, he, Bool.false_and] at q
        exact q
      | true =>
        rw [isExprL, he, Bool.true_and] at k
        walk_at "rd"
        refine ifd (fun c2 => ?_) (fun c2 => ?_)
        · walk_at "rd"
          refine ⟨y, d1, _, _, rfl, h1.kp0 k1, ?_⟩
          have q := k _ k1
          rw [if_pos (V.str.inj c2)] at q
          exact q
        have c2 : u ≠ "times" := fun e => c2 (by rw [e])
        simp only [if_neg c2] at k
        walk_at "rd"
        refine ⟨by decide, fun p hp => ?_⟩
        have k2 : Kp [] H (upd H1 p (.tup [.str "plus", .str "minus"])) := k1.new hp
        refine r_in (.inr (SqT.of upd_same)) rfl rfl ?_
        have e2 : inV (.str u) [.str "plus", .str "minus"] = (decide (u = "plus") || decide (u = "minus")) := inV_two u "plus" "minus"
        rw [e2]
        walk_at "rd"
        cases he2 : (decide (u = "plus") || decide (u = "minus")) with
        | false =>
          walk_at "rd"
          have q := k _ k2
          rw [he2, Bool.false_and] at q
          exact q
        | true =>
          have hT2 := sqT_kp k2 hT
          rw [he2, Bool.true_and] at k
          walk_at "rd"
          refine ⟨y, d1, by rw [em]; rfl, h1.kp0 k2, by omega, fun H3 k3 => ?_⟩
          exact k _ (k2.trans k3)
  | _ =>
    walk_at "rd"
    refine ⟨v, _, rfl, hd, hz, fun H1 k1 => ?_⟩
    have hd1 := hd.kp0 k1
    have q := k _ k1
    rw [isExpr, isExprW] at q
    · cases hN : isName _ with
      | true =>
        rw [hN, Bool.true_or] at q
        walk_at "rd"
        exact q
      | false =>
        rw [hN, Bool.false_or] at q
        walk_at "rd"
        exact ⟨v, _, _, _, rfl, hd1, q⟩
    · intro ds e
      cases e
abbrev sis_rest : Stmt := topS 28
abbrev Nis_rest : List Str := ["value"]
abbrev Pis_rest : List Str := ["value"]
theorem scis_rest : FnScope Nis_rest Pis_rest (defScope sis_rest) :=
  ⟨rfl, rfl, rfl, by decide +kernel, rfl, by decide +kernel, by decide +kernel⟩
theorem ok_is_rest (D : Df K mg "is_rest" sis_rest Pis_rest) (B : Blt mg) {lv : Nat} {t1 t2 : Tok} (hlv : 1 ≤ lv)
    (g_MAX_DEEP : mg "MAX_DEEP" = some (.int 3 t1)) (g_MAX_BY : mg "MAX_BY" = some (.int 6 t2))
    (Gis_whole : Has P w K mg base CX0 "is_whole" ["value", "least", "most"] 1 (spWhole K))
    (Gis_expression : Has P w K mg base CX0 "is_expression" ["value", "left"] lv (spAskN K isExpr 3)) :
    Has P w K mg base CX0 "is_rest" Pis_rest (lv + 1) (spAskL K isRestL) := by
  refine D.has scis_rest (fun vs H Q E h => ?_) (fun f cdv A outer s H vs Q E hr h => ?_)
  · obtain ⟨v, ds, rfl, _⟩ := h
    rfl
  obtain ⟨v, ds, rfl, hd, hz, k⟩ := h
  refine ⟨_, (pss_cons (ps_if (PW.pt (pw_or (pt_cmpR op_ne (pe_callB c_len (by rfl) B.len (by decide +kernel) (pa_cons (pv 0) pa_nil)) pe_int (nomark _)) (pw_or (pt_not (pt_val (pe_f Gis_expression (hr.mono (by omega)) (by rfl) pass0 (pa_cons (pe_ix ix_tup (pv 0) pe_int (fun _ _ => rfl)) (pa_cons (pe_gint (by rfl) g_MAX_DEEP) pa_nil))))) (pw_or1 (pt_not (pt_val (pe_f Gis_whole (hr.mono (by omega)) (by rfl) pass0 (pa_cons (pe_ix ix_tup (pv 0) pe_int (fun _ _ => rfl)) (pa_cons pe_int (pa_cons (pe_gint (by rfl) g_MAX_BY) pa_nil)))))))))) (pss_one (ps_ret pe_bl))
        pss_nil)
      (pss_one (ps_ret (pe_f Gis_whole (hr.mono (by omega)) (by rfl) pass0 (pa_cons (pe_ix ix_tup (pv 0) pe_int (fun _ _ => rfl)) (pa_cons pe_int (pa_cons (pe_op op_sub (pe_ix ix_tup (pv 0) pe_int (fun _ _ => rfl)) pe_int) pa_nil))))))), ?_⟩
  obtain ⟨a, xs, rfl, hT, hL⟩ := hd.items
  walk_at "rd"
  refine ifn (fun c1 => ?_) (fun c1 => ?_)
  · walk_at "rd"
    have q := k _ Kp.nil
    rw [isRestL_len (fun e => c1 (by rw [hL.len, e]; rfl))] at q
    exact q
  have c1 : xs.length = 4 := by
    have q := V.int.inj c1
    omega
  obtain ⟨x, y, z, u, d0, d1, d2, d3, rfl, rfl, h0, h1, h2, h3⟩ := hL.is4 c1
  simp only [dszs] at hz
  rw [isRestL4] at k
  walk_at "rd"
  refine ⟨y, d1, rfl, h1, by omega, fun H1 k1 => ?_⟩
  have hT1 := sqT_kp k1 hT
  cases he : isExpr 3 d1 with
  | false =>
    walk_at "rd"
    have q := k _ k1
    rw [he, Bool.false_and] at q
    exact q
  | true =>
    rw [he, Bool.true_and] at k
    walk_at "rd"
    refine ⟨z, d2, _, _, rfl, h2.kp0 k1, ?_⟩
    cases hw : isWhole 2 6 d2 with
    | false =>
      walk_at "rd"
      have q := k _ k1
      rw [hw, Bool.false_and] at q
      exact q
    | true =>
      rw [hw, Bool.true_and] at k
      obtain ⟨i, rfl, i1, i2⟩ := whole_view hw
      obtain rfl := h2.isInt
      walk_at "rd"
      exact ⟨u, d3, _, _, rfl, h3.kp0 k1, k _ k1⟩
abbrev sis_test : Stmt := topS 29
abbrev Nis_test : List Str := ["value", "nots"]
abbrev Pis_test : List Str := ["value", "nots"]
theorem scis_test : FnScope Nis_test Pis_test (defScope sis_test) :=
  ⟨rfl, rfl, rfl, by decide +kernel, rfl, by decide +kernel, by decide +kernel⟩
theorem ok_is_test1 (D : Df K mg "is_test" sis_test Pis_test) (B : Blt mg) {n lv : Nat} {sp2 : Sp} {t1 : Tok} (hlv : 6 ≤ lv)
    (g_MAX_DEEP : mg "MAX_DEEP" = some (.int 3 t1)) (Gis_rest : Has P w K mg base CX0 "is_rest" ["value"] 6 (spAskL K isRestL))
    (Gis_name_programs : Has P w K mg base CX0 "is_name_programs" ["value"] 1 (spAsk K isName)) (Gis_expression : Has P w K mg base CX0 "is_expression" ["value", "left"] 5 (spAskN K isExpr 3))
    (Gis_test : Has P w K mg base CX0 "is_test" Pis_test lv sp2) (hs : ∀ m, n = m + 1 → sp2 = spAskN K isTest m) :
    Has P w K mg base CX0 "is_test" Pis_test (lv + 1) (spAskN K isTest n) := by
  refine D.has scis_test (fun vs H Q E h => ?_) (fun f cdv A outer s H vs Q E hr h => ?_)
  · obtain ⟨v, d, rfl, _⟩ := h
    rfl
  obtain ⟨v, d, rfl, hd, hz, k⟩ := h
  refine ⟨_, (pss_cons (ps_if (PW.pt (pw_or (pt_not (pt_val (pe_callB c_is2 (by rfl) B.isinstance (by decide +kernel) (pa_cons (pv 0) (pa_cons (pe_ty (T := "tuple") (by rfl) B.tuple (by decide +kernel)) pa_nil))))) (pw_or (pt_cmpR op_eq (pe_callB c_len (by rfl) B.len (by decide +kernel) (pa_cons (pv 0) pa_nil)) pe_int (nomark _)) (pw_or1 (pt_not (pt_val (pe_callB c_is2 (by rfl) B.isinstance (by decide +kernel) (pa_cons (pe_ix ix_tup (pv 0) pe_int (fun _ _ => rfl)) (pa_cons (pe_ty (T := "str") (by rfl) B.str (by decide +kernel)) pa_nil))))))))) (pss_one (ps_ret pe_bl))
        pss_nil)
      (pss_cons (ps_if (pt_cmpR op_eq (pe_ix ix_tup (pv 0) pe_int (fun _ _ => rfl)) pe_str (nomark _)) (pss_one (ps_ret (pe_and (pe_cmpR op_eq (pe_callB c_len (by rfl) B.len (by decide +kernel) (pa_cons (pv 0) pa_nil)) pe_int (nomark _)) (pe_and (pe_f Gis_expression (hr.mono (by omega)) (by rfl) pass0 (pa_cons (pe_ix ix_tup (pv 0) pe_int (fun _ _ => rfl)) (pa_cons (pe_gint (by rfl) g_MAX_DEEP) pa_nil))) (pe_one (pe_f Gis_expression (hr.mono (by omega)) (by rfl) pass0 (pa_cons (pe_ix ix_tup (pv 0) pe_int (fun _ _ => rfl)) (pa_cons (pe_gint (by rfl) g_MAX_DEEP) pa_nil))))))))
        pss_nil)
      (pss_cons (ps_if (pt_cmpR op_eq (pe_ix ix_tup (pv 0) pe_int (fun _ _ => rfl)) pe_str (nomark _)) (pss_one (ps_ret (pe_f Gis_rest (hr.mono (by omega)) (by rfl) pass0 (pa_cons (pv 0) pa_nil))))
        pss_nil)
      (pss_cons (ps_if (pt_cmpR op_eq (pe_ix ix_tup (pv 0) pe_int (fun _ _ => rfl)) pe_str (nomark _)) (pss_one (ps_ret (pe_and (pe_cmpR op_eq (pe_callB c_len (by rfl) B.len (by decide +kernel) (pa_cons (pv 0) pa_nil)) pe_int (nomark _)) (pe_one (pe_f Gis_name_programs (hr.mono (by omega)) (by rfl) pass0 (pa_cons (pe_ix ix_tup (pv 0) pe_int (fun _ _ => rfl)) pa_nil))))))
        pss_nil)
      (pss_one (ps_ret (pe_and (pe_cmpR op_eq (pe_ix ix_tup (pv 0) pe_int (fun _ _ => rfl)) pe_str (nomark _)) (pe_and (pe_cmpR op_eq (pe_callB c_len (by rfl) B.len (by decide +kernel) (pa_cons (pv 0) pa_nil)) pe_int (nomark _)) (pe_and (pe_cmpR op_gt (pv 1) pe_int (nomark _)) (pe_one (pe_f Gis_test (hr.mono (by omega)) (by rfl) pass0 (pa_cons (pe_ix ix_tup (pv 0) pe_int (fun _ _ => rfl)) (pa_cons (pe_op op_sub (pv 1) pe_int) pa_nil))))))))))))), ?_⟩
  obtain ⟨F, hF, hF2⟩ : ∃ F : PyData → Bool, isTest n d = isTestW F d ∧ ((n = 0 ∧ F = fun _ => false) ∨ ∃ m, n = m + 1 ∧ F = isTest m) := isTest_F n d
  rw [hF] at k
  cases d with
  | tuple ds =>
    obtain ⟨a, xs, rfl, hT, hL⟩ := hd.items
    rw [dsz] at hz
    cases ds with
    | nil =>
      obtain rfl := hL.inv0
      walk_at "rd"
      exact k _ Kp.nil
    | cons d0 r =>
      obtain ⟨x, ys, rfl, h0, hR⟩ := hL.inv
      rw [dszs] at hz
      have hlen := hR.len
      walk_at "rd"
      refine ifd (fun c => ?_) (fun _ => ?_)
      · have q := V.int.inj c
        rw [List.length_cons] at q
        omega
      have hx0 : atI (x :: ys) 0 = some x := at_nn (Int.le_refl 0) rfl
      walk_at "rd"
      cases hx : isaD d0 "str" with
      | false =>
        walk_at "rd"
        have q := k _ Kp.nil
        rw [isTestW_str hx] at q
        exact q
      | true =>
        obtain ⟨u, rfl⟩ := isStr_of hx
        obtain rfl := h0.isStr
        change ∀ H', Kp [] H H' → Q (.bl (isTestL F u r)) H' at k
        unfold isTestL at k
        walk_at "rd"
        refine ifd (fun c1 => ?_) (fun c1 => ?_)
        · simp only [if_pos (V.str.inj c1)] at k
          walk_at "rd"
          refine ifd (fun c2 => ?_) (fun c2 => ?_)
          rotate_left 1
          · have q := k _ Kp.nil
            rw [two_len (fun e => c2 (by rw [List.length_cons, hlen, e]; rfl))] at q
            exact q
          have c2 : ys.length = 2 := by
            have q := V.int.inj c2
            rw [List.length_cons] at q
            omega
          obtain ⟨y, z, d1, d2, rfl, rfl, h1, h2⟩ := hR.is2 c2
          simp only [dszs] at hz
          simp only [two] at k
          walk_at "rd"
          refine ⟨y, d1, rfl, h1, by omega, fun H1 k1 => ?_⟩
          have hT1 := sqT_kp k1 hT
          cases he : isExpr 3 d1 with
          | false =>
            walk_at "rd"
            have q := k _ k1
            rw [he, Bool.false_and] at q
            exact q
          | true =>
            rw [he] at k
            simp only [Bool.true_and] at k
            walk_at "rd"
            exact ⟨z, d2, rfl, h2.kp0 k1, by omega, fun H2 k2 => k _ (k1.trans k2)⟩
        have c1 : u ≠ "less" := fun e => c1 (by rw [e])
        simp only [if_neg c1] at k
        walk_at "rd"
        refine ifd (fun c2 => ?_) (fun c2 => ?_)
        · simp only [if_pos (V.str.inj c2)] at k
          walk_at "rd"
          exact ⟨_, _, rfl, hd, by rw [dszs]; omega, k⟩
        have c2 : u ≠ "rest" := fun e => c2 (by rw [e])
        simp only [if_neg c2] at k
        walk_at "rd"
        refine ifd (fun c3 => ?_) (fun c3 => ?_)
        · simp only [if_pos (V.str.inj c3)] at k
          walk_at "rd"
          refine ifd (fun c4 => ?_) (fun c4 => ?_)
          rotate_left 1
          · have q := k _ Kp.nil
            rw [one_len (fun e => c4 (by rw [List.length_cons, hlen, e]; rfl))] at q
            exact q
          have c4 : ys.length = 1 := by
            have q := V.int.inj c4
            rw [List.length_cons] at q
            omega
          obtain ⟨y, d1, rfl, rfl, h1⟩ := hR.is1 c4
          simp only [dszs] at hz
          walk_at "rd"
          exact ⟨y, d1, rfl, h1, by omega, k⟩
        have c3 : u ≠ "given" := fun e => c3 (by rw [e])
        simp only [if_neg c3] at k
        walk_at "rd"
        refine ifd (fun c4 => ?_) (fun c4 => ?_)
        rotate_left 1
        · have c4 : u ≠ "not" := fun e => c4 (by rw [e])
          simp only [if_neg c4] at k
          exact k _ Kp.nil
        simp only [if_pos (V.str.inj c4)] at k
        walk_at "rd"
        refine ifd (fun c5 => ?_) (fun c5 => ?_)
        rotate_left 1
        · have q := k _ Kp.nil
          rw [one_len (fun e => c5 (by rw [List.length_cons, hlen, e]; rfl))] at q
          exact q
        have c5 : ys.length = 1 := by
          have q := V.int.inj c5
          rw [List.length_cons] at q
          omega
        obtain ⟨y, d1, rfl, rfl, h1⟩ := hR.is1 c5
        simp only [dszs] at hz
        walk_at "rd"
        refine ifd (fun c6 => ?_) (fun c6 => ?_)
        rotate_left 1
        · rcases hF2 with ⟨rfl, rfl⟩ | ⟨m, rfl, _⟩
          · exact k _ Kp.nil
          · omega
        rcases hF2 with ⟨rfl, rfl⟩ | ⟨m, rfl, rfl⟩
        · omega
        obtain rfl := hs m rfl
        have em : ((m + 1 : Nat) : Int) - 1 = (m : Int) := by omega
        walk_at "rd"
        exact ⟨y, d1, by rw [em]; rfl, h1, by omega, k⟩
  | _ => walk_at "rd"; exact k _ Kp.nil
abbrev sis_plain : Stmt := topS 30
abbrev Nis_plain : List Str := ["value"]
abbrev Pis_plain : List Str := ["value"]
theorem scis_plain : FnScope Nis_plain Pis_plain (defScope sis_plain) :=
  ⟨rfl, rfl, rfl, by decide +kernel, rfl, by decide +kernel, by decide +kernel⟩
theorem ok_is_plain (D : Df K mg "is_plain" sis_plain Pis_plain) (B : Blt mg) {t1 : Tok}
    (g_MAX_DEEP : mg "MAX_DEEP" = some (.int 3 t1)) (Gis_word_programs : Has P w K mg base CX0 "is_word_programs" ["value"] 1 (spAsk K isWord))
    (Gis_name_programs : Has P w K mg base CX0 "is_name_programs" ["value"] 1 (spAsk K isName)) (Gis_expression : Has P w K mg base CX0 "is_expression" ["value", "left"] 5 (spAskN K isExpr 3)) :
    Has P w K mg base CX0 "is_plain" Pis_plain 6 (spAskT K isPlainL) := by
  refine D.has scis_plain (fun vs H Q E h => ?_) (fun f cdv A outer s H vs Q E hr h => ?_)
  · obtain ⟨v, w, r, rfl, _⟩ := h
    rfl
  obtain ⟨v, u, r, rfl, hd, hz, k⟩ := h
  refine ⟨_, (pss_cons (ps_if (pt_cmpR op_eq (pe_ix ix_tup (pv 0) pe_int (fun _ _ => rfl)) pe_str (nomark _)) (pss_one (ps_ret (pe_and (pe_cmpR op_eq (pe_callB c_len (by rfl) B.len (by decide +kernel) (pa_cons (pv 0) pa_nil)) pe_int (nomark _)) (pe_and (pe_f Gis_name_programs (hr.mono (by omega)) (by rfl) pass0 (pa_cons (pe_ix ix_tup (pv 0) pe_int (fun _ _ => rfl)) pa_nil)) (pe_one (pe_f Gis_expression (hr.mono (by omega)) (by rfl) pass0 (pa_cons (pe_ix ix_tup (pv 0) pe_int (fun _ _ => rfl)) (pa_cons (pe_gint (by rfl) g_MAX_DEEP) pa_nil))))))))
        pss_nil)
      (pss_cons (ps_if (pt_cmpR op_eq (pe_ix ix_tup (pv 0) pe_int (fun _ _ => rfl)) pe_str (nomark _)) (pss_one (ps_ret (pe_and (pe_cmpR op_eq (pe_callB c_len (by rfl) B.len (by decide +kernel) (pa_cons (pv 0) pa_nil)) pe_int (nomark _)) (pe_one (pe_f Gis_name_programs (hr.mono (by omega)) (by rfl) pass0 (pa_cons (pe_ix ix_tup (pv 0) pe_int (fun _ _ => rfl)) pa_nil))))))
        pss_nil)
      (pss_cons (ps_if (pt_cmpR op_eq (pe_ix ix_tup (pv 0) pe_int (fun _ _ => rfl)) pe_str (nomark _)) (pss_one (ps_ret (pe_and (pe_cmpR op_eq (pe_callB c_len (by rfl) B.len (by decide +kernel) (pa_cons (pv 0) pa_nil)) pe_int (nomark _)) (pe_one (pe_f Gis_expression (hr.mono (by omega)) (by rfl) pass0 (pa_cons (pe_ix ix_tup (pv 0) pe_int (fun _ _ => rfl)) (pa_cons (pe_gint (by rfl) g_MAX_DEEP) pa_nil)))))))
        pss_nil)
      (pss_one (ps_ret (pe_and (pe_cmpR op_in_seq (pe_ix ix_tup (pv 0) pe_int (fun _ _ => rfl)) (pe_tup (pa_cons pe_str (pa_cons pe_str pa_nil))) (by rfl)) (pe_and (pe_cmpR op_eq (pe_callB c_len (by rfl) B.len (by decide +kernel) (pa_cons (pv 0) pa_nil)) pe_int (nomark _)) (pe_one (pe_f Gis_word_programs (hr.mono (by omega)) (by rfl) pass0 (pa_cons (pe_ix ix_tup (pv 0) pe_int (fun _ _ => rfl)) pa_nil)))))))))), ?_⟩
  obtain ⟨a, xs, rfl, hT, hL⟩ := hd.items
  obtain ⟨x, ys, rfl, h0, hR⟩ := hL.inv
  obtain rfl := h0.isStr
  have hlen := hR.len
  have hx0 : atI (V.str u :: ys) 0 = some (V.str u) := at_nn (Int.le_refl 0) rfl
  unfold isPlainL at k
  walk_at "rd"
  refine ifd (fun c1 => ?_) (fun c1 => ?_)
  · simp only [if_pos (V.str.inj c1)] at k
    walk_at "rd"
    refine ifd (fun c2 => ?_) (fun c2 => ?_)
    rotate_left 1
    · have q := k _ Kp.nil
      rw [two_len (fun e => c2 (by rw [List.length_cons, hlen, e]; rfl))] at q
      exact q
    have c2 : ys.length = 2 := by
      have q := V.int.inj c2
      rw [List.length_cons] at q
      omega
    obtain ⟨y, z, d1, d2, rfl, rfl, h1, h2⟩ := hR.is2 c2
    simp only [dszs] at hz
    simp only [two] at k
    walk_at "rd"
    refine ⟨y, d1, rfl, h1, by omega, fun H1 k1 => ?_⟩
    have hT1 := sqT_kp k1 hT
    cases he : isName d1 with
    | false =>
      walk_at "rd"
      have q := k _ k1
      rw [he, Bool.false_and] at q
      exact q
    | true =>
      rw [he] at k
      simp only [Bool.true_and] at k
      walk_at "rd"
      exact ⟨z, d2, rfl, h2.kp0 k1, by omega, fun H2 k2 => k _ (k1.trans k2)⟩
  have c1 : u ≠ "set" := fun e => c1 (by rw [e])
  simp only [if_neg c1] at k
  walk_at "rd"
  refine ifd (fun c3 => ?_) (fun c3 => ?_)
  · simp only [if_pos (V.str.inj c3)] at k
    walk_at "rd"
    refine ifd (fun c4 => ?_) (fun c4 => ?_)
    rotate_left 1
    · have q := k _ Kp.nil
      rw [one_len (fun e => c4 (by rw [List.length_cons, hlen, e]; rfl))] at q
      exact q
    have c4 : ys.length = 1 := by
      have q := V.int.inj c4
      rw [List.length_cons] at q
      omega
    obtain ⟨y, d1, rfl, rfl, h1⟩ := hR.is1 c4
    simp only [dszs] at hz
    walk_at "rd"
    exact ⟨y, d1, rfl, h1, by omega, k⟩
  have c3 : u ≠ "unset" := fun e => c3 (by rw [e])
  simp only [if_neg c3] at k
  walk_at "rd"
  refine ifd (fun c5 => ?_) (fun c5 => ?_)
  · simp only [if_pos (V.str.inj c5)] at k
    walk_at "rd"
    refine ifd (fun c4 => ?_) (fun c4 => ?_)
    rotate_left 1
    · have q := k _ Kp.nil
      rw [one_len (fun e => c4 (by rw [List.length_cons, hlen, e]; rfl))] at q
      exact q
    have c4 : ys.length = 1 := by
      have q := V.int.inj c4
      rw [List.length_cons] at q
      omega
    obtain ⟨y, d1, rfl, rfl, h1⟩ := hR.is1 c4
    simp only [dszs] at hz
    walk_at "rd"
    exact ⟨y, d1, rfl, h1, by omega, k⟩
  have c5 : u ≠ "tell" := fun e => c5 (by rw [e])
  simp only [if_neg c5] at k
  walk_at "rd"
  refine ⟨by decide, fun p hp => ?_⟩
  have k2 : Kp [] H (upd H p (.tup [.str "say", .str "stop"])) := Kp.nil.new hp
  have hT2 := sqT_kp k2 hT
  refine r_in (.inr (SqT.of upd_same)) rfl rfl ?_
  rw [inV_two u "say" "stop"]
  generalize upd H p (.tup [.str "say", .str "stop"]) = H2 at k2 hT2 ⊢
  cases he2 : (decide (u = "say") || decide (u = "stop")) with
  | false =>
    walk_at "rd"
    have q := k _ k2
    rw [if_neg (by intro e; rw [Bool.or_eq_false_iff, decide_eq_false_iff_not, decide_eq_false_iff_not] at he2; exact e.elim he2.1 he2.2)] at q
    exact q
  | true =>
    rw [Bool.or_eq_true, decide_eq_true_eq, decide_eq_true_eq] at he2
    simp only [if_pos he2] at k
    walk_at "rd"
    refine ifd (fun c4 => ?_) (fun c4 => ?_)
    rotate_left 1
    · have q := k _ k2
      rw [one_len (fun e => c4 (by rw [List.length_cons, hlen, e]; rfl))] at q
      exact q
    have c4 : ys.length = 1 := by
      have q := V.int.inj c4
      rw [List.length_cons] at q
      omega
    obtain ⟨y, d1, rfl, rfl, h1⟩ := hR.is1 c4
    simp only [dszs] at hz
    walk_at "rd"
    exact ⟨y, d1, rfl, h1.kp0 k2, by omega, fun H3 k3 => k _ (k2.trans k3)⟩
abbrev sis_statement : Stmt := topS 31
abbrev Nis_statement : List Str := ["value"]
abbrev Pis_statement : List Str := ["value"]
theorem scis_statement : FnScope Nis_statement Pis_statement (defScope sis_statement) :=
  ⟨rfl, rfl, rfl, by decide +kernel, rfl, by decide +kernel, by decide +kernel⟩
theorem ok_is_statement (D : Df K mg "is_statement" sis_statement Pis_statement) (B : Blt mg) {t1 t2 : Tok}
    (g_MAX_NOTS : mg "MAX_NOTS" = some (.int 2 t1)) (g_MAX_TIMES : mg "MAX_TIMES" = some (.int 8 t2)) (Gis_whole : Has P w K mg base CX0 "is_whole" ["value", "least", "most"] 1 (spWhole K))
    (Gis_test : Has P w K mg base CX0 "is_test" ["value", "nots"] 9 (spAskN K isTest 2)) (Gis_plain : Has P w K mg base CX0 "is_plain" ["value"] 6 (spAskT K isPlainL)) :
    Has P w K mg base CX0 "is_statement" Pis_statement 10 (spAsk K isStmt) := by
  refine D.has scis_statement (fun vs H Q E h => ?_) (fun f cdv A outer s H vs Q E hr h => ?_)
  · obtain ⟨v, d, rfl, _⟩ := h
    rfl
  obtain ⟨v, d, rfl, hd, hz, k⟩ := h
  refine ⟨_, (pss_cons (ps_if (PW.pt (pw_or (pt_not (pt_val (pe_callB c_is2 (by rfl) B.isinstance (by decide +kernel) (pa_cons (pv 0) (pa_cons (pe_ty (T := "tuple") (by rfl) B.tuple (by decide +kernel)) pa_nil))))) (pw_or (pt_cmpR op_eq (pe_callB c_len (by rfl) B.len (by decide +kernel) (pa_cons (pv 0) pa_nil)) pe_int (nomark _)) (pw_or1 (pt_not (pt_val (pe_callB c_is2 (by rfl) B.isinstance (by decide +kernel) (pa_cons (pe_ix ix_tup (pv 0) pe_int (fun _ _ => rfl)) (pa_cons (pe_ty (T := "str") (by rfl) B.str (by decide +kernel)) pa_nil))))))))) (pss_one (ps_ret pe_bl))
        pss_nil)
      (pss_cons (ps_if (pt_cmpR op_eq (pe_ix ix_tup (pv 0) pe_int (fun _ _ => rfl)) pe_str (nomark _)) (pss_cons (ps_if (PW.pt (pw_or (pt_cmpR op_ne (pe_callB c_len (by rfl) B.len (by decide +kernel) (pa_cons (pv 0) pa_nil)) pe_int (nomark _)) (pw_or1 (pt_not (pt_val (pe_f Gis_test (hr.mono (by omega)) (by rfl) pass0 (pa_cons (pe_ix ix_tup (pv 0) pe_int (fun _ _ => rfl)) (pa_cons (pe_gint (by rfl) g_MAX_NOTS) pa_nil)))))))) (pss_one (ps_ret pe_bl))
        pss_nil)
      (pss_one (ps_ret (pe_and (pe_callB c_is2 (by rfl) B.isinstance (by decide +kernel) (pa_cons (pe_ix ix_tup (pv 0) pe_int (fun _ _ => rfl)) (pa_cons (pe_ty (T := "tuple") (by rfl) B.tuple (by decide +kernel)) pa_nil))) (pe_one (pe_callB c_is2 (by rfl) B.isinstance (by decide +kernel) (pa_cons (pe_ix ix_tup (pv 0) pe_int (fun _ _ => rfl)) (pa_cons (pe_ty (T := "tuple") (by rfl) B.tuple (by decide +kernel)) pa_nil))))))))
        pss_nil)
      (pss_cons (ps_if (pt_cmpR op_eq (pe_ix ix_tup (pv 0) pe_int (fun _ _ => rfl)) pe_str (nomark _)) (pss_one (ps_ret (pe_and (pe_cmpR op_eq (pe_callB c_len (by rfl) B.len (by decide +kernel) (pa_cons (pv 0) pa_nil)) pe_int (nomark _)) (pe_and (pe_f Gis_whole (hr.mono (by omega)) (by rfl) pass0 (pa_cons (pe_ix ix_tup (pv 0) pe_int (fun _ _ => rfl)) (pa_cons pe_int (pa_cons (pe_gint (by rfl) g_MAX_TIMES) pa_nil)))) (pe_one (pe_callB c_is2 (by rfl) B.isinstance (by decide +kernel) (pa_cons (pe_ix ix_tup (pv 0) pe_int (fun _ _ => rfl)) (pa_cons (pe_ty (T := "tuple") (by rfl) B.tuple (by decide +kernel)) pa_nil))))))))
        pss_nil)
      (pss_one (ps_ret (pe_f Gis_plain (hr.mono (by omega)) (by rfl) pass0 (pa_cons (pv 0) pa_nil))))))), ?_⟩
  cases d with
  | tuple ds =>
    obtain ⟨a, xs, rfl, hT, hL⟩ := hd.items
    rw [dsz] at hz
    cases ds with
    | nil =>
      obtain rfl := hL.inv0
      walk_at "rd"
      exact k _ Kp.nil
    | cons d0 r =>
      obtain ⟨x, ys, rfl, h0, hR⟩ := hL.inv
      rw [dszs] at hz
      have hlen := hR.len
      walk_at "rd"
      refine ifd (fun c => ?_) (fun _ => ?_)
      · have q := V.int.inj c
        rw [List.length_cons] at q
        omega
      have hx0 : atI (x :: ys) 0 = some x := at_nn (Int.le_refl 0) rfl
      walk_at "rd"
      cases hx : isaD d0 "str" with
      | false =>
        walk_at "rd"
        have q := k _ Kp.nil
        rw [isStmt_str hx] at q
        exact q
      | true =>
        obtain ⟨u, rfl⟩ := isStr_of hx
        obtain rfl := h0.isStr
        change ∀ H', Kp [] H H' → Q (.bl (isStmtL u r)) H' at k
        unfold isStmtL at k
        walk_at "rd"
        refine ifd (fun c1 => ?_) (fun c1 => ?_)
        · simp only [if_pos (V.str.inj c1)] at k
          walk_at "rd"
          refine ifn (fun c2 => ?_) (fun c2 => ?_)
          · walk_at "rd"
            have q := k _ Kp.nil
            rw [three_len (fun e => c2 (by rw [List.length_cons, hlen, e]; rfl))] at q
            exact q
          have c2 : ys.length = 3 := by
            have q := V.int.inj c2
            rw [List.length_cons] at q
            omega
          obtain ⟨x1, x2, x3, d1, d2, d3, rfl, rfl, h1, h2, h3⟩ := hR.is3 c2
          simp only [dszs] at hz
          simp only [three] at k
          walk_at "rd"
          refine ⟨x1, d1, rfl, h1, by omega, fun H1 k1 => ?_⟩
          have hT1 := sqT_kp k1 hT
          have h2 := h2.kp0 k1
          have h3 := h3.kp0 k1
          cases he : isTest 2 d1 with
          | false =>
            walk_at "rd"
            have q := k _ k1
            rw [he, Bool.false_and] at q
            exact q
          | true =>
            rw [he] at k
            simp only [Bool.true_and] at k
            rw [← isa_tup, ← isa_tup] at k
            have q := k _ k1
            walk_at "rd"
            refine r_is2 h2 (by decide) ?_
            cases ht : isaD d2 "tuple" with
            | false =>
              rw [ht, Bool.false_and] at q
              walk_at "rd"
              exact q
            | true =>
              rw [ht, Bool.true_and] at q
              walk_at "rd"
              exact r_is2 h3 (by decide) q
        have c1 : u ≠ "if" := fun e => c1 (by rw [e])
        simp only [if_neg c1] at k
        walk_at "rd"
        refine ifd (fun c2 => ?_) (fun c2 => ?_)
        · simp only [if_pos (V.str.inj c2)] at k
          walk_at "rd"
          refine ifd (fun c4 => ?_) (fun c4 => ?_)
          rotate_left 1
          · have q := k _ Kp.nil
            rw [two_len (fun e => c4 (by rw [List.length_cons, hlen, e]; rfl))] at q
            exact q
          have c4 : ys.length = 2 := by
            have q := V.int.inj c4
            rw [List.length_cons] at q
            omega
          obtain ⟨x1, x2, d1, d2, rfl, rfl, h1, h2⟩ := hR.is2 c4
          simp only [dszs] at hz
          simp only [two] at k
          have q := k _ Kp.nil
          walk_at "rd"
          refine ⟨x1, d1, _, _, rfl, h1, ?_⟩
          cases he : isWhole 0 8 d1 with
          | false =>
            rw [he, Bool.false_and] at q
            walk_at "rd"
            exact q
          | true =>
            rw [he, Bool.true_and, ← isa_tup] at q
            walk_at "rd"
            exact r_is2 h2 (by decide) q
        have c2 : u ≠ "repeat" := fun e => c2 (by rw [e])
        simp only [if_neg c2] at k
        walk_at "rd"
        exact ⟨_, u, r, rfl, hd, by omega, k⟩
  | _ => walk_at "rd"; exact k _ Kp.nil
abbrev sblocks_of : Stmt := topS 32
abbrev Nblocks_of : List Str := ["statement"]
abbrev Pblocks_of : List Str := ["statement"]
theorem scblocks_of : FnScope Nblocks_of Pblocks_of (defScope sblocks_of) :=
  ⟨rfl, rfl, rfl, by decide +kernel, rfl, by decide +kernel, by decide +kernel⟩
theorem ok_blocks_of (D : Df K mg "blocks_of" sblocks_of Pblocks_of) (B : Blt mg) : Has P w K mg base CX0 "blocks_of" Pblocks_of 1 (spBlocks K) := by
  refine D.has scblocks_of (fun vs H Q E h => ?_) (fun f cdv A outer s H vs Q E hr h => ?_)
  · obtain ⟨M, v, d, rfl, _⟩ := h
    rfl
  obtain ⟨M, v, d, rfl, hd, hs, k⟩ := h
  refine ⟨_, (pss_cons (ps_if (pt_cmpR op_eq (pe_ix ix_tup (pv 0) pe_int (fun _ _ => rfl)) pe_str (nomark _)) (pss_one (ps_ret (pe_lst (pa_cons (pe_ix ix_tup (pv 0) pe_int (fun _ _ => rfl)) (pa_cons (pe_ix ix_tup (pv 0) pe_int (fun _ _ => rfl)) pa_nil)))))
        pss_nil)
      (pss_one (ps_ret (pe_ifExp (pt_cmpR op_eq (pe_ix ix_tup (pv 0) pe_int (fun _ _ => rfl)) pe_str (nomark _)) (pe_lst (pa_cons (pe_ix ix_tup (pv 0) pe_int (fun _ _ => rfl)) pa_nil)) (pe_lst pa_nil))))), ?_⟩
  rcases stmt_view hs with ⟨p, rfl, hp, hb⟩ | ⟨t, y, z, rfl, ht, hb⟩ | ⟨n, b, rfl, k1, k2, hb⟩
  · obtain ⟨u, r, e, n1, n2⟩ := Pl.hd p
    rw [hb] at k
    rw [e] at hd
    obtain ⟨a, xs, rfl, hT, hL⟩ := hd.items
    obtain ⟨x, ys, rfl, h0, hR⟩ := hL.inv
    obtain rfl := h0.isStr
    have hx0 : atI (V.str u :: ys) 0 = some (V.str u) := at_nn (Int.le_refl 0) rfl
    walk_at "rd"
    refine ifd (fun c => absurd (V.str.inj c) n1) fun _ => ?_
    walk_at "rd"
    refine ifd (fun c => absurd (V.str.inj c) n2) fun _ => ?_
    walk_at "rd"
    exact ⟨by decide, fun p hp => k _ p [] hp (Kp.nil.new hp) upd_same DwL.nil⟩
  · rw [hb] at k
    obtain ⟨a, xs, rfl, hT, hL⟩ := hd.items
    obtain ⟨x0, x1, x2, x3, d0, d1, d2, d3, rfl, e, h0, h1, h2, h3⟩ := hL.is4 hL.len
    cases e
    obtain rfl := h0.isStr
    walk_at "rd"
    refine ⟨by walk_at "sz", fun p hp => ?_⟩
    have k1 : Kp [] H (upd H p (.lst [x2, x3])) := Kp.nil.new hp
    exact k _ p [x2, x3] hp k1 upd_same (DwL.cons (h2.kp0 k1) (DwL.cons (h3.kp0 k1) DwL.nil))
  · rw [hb] at k
    obtain ⟨a, xs, rfl, hT, hL⟩ := hd.items
    obtain ⟨x0, x1, x2, d0, d1, d2, rfl, e, h0, h1, h2⟩ := hL.is3 hL.len
    cases e
    obtain rfl := h0.isStr
    walk_at "rd"
    refine ⟨by walk_at "sz", fun p hp => ?_⟩
    have k1 : Kp [] H (upd H p (.lst [x2])) := Kp.nil.new hp
    exact k _ p [x2] hp k1 upd_same (DwL.cons (h2.kp0 k1) DwL.nil)
abbrev sitems_within : Stmt := topS 33
abbrev Nitems_within : List Str := ["statement", "depth", "found", "block", "item"]
abbrev Pitems_within : List Str := ["statement", "depth"]
theorem scitems_within : FnScope Nitems_within Pitems_within (defScope sitems_within) :=
  ⟨rfl, rfl, rfl, by decide +kernel, rfl, by decide +kernel, by decide +kernel⟩
theorem ok_items_within (D : Df K mg "items_within" sitems_within Pitems_within) (B : Blt mg) (Gblocks_of : Has P w K mg base CX0 "blocks_of" ["statement"] 1 (spBlocks K)) :
    Has P w K mg base CX0 "items_within" Pitems_within 2 (spItems K) := by
  refine D.has scitems_within (fun vs H Q E h => ?_) (fun f cdv A outer s H vs Q E hr h => ?_)
  · obtain ⟨M, v, d, n, rfl, _⟩ := h
    rfl
  obtain ⟨M, v, d, n, rfl, hd, hs, hz, k⟩ := h
  refine ⟨_, (pss_cons (ps_set (i := 2) scitems_within.nd rfl (Or.inl rfl) (pe_lst pa_nil))
      (pss_cons (ps_for PassesOwn.never rfl (pi_list (pe_f Gblocks_of (hr.mono (by omega)) (by rfl) pass0 (pa_cons (pv 0) pa_nil))) (pg_name (i := 3) scitems_within.nd rfl (Or.inl rfl))
        (pss_one (ps_expr (pe_bm PySem.F.plainAttrs_list PySem.F.slot_list_extend PySem.F.type_list_extend mt_extend (pv 2) (pa_cons (pe_lc (own := [("item", 4)]) (g := gName 4) (by rfl) scitems_within.nd (pi_tup (pv 3)) (blkOk_by (own := [("item", 4)]) (N := Nitems_within) (sc := defScope sitems_within) (by decide +kernel)) (fun _ _ _ _ _ => (pg_name (i := 4) scitems_within.nd rfl (Or.inl rfl))) (fun _ _ _ _ _ => pts_nil) (fun _ _ _ _ _ => (pe_tup (pa_cons (pe_op op_add (pv 1) pe_int) (pa_cons (pv 4) pa_nil))))) pa_nil)))))
      (pss_one (ps_ret (pe_revL (pv 2)))))), ?_⟩
  walk_at "rd"
  refine ⟨by decide, fun p hp => ?_⟩
  have k1 : Kp [] H (upd H p (.lst [])) := Kp.nil.new hp
  have hp1 : upd H p (.lst []) p = some (.lst []) := upd_same
  have hd1 : Dw (p :: M) K (upd H p (.lst [])) v d := (hd.fresh hp).kp0 k1
  generalize upd H p (.lst []) = H1 at k1 hp1 hd1 ⊢
  walk_at "rd"
  refine ⟨p :: M, v, d, rfl, hd1, hs, fun H2 b xs hb k2 hb2 hL => ?_⟩
  have hp2 := k2.get hp1 (by simp)
  have hbp : b ≠ p := Ne.symm (ne_of_none hp1 hb)
  refine r_ForL (xs := xs) (SqL.of hb2) (fun i σ H' => ∃ (us : List V) (bx ix : Option V), σ = [some v, some (.int n), some (.ref p), bx, ix] ∧ Kp [] H H' ∧ H' b = some (.lst xs) ∧
      DwL (p :: M) K H' xs ((blks d).map PyData.tuple) ∧ H' p = some (.lst us) ∧ Stk (p :: M) K H' us ((((blks d).take i).flatten).map fun e => (n + 1, e)))
    ⟨[], none, none, rfl, k1.trans k2, hb2, hL, hp2, Stk.nil⟩ (fun i σ H' ⟨us, bx, ix, _, _, q, _⟩ => SqL.of q) ?_ ?_
  · rintro i x σ H3 hx ⟨us, bx, ix, rfl, k3, hb3, hL3, hp3, hS3⟩
    obtain ⟨dd, hdd, hxd⟩ := hL3.get hx
    rw [List.getElem?_map] at hdd
    obtain ⟨bl, hbl, rfl⟩ := Option.map_eq_some_iff.mp hdd
    obtain ⟨a, ys, rfl, hT, hY⟩ := hxd.items
    have hsz := inner_size d
    have hfl : (((blks d).take i).flatten) ++ bl ++ ((blks d).drop (i + 1)).flatten = inner d := by
      unfold inner
      have q : (blks d).take i ++ bl :: (blks d).drop (i + 1) = blks d := by
        obtain ⟨hi, hbe⟩ := List.getElem?_eq_some_iff.mp hbl
        rw [← hbe, ← List.drop_eq_getElem_cons hi, List.take_append_drop]
      conv => rhs; rw [← q]
      rw [List.flatten_append, List.flatten_cons, List.append_assoc]
    have hlen := dszs_len (inner d)
    have hle : (((blks d).take i).flatten).length + bl.length ≤ (inner d).length := by
      rw [← hfl, List.length_append, List.length_append]
      omega
    walk_at "rd"
    refine lc_stk (n := n + 1) hT hY (by omega) (fun y H' R hR => ?_) (fun _ => rfl) fun q H4 ws hq k4 hq4 hS4 => ?_
    · walk_at "rd"
      exact ⟨by walk_at "sz", hR⟩
    have hp4 := k4.get hp3 (by simp)
    have hb4 := k4.get hb3 (by simp)
    have hqp : q ≠ p := Ne.symm (ne_of_none hp3 hq)
    have l1 : us.length = (((blks d).take i).flatten).length := by rw [hS3.len, List.length_map]
    have l2 : ws.length = bl.length := by rw [hS4.len, List.length_map]
    walk_at "rd"
    · have k5 := kpW (o := .lst (us ++ ws)) hp4
      have sub : ∀ b ∈ [p], b ∈ p :: M := fun b hb => by rw [List.mem_singleton.mp hb]; exact List.mem_cons_self ..
      refine ⟨us ++ ws, _, _, rfl, (k3.trans k4).own hp, k5.get hb4 (by simp [hbp]), (hL3.kp0 k4).kpS k5 sub, upd_same, ?_⟩
      have htk : (blks d).take (i + 1) = (blks d).take i ++ [bl] := by rw [List.take_add_one, hbl]; rfl
      rw [htk, List.flatten_append, List.flatten_cons, List.flatten_nil, List.append_nil, List.map_append]
      exact ((hS3.kp0 k4).kpS k5 sub).app (hS4.kpS k5 sub)
    · rw [sizeLine_eq]
      omega
  · rintro σ H3 ⟨us, bx, ix, rfl, k3, hb3, hL3, hp3, hS3⟩
    walk_at "rd"
    refine r_RevL (SqL.of hp3) fun q hq => ?_
    have k4 : Kp [] H3 (upd H3 q (.lst us.reverse)) := Kp.nil.new hq
    have hx := hL3.len
    rw [List.length_map] at hx
    rw [hx, List.take_length] at hS3
    refine k _ q us.reverse ?_ (k3.trans k4) upd_same ((hS3.kp0 k4).sub fun b hb => List.mem_cons_of_mem _ hb).rev
    exact k3.free (fun b hb => by cases hb) hq
abbrev srows_of : Stmt := topS 34
abbrev Nrows_of : List Str := ["program", "left", "found", "item", "depth", "statement"]
abbrev Prows_of : List Str := ["program"]
theorem scrows_of : FnScope Nrows_of Prows_of (defScope srows_of) :=
  ⟨rfl, rfl, rfl, by decide +kernel, rfl, by decide +kernel, by decide +kernel⟩
theorem ok_rows_of (D : Df K mg "rows_of" srows_of Prows_of) (B : Blt mg) (Gitems_within : Has P w K mg base CX0 "items_within" ["statement", "depth"] 2 (spItems K)) :
    Has P w K mg base CX0 "rows_of" Prows_of 3 (spRows K) := by
  refine D.has scrows_of (fun vs H Q E h => ?_) (fun f cdv A outer s H vs Q E hr h => ?_)
  · obtain ⟨M, v, p, rfl, _⟩ := h
    rfl
  obtain ⟨M, v, p, rfl, hd, hv, hz, k⟩ := h
  refine ⟨_, (pss_cons (ps_par (i := 1) (j := 2) (by rfl) scrows_of.nd rfl rfl (by decide) rfl rfl (pa_cons (pe_revL (pe_lc (own := [("item", 3)]) (g := gName 3) (by rfl) scrows_of.nd (pi_tup (pv 0)) (blkOk_by (own := [("item", 3)]) (N := Nrows_of) (sc := defScope srows_of) (by decide +kernel)) (fun _ _ _ _ _ => (pg_name (i := 3) scrows_of.nd rfl (Or.inl rfl))) (fun _ _ _ _ _ => pts_nil) (fun _ _ _ _ _ => (pe_tup (pa_cons pe_int (pa_cons (pv 3) pa_nil)))))) (pa_cons (pe_lst pa_nil) pa_nil)) (by rfl))
      (pss_cons (ps_while PassesOwn.never (pt_cmpR (op_neNil hr.h64) (pv 1) (pe_lst pa_nil) (nomark _)) (pss_cons (ps_asg (pe_bm0 PySem.F.plainAttrs_list PySem.F.slot_list_pop PySem.F.type_list_pop mt_pop (pv 1)) (pg_tup rfl (pgs_cons (pg_name (i := 4) scrows_of.nd rfl (Or.inl rfl)) (pgs_cons (pg_name (i := 5) scrows_of.nd rfl (Or.inl rfl)) pgs_nil))))
      (pss_cons (ps_expr (pe_bm PySem.F.plainAttrs_list PySem.F.slot_list_append PySem.F.type_list_append mt_append (pv 2) (pa_cons (pe_tup (pa_cons (pv 4) (pa_cons (pv 5) pa_nil))) pa_nil)))
      (pss_one (ps_expr (pe_bm PySem.F.plainAttrs_list PySem.F.slot_list_extend PySem.F.type_list_extend mt_extend (pv 1) (pa_cons (pe_f Gitems_within (hr.mono (by omega)) (by rfl) pass0 (pa_cons (pv 5) (pa_cons (pv 4) pa_nil))) pa_nil)))))))
      (pss_one (ps_ret (pv 2))))), ?_⟩
  obtain ⟨a, xs, rfl, hT, hL⟩ := hd.items
  have hlen := dszs_len (Sm.ds p)
  walk_at "rd"
  refine lc_stk (n := 0) hT hL (by omega) (fun y H' R hR => ?_) (fun _ => rfl) fun q0 H1 us hq0 k1 hq1 hS1 => ?_
  · walk_at "rd"
    exact ⟨by walk_at "sz", hR⟩
  refine r_RevL (SqL.of hq1) fun l hl => ?_
  have k2 : Kp [] H (upd H1 l (.lst us.reverse)) := k1.new hl
  have hl2 : upd H1 l (.lst us.reverse) l = some (.lst us.reverse) := upd_same
  have S2 : Stk (l :: M) K (upd H1 l (.lst us.reverse)) us.reverse (((Sm.ds p).map fun e => (0, e)).reverse) := ((hS1.fresh hl).kp0 (Kp.nil.new hl)).rev
  have hl0 : H l = none := k1.free (fun b hb => by cases hb) hl
  generalize upd H1 l (.lst us.reverse) = H2 at k2 hl2 S2 ⊢
  walk_at "rd"
  refine ⟨by decide, fun g hg => ?_⟩
  have k2' : Kp [] H2 (upd H2 g (.lst [])) := Kp.nil.new hg
  have k3 := k2.trans k2'
  have hl3 := k2'.get hl2 (by simp)
  have hg3 : upd H2 g (.lst []) g = some (.lst []) := upd_same
  have S3 := (S2.fresh hg).kp0 k2'
  have hg0 : H g = none := k2.free (fun b hb => by cases hb) hg
  have hgl : g ≠ l := Ne.symm (ne_of_none hl2 hg)
  generalize upd H2 g (.lst []) = H3 at k3 hl3 hg3 S3 ⊢
  walk_at "rd"
  have hN0 : (Sm.rowsL 0 p).length ≤ dszs (Sm.ds p) := by
    rw [Sm.rowsL_len]
    exact Sm.sizes_dszs p
  refine r_while (fun m σ H' => ∃ (us gs : List V) (T : List (Nat × Sm)) (dn : List (Nat × PyData)) (ix dx sx : Option V), σ = [some (.ref a), some (.ref l), some (.ref g), ix, dx, sx] ∧ Kp [] H H' ∧ H' l = some (.lst us) ∧ H' g = some (.lst gs) ∧
      Stk (g :: l :: M) K H' us (dT T).reverse ∧ Stk (g :: l :: M) K H' gs dn ∧ dn ++ rowsT T = Sm.rowsL 0 p ∧ (∀ q ∈ T, ∃ n, Sm.vd n q.2) ∧ stSize (dT T) = m ∧ m ≤ 1000000) (dszs (Sm.ds p))
    ⟨_, [], p.map fun s => (0, s), [], none, none, none, rfl, k3, hl3, hg3, by rw [dT_map]; exact S3, Stk.nil, by rw [rowsT_map]; rfl, fun q hq => ?_, by rw [dT_map]; exact stSize_map _ _, hz⟩ ?_
  · obtain ⟨s, hs, rfl⟩ := List.mem_map.mp hq
    exact hv s hs
  rintro m σ H4 ⟨us, gs, T, dn, ix, dx, sx, rfl, k4, hl4, hg4, S4, G4, hrow, hvT, hm, hmz⟩
  walk_at "rd"
  refine ⟨by decide, fun q hq => ?_⟩
  have kq : Kp [] H4 (upd H4 q (.lst [])) := Kp.nil.new hq
  have hl5 := kq.get hl4 (by simp)
  have hg5 := kq.get hg4 (by simp)
  have S5 := S4.kp0 kq
  have G5 := G4.kp0 kq
  refine r_neNL (SqL.of hl5) (SqL.of upd_same) ?_
  have k5 := k4.trans kq
  generalize upd H4 q (.lst []) = H5 at k5 hl5 hg5 S5 G5 ⊢
  cases T with
  | nil =>
    have e : us = [] := List.length_eq_zero_iff.mp S5.len
    subst e
    have he0 : (!([] : List V).isEmpty) = false := rfl
    rw [he0]
    walk_at "rd"
    refine k _ g gs hg0 k5 hg5 ?_
    have e2 : dn = Sm.rowsL 0 p := by
      rw [← hrow]
      exact (List.append_nil _).symm
    rw [← e2]
    exact G5.sub fun b hb => List.mem_cons_of_mem _ (List.mem_cons_of_mem _ hb)
  | cons z T =>
    obtain ⟨dep, sm⟩ := z
    have eT : dT ((dep, sm) :: T) = (dep, sm.d) :: dT T := rfl
    rw [eT, List.reverse_cons] at S5
    rw [eT, stSize_cons] at hm
    obtain ⟨us', b, y, rfl, S6, hb, hy⟩ := S5.last
    obtain ⟨nv, hsv⟩ := hvT (dep, sm) (List.mem_cons_self ..)
    obtain ⟨hst, hin, hkids⟩ := hsv.is
    have hdp := dsz_pos sm.d
    have hisz := inner_size sm.d
    have he : (!(us' ++ [V.ref b]).isEmpty) = true := by cases us' <;> rfl
    rw [he]
    walk_at "rd"
    refine r_turn ?_
    walk_at "rd"
    refine r_pop hl5 ?_
    have sl : ∀ b ∈ [l], b ∈ g :: l :: M := fun b hb => by rw [List.mem_singleton.mp hb]; exact List.mem_cons_of_mem _ (List.mem_cons_self ..)
    have sg : ∀ b ∈ [g], b ∈ g :: l :: M := fun b hb => by rw [List.mem_singleton.mp hb]; exact List.mem_cons_self ..
    have k6 := kpW (o := .lst us') hl5
    have k6' : Kp [] H (upd H5 l (.lst us')) := k5.own hl0
    have hb6 := k6.tup hb
    have S7 := S6.kpS k6 sl
    have G7 := G5.kpS k6 sl
    have hy6 := hy.kpS k6 sl
    have hl6 : upd H5 l (.lst us') l = some (.lst us') := upd_same
    have hg6 := k6.get hg5 (by simp [hgl])
    generalize upd H5 l (.lst us') = H6 at k6 k6' hb6 S7 G7 hy6 hl6 hg6 ⊢
    walk_at "rd"
    refine ⟨by walk_at "sz", fun t ht => ?_⟩
    have k7 : Kp [] H6 (upd H6 t (.tup [.int dep, y])) := Kp.nil.new ht
    have hg7 := k7.get hg6 (by simp)
    have hl7 := k7.get hl6 (by simp)
    have ht7 : upd H6 t (.tup [.int dep, y]) t = some (.tup [.int dep, y]) := upd_same
    have hy7 := hy6.kp0 k7
    have S8 := S7.kp0 k7
    have G8 := G7.kp0 k7
    have k7' := k6'.trans k7
    generalize upd H6 t (.tup [.int dep, y]) = H7 at k7 k7' hg7 hl7 ht7 hy7 S8 G8 ⊢
    have hgl2 : gs.length < (Sm.rowsL 0 p).length := by
      rw [G8.len, ← hrow, List.length_append]
      have q1 : 1 ≤ (rowsT ((dep, sm) :: T)).length := by
        unfold rowsT
        rw [List.flatMap_cons, Sm.rows_kids]
        simp
      omega
    walk_at "rd"
    rotate_left 1
    · rw [sizeLine_eq]
      omega
    have k8 := kpW (o := .lst (gs ++ [V.ref t])) hg7
    have k8' : Kp [] H (upd H7 g (.lst (gs ++ [V.ref t]))) := k7'.own hg0
    have hl8 := k8.get hl7 (by simp [Ne.symm hgl])
    have hg8 : upd H7 g (.lst (gs ++ [V.ref t])) g = some (.lst (gs ++ [V.ref t])) := upd_same
    have S9 := S8.kpS k8 sg
    have G9 := (G8.kpS k8 sg).app (Stk.one (p := (dep, sm.d)) (k8.tup ht7) (hy7.kpS k8 sg))
    have hy8 := hy7.kpS k8 sg
    generalize upd H7 g (.lst (gs ++ [V.ref t])) = H8 at k8 k8' hl8 hg8 S9 G9 hy8 ⊢
    refine ⟨g :: l :: M, y, sm.d, dep, rfl, hy8, hst, by omega, fun H9 r ws hr' k9 hr9 S10 => ?_⟩
    have hl9 := k9.get hl8 (by simp)
    have hg9 := k9.get hg8 (by simp)
    have hrl : r ≠ l := Ne.symm (ne_of_none hl8 hr')
    have w1 : ws.length = (inner sm.d).length := by rw [S10.len, List.length_reverse, List.length_map]
    have w2 : us'.length = (dT T).length := by rw [S7.len, List.length_reverse]
    have w3 := dszs_len (inner sm.d)
    have w4 : (dT T).length ≤ stSize (dT T) := by
      unfold stSize
      have := dszs_len ((dT T).map (·.2))
      rwa [List.length_map] at this
    walk_at "rd"
    · have k10 := kpW (o := .lst (us' ++ ws)) hl9
      have eD : dT (sm.kids.map (fun s => (dep + 1, s)) ++ T) = (inner sm.d).map (fun e => (dep + 1, e)) ++ dT T := by
        rw [hin, ← dT_map]
        unfold dT
        rw [List.map_append]
      refine ⟨dszs (inner sm.d) + stSize (dT T), by omega, us' ++ ws, gs ++ [V.ref t], sm.kids.map (fun s => (dep + 1, s)) ++ T, dn ++ [(dep, sm.d)], _, _, _, rfl, (k8'.trans k9).own hl0, upd_same,
        k10.get hg9 (by simp [hgl]), ?_, ((G9.kp0 k9).kpS k10 sl), ?_, ?_, ?_, by omega⟩
      · rw [eD, List.reverse_append]
        exact ((S9.kp0 k9).kpS k10 sl).app (S10.kpS k10 sl)
      · rw [← hrow]
        unfold rowsT
        rw [List.flatMap_append, List.flatMap_cons, Sm.rows_kids]
        have q := rowsT_map (dep + 1) sm.kids
        unfold rowsT at q
        rw [q]
        simp
      · intro q hq
        rcases List.mem_append.mp hq with hq | hq
        · obtain ⟨c, hc, rfl⟩ := List.mem_map.mp hq
          obtain ⟨m, hm, _⟩ := hkids c hc
          exact ⟨m, hm⟩
        · exact hvT q (List.mem_cons_of_mem _ hq)
      · rw [eD, stSize_app, stSize_map]
    · rw [sizeLine_eq]
      omega
abbrev sorder_error : Stmt := topS 35
abbrev Norder_error : List Str := ["value", "left", "place", "item", "depth"]
abbrev Porder_error : List Str := ["value"]
theorem scorder_error : FnScope Norder_error Porder_error (defScope sorder_error) :=
  ⟨rfl, rfl, rfl, by decide +kernel, rfl, by decide +kernel, by decide +kernel⟩
theorem ok_order_error (D : Df K mg "order_error" sorder_error Porder_error) (B : Blt mg) {t1 : Tok} (g_MAX_NEST : mg "MAX_NEST" = some (.int 3 t1))
    (Gis_statement : Has P w K mg base CX0 "is_statement" ["value"] 10 (spAsk K isStmt)) (Gitems_within : Has P w K mg base CX0 "items_within" ["statement", "depth"] 2 (spItems K)) :
    Has P w K mg base CX0 "order_error" Porder_error 11 (spOrder K) := by
  refine D.has scorder_error (fun vs H Q E h => ?_) (fun f cdv A outer s H vs Q E hr h => ?_)
  · obtain ⟨v, ds, rfl, _⟩ := h
    rfl
  obtain ⟨v, ds, rfl, hd, hz, k⟩ := h
  refine ⟨_, (pss_cons (ps_par (i := 1) (j := 2) (by rfl) scorder_error.nd rfl rfl (by decide) rfl rfl (pa_cons (pe_revL (pe_lc (own := [("item", 3)]) (g := gName 3) (by rfl) scorder_error.nd (pi_tup (pv 0)) (blkOk_by (own := [("item", 3)]) (N := Norder_error) (sc := defScope sorder_error) (by decide +kernel)) (fun _ _ _ _ _ => (pg_name (i := 3) scorder_error.nd rfl (Or.inl rfl))) (fun _ _ _ _ _ => pts_nil) (fun _ _ _ _ _ => (pe_tup (pa_cons pe_int (pa_cons (pv 3) pa_nil)))))) (pa_cons pe_int pa_nil)) (by rfl))
      (pss_cons (ps_while PassesOwn.never (pt_cmpR (op_neNil hr.h64) (pv 1) (pe_lst pa_nil) (nomark _)) (pss_cons (ps_asg (pe_bm0 PySem.F.plainAttrs_list PySem.F.slot_list_pop PySem.F.type_list_pop mt_pop (pv 1)) (pg_tup rfl (pgs_cons (pg_name (i := 4) scorder_error.nd rfl (Or.inl rfl)) (pgs_cons (pg_name (i := 3) scorder_error.nd rfl (Or.inl rfl)) pgs_nil))))
      (pss_cons (ps_if (pt_cmpR op_gt (pv 4) (pe_gint (by rfl) g_MAX_NEST) (nomark _)) (pss_one (ps_ret (pe_tup (pa_cons (pv 2) (pa_cons pe_str pa_nil)))))
        pss_nil)
      (pss_cons (ps_if (pt_not (pt_val (pe_f Gis_statement (hr.mono (by omega)) (by rfl) pass0 (pa_cons (pv 3) pa_nil)))) (pss_one (ps_ret (pe_tup (pa_cons (pv 2) (pa_cons pe_str pa_nil)))))
        pss_nil)
      (pss_cons (ps_expr (pe_bm PySem.F.plainAttrs_list PySem.F.slot_list_extend PySem.F.type_list_extend mt_extend (pv 1) (pa_cons (pe_f Gitems_within (hr.mono (by omega)) (by rfl) pass0 (pa_cons (pv 3) (pa_cons (pv 4) pa_nil))) pa_nil)))
      (pss_one (ps_aug (i := 2) scorder_error.nd rfl (.inl rfl) pe_int ip_add)))))))
      (pss_one (ps_ret pe_non)))), ?_⟩
  obtain ⟨a, xs, rfl, hT, hL⟩ := hd.items
  have hlen := dszs_len ds
  walk_at "rd"
  refine lc_stk (n := 0) hT hL (by omega) (fun y H' R hR => ?_) (fun _ => rfl) fun q0 H1 us hq0 k1 hq1 hS1 => ?_
  · walk_at "rd"
    exact ⟨by walk_at "sz", hR⟩
  refine r_RevL (SqL.of hq1) fun l hl => ?_
  have k2 : Kp [] H (upd H1 l (.lst us.reverse)) := k1.new hl
  have hl2 : upd H1 l (.lst us.reverse) l = some (.lst us.reverse) := upd_same
  have S2 : Stk [l] K (upd H1 l (.lst us.reverse)) us.reverse ((ds.map fun e => (0, e)).reverse) := ((hS1.fresh hl).kp0 (Kp.nil.new hl)).rev
  have hl0 : H l = none := k1.free (fun b hb => by cases hb) hl
  generalize upd H1 l (.lst us.reverse) = H2 at k2 hl2 S2 ⊢
  walk_at "rd"
  refine r_while (fun m σ H' => ∃ (us : List V) (st : List (Nat × PyData)) (pl : Nat) (ix dx : Option V), σ = [some (.ref a), some (.ref l), some (.int pl), ix, dx] ∧ Kp [] H H' ∧ H' l = some (.lst us) ∧
      Stk [l] K H' us st.reverse ∧ ordLoop (stSize st) st pl = ordErr ds ∧ stSize st = m ∧ m ≤ 1000000) (dszs ds)
    ⟨_, ds.map fun e => (0, e), 0, none, none, rfl, k2, hl2, S2, by rw [stSize_map]; rfl, stSize_map _ _, hz⟩ ?_
  rintro m σ H3 ⟨us, st, pl, ix, dx, rfl, k3, hl3, hS3, hO, hm, hmz⟩
  walk_at "rd"
  refine ⟨by decide, fun q hq => ?_⟩
  have k4 : Kp [] H3 (upd H3 q (.lst [])) := Kp.nil.new hq
  have hl4 := k4.get hl3 (by simp)
  have S4 := hS3.kp0 k4
  refine r_neNL (SqL.of hl4) (SqL.of upd_same) ?_
  have k4' := k3.trans k4
  generalize upd H3 q (.lst []) = H4 at k4' hl4 S4 ⊢
  cases st with
  | nil =>
    have e : us = [] := List.length_eq_zero_iff.mp S4.len
    subst e
    walk_at "rd"
    refine k _ _ k4' ?_
    rw [← hO]
    exact Dt.non
  | cons p st =>
    obtain ⟨dep, d⟩ := p
    rw [List.reverse_cons] at S4
    obtain ⟨us', b, y, rfl, S5, hb, hy⟩ := S4.last
    rw [stSize_cons] at hm hO
    have hdp := dsz_pos d
    have hin := inner_size d
    obtain ⟨f, hf⟩ : ∃ f, dsz d + stSize st = f + 1 := ⟨dsz d + stSize st - 1, by omega⟩
    rw [hf, ordLoop] at hO
    have he : (!(us' ++ [V.ref b]).isEmpty) = true := by cases us' <;> rfl
    rw [he]
    walk_at "rd"
    refine r_turn ?_
    walk_at "rd"
    refine r_pop hl4 ?_
    have k5 := kpW (o := .lst us') hl4
    have k5' : Kp [] H (upd H4 l (.lst us')) := k4'.own hl0
    have hb5 := k5.tup hb
    have S6 := S5.kpS k5 fun b hb => hb
    have hy5 := hy.kpS k5 fun b hb => hb
    have hl5 : upd H4 l (.lst us') l = some (.lst us') := upd_same
    generalize upd H4 l (.lst us') = H5 at k5 k5' hb5 S6 hy5 hl5 ⊢
    walk_at "rd"
    refine ifd (fun c1 => ?_) (fun c1 => ?_)
    · walk_at "rd"
      refine ⟨by walk_at "sz", fun r hr' => ?_⟩
      refine k _ _ (k5'.new hr') ?_
      rw [← hO, if_pos (by omega)]
      exact Dt.mk2 upd_same (.int _) (.str _)
    rw [if_neg (by omega)] at hO
    walk_at "rd"
    refine ⟨y, d, rfl, hy5.nil, by omega, fun H6 k6 => ?_⟩
    cases hst : isStmt d with
    | false =>
      walk_at "rd"
      refine ⟨by walk_at "sz", fun r hr' => ?_⟩
      refine k _ _ ((k5'.trans k6).new hr') ?_
      rw [← hO, if_pos hst]
      exact Dt.mk2 upd_same (.int _) (.str _)
    | true =>
      rw [if_neg (by rw [hst]; decide)] at hO
      have hl6 := k6.get hl5 (by simp)
      walk_at "rd"
      refine ⟨[l], y, d, dep, rfl, hy5.kp0 k6, hst, by omega, fun H7 r ws hr' k7 hr7 S7 => ?_⟩
      have hl7 := k7.get hl6 (by simp)
      have hrl : r ≠ l := Ne.symm (ne_of_none hl6 hr')
      have w1 : ws.length = (inner d).length := by rw [S7.len, List.length_reverse, List.length_map]
      have w2 : us'.length = st.length := by rw [S6.len, List.length_reverse]
      have w3 := dszs_len (inner d)
      have w4 : st.length ≤ stSize st := by
        unfold stSize
        have := dszs_len (st.map (·.2))
        rwa [List.length_map] at this
      walk_at "rd"
      · have k8 := kpW (o := .lst (us' ++ ws)) hl7
        refine ⟨dszs (inner d) + stSize st, by omega, us' ++ ws, (inner d).map (fun e => (dep + 1, e)) ++ st, pl + 1, _, _, rfl, ((k5'.trans k6).trans k7).own hl0, upd_same, ?_, ?_, ?_, by omega⟩
        · rw [List.reverse_append]
          exact (((S6.kp0 k6).kp0 k7).kpS k8 fun b hb => hb).app (S7.kpS k8 fun b hb => hb)
        · rw [← hO]
          exact ordLoop_fuel _ _ _ _ (Nat.le_refl _) (by rw [stSize_app, stSize_map]; omega)
        · rw [stSize_app, stSize_map]
      · rw [sizeLine_eq]
        omega
abbrev sbare : Stmt := topS 36
abbrev Nbare : List Str := ["test"]
abbrev Pbare : List Str := ["test"]
theorem scbare : FnScope Nbare Pbare (defScope sbare) :=
  ⟨rfl, rfl, rfl, by decide +kernel, rfl, by decide +kernel, by decide +kernel⟩
theorem ok_bare (D : Df K mg "bare" sbare Pbare) (B : Blt mg) : Has P w K mg base CX0 "bare" Pbare 1 (spBare K) := by
  refine D.has scbare (fun vs H Q E h => ?_) (fun f cdv A outer s H vs Q E hr h => ?_)
  · obtain ⟨M, v, t, rfl, _⟩ := h
    rfl
  obtain ⟨M, v, t, rfl, hd, k⟩ := h
  refine ⟨_, (pss_cons (ps_while PassesOwn.never (pt_cmpR op_eq (pe_ix ix_tup (pv 0) pe_int (fun _ _ => rfl)) pe_str (nomark _)) (pss_one (ps_set (i := 0) scbare.nd rfl (Or.inl rfl) (pe_ix ix_tup (pv 0) pe_int (fun _ _ => rfl)))))
      (pss_one (ps_ret (pv 0)))), ?_⟩
  walk_at "rd"
  refine r_while (fun m σ H' => ∃ (u : V) (z : Ts), σ = [some u] ∧ H' = H ∧ Dw M K H u z.d ∧ z.bare = t.bare ∧ z.high = m) t.high ⟨v, t, rfl, rfl, hd, rfl, rfl⟩ ?_
  rintro m σ H1 ⟨u, z, rfl, rfl, hz, hb, rfl⟩
  cases z with
  | not z =>
    obtain ⟨a, xs, rfl, hT, hL⟩ := hz.items
    obtain ⟨x0, x1, d0, d1, rfl, e, h0, h1⟩ := hL.is2 hL.len
    cases e
    obtain rfl := h0.isStr
    walk_at "rd"
    refine r_turn ?_
    walk_at "rd"
    exact ⟨z.high, by show z.high < z.high + 1; omega, x1, z, rfl, rfl, h1, hb, rfl⟩
  | given x =>
    obtain ⟨a, xs, rfl, hT, hL⟩ := hz.items
    obtain ⟨x0, x1, d0, d1, rfl, e, h0, h1⟩ := hL.is2 hL.len
    cases e
    obtain rfl := h0.isStr
    walk_at "rd"
    refine k _ ?_
    rw [← hb]
    exact hz
  | rest e b r =>
    obtain ⟨a, xs, rfl, hT, hL⟩ := hz.items
    obtain ⟨x0, x1, x2, x3, d0, d1, d2, d3, rfl, e, h0, h1⟩ := hL.is4 hL.len
    cases e
    obtain rfl := h0.isStr
    walk_at "rd"
    refine k _ ?_
    rw [← hb]
    exact hz
  | less e b =>
    obtain ⟨a, xs, rfl, hT, hL⟩ := hz.items
    obtain ⟨x0, x1, x2, d0, d1, d2, rfl, e, h0, h1⟩ := hL.is3 hL.len
    cases e
    obtain rfl := h0.isStr
    walk_at "rd"
    refine k _ ?_
    rw [← hb]
    exact hz
abbrev sown_count : Stmt := topS 37
abbrev Nown_count : List Str := ["statement", "sort"]
abbrev Pown_count : List Str := ["statement", "sort"]
theorem scown_count : FnScope Nown_count Pown_count (defScope sown_count) :=
  ⟨rfl, rfl, rfl, by decide +kernel, rfl, by decide +kernel, by decide +kernel⟩
theorem ok_own_count (D : Df K mg "own_count" sown_count Pown_count) (B : Blt mg) (Gbare : Has P w K mg base CX0 "bare" ["test"] 1 (spBare K)) :
    Has P w K mg base CX0 "own_count" Pown_count 2 (spOwn K) := by
  refine D.has scown_count (fun vs H Q E h => ?_) (fun f cdv A outer s H vs Q E hr h => ?_)
  · obtain ⟨M, v, s, so, rfl, _⟩ := h
    rfl
  obtain ⟨M, v, s, so, rfl, hd, k⟩ := h
  refine ⟨_, (pss_cons (ps_if (pt_cmpR op_eq (pv 1) pe_str (nomark _)) (pss_one (ps_ret pe_int))
        pss_nil)
      (pss_one (ps_ret (pe_callTy c_int (by rfl) B.int (by decide +kernel) (pa_cons (pe_and (pe_cmpR op_eq (pe_ix ix_tup (pv 0) pe_int (fun _ _ => rfl)) pe_str (nomark _)) (pe_one (pe_cmpR op_eq (pe_ix ix_tup (pe_f Gbare (hr.mono (by omega)) (by rfl) pass0 (pa_cons (pe_ix ix_tup (pv 0) pe_int (fun _ _ => rfl)) pa_nil)) pe_int (fun _ _ => rfl)) (pv 1) (nomark _)))) pa_nil))))), ?_⟩
  unfold Sm.own at k
  walk_at "rd"
  refine ifd (fun c => ?_) (fun c => ?_)
  · walk_at "rd"
    rw [if_pos (V.str.inj c)] at k
    exact k
  rw [if_neg (fun e => c (by rw [e]))] at k
  cases s with
  | pl p =>
    obtain ⟨u, r, e, n1, n2⟩ := Pl.hd p
    rw [Sm.d, e] at hd
    obtain ⟨a, xs, rfl, hT, hL⟩ := hd.items
    obtain ⟨x, ys, rfl, h0, hR⟩ := hL.inv
    obtain rfl := h0.isStr
    have hx0 : atI (V.str u :: ys) 0 = some (V.str u) := at_nn (Int.le_refl 0) rfl
    walk_at "rd"
    refine ifd (fun c => absurd (V.str.inj c) n1) fun _ => ?_
    walk_at "rd"
    exact k
  | rep n b =>
    rw [Sm.d] at hd
    obtain ⟨a, xs, rfl, hT, hL⟩ := hd.items
    obtain ⟨x0, x1, x2, d0, d1, d2, rfl, e, h0, h1, h2⟩ := hL.is3 hL.len
    cases e
    obtain rfl := h0.isStr
    walk_at "rd"
    exact k
  | ifs t y z =>
    rw [Sm.d] at hd
    obtain ⟨a, xs, rfl, hT, hL⟩ := hd.items
    obtain ⟨x0, x1, x2, x3, d0, d1, d2, d3, rfl, e, h0, h1, h2, h3⟩ := hL.is4 hL.len
    cases e
    obtain rfl := h0.isStr
    walk_at "rd"
    refine ⟨M, x1, t, rfl, h1, fun u hu => ?_⟩
    obtain ⟨a2, ys, rfl, hT2, h2w⟩ := Ts.headW hu
    walk_at "rd"
    have e : (if decide (V.str t.bare.word = V.str so) = true then (1 : Int) else 0) = if t.bare.word = so then 1 else 0 := by
      by_cases hq : t.bare.word = so
      · rw [if_pos hq, hq, if_pos (by rw [decide_eq_true_eq])]
      · rw [if_neg hq, if_neg (by rw [decide_eq_true_eq]; exact fun z => hq (V.str.inj z))]
    rw [e]
    exact k
abbrev scounted : Stmt := topS 38
abbrev Ncounted : List Str := ["block", "sort", "found", "statement", "inner", "part"]
abbrev Pcounted : List Str := ["block", "sort"]
theorem sccounted : FnScope Ncounted Pcounted (defScope scounted) :=
  ⟨rfl, rfl, rfl, by decide +kernel, rfl, by decide +kernel, by decide +kernel⟩
theorem ok_counted1 (D : Df K mg "counted" scounted Pcounted) (B : Blt mg) {n lv : Nat} {sp2 : Sp} (hlv : 2 ≤ lv) (Gblocks_of : Has P w K mg base CX0 "blocks_of" ["statement"] 1 (spBlocks K))
    (Gown_count : Has P w K mg base CX0 "own_count" ["statement", "sort"] 2 (spOwn K)) (Gcounted : Has P w K mg base CX0 "counted" Pcounted lv sp2) (hs : ∀ m, n = m + 1 → sp2 = spCnt K m) :
    Has P w K mg base CX0 "counted" Pcounted (lv + 1) (spCnt K n) := by
  refine D.has sccounted (fun vs H Q E h => ?_) (fun f cdv A outer s H vs Q E hr h => ?_)
  · obtain ⟨M, v, b, so, rfl, _⟩ := h
    rfl
  obtain ⟨M, v, b, so, rfl, hd, hv, k⟩ := h
  refine ⟨_, (pss_cons (ps_set (i := 2) sccounted.nd rfl (Or.inl rfl) pe_int)
      (pss_cons (ps_for PassesOwn.never rfl (pi_tup (pv 0)) (pg_name (i := 3) sccounted.nd rfl (Or.inl rfl))
        (pss_cons (ps_set (i := 4) sccounted.nd rfl (Or.inl rfl) (pe_callB (cr_sum (by rfl)) (by rfl) B.sum (by decide +kernel) (pa_cons (pe_lc (own := [("part", 5)]) (g := gName 5) (by rfl) sccounted.nd (pi_list (pe_f Gblocks_of (hr.mono (by omega)) (by rfl) pass0 (pa_cons (pv 3) pa_nil))) (blkOk_by (own := [("part", 5)]) (N := Ncounted) (sc := defScope scounted) (by decide +kernel)) (fun _ _ _ _ _ => (pg_name (i := 5) sccounted.nd rfl (Or.inl rfl))) (fun _ _ _ _ _ => pts_nil) (fun _ _ _ _ _ => (pe_f Gcounted (hr.mono (by omega)) (by rfl) pass0 (pa_cons (pv 5) (pa_cons (pv 1) pa_nil))))) pa_nil)))
      (pss_one (ps_aug (i := 2) sccounted.nd rfl (.inl rfl) (pe_op op_add (pe_f Gown_count (hr.mono (by omega)) (by rfl) pass0 (pa_cons (pv 3) (pa_cons (pv 1) pa_nil))) (pe_op op_mul (pv 4) (pe_ifExp (pt_cmpR op_eq (pe_ix ix_tup (pv 3) pe_int (fun _ _ => rfl)) pe_str (nomark _)) (pe_ix ix_tup (pv 3) pe_int (fun _ _ => rfl)) pe_int))) ip_add))))
      (pss_one (ps_ret (pv 2))))), ?_⟩
  obtain ⟨a, xs, rfl, hT, hL⟩ := hd.items
  have hlen : xs.length = b.length := by rw [hL.len, Sm.ds_map, List.length_map]
  walk_at "rd"
  refine r_ForT (xs := xs) hT (fun i σ H' => ∃ sx ix px, σ = [some (.ref a), some (.str so), some (.int (Sm.cnts so (b.take i))), sx, ix, px] ∧ Kp [] H H') ⟨none, none, none, rfl, Kp.nil⟩ (fun i σ H' ⟨_, _, _, _, q⟩ => sqT_kp q hT) ?_ ?_
  · rintro i x σ H1 hx ⟨sx, ix, px, rfl, k1⟩
    obtain ⟨dd, hdd, hxd⟩ := hL.get hx
    rw [Sm.ds_map, List.getElem?_map] at hdd
    obtain ⟨sm, hsm, rfl⟩ := Option.map_eq_some_iff.mp hdd
    have hmem : sm ∈ b := List.mem_of_getElem? hsm
    obtain ⟨m, rfl⟩ : ∃ m, n = m + 1 := by
      cases n with
      | zero =>
        rw [show b = [] from hv] at hmem
        cases hmem
      | succ m => exact ⟨m, rfl⟩
    have hsv : Sm.vd m sm := hv sm hmem
    obtain rfl := hs m rfl
    have hst := hsv.is.1
    have hx1 := hxd.kp0 k1
    have htk : b.take (i + 1) = b.take i ++ [sm] := by rw [List.take_add_one, hsm]; rfl
    walk_at "rd"
    refine ⟨M, x, sm.d, rfl, hx1, hst, fun H2 p ys hp k2 hp2 hY => ?_⟩
    rw [Sm.blks, List.map_map] at hY
    have hx2 := hx1.kp0 k2
    refine r_LcL (SqL.of hp2) fun q hq => ⟨fun j H' => Kp [] H2 H' ∧ H' q = some (.lst (((sm.parts.take j).map fun c => V.int (Sm.cnts so c)))), ⟨Kp.nil.new hq, upd_same⟩, fun j H' ⟨q1, _⟩ => SqL.of (q1.get hp2 (by simp)), ?_, ?_⟩
    · rintro j u H3 hu ⟨k3, hq3⟩
      obtain ⟨du, hdu, hud⟩ := hY.get hu
      rw [List.getElem?_map] at hdu
      obtain ⟨pt, hpt, rfl⟩ := Option.map_eq_some_iff.mp hdu
      have hpm : pt ∈ sm.parts := List.mem_of_getElem? hpt
      walk_at "rd"
      refine ⟨M, u, pt, so, rfl, hud.kp0 k3, hsv.parts pt hpm, fun H4 k4 => ?_⟩
      have hq4 := k4.get hq3 (by simp)
      have hjl : j < sm.parts.length := (List.getElem?_eq_some_iff.mp hpt).1
      have hpl : sm.parts.length ≤ 2 := by cases sm <;> simp [Sm.parts]
      refine r_LcEnd hq4 (by rw [List.length_map, List.length_take, sizeLine_eq]; omega) ⟨(k3.trans k4).own hq, ?_⟩
      rw [upd_same, List.take_add_one, hpt, List.map_append]
      rfl
    · rintro H3 ⟨k3, hq3⟩
      have hyl := hY.len
      rw [List.length_map] at hyl
      rw [hyl, List.take_length] at hq3
      have k3' := (k1.trans k2).trans k3
      have hx3 := hx2.kp0 k3
      walk_at "rd"
      refine ⟨q, sm.parts.map (Sm.cnts so), rfl, SqL.of (by rw [hq3, List.map_map]; rfl), ?_⟩
      walk_at "rd"
      refine ⟨M, x, sm, so, rfl, hx3, ?_⟩
      walk_at "rdj"
      refine r_ifJ (fun v H4 => v = .int sm.again ∧ H4 = H3) (fun Q' kQ => ?_) ?_
      · cases sm with
        | pl p =>
          obtain ⟨u, r, e, n1, n2⟩ := Pl.hd p
          rw [Sm.d, e] at hx3
          obtain ⟨a3, ws, rfl, hT3, hL3⟩ := hx3.items
          obtain ⟨z, zs, rfl, h0, hR⟩ := hL3.inv
          obtain rfl := h0.isStr
          have hx0 : atI (V.str u :: zs) 0 = some (V.str u) := at_nn (Int.le_refl 0) rfl
          walk_at "rd"
          refine ifd (fun c => absurd (V.str.inj c) n2) fun _ => ?_
          walk_at "rd"
          exact kQ _ _ ⟨rfl, rfl⟩
        | ifs t y z =>
          rw [Sm.d] at hx3
          obtain ⟨a3, ws, rfl, hT3, hL3⟩ := hx3.items
          obtain ⟨x0, x1, x2, x3, d0, d1, d2, d3, rfl, e, h0, h1, h2, h3⟩ := hL3.is4 hL3.len
          cases e
          obtain rfl := h0.isStr
          walk_at "rd"
          exact kQ _ _ ⟨rfl, rfl⟩
        | rep kk y =>
          rw [Sm.d] at hx3
          obtain ⟨a3, ws, rfl, hT3, hL3⟩ := hx3.items
          obtain ⟨x0, x1, x2, d0, d1, d2, rfl, e, h0, h1, h2⟩ := hL3.is3 hL3.len
          cases e
          obtain rfl := h0.isStr
          obtain rfl := h1.isInt
          walk_at "rd"
          exact kQ _ _ ⟨rfl, rfl⟩
      · rintro v H4 ⟨rfl, rfl⟩
        have hag : 0 ≤ sm.again ∧ sm.again ≤ 8 := by
          cases sm with
          | rep kk y => cases m <;> exact ⟨hsv.1, hsv.2.1⟩
          | _ => exact ⟨by show (0 : Int) ≤ 1; decide, by show (1 : Int) ≤ 8; decide⟩
        walk_at "rd"
        · refine ⟨some x, some (.int (List.map (Sm.cnts so) sm.parts).sum), px, ?_, k3'⟩
          rw [htk, Sm.cnts_snoc, Sm.cnt_parts]
          rfl
        · exact c_mulR (by omega) (by omega)
  · rintro σ H1 ⟨sx, ix, px, rfl, k1⟩
    walk_at "rd"
    rw [hlen, List.take_length]
    exact k _ k1
abbrev sweight : Stmt := topS 39
abbrev Nweight : List Str := ["program"]
abbrev Pweight : List Str := ["program"]
theorem scweight : FnScope Nweight Pweight (defScope sweight) :=
  ⟨rfl, rfl, rfl, by decide +kernel, rfl, by decide +kernel, by decide +kernel⟩
theorem ok_weight (D : Df K mg "weight" sweight Pweight) (B : Blt mg) {lv : Nat} (Gcounted : Has P w K mg base CX0 "counted" ["block", "sort"] lv (spCnt K 4)) :
    Has P w K mg base CX0 "weight" Pweight (lv + 1) (spWt K) := by
  refine D.has scweight (fun vs H Q E h => ?_) (fun f cdv A outer s H vs Q E hr h => ?_)
  · obtain ⟨M, v, b, rfl, _⟩ := h
    rfl
  obtain ⟨M, v, b, rfl, hd, hv, k⟩ := h
  refine ⟨_, (pss_one (ps_ret (pe_f Gcounted (hr.mono (by omega)) (by rfl) pass0 (pa_cons (pv 0) (pa_cons pe_str pa_nil))))), ?_⟩
  walk_at "rd"
  exact ⟨M, v, b, "weight", rfl, hd, hv, k⟩
abbrev sprogram_error : Stmt := topS 40
abbrev Nprogram_error : List Str := ["value", "found"]
abbrev Pprogram_error : List Str := ["value"]
theorem scprogram_error : FnScope Nprogram_error Pprogram_error (defScope sprogram_error) :=
  ⟨rfl, rfl, rfl, by decide +kernel, rfl, by decide +kernel, by decide +kernel⟩
theorem ok_program_error (D : Df K mg "program_error" sprogram_error Pprogram_error) (B : Blt mg) {t1 t2 t3 t4 : Tok} (g_MAX_PLACES : mg "MAX_PLACES" = some (.int 24 t1)) (g_MAX_WEIGHT : mg "MAX_WEIGHT" = some (.int 30 t2))
    (g_MAX_RESTS : mg "MAX_RESTS" = some (.int 2 t3)) (g_MAX_COMPARINGS : mg "MAX_COMPARINGS" = some (.int 2 t4))
    (Gorder_error : Has P w K mg base CX0 "order_error" ["value"] 11 (spOrder K)) (Grows_of : Has P w K mg base CX0 "rows_of" ["program"] 3 (spRows K))
    (Gcounted : Has P w K mg base CX0 "counted" ["block", "sort"] 7 (spCnt K 4)) (Gweight : Has P w K mg base CX0 "weight" ["program"] 8 (spWt K)) :
    Has P w K mg base CX0 "program_error" Pprogram_error 12 (spPerr K) := by
  refine D.has scprogram_error (fun vs H Q E h => ?_) (fun f cdv A outer s H vs Q E hr h => ?_)
  · obtain ⟨v, d, rfl, _⟩ := h
    rfl
  obtain ⟨v, d, rfl, hd, hz, k⟩ := h
  refine ⟨_, (pss_cons (ps_if (pt_not (pt_val (pe_callB c_is2 (by rfl) B.isinstance (by decide +kernel) (pa_cons (pv 0) (pa_cons (pe_ty (T := "tuple") (by rfl) B.tuple (by decide +kernel)) pa_nil))))) (pss_one (ps_ret (pe_tup (pa_cons pe_non (pa_cons pe_str pa_nil)))))
        pss_nil)
      (pss_cons (ps_set (i := 1) scprogram_error.nd rfl (Or.inl rfl) (pe_f Gorder_error (hr.mono (by omega)) (by rfl) pass0 (pa_cons (pv 0) pa_nil)))
      (pss_cons (ps_if (pt_cmpR op_notN (pv 1) pe_non (nomark _)) (pss_one (ps_ret (pv 1)))
        pss_nil)
      (pss_cons (ps_if (pt_cmpR op_gt (pe_callB c_len (by rfl) B.len (by decide +kernel) (pa_cons (pe_f Grows_of (hr.mono (by omega)) (by rfl) pass0 (pa_cons (pv 0) pa_nil)) pa_nil)) (pe_gint (by rfl) g_MAX_PLACES) (nomark _)) (pss_one (ps_ret (pe_tup (pa_cons pe_non (pa_cons pe_str pa_nil)))))
        pss_nil)
      (pss_cons (ps_if (pt_cmpR op_gt (pe_f Gweight (hr.mono (by omega)) (by rfl) pass0 (pa_cons (pv 0) pa_nil)) (pe_gint (by rfl) g_MAX_WEIGHT) (nomark _)) (pss_one (ps_ret (pe_tup (pa_cons pe_non (pa_cons pe_str pa_nil)))))
        pss_nil)
      (pss_cons (ps_if (pt_cmpR op_gt (pe_f Gcounted (hr.mono (by omega)) (by rfl) pass0 (pa_cons (pv 0) (pa_cons pe_str pa_nil))) (pe_gint (by rfl) g_MAX_RESTS) (nomark _)) (pss_one (ps_ret (pe_tup (pa_cons pe_non (pa_cons pe_str pa_nil)))))
        pss_nil)
      (pss_one (ps_ret (pe_ifExp (pt_cmpR op_gt (pe_f Gcounted (hr.mono (by omega)) (by rfl) pass0 (pa_cons (pv 0) (pa_cons pe_str pa_nil))) (pe_gint (by rfl) g_MAX_COMPARINGS) (nomark _)) (pe_tup (pa_cons pe_non (pa_cons pe_str pa_nil))) pe_non))))))))), ?_⟩
  cases d with
  | tuple ds =>
    rw [dsz] at hz
    walk_at "rd"
    refine ⟨v, ds, rfl, hd, by omega, fun H1 r k1 hr1 => ?_⟩
    cases ho : ordErr ds with
    | some x =>
      obtain ⟨pl, wd⟩ := x
      rw [ho] at hr1
      have q := k _ r k1 (by rw [perr, ho]; exact hr1)
      obtain ⟨a, x, y, rfl, _⟩ := Dt.is2 hr1
      walk_at "rd"
      refine ⟨rfl, ?_⟩
      walk_at "rd"
      refine ifn (fun _ => ?_) (fun c => by cases c)
      walk_at "rd"
      exact q
    | none =>
      rw [ho] at hr1
      obtain rfl := Dt.isNone hr1
      have hp : perr (.tuple ds) = lim (treeOf ds) := by rw [perr, ho]
      rw [hp] at k
      obtain ⟨e1, hvd⟩ := treeOf_spec ho
      generalize treeOf ds = p at k e1 hvd
      subst e1
      have hd1 := hd.kp0 k1
      unfold lim at k
      walk_at "rd"
      refine ⟨rfl, ?_⟩
      walk_at "rd"
      refine ifn (fun c => absurd rfl c) fun _ => ?_
      walk_at "rd"
      refine ⟨[], v, p, rfl, hd1, fun s hs => ⟨3, hvd s hs⟩, by omega, fun H2 r us hr2 k2 hr3 hS => ?_⟩
      have hus : us.length = Sm.sizes p := by rw [hS.len, Sm.rowsL_len]
      have kk2 := k1.trans k2
      have hd2 := hd1.kp0 k2
      walk_at "rd"
      refine ifd (fun c => ?_) (fun c => ?_)
      · walk_at "rd"
        refine ⟨by walk_at "sz", fun t ht => k _ _ (kk2.new ht) ?_⟩
        rw [if_pos (by omega)]
        exact Dt.mk2 upd_same .non (.str _)
      rw [if_neg (by omega)] at k
      walk_at "rd"
      refine ⟨[], v, p, rfl, hd2, hvd, fun H3 k3 => ?_⟩
      have kk3 := kk2.trans k3
      have hd3 := hd2.kp0 k3
      walk_at "rd"
      refine ifd (fun c1 => ?_) (fun c1 => ?_)
      · walk_at "rd"
        refine ⟨by walk_at "sz", fun t ht => k _ _ (kk3.new ht) ?_⟩
        rw [if_pos c1]
        exact Dt.mk2 upd_same .non (.str _)
      rw [if_neg c1] at k
      walk_at "rd"
      refine ⟨[], v, p, "rest", rfl, hd3, hvd, fun H4 k4 => ?_⟩
      have kk4 := kk3.trans k4
      have hd4 := hd3.kp0 k4
      walk_at "rd"
      refine ifd (fun c2 => ?_) (fun c2 => ?_)
      · walk_at "rd"
        refine ⟨by walk_at "sz", fun t ht => k _ _ (kk4.new ht) ?_⟩
        rw [if_pos c2]
        exact Dt.mk2 upd_same .non (.str _)
      rw [if_neg c2] at k
      walk_at "rd"
      refine ⟨[], v, p, "less", rfl, hd4, hvd, fun H5 k5 => ?_⟩
      have kk5 := kk4.trans k5
      walk_at "rd"
      refine ifd (fun c3 => ?_) (fun c3 => ?_)
      · walk_at "rd"
        refine ⟨by walk_at "sz", fun t ht => k _ _ (kk5.new ht) ?_⟩
        rw [if_pos c3]
        exact Dt.mk2 upd_same .non (.str _)
      rw [if_neg c3] at k
      walk_at "rd"
      exact k _ _ kk5 .non
  | _ =>
    walk_at "rd"
    refine ⟨by walk_at "sz", fun t ht => k _ _ (Kp.nil.new ht) ?_⟩
    exact Dt.mk2 upd_same .non (.str _)
abbrev sis_word_texts : Stmt := topS 50
abbrev Nis_word_texts : List Str := ["text", "most", "sign"]
abbrev Pis_word_texts : List Str := ["text", "most"]
theorem scis_word_texts : FnScope Nis_word_texts Pis_word_texts (defScope sis_word_texts) :=
  ⟨rfl, rfl, rfl, by decide +kernel, rfl, by decide +kernel, by decide +kernel⟩
theorem ok_is_word_texts (D : DfA K mg "is_word_texts" "is_word" sis_word_texts Pis_word_texts) (B : Blt mg) {t1 t2 : Tok} (g_LETTERS_texts : mg "LETTERS_texts" = some (.str LETT t1)) (g_FIGURES : mg "FIGURES" = some (.str FIG t2)) :
    Has P w K mg base CX0 "is_word_texts" Pis_word_texts 1 spWordT := by
  refine D.has scis_word_texts (fun vs H Q E h => ?_) (fun f cdv A outer s H vs Q E hr h => ?_)
  · obtain ⟨l, m, rfl, _⟩ := h
    rfl
  obtain ⟨l, m, rfl, hl, k⟩ := h
  have hz : (tx l).length ≤ sizeLine := by rw [tx_len, sizeLine_eq]; omega
  have kf : isWordT l m = false → Q (.bl false) H := fun e => by
    have q := k H Kp.nil
    rw [e] at q
    exact q
  have eS : LETT ++ FIG = SGN := by decide +kernel
  refine ⟨_, (pss_one (ps_ret (pe_and (pe_chain op_le op_le pe_int (pe_callB c_len (by rfl) B.len (by decide +kernel) (pa_cons (pv 0) pa_nil)) (pv 1)) (pe_one (pe_cmpR (op_eqNil hr.h64) (pe_lc (own := [("sign", 2)]) (g := gName 2) (by rfl) scis_word_texts.nd (pi_str (pv 0)) (blkOk_by (own := [("sign", 2)]) (N := Nis_word_texts) (sc := defScope sis_word_texts) (by decide +kernel)) (fun _ _ _ _ _ => (pg_name (i := 2) scis_word_texts.nd rfl (Or.inl rfl))) (fun _ _ _ _ _ => (pts_one (pt_cmpR op_notinC (pv 2) (pe_op op_addS (pe_gstr (by rfl) g_LETTERS_texts) (pe_gstr (by rfl) g_FIGURES)) (by rfl)))) (fun _ _ _ _ _ => (pv 2))) (pe_lst pa_nil) (nomark _)))))), ?_⟩
  walk_at "rd"
  rotate_left
  · exact hz
  refine ifd (fun c1 => ?_) (fun c1 => ?_)
  rotate_left
  · walk_at "rd"
    refine kf ?_
    unfold isWordT
    rw [decide_eq_false (by rw [tx_len] at c1; exact c1)]
    rfl
  walk_at "rd"
  refine ifd (fun c2 => ?_) (fun c2 => ?_)
  rotate_left
  · refine kf ?_
    unfold isWordT
    rw [decide_eq_false (p := (l.length : Int) ≤ m) (by rw [tx_len] at c2; exact c2), Bool.and_false]
    rfl
  walk_at "rd"
  refine r_LcSf (f := fun c => !isSgn c) (i := 2) (by rw [tx_len]; omega) (fun c H' R h => ?_) (fun c H' R h => ?_) (fun _ => rfl) fun p hp => ?_
  · walk_at "rd"
    · rw [eS]
      exact h
    · decide +kernel
  · walk_at "rd"
    exact h
  walk_at "rd"
  refine ⟨by decide, fun q hq => ?_⟩
  have e1 : upd (upd H p (.lst (((tx l).cps.toList.filter fun c => !isSgn c).map fun c => V.str ⟨#[c]⟩))) q (.lst []) p = some (.lst (((tx l).cps.toList.filter fun c => !isSgn c).map fun c => V.str ⟨#[c]⟩)) := by
    rw [upd_ne (Ne.symm (Ne.symm (ne_of_none upd_same hq)))]
    exact upd_same
  refine r_eqNL (SqL.of e1) (SqL.of upd_same) ?_
  have q := k _ ((Kp.nil.new hp).new (o := .lst []) hq)
  unfold isWordT at q
  rw [tx_len] at c1 c2
  rw [decide_eq_true c1, decide_eq_true c2, Bool.true_and, Bool.true_and] at q
  rw [List.isEmpty_map, filter_all, tx_cps]
  exact q
abbrev sis_name_texts : Stmt := topS 52
abbrev Nis_name_texts : List Str := ["text"]
abbrev Pis_name_texts : List Str := ["text"]
theorem scis_name_texts : FnScope Nis_name_texts Pis_name_texts (defScope sis_name_texts) :=
  ⟨rfl, rfl, rfl, by decide +kernel, rfl, by decide +kernel, by decide +kernel⟩
theorem ok_is_name_texts (D : DfA K mg "is_name_texts" "is_name" sis_name_texts Pis_name_texts) (B : Blt mg) {t1 t2 : Tok} {aK : Addr} (g_MAX_NAME : mg "MAX_NAME" = some (.int 8 t1)) (g_LETTERS_texts : mg "LETTERS_texts" = some (.str LETT t2)) (g_KEPT_WORDS : mg "KEPT_WORDS" = some (.ref aK)) (hK : ∀ H : Hp, SqT K H aK (KEPTS.map V.str))
    (Gis_word_texts : Has P w K mg base CX0 "is_word_texts" ["text", "most"] 1 spWordT) : Has P w K mg base CX0 "is_name_texts" Pis_name_texts 2 spNameT := by
  refine D.has scis_name_texts (fun vs H Q E h => ?_) (fun f cdv A outer s H vs Q E hr h => ?_)
  · obtain ⟨l, rfl, _⟩ := h
    rfl
  obtain ⟨l, rfl, hl, k⟩ := h
  refine ⟨_, (pss_one (ps_ret (pe_and (pe_f Gis_word_texts (hr.mono (by omega)) (by rfl) pass0 (pa_cons (pv 0) (pa_cons (pe_gint (by rfl) g_MAX_NAME) pa_nil))) (pe_and (pe_cmpR op_inC (pe_ix ix_str (pv 0) pe_int (fun _ _ => rfl)) (pe_gstr (by rfl) g_LETTERS_texts) (by rfl)) (pe_one (pe_cmpR op_notIn_seq (pv 0) (pe_gref (by rfl) g_KEPT_WORDS) (by rfl))))))), ?_⟩
  walk_at "rd"
  refine ⟨l, 8, rfl, hl, fun H1 k1 => ?_⟩
  have q := k H1 k1
  rw [isNameT_eq] at q
  cases hw : isWordT l 8 with
  | false =>
    rw [hw, Bool.false_and] at q
    walk_at "rd"
    exact q
  | true =>
    rw [hw, Bool.true_and] at q
    have hne : l ≠ [] := fun e => by
      rw [e] at hw
      exact absurd hw (by decide +kernel)
    obtain ⟨c0, cr, rfl⟩ := List.exists_cons_of_ne_nil hne
    have hat : atI (tx (c0 :: cr)).cps.toList 0 = some c0 := at_nn (Int.le_refl 0) rfl
    walk_at "rd"
    refine r_ixS (by rw [tx_len, sizeLine_eq]; omega) hat ?_
    walk_at "rd"
    change Q (.bl (decide (c0 ∈ LETT.cps.toList) && !KEPTS.contains (tx (c0 :: cr)))) H1 at q
    cases hc : decide (c0 ∈ LETT.cps.toList) with
    | false =>
      rw [hc, Bool.false_and] at q
      walk_at "rd"
      exact q
    | true =>
      rw [hc, Bool.true_and] at q
      walk_at "rd"
      refine ⟨aK, _, rfl, .inr (hK _), rfl, by decide +kernel, ?_⟩
      rw [if_pos rfl, inV_strs]
      exact q
abbrev sinteger_of : Stmt := topS 54
abbrev Ninteger_of : List Str := ["text", "most", "figures", "sign"]
abbrev Pinteger_of : List Str := ["text", "most"]
theorem scinteger_of : FnScope Ninteger_of Pinteger_of (defScope sinteger_of) :=
  ⟨rfl, rfl, rfl, by decide +kernel, rfl, by decide +kernel, by decide +kernel⟩
theorem ok_integer_of (D : Df K mg "integer_of" sinteger_of Pinteger_of) (B : Blt mg) {t1 : Tok} (g_FIGURES : mg "FIGURES" = some (.str FIG t1)) :
    Has P w K mg base CX0 "integer_of" Pinteger_of 1 spIntOf := by
  refine D.has scinteger_of (fun vs H Q E h => ?_) (fun f cdv A outer s H vs Q E hr h => ?_)
  · obtain ⟨l, m, rfl, _⟩ := h
    rfl
  obtain ⟨l, m, rfl, hl, hm, k⟩ := h
  have hz : (tx l).length ≤ sizeLine := by rw [tx_len, sizeLine_eq]; omega
  have hfl : (figs l).length ≤ l.length := by
    unfold figs
    split
    · simp
    · exact Nat.le_refl _
  have hzf : (tx (figs l)).length ≤ sizeLine := by rw [tx_len, sizeLine_eq]; omega
  refine ⟨_, (pss_cons (ps_set (i := 2) scinteger_of.nd rfl (Or.inl rfl) (pe_ifExp (pt_val (pe_m1 PySem.F.slot_str_startswith PySem.F.type_str_startswith m_starts (pv 0) pe_str)) (pe_slice sl_str (pv 0) (po_some pe_int) po_none) (pv 0)))
      (pss_cons (ps_if (PW.pt (pw_or (pt_not (pt_chain op_le op_le pe_int (pe_callB c_len (by rfl) B.len (by decide +kernel) (pa_cons (pv 2) pa_nil)) (pv 1))) (pw_or1 (pt_cmpR (op_neNil hr.h64) (pe_lc (own := [("sign", 3)]) (g := gName 3) (by rfl) scinteger_of.nd (pi_str (pv 2)) (blkOk_by (own := [("sign", 3)]) (N := Ninteger_of) (sc := defScope sinteger_of) (by decide +kernel)) (fun _ _ _ _ _ => (pg_name (i := 3) scinteger_of.nd rfl (Or.inl rfl))) (fun _ _ _ _ _ => (pts_one (pt_cmpR op_notinC (pv 3) (pe_gstr (by rfl) g_FIGURES) (by rfl)))) (fun _ _ _ _ _ => (pv 3))) (pe_lst pa_nil) (nomark _))))) (pss_one (ps_ret pe_non))
        pss_nil)
      (pss_cons (ps_if (PW.pt (pw_and (pt_cmpR op_eq (pe_ix ix_str (pv 2) pe_int (fun _ _ => rfl)) pe_str (nomark _)) (pw_and1 (pt_cmpR op_ne (pv 0) pe_str (nomark _))))) (pss_one (ps_ret pe_non))
        pss_nil)
      (pss_one (ps_ret (pe_callTy c_intS (by rfl) B.int (by decide +kernel) (pa_cons (pv 0) pa_nil))))))), ?_⟩
  walk_at "rdj"
  refine r_ifJ (fun v H' => v = .str (tx (figs l)) ∧ H' = H) (fun Q' kQ => ?_) ?_
  · walk_at "rd"
    refine r_starts ?_
    by_cases hc : ∃ r, l = 45 :: r
    · obtain ⟨r, rfl⟩ := hc
      rw [starts_yes]
      walk_at "rd"
      refine r_slS ?_ hz
      have e := cutS_from (45 :: r) 1
      rw [show ((1 : Nat) : Int) = 1 by rfl] at e
      rw [e]
      exact kQ _ _ ⟨rfl, rfl⟩
    · obtain ⟨e, e2⟩ := starts_no hc
      rw [e]
      walk_at "rd"
      exact kQ _ _ ⟨by rw [e2], rfl⟩
  rintro v H1 ⟨rfl, rfl⟩
  have kn : ∀ H', Kp [] H1 H' → intOf l m = none → Q .non H' := fun H' k' e => by
    have q := k H' k'
    rw [e] at q
    exact q
  walk_at "rd"
  rotate_left
  · exact hzf
  refine ifd (fun c1 => ?_) (fun c1 => ?_)
  rotate_left
  · walk_at "rd"
    refine kn _ Kp.nil ?_
    rw [tx_len] at c1
    unfold intOf
    rw [decide_eq_false c1, Bool.false_and, Bool.false_and, if_neg Bool.false_ne_true]
  walk_at "rd"
  refine ifn (fun c2 => ?_) (fun c2 => ?_)
  · walk_at "rd"
    refine kn _ Kp.nil ?_
    rw [tx_len] at c2
    unfold intOf
    rw [decide_eq_false c2, Bool.and_false, Bool.false_and, if_neg Bool.false_ne_true]
  rw [tx_len] at c1 c2
  walk_at "rd"
  refine r_LcSf (f := fun c => !isFig c) (i := 3) (by rw [tx_len]; omega) (fun c H' R h => ?_) (fun c H' R h => ?_) (fun _ => rfl) fun p hp => ?_
  · walk_at "rd"
    exact h
  · walk_at "rd"
    exact h
  walk_at "rd"
  refine ⟨by decide, fun q hq => ?_⟩
  have k2 : Kp [] H1 (upd (upd H1 p (.lst (((tx (figs l)).cps.toList.filter fun c => !isFig c).map fun c => V.str ⟨#[c]⟩))) q (.lst [])) := (Kp.nil.new hp).new hq
  have e1 : upd (upd H1 p (.lst (((tx (figs l)).cps.toList.filter fun c => !isFig c).map fun c => V.str ⟨#[c]⟩))) q (.lst []) p = some (.lst (((tx (figs l)).cps.toList.filter fun c => !isFig c).map fun c => V.str ⟨#[c]⟩)) := by
    rw [upd_ne (Ne.symm (Ne.symm (ne_of_none upd_same hq)))]
    exact upd_same
  have e2 : upd (upd H1 p (.lst (((tx (figs l)).cps.toList.filter fun c => !isFig c).map fun c => V.str ⟨#[c]⟩))) q (.lst []) q = some (.lst []) := upd_same
  generalize upd (upd H1 p (.lst (((tx (figs l)).cps.toList.filter fun c => !isFig c).map fun c => V.str ⟨#[c]⟩))) q (.lst []) = H2 at k2 e1 e2 ⊢
  refine r_neNL (SqL.of e1) (SqL.of e2) ?_
  rw [List.isEmpty_map, filter_all, tx_cps]
  have kI : intOf l m = if (figs l).all isFig = true then (if (figs l).headD 0 = 48 ∧ l ≠ [48] then none else PySem.intText? (tx l)) else none := by
    unfold intOf
    rw [decide_eq_true c1, decide_eq_true c2, Bool.true_and, Bool.true_and]
  cases hall : (figs l).all isFig with
  | false =>
    walk_at "rd"
    refine kn _ k2 ?_
    rw [kI, hall, if_neg Bool.false_ne_true]
  | true =>
    rw [hall, if_pos rfl] at kI
    obtain ⟨n, hn⟩ := intOf_some (l := l) (by omega) (by omega) hall
    have hl640 : (tx l).length ≤ 640 := by
      have : l.length ≤ (figs l).length + 1 := by
        unfold figs
        split
        · simp
        · omega
      rw [tx_len]
      omega
    have hne : figs l ≠ [] := fun e => by
      rw [e] at c1
      simp at c1
    obtain ⟨c0, cr, hc0⟩ := List.exists_cons_of_ne_nil hne
    have hat : atI (tx (figs l)).cps.toList 0 = some c0 := at_nn (Int.le_refl 0) (by rw [tx_cps, hc0]; rfl)
    have hh : (figs l).headD 0 = c0 := by rw [hc0]; rfl
    have d0 : decide (V.str ⟨#[c0]⟩ = V.str "0") = decide (c0 = 48) := decide_eq_decide.mpr ⟨fun e => by
      injection e with e
      have := tx_inj (a := [c0]) (b := [48]) (by rw [← tx_zero]; exact e)
      injection this, fun e => by rw [e]; rfl⟩
    have d1 : decide (V.str (tx l) = V.str "0") = decide (l = [48]) := decide_eq_decide.mpr ⟨fun e => by
      injection e with e
      exact tx_inj (by rw [← tx_zero]; exact e), fun e => by rw [e, ← tx_zero]⟩
    walk_at "rd"
    refine r_ixS hzf hat ?_
    walk_at "rd"
    rw [d0]
    refine ifd (fun c3 => ?_) (fun c3 => ?_)
    · walk_at "rd"
      rw [d1]
      refine ifn (fun c4 => ?_) (fun c4 => ?_)
      · walk_at "rd"
        refine kn _ k2 ?_
        rw [kI, if_pos ⟨by rw [hh]; exact c3, c4⟩]
      · walk_at "rd"
        refine ⟨tx l, n, rfl, hn, hl640, ?_⟩
        have q := k _ k2
        rw [kI, if_neg (fun z => z.2 c4), hn] at q
        exact q
    · walk_at "rd"
      refine ⟨tx l, n, rfl, hn, hl640, ?_⟩
      have q := k _ k2
      rw [kI, if_neg (fun z => c3 (by rw [← hh]; exact z.1)), hn] at q
      exact q
abbrev ssum_at : Stmt := topS 55
abbrev Nsum_at : List Str := ["text", "at", "deep", "left", "one", "end", "word", "right"]
abbrev Psum_at : List Str := ["text", "at", "deep"]
theorem scsum_at : FnScope Nsum_at Psum_at (defScope ssum_at) :=
  ⟨rfl, rfl, rfl, by decide +kernel, rfl, by decide +kernel, by decide +kernel⟩
theorem ok_sum_at (D : Df K mg "sum_at" ssum_at Psum_at) (B : Blt mg) {n lv : Nat} {aW : Addr} (g_WORDS : mg "WORDS" = some (.ref aW)) (hW : KD K w aW wordsL)
    (Gexpression_at : Has P w K mg base CX0 "expression_at" ["text", "at", "deep"] lv (spExAt K n)) : Has P w K mg base CX0 "sum_at" Psum_at (lv + 1) (spSmAt K n) := by
  refine D.has scsum_at (fun vs H Q E h => ?_) (fun f cdv A outer s H vs Q E hr h => ?_)
  · obtain ⟨l, a, d, rfl, _⟩ := h
    rfl
  obtain ⟨l, a, d, rfl, hl, ha, hd, k⟩ := h
  refine ⟨_, (pss_cons (ps_set (i := 3) scsum_at.nd rfl (Or.inl rfl) (pe_f Gexpression_at (hr.mono (by omega)) (by rfl) pass0 (pa_cons (pv 0) (pa_cons (pe_op op_add (pv 1) pe_int) (pa_cons (pe_op op_add (pv 2) pe_int) pa_nil)))))
      (pss_cons (ps_if (pt_cmpR op_isN (pv 3) pe_non (nomark _)) (pss_one (ps_ret pe_non))
        pss_nil)
      (pss_cons (ps_asg (pv 3) (pg_tup rfl (pgs_cons (pg_name (i := 4) scsum_at.nd rfl (Or.inl rfl)) (pgs_cons (pg_name (i := 5) scsum_at.nd rfl (Or.inl rfl)) pgs_nil))))
      (pss_cons (ps_set (i := 6) scsum_at.nd rfl (Or.inl rfl) (pe_kget2 (pe_gref (by rfl) g_WORDS) (pe_slice sl_str (pv 0) (po_some (pv 5)) (po_some (pe_op op_add (pv 5) pe_int))) pe_str ⟨by rfl, by rfl, by rfl, by rfl⟩))
      (pss_cons (ps_if (PW.pt (pw_or (pt_cmpR op_eq (pv 6) pe_str (nomark _)) (pw_or1 (PW.pt (pw_and (pt_cmpR op_eq (pv 6) pe_str (nomark _)) (pw_and1 (pt_not (pt_val (pe_callB c_is2 (by rfl) B.isinstance (by decide +kernel) (pa_cons (pv 4) (pa_cons (pe_ty (T := "int") (by rfl) B.int (by decide +kernel)) pa_nil))))))))))) (pss_one (ps_ret pe_non))
        pss_nil)
      (pss_cons (ps_set (i := 7) scsum_at.nd rfl (Or.inl rfl) (pe_f Gexpression_at (hr.mono (by omega)) (by rfl) pass0 (pa_cons (pv 0) (pa_cons (pe_op op_add (pv 5) pe_int) (pa_cons (pe_op op_add (pv 2) pe_int) pa_nil)))))
      (pss_cons (ps_if (PW.pt (pw_or (pt_cmpR op_isN (pv 7) pe_non (nomark _)) (pw_or1 (pt_cmpR op_ne (pe_slice sl_str (pv 0) (po_some (pe_ix ix_tup (pv 7) pe_int (fun _ _ => rfl))) (po_some (pe_op op_add (pe_ix ix_tup (pv 7) pe_int (fun _ _ => rfl)) pe_int))) pe_str (nomark _))))) (pss_one (ps_ret pe_non))
        pss_nil)
      (pss_one (ps_ret (pe_tup (pa_cons (pe_tup (pa_cons (pv 6) (pa_cons (pv 4) (pa_cons (pe_ix ix_tup (pv 7) pe_int (fun _ _ => rfl)) pa_nil)))) (pa_cons (pe_op op_add (pe_ix ix_tup (pv 7) pe_int (fun _ _ => rfl)) pe_int) pa_nil)))))))))))), ?_⟩
  walk_at "rd"
  refine ⟨l, a + 1, d + 1, by simp, hl, ha, by omega, fun H1 z1 k1 hz1 => ?_⟩
  unfold sumAt at k
  cases e1 : exprAt l n (a + 1) with
  | none =>
    rw [e1] at hz1 k
    obtain rfl := hz1.isNone
    walk_at "rd"
    refine ⟨rfl, ?_⟩
    walk_at "rd"
    refine ifd (fun _ => ?_) (fun c => absurd rfl c)
    walk_at "rd"
    exact k _ _ k1 .non
  | some r1 =>
    obtain ⟨x1, p1⟩ := r1
    rw [e1] at hz1 k
    dsimp only at k
    obtain ⟨b1, b2⟩ := exprAt_le l n (a + 1) ha e1
    obtain ⟨c1, v0, v1, rfl, hT1, h0, h1⟩ := Dt.is2 hz1
    obtain rfl := h1.isInt
    walk_at "rd"
    refine ⟨rfl, ?_⟩
    walk_at "rd"
    refine ifd (fun c => by cases c) (fun _ => ?_)
    walk_at "rd"
    with_reducible refine r_kget2 ?_
    walk_at "rd"
    refine ⟨aW, wordsL, rfl, hW, ?_⟩
    walk_at "rd"
    refine sl_str_at (n := 3) hl ?_
    walk_at "rd"
    refine r_KG2 ?_
    rw [wordsL_tx]
    walk_at "rds"
    with_reducible refine r_seqJ (fun σ H' => σ = [some (.str (tx l)), some (.int (a : Nat)), some (.int d), some (.ref c1), some v0, some (.int (p1 : Nat)), some (.str (opAt ((l.drop p1).take 3))), none] ∧ H' = H1 ∧ ¬ (opAt ((l.drop p1).take 3) = "" ∨ (opAt ((l.drop p1).take 3) = "times" ∧ x1.isI = false))) (fun nx' kx => ?_) ?_
    · have kn : (opAt ((l.drop p1).take 3) = "" ∨ (opAt ((l.drop p1).take 3) = "times" ∧ x1.isI = false)) → Q .non H1 := fun e => by
        have q := k H1 .non k1
        rw [if_pos e] at q
        exact q .non
      rcases opAt_cases ((l.drop p1).take 3) with e | e | e | e
      · rw [e] at kn kx ⊢
        walk_at "rd"
        exact kn (.inl rfl)
      · rw [e] at kn kx ⊢
        walk_at "rd"
        exact kx _ _ ⟨rfl, rfl, fun z => z.elim (fun e => absurd e (by decide +kernel)) fun e => absurd e.1 (by decide +kernel)⟩
      · rw [e] at kn kx ⊢
        walk_at "rd"
        exact kx _ _ ⟨rfl, rfl, fun z => z.elim (fun e => absurd e (by decide +kernel)) fun e => absurd e.1 (by decide +kernel)⟩
      · rw [e] at kn kx ⊢
        cases x1 with
        | int i =>
          obtain rfl := h0.isInt
          have hw : Dw [] K H1 (.int i) (.int i) := .int i
          walk_at "rd"
          refine kx _ _ ⟨rfl, rfl, fun z => ?_⟩
          rcases z with z | z
          · exact absurd z (by decide +kernel)
          · cases z.2
        | name x =>
          obtain rfl := h0.isStr
          have hw : Dw [] K H1 (.str x) (.str x) := .str x
          walk_at "rd"
          exact kn (.inr ⟨rfl, rfl⟩)
        | bin o y z =>
          have hw : Dw [] K H1 v0 (.tuple [.str o, y.d, z.d]) := Dt.dw (show Dt K H1 v0 (.tuple [.str o, y.d, z.d]) from h0)
          walk_at "rd"
          exact kn (.inr ⟨rfl, rfl⟩)
    rintro σ H2 ⟨rfl, rfl, hc⟩
    rw [if_neg hc] at k
    have l3 := opAt_some fun z => hc (.inl z)
    walk_at "rd"
    refine ⟨l, p1 + 3, d + 1, by simp, hl, l3, by omega, fun H3 z3 k3 hz3 => ?_⟩
    have h03 := h0.kp k3
    cases e2 : exprAt l n (p1 + 3) with
    | none =>
      rw [e2] at hz3 k
      obtain rfl := hz3.isNone
      walk_at "rd"
      refine ⟨rfl, ?_⟩
      walk_at "rd"
      refine ifd (fun _ => ?_) (fun c => absurd rfl c)
      walk_at "rd"
      exact k _ _ (k1.trans k3) .non
    | some r2 =>
      obtain ⟨x2, p2⟩ := r2
      rw [e2] at hz3 k
      dsimp only at k
      obtain ⟨c3, w0, w1, rfl, hT3, g0, g1⟩ := Dt.is2 hz3
      obtain rfl := g1.isInt
      walk_at "rd"
      refine ⟨rfl, ?_⟩
      walk_at "rd"
      refine ifd (fun c => by cases c) (fun _ => ?_)
      walk_at "rd"
      refine sl_str_at (n := 1) hl ?_
      walk_at "rd"
      rw [dec_str, tx_par2]
      refine ifn (fun c => ?_) (fun c => ?_)
      · walk_at "rd"
        have q := k H3 .non (k1.trans k3)
        rw [if_neg (fun z => c (by rw [z]))] at q
        exact q .non
      · have hp := tx_inj c
        rw [if_pos hp] at k
        walk_at "rd"
        refine ⟨by simp [sizeLine_eq], fun q4 hq4 => ?_⟩
        have k4 : Kp [] H3 (upd H3 q4 (.tup [.str (opAt ((l.drop p1).take 3)), v0, w0])) := Kp.nil.new hq4
        have u4 : Dt K (upd H3 q4 (.tup [.str (opAt ((l.drop p1).take 3)), v0, w0])) (.ref q4) (Ex.bin (opAt ((l.drop p1).take 3)) x1 x2).d := Dt.mk3 upd_same (.str _) (h03.kp k4) (g0.kp k4)
        have hT4 := sqT_kp k4 hT3
        generalize upd H3 q4 (.tup [.str (opAt ((l.drop p1).take 3)), v0, w0]) = H4 at k4 u4 hT4 ⊢
        walk_at "rd"
        refine ⟨by simp [sizeLine_eq], fun q5 hq5 => ?_⟩
        have k5 : Kp [] H4 (upd H4 q5 (.tup [.ref q4, .int ((p2 : Nat) + 1)])) := Kp.nil.new hq5
        exact k _ _ ((k1.trans k3).trans (k4.trans k5)) (Dt.mk2 upd_same (u4.kp k5) (.int _))
abbrev sexpression_at : Stmt := topS 56
abbrev Nexpression_at : List Str := ["text", "at", "deep", "end", "number"]
abbrev Pexpression_at : List Str := ["text", "at", "deep"]
theorem scexpression_at : FnScope Nexpression_at Pexpression_at (defScope sexpression_at) :=
  ⟨rfl, rfl, rfl, by decide +kernel, rfl, by decide +kernel, by decide +kernel⟩
theorem ok_expression_at (D : Df K mg "expression_at" sexpression_at Pexpression_at) (B : Blt mg) {n lv : Nat} {sp2 : Sp} {t1 t2 : Tok} (hlv : 2 ≤ lv) (g_MOST_DEEP : mg "MOST_DEEP" = some (.int 20 t1)) (g_MOST_FIGURES : mg "MOST_FIGURES" = some (.int 20 t2))
    (Ginteger_of : Has P w K mg base CX0 "integer_of" ["text", "most"] 1 spIntOf) (Gis_name_texts : Has P w K mg base CX0 "is_name_texts" ["text"] 2 spNameT)
    (Gsum_at : Has P w K mg base CX0 "sum_at" ["text", "at", "deep"] lv sp2) (hs : ∀ m, n = m + 1 → sp2 = spSmAt K m) : Has P w K mg base CX0 "expression_at" Pexpression_at (lv + 1) (spExAt K n) := by
  refine D.has scexpression_at (fun vs H Q E h => ?_) (fun f cdv A outer s H vs Q E hr h => ?_)
  · obtain ⟨l, a, d, rfl, _⟩ := h
    rfl
  obtain ⟨l, a, d, rfl, hl, ha, hd, k⟩ := h
  have hz : (tx l).length ≤ sizeLine := by rw [tx_len, sizeLine_eq]; omega
  refine ⟨_, (pss_cons (ps_if (pt_cmpR op_gt (pv 2) (pe_gint (by rfl) g_MOST_DEEP) (nomark _)) (pss_one (ps_ret pe_non))
        pss_nil)
      (pss_cons (ps_if (pt_cmpR op_eq (pe_slice sl_str (pv 0) (po_some (pv 1)) (po_some (pe_op op_add (pv 1) pe_int))) pe_str (nomark _)) (pss_one (ps_ret (pe_f Gsum_at (hr.mono (by omega)) (by rfl) pass0 (pa_cons (pv 0) (pa_cons (pv 1) (pa_cons (pv 2) pa_nil))))))
        pss_nil)
      (pss_cons (ps_set (i := 3) scexpression_at.nd rfl (Or.inl rfl) (pv 1))
      (pss_cons (ps_while PassesOwn.never (PW.pt (pw_and (pt_cmpR op_lt (pv 3) (pe_callB c_len (by rfl) B.len (by decide +kernel) (pa_cons (pv 0) pa_nil)) (nomark _)) (pw_and1 (pt_cmpR op_notIn_seq (pe_ix ix_str (pv 0) (pv 3) (fun _ _ => rfl)) (pe_tup (pa_cons pe_str (pa_cons pe_str (pa_cons pe_str pa_nil)))) (by rfl))))) (pss_one (ps_aug (i := 3) scexpression_at.nd rfl (.inl rfl) pe_int ip_add)))
      (pss_cons (ps_set (i := 4) scexpression_at.nd rfl (Or.inl rfl) (pe_f Ginteger_of (hr.mono (by omega)) (by rfl) pass0 (pa_cons (pe_slice sl_str (pv 0) (po_some (pv 1)) (po_some (pv 3))) (pa_cons (pe_gint (by rfl) g_MOST_FIGURES) pa_nil))))
      (pss_cons (ps_if (pt_cmpR op_notN (pv 4) pe_non (nomark _)) (pss_one (ps_ret (pe_tup (pa_cons (pv 4) (pa_cons (pv 3) pa_nil)))))
        pss_nil)
      (pss_one (ps_ret (pe_ifExp (pt_val (pe_f Gis_name_texts (hr.mono (by omega)) (by rfl) pass0 (pa_cons (pe_slice sl_str (pv 0) (po_some (pv 1)) (po_some (pv 3))) pa_nil))) (pe_tup (pa_cons (pe_slice sl_str (pv 0) (po_some (pv 1)) (po_some (pv 3))) (pa_cons (pv 3) pa_nil))) pe_non))))))))), ?_⟩
  walk_at "rd"
  refine ifd (fun c0 => ?_) (fun c0 => ?_)
  · obtain rfl : n = 0 := by omega
    walk_at "rd"
    exact k _ _ Kp.nil .non
  obtain ⟨m, rfl⟩ : ∃ m, n = m + 1 := ⟨n - 1, by omega⟩
  obtain rfl := hs m rfl
  rw [exprAt] at k
  walk_at "rd"
  refine sl_str_at (n := 1) hl ?_
  walk_at "rd"
  rw [dec_str]
  refine ifd (fun c1 => ?_) (fun c1 => ?_)
  · rw [tx_par1] at c1
    have c2 := tx_inj c1
    rw [if_pos c2] at k
    walk_at "rd"
    exact ⟨l, a, d, rfl, hl, take_some c2 rfl (by decide), by omega, k⟩
  rw [if_neg (fun z => c1 (by rw [z, tx_par1]))] at k
  have hw := wordL_le l a
  walk_at "rds"
  with_reducible refine r_seq ?_
  walk_at "rds"
  with_reducible refine r_seqJ (fun σ H' => σ = [some (.str (tx l)), some (.int (a : Nat)), some (.int d), some (.int ((a + (wordL l a).length : Nat) : Int)), none] ∧ Kp [] H H') (fun nx' kx => ?_) ?_
  · refine r_while (fun i σ H' => ∃ j : Nat, i = l.length - j ∧ σ = [some (.str (tx l)), some (.int (a : Nat)), some (.int d), some (.int (j : Nat)), none] ∧ Kp [] H H' ∧ a ≤ j ∧ j ≤ l.length ∧ (wordL l a).length ≥ j - a) (l.length - a) ⟨a, rfl, rfl, Kp.nil, Nat.le_refl _, ha, by omega⟩ ?_
    rintro i σ H1 ⟨j, rfl, rfl, k1, j1, j2, j3⟩
    walk_at "rd"
    rotate_left
    · exact hz
    rw [tx_len]
    refine ifd (fun c2 => ?_) (fun c2 => ?_)
    · have hjl : j < l.length := by omega
      have hat : atI (tx l).cps.toList (j : Int) = some l[j] := atI_nat (List.getElem?_eq_getElem hjl)
      obtain ⟨s1, s2⟩ := wordL_step (c := l[j]) j1 j3 (List.getElem?_eq_getElem hjl)
      walk_at "rd"
      refine r_ixS hz hat ?_
      walk_at "rd"
      refine ⟨by simp [sizeLine_eq], fun p hp => ?_⟩
      have k2 : Kp [] H1 (upd H1 p (.tup [.str " ", .str ")", .str "("])) := Kp.nil.new hp
      refine ⟨p, _, rfl, .inr (SqT.of upd_same), rfl, rfl, ?_⟩
      rw [if_pos rfl, brk_in]
      generalize upd H1 p (.tup [.str " ", .str ")", .str "("]) = H2 at k2 ⊢
      cases hb : brk l[j] with
      | true =>
        walk_at "rd"
        have := s2 hb
        refine kx _ _ ⟨?_, k1.trans k2⟩
        rw [this, show a + (j - a) = j by omega]
      | false =>
        walk_at "rd"
        refine r_turn ?_
        walk_at "rd"
        exact ⟨l.length - (j + 1), by omega, j + 1, rfl, rfl, k1.trans k2, by omega, by omega, s1 hb⟩
    · walk_at "rd"
      refine kx _ _ ⟨?_, k1⟩
      have : (wordL l a).length = j - a := by omega
      rw [this, show a + (j - a) = j by omega]
  rintro σ H1 ⟨rfl, k1⟩
  have cut : ∀ {H' : Hp} {Q' : VK}, Q' (.str (tx (wordL l a))) H' → rSlS (.str (tx l)) (some (a : Int)) (some ((a + (wordL l a).length : Nat) : Int)) H' Q' := fun {H' Q'} h => by
    refine r_slS ?_ hz
    rw [cutS_mid, show a + (wordL l a).length - a = (wordL l a).length by omega, wordL_mid]
    exact h
  unfold leafAt at k
  walk_at "rd"
  refine cut ?_
  walk_at "rd"
  refine ⟨wordL l a, 20, rfl, by omega, by omega, fun H2 k2 => ?_⟩
  cases hi : intOf (wordL l a) 20 with
  | some i =>
    rw [hi] at k
    dsimp only at k
    walk_at "rd"
    refine ⟨rfl, ?_⟩
    walk_at "rd"
    refine ifn (fun _ => ?_) (fun c => by cases c)
    walk_at "rd"
    refine ⟨by simp [sizeLine_eq], fun p hp => ?_⟩
    have k3 : Kp [] H2 (upd H2 p (.tup [.int i, .int ((a + (wordL l a).length : Nat) : Int)])) := Kp.nil.new hp
    exact k _ _ ((k1.trans k2).trans k3) (Dt.mk2 upd_same (.int _) (.int _))
  | none =>
    rw [hi] at k
    dsimp only at k
    walk_at "rd"
    refine ⟨rfl, ?_⟩
    walk_at "rd"
    refine ifn (fun c => absurd rfl c) (fun _ => ?_)
    walk_at "rd"
    refine cut ?_
    walk_at "rd"
    refine ⟨wordL l a, rfl, by omega, fun H3 k3 => ?_⟩
    cases hnm : isNameT (wordL l a) with
    | false =>
      rw [hnm, if_neg Bool.false_ne_true] at k
      walk_at "rd"
      exact k _ _ ((k1.trans k2).trans k3) .non
    | true =>
      rw [hnm, if_pos rfl] at k
      walk_at "rd"
      refine cut ?_
      walk_at "rd"
      refine ⟨by simp [sizeLine_eq], fun p hp => ?_⟩
      have k4 : Kp [] H3 (upd H3 p (.tup [.str (tx (wordL l a)), .int ((a + (wordL l a).length : Nat) : Int)])) := Kp.nil.new hp
      exact k _ _ ((k1.trans k2).trans (k3.trans k4)) (Dt.mk2 upd_same (.str _) (.int _))
abbrev sexpression_of : Stmt := topS 57
abbrev Nexpression_of : List Str := ["text", "found"]
abbrev Pexpression_of : List Str := ["text"]
theorem scexpression_of : FnScope Nexpression_of Pexpression_of (defScope sexpression_of) :=
  ⟨rfl, rfl, rfl, by decide +kernel, rfl, by decide +kernel, by decide +kernel⟩
theorem ok_expression_of (D : Df K mg "expression_of" sexpression_of Pexpression_of) (B : Blt mg) {lv : Nat} (Gexpression_at : Has P w K mg base CX0 "expression_at" ["text", "at", "deep"] lv (spExAt K 20)) :
    Has P w K mg base CX0 "expression_of" Pexpression_of (lv + 1) (spExOf K) := by
  refine D.has scexpression_of (fun vs H Q E h => ?_) (fun f cdv A outer s H vs Q E hr h => ?_)
  · obtain ⟨l, rfl, _⟩ := h
    rfl
  obtain ⟨l, rfl, hl, k⟩ := h
  have hz : (tx l).length ≤ sizeLine := by rw [tx_len, sizeLine_eq]; omega
  unfold exprOf at k
  refine ⟨_, (pss_cons (ps_set (i := 1) scexpression_of.nd rfl (Or.inl rfl) (pe_f Gexpression_at (hr.mono (by omega)) (by rfl) pass0 (pa_cons (pv 0) (pa_cons pe_int (pa_cons pe_int pa_nil)))))
      (pss_one (ps_ret (pe_ifExp (PW.pt (pw_and (pt_cmpR op_notN (pv 1) pe_non (nomark _)) (pw_and1 (pt_cmpR op_eq (pe_ix ix_tup (pv 1) pe_int (fun _ _ => rfl)) (pe_callB c_len (by rfl) B.len (by decide +kernel) (pa_cons (pv 0) pa_nil)) (nomark _))))) (pe_ix ix_tup (pv 1) pe_int (fun _ _ => rfl)) pe_non)))), ?_⟩
  walk_at "rd"
  refine ⟨l, 0, 1, rfl, hl, by omega, by omega, fun H1 z1 k1 hz1 => ?_⟩
  cases e1 : exprAt l 20 0 with
  | none =>
    rw [e1] at hz1 k
    obtain rfl := hz1.isNone
    walk_at "rd"
    refine ⟨rfl, ?_⟩
    walk_at "rd"
    refine ifn (fun c => absurd rfl c) (fun _ => ?_)
    walk_at "rd"
    exact k _ _ k1 .non
  | some r1 =>
    obtain ⟨x1, p1⟩ := r1
    rw [e1] at hz1 k
    dsimp only at k
    obtain ⟨c1, v0, v1, rfl, hT1, h0, h1⟩ := Dt.is2 hz1
    obtain rfl := h1.isInt
    walk_at "rd"
    refine ⟨rfl, ?_⟩
    walk_at "rd"
    refine ifn (fun _ => ?_) (fun c => by cases c)
    walk_at "rd"
    rotate_left
    · exact hz
    rw [tx_len, dec_int]
    refine ifd (fun c => ?_) (fun c => ?_)
    · rw [if_pos (by omega)] at k
      walk_at "rd"
      exact k _ _ k1 h0
    · rw [if_neg (by omega)] at k
      walk_at "rd"
      exact k _ _ k1 .non
abbrev svalued : Stmt := topS 62
abbrev Nvalued : List Str := ["word", "value"]
abbrev Pvalued : List Str := ["word", "value"]
theorem scvalued : FnScope Nvalued Pvalued (defScope svalued) :=
  ⟨rfl, rfl, rfl, by decide +kernel, rfl, by decide +kernel, by decide +kernel⟩
theorem ok_valued (D : Df K mg "valued" svalued Pvalued) (B : Blt mg) : Has P w K mg base CX0 "valued" Pvalued 1 (spVal K) := by
  refine D.has scvalued (fun vs H Q E h => ?_) (fun f cdv A outer s H vs Q E hr h => ?_)
  · obtain ⟨wd, v, d, rfl, _⟩ := h
    rfl
  obtain ⟨wd, v, d, rfl, hd, k⟩ := h
  refine ⟨_, (pss_one (ps_ret (pe_ifExp (pt_cmpR op_isN (pv 1) pe_non (nomark _)) pe_non (pe_tup (pa_cons (pv 0) (pa_cons (pv 1) pa_nil)))))), ?_⟩
  by_cases hn : d = .none
  · subst hn
    obtain rfl := hd.isNone
    walk_at "rd"
    refine ⟨rfl, ?_⟩
    walk_at "rd"
    refine ifd (fun _ => ?_) (fun c => absurd rfl c)
    walk_at "rd"
    exact k _ _ Kp.nil .non
  · have hv := hd.ne_none hn
    walk_at "rd"
    refine ⟨rfl, ?_⟩
    walk_at "rd"
    refine ifd (fun c => absurd c hv) (fun _ => ?_)
    walk_at "rd"
    refine ⟨by simp [sizeLine_eq], fun p hp => ?_⟩
    have k1 : Kp [] H (upd H p (.tup [.str wd, v])) := Kp.nil.new hp
    have e : vlD wd d = .tuple [.str wd, d] := by
      cases d <;> first | rfl | exact absurd rfl hn
    refine k _ _ k1 ?_
    rw [e]
    exact Dt.mk2 upd_same (.str _) (hd.kp k1)
abbrev ssetting_of : Stmt := topS 61
abbrev Nsetting_of : List Str := ["text", "name", "space", "expression"]
abbrev Psetting_of : List Str := ["text"]
theorem scsetting_of : FnScope Nsetting_of Psetting_of (defScope ssetting_of) :=
  ⟨rfl, rfl, rfl, by decide +kernel, rfl, by decide +kernel, by decide +kernel⟩
theorem ok_setting_of (D : Df K mg "setting_of" ssetting_of Psetting_of) (B : Blt mg) {lv : Nat} (hlv : 2 ≤ lv) (Gexpression_of : Has P w K mg base CX0 "expression_of" ["text"] lv (spExOf K)) (Gis_name_texts : Has P w K mg base CX0 "is_name_texts" ["text"] 2 spNameT) :
    Has P w K mg base CX0 "setting_of" Psetting_of (lv + 1) (spSetOf K) := by
  refine D.has scsetting_of (fun vs H Q E h => ?_) (fun f cdv A outer s H vs Q E hr h => ?_)
  · obtain ⟨l, rfl, _⟩ := h
    rfl
  obtain ⟨l, rfl, hl, k⟩ := h
  have h1 := headL_le l
  have h2 := tailL_le l
  unfold setOf at k
  refine ⟨_, (pss_cons (ps_asg (pe_m1 PySem.F.slot_str_partition PySem.F.type_str_partition m_part (pv 0) pe_str) (pg_tup rfl (pgs_cons (pg_name (i := 1) scsetting_of.nd rfl (Or.inl rfl)) (pgs_cons (pg_name (i := 2) scsetting_of.nd rfl (Or.inl rfl)) (pgs_cons (pg_name (i := 0) scsetting_of.nd rfl (Or.inl rfl)) pgs_nil)))))
      (pss_cons (ps_set (i := 3) scsetting_of.nd rfl (Or.inl rfl) (pe_f Gexpression_of (hr.mono (by omega)) (by rfl) pass0 (pa_cons (pv 0) pa_nil)))
      (pss_one (ps_ret (pe_ifExp (PW.pt (pw_and (pt_val (pe_f Gis_name_texts (hr.mono (by omega)) (by rfl) pass0 (pa_cons (pv 1) pa_nil))) (pw_and1 (pt_cmpR op_notN (pv 3) pe_non (nomark _))))) (pe_tup (pa_cons pe_str (pa_cons (pv 1) (pa_cons (pv 3) pa_nil)))) pe_non))))), ?_⟩
  walk_at "rd"
  refine r_part1 hl fun p sp hp => ?_
  have k1 : Kp [] H (upd H p (.tup [.str (tx (headL l)), .str sp, .str (tx (tailL l))])) := Kp.nil.new hp
  have u1 : SqT K (upd H p (.tup [.str (tx (headL l)), .str sp, .str (tx (tailL l))])) p [.str (tx (headL l)), .str sp, .str (tx (tailL l))] := SqT.of upd_same
  generalize upd H p (.tup [.str (tx (headL l)), .str sp, .str (tx (tailL l))]) = H1 at k1 u1 ⊢
  walk_at "rd"
  refine ⟨tailL l, rfl, by omega, fun H2 z2 k2 hz2 => ?_⟩
  have k12 := k1.trans k2
  walk_at "rd"
  refine ⟨headL l, rfl, by omega, fun H3 k3 => ?_⟩
  have k13 := k12.trans k3
  cases hn : isNameT (headL l) with
  | false =>
    rw [hn, if_neg Bool.false_ne_true] at k
    walk_at "rd"
    exact k _ _ k13 .non
  | true =>
    rw [hn, if_pos rfl] at k
    cases he : exprOf (tailL l) with
    | none =>
      rw [he] at hz2 k
      obtain rfl := hz2.isNone
      walk_at "rd"
      refine ⟨rfl, ?_⟩
      walk_at "rd"
      refine ifn (fun c => absurd rfl c) (fun _ => ?_)
      walk_at "rd"
      exact k _ _ k13 .non
    | some e =>
      rw [he] at hz2 k
      have hz2 : Dt K H2 z2 e.d := hz2
      have hne : z2 ≠ .non := hz2.ne_none (by cases e <;> (intro z; cases z))
      walk_at "rd"
      refine ⟨rfl, ?_⟩
      walk_at "rd"
      refine ifn (fun _ => ?_) (fun c => absurd c hne)
      walk_at "rd"
      refine ⟨by simp [sizeLine_eq], fun q hq => ?_⟩
      have k4 : Kp [] H3 (upd H3 q (.tup [.str "set", .str (tx (headL l)), z2])) := Kp.nil.new hq
      exact k _ _ (k13.trans k4) (Dt.mk3 upd_same (.str _) (.str _) ((hz2.kp k3).kp k4))
abbrev srest_of : Stmt := topS 58
abbrev Nrest_of : List Str := ["text", "rest", "space", "word", "by", "numbers", "expression"]
abbrev Prest_of : List Str := ["text"]
theorem screst_of : FnScope Nrest_of Prest_of (defScope srest_of) :=
  ⟨rfl, rfl, rfl, by decide +kernel, rfl, by decide +kernel, by decide +kernel⟩
theorem ok_rest_of (D : Df K mg "rest_of" srest_of Prest_of) (B : Blt mg) {lv : Nat} {t1 : Tok} (hlv : 1 ≤ lv) (g_MOST_FIGURES : mg "MOST_FIGURES" = some (.int 20 t1)) (Gexpression_of : Has P w K mg base CX0 "expression_of" ["text"] lv (spExOf K)) (Ginteger_of : Has P w K mg base CX0 "integer_of" ["text", "most"] 1 spIntOf) :
    Has P w K mg base CX0 "rest_of" Prest_of (lv + 1) (spRestT K) := by
  refine D.has screst_of (fun vs H Q E h => ?_) (fun f cdv A outer s H vs Q E hr h => ?_)
  · obtain ⟨l, rfl, _⟩ := h
    rfl
  obtain ⟨l, rfl, hl, k⟩ := h
  have h1 := headL_le l
  have h2 := tailL_le l
  have h3 := headL_le (tailL l)
  have h4 := tailL_le (tailL l)
  have h5 := headL_le (tailL (tailL l))
  have h6 := tailL_le (tailL (tailL l))
  unfold restT at k
  refine ⟨_, (pss_cons (ps_asg (pe_m1 PySem.F.slot_str_partition PySem.F.type_str_partition m_part (pv 0) pe_str) (pg_tup rfl (pgs_cons (pg_name (i := 1) screst_of.nd rfl (Or.inl rfl)) (pgs_cons (pg_name (i := 2) screst_of.nd rfl (Or.inl rfl)) (pgs_cons (pg_name (i := 0) screst_of.nd rfl (Or.inl rfl)) pgs_nil)))))
      (pss_cons (ps_asg (pe_m1 PySem.F.slot_str_partition PySem.F.type_str_partition m_part (pv 0) pe_str) (pg_tup rfl (pgs_cons (pg_name (i := 3) screst_of.nd rfl (Or.inl rfl)) (pgs_cons (pg_name (i := 2) screst_of.nd rfl (Or.inl rfl)) (pgs_cons (pg_name (i := 0) screst_of.nd rfl (Or.inl rfl)) pgs_nil)))))
      (pss_cons (ps_asg (pe_m1 PySem.F.slot_str_partition PySem.F.type_str_partition m_part (pv 0) pe_str) (pg_tup rfl (pgs_cons (pg_name (i := 4) screst_of.nd rfl (Or.inl rfl)) (pgs_cons (pg_name (i := 2) screst_of.nd rfl (Or.inl rfl)) (pgs_cons (pg_name (i := 0) screst_of.nd rfl (Or.inl rfl)) pgs_nil)))))
      (pss_cons (ps_set (i := 5) screst_of.nd rfl (Or.inl rfl) (pe_lst (pa_cons (pe_f Ginteger_of (hr.mono (by omega)) (by rfl) pass0 (pa_cons (pv 1) (pa_cons (pe_gint (by rfl) g_MOST_FIGURES) pa_nil))) (pa_cons (pe_f Ginteger_of (hr.mono (by omega)) (by rfl) pass0 (pa_cons (pv 4) (pa_cons (pe_gint (by rfl) g_MOST_FIGURES) pa_nil))) pa_nil))))
      (pss_cons (ps_set (i := 6) screst_of.nd rfl (Or.inl rfl) (pe_f Gexpression_of (hr.mono (by omega)) (by rfl) pass0 (pa_cons (pv 0) pa_nil)))
      (pss_cons (ps_if (PW.pt (pw_or (pt_cmpR op_ne (pv 3) pe_str (nomark _)) (pw_or (pt_cmpR op_in_seq pe_non (pv 5) (by rfl)) (pw_or1 (pt_cmpR op_isN (pv 6) pe_non (nomark _)))))) (pss_one (ps_ret pe_non))
        pss_nil)
      (pss_one (ps_ret (pe_tup (pa_cons pe_str (pa_cons (pv 6) (pa_cons (pe_ix ix_list (pv 5) pe_int (fun _ _ => rfl)) (pa_cons (pe_ix ix_list (pv 5) pe_int (fun _ _ => rfl)) pa_nil))))))))))))), ?_⟩
  walk_at "rd"
  refine r_part1 hl fun p sp hp => ?_
  have k1 : Kp [] H (upd H p (.tup [.str (tx (headL l)), .str sp, .str (tx (tailL l))])) := Kp.nil.new hp
  have u1 : SqT K (upd H p (.tup [.str (tx (headL l)), .str sp, .str (tx (tailL l))])) p [.str (tx (headL l)), .str sp, .str (tx (tailL l))] := SqT.of upd_same
  generalize upd H p (.tup [.str (tx (headL l)), .str sp, .str (tx (tailL l))]) = H1 at k1 u1 ⊢
  walk_at "rd"
  refine r_part1 (by omega) fun p2 sp2 hp2 => ?_
  have k2 : Kp [] H1 (upd H1 p2 (.tup [.str (tx (headL (tailL l))), .str sp2, .str (tx (tailL (tailL l)))])) := Kp.nil.new hp2
  have u2 : SqT K (upd H1 p2 (.tup [.str (tx (headL (tailL l))), .str sp2, .str (tx (tailL (tailL l)))])) p2 [.str (tx (headL (tailL l))), .str sp2, .str (tx (tailL (tailL l)))] := SqT.of upd_same
  generalize upd H1 p2 (.tup [.str (tx (headL (tailL l))), .str sp2, .str (tx (tailL (tailL l)))]) = H2 at k2 u2 ⊢
  walk_at "rd"
  refine r_part1 (by omega) fun p3 sp3 hp3 => ?_
  have k3 : Kp [] H2 (upd H2 p3 (.tup [.str (tx (headL (tailL (tailL l)))), .str sp3, .str (tx (tailL (tailL (tailL l))))])) := Kp.nil.new hp3
  have u3 : SqT K (upd H2 p3 (.tup [.str (tx (headL (tailL (tailL l)))), .str sp3, .str (tx (tailL (tailL (tailL l))))])) p3 [.str (tx (headL (tailL (tailL l)))), .str sp3, .str (tx (tailL (tailL (tailL l))))] := SqT.of upd_same
  generalize upd H2 p3 (.tup [.str (tx (headL (tailL (tailL l)))), .str sp3, .str (tx (tailL (tailL (tailL l))))]) = H3 at k3 u3 ⊢
  walk_at "rd"
  refine ⟨headL l, 20, rfl, by omega, by omega, fun H4 k4 => ?_⟩
  walk_at "rd"
  refine ⟨headL (tailL (tailL l)), 20, rfl, by omega, by omega, fun H5 k5 => ?_⟩
  walk_at "rd"
  refine ⟨by simp [sizeLine_eq], fun q hq => ?_⟩
  have k6 : Kp [] H5 (upd H5 q (.lst [oiV (intOf (headL l) 20), oiV (intOf (headL (tailL (tailL l))) 20)])) := Kp.nil.new hq
  have u6 : upd H5 q (.lst [oiV (intOf (headL l) 20), oiV (intOf (headL (tailL (tailL l))) 20)]) q = some (.lst [oiV (intOf (headL l) 20), oiV (intOf (headL (tailL (tailL l))) 20)]) := upd_same
  generalize upd H5 q (.lst [oiV (intOf (headL l) 20), oiV (intOf (headL (tailL (tailL l))) 20)]) = H6 at k6 u6 ⊢
  walk_at "rd"
  refine ⟨_, rfl, by omega, fun H7 z7 k7 hz7 => ?_⟩
  have u7 := k7.get u6 (by simp)
  have k17 := ((k1.trans k2).trans (k3.trans k4)).trans ((k5.trans k6).trans k7)
  walk_at "rd"
  rw [dec_str]
  refine ifn (fun c => ?_) (fun c => ?_)
  · rw [if_neg c] at k
    walk_at "rd"
    exact k _ _ k17 .non
  rw [if_pos c] at k
  walk_at "rd"
  cases e1 : intOf (headL l) 20 with
  | none =>
    rw [e1] at u7 k
    refine r_inT (.inl (SqL.of u7)) rfl (by cases intOf (headL (tailL (tailL l))) 20 <;> rfl) (by cases intOf (headL (tailL (tailL l))) 20 <;> rfl) ?_
    walk_at "rd"
    exact k _ _ k17 .non
  | some r1 =>
    rw [e1] at u7 k
    cases e2 : intOf (headL (tailL (tailL l))) 20 with
    | none =>
      rw [e2] at u7 k
      refine r_inT (.inl (SqL.of u7)) rfl rfl rfl ?_
      walk_at "rd"
      exact k _ _ k17 .non
    | some r2 =>
      rw [e2] at u7 k
      refine r_inF (.inl (SqL.of u7)) rfl rfl rfl ?_
      have u7 : H7 q = some (.lst [.int r1, .int r2]) := u7
      cases he : exprOf (tailL (tailL (tailL l))) with
      | none =>
        rw [he] at hz7 k
        obtain rfl := hz7.isNone
        walk_at "rd"
        refine ⟨rfl, ?_⟩
        walk_at "rd"
        refine ifd (fun _ => ?_) (fun c => absurd rfl c)
        walk_at "rd"
        exact k _ _ k17 .non
      | some e =>
        rw [he] at hz7 k
        have hz7 : Dt K H7 z7 e.d := hz7
        have hne : z7 ≠ .non := hz7.ne_none (by cases e <;> (intro z; cases z))
        walk_at "rd"
        refine ⟨rfl, ?_⟩
        walk_at "rd"
        refine ifd (fun c => absurd c hne) (fun _ => ?_)
        walk_at "rd"
        refine ⟨by simp [sizeLine_eq], fun q8 hq8 => ?_⟩
        have k8 : Kp [] H7 (upd H7 q8 (.tup [.str "rest", z7, .int r2, .int r1])) := Kp.nil.new hq8
        exact k _ _ (k17.trans k8) (Dt.mk4 upd_same (.str _) (hz7.kp k8) (.int _) (.int _))
abbrev splain_test_of : Stmt := topS 59
abbrev Nplain_test_of : List Str := ["text", "left", "right"]
abbrev Pplain_test_of : List Str := ["text"]
theorem scplain_test_of : FnScope Nplain_test_of Pplain_test_of (defScope splain_test_of) :=
  ⟨rfl, rfl, rfl, by decide +kernel, rfl, by decide +kernel, by decide +kernel⟩
theorem ok_plain_test_of (D : Df K mg "plain_test_of" splain_test_of Pplain_test_of) (B : Blt mg) {lv : Nat} (hlv : 2 ≤ lv) (Gis_name_texts : Has P w K mg base CX0 "is_name_texts" ["text"] 2 spNameT) (Grest_of : Has P w K mg base CX0 "rest_of" ["text"] lv (spRestT K))
    (Gexpression_at : Has P w K mg base CX0 "expression_at" ["text", "at", "deep"] lv (spExAt K 20)) (Gexpression_of : Has P w K mg base CX0 "expression_of" ["text"] lv (spExOf K)) :
    Has P w K mg base CX0 "plain_test_of" Pplain_test_of (lv + 1) (spPtOf K) := by
  refine D.has scplain_test_of (fun vs H Q E h => ?_) (fun f cdv A outer s H vs Q E hr h => ?_)
  · obtain ⟨l, rfl, _⟩ := h
    rfl
  obtain ⟨l, rfl, hl, k⟩ := h
  unfold ptOf at k
  refine ⟨_, (pss_cons (ps_if (pt_val (pe_m1 PySem.F.slot_str_startswith PySem.F.type_str_startswith m_starts (pv 0) pe_str)) (pss_one (ps_ret (pe_ifExp (pt_val (pe_f Gis_name_texts (hr.mono (by omega)) (by rfl) pass0 (pa_cons (pe_slice sl_str (pv 0) (po_some pe_int) po_none) pa_nil))) (pe_tup (pa_cons pe_str (pa_cons (pe_slice sl_str (pv 0) (po_some pe_int) po_none) pa_nil))) pe_non)))
        pss_nil)
      (pss_cons (ps_if (pt_val (pe_m1 PySem.F.slot_str_startswith PySem.F.type_str_startswith m_starts (pv 0) pe_str)) (pss_one (ps_ret (pe_f Grest_of (hr.mono (by omega)) (by rfl) pass0 (pa_cons (pe_slice sl_str (pv 0) (po_some pe_int) po_none) pa_nil))))
        pss_nil)
      (pss_cons (ps_set (i := 1) scplain_test_of.nd rfl (Or.inl rfl) (pe_f Gexpression_at (hr.mono (by omega)) (by rfl) pass0 (pa_cons (pv 0) (pa_cons pe_int (pa_cons pe_int pa_nil)))))
      (pss_cons (ps_if (PW.pt (pw_or (pt_cmpR op_isN (pv 1) pe_non (nomark _)) (pw_or1 (pt_cmpR op_ne (pe_slice sl_str (pv 0) (po_some (pe_ix ix_tup (pv 1) pe_int (fun _ _ => rfl))) (po_some (pe_op op_add (pe_ix ix_tup (pv 1) pe_int (fun _ _ => rfl)) pe_int))) pe_str (nomark _))))) (pss_one (ps_ret pe_non))
        pss_nil)
      (pss_cons (ps_set (i := 2) scplain_test_of.nd rfl (Or.inl rfl) (pe_f Gexpression_of (hr.mono (by omega)) (by rfl) pass0 (pa_cons (pe_slice sl_str (pv 0) (po_some (pe_op op_add (pe_ix ix_tup (pv 1) pe_int (fun _ _ => rfl)) pe_int)) po_none) pa_nil)))
      (pss_one (ps_ret (pe_ifExp (pt_cmpR op_isN (pv 2) pe_non (nomark _)) pe_non (pe_tup (pa_cons pe_str (pa_cons (pe_ix ix_tup (pv 1) pe_int (fun _ _ => rfl)) (pa_cons (pv 2) pa_nil)))))))))))), ?_⟩
  walk_at "rd"
  refine r_starts ?_
  rw [starts_is tx_set]
  walk_at "rd"
  refine ifd (fun c1 => ?_) (fun c1 => ?_)
  · have c1 : l.take 4 = [115, 101, 116, 32] := c1
    rw [if_pos c1] at k
    walk_at "rd"
    refine sl_str_from (k := 4) hl ?_
    walk_at "rd"
    refine ⟨l.drop 4, rfl, by rw [List.length_drop]; omega, fun H1 k1 => ?_⟩
    cases hn : isNameT (l.drop 4) with
    | false =>
      rw [hn, if_neg Bool.false_ne_true] at k
      walk_at "rd"
      exact k _ _ k1 .non
    | true =>
      rw [hn, if_pos rfl] at k
      walk_at "rd"
      refine sl_str_from (k := 4) hl ?_
      walk_at "rd"
      refine ⟨by simp [sizeLine_eq], fun q hq => ?_⟩
      have k2 : Kp [] H1 (upd H1 q (.tup [.str "given", .str (tx (l.drop 4))])) := Kp.nil.new hq
      exact k _ _ (k1.trans k2) (Dt.mk2 upd_same (.str _) (.str _))
  have c1 : ¬ l.take 4 = [115, 101, 116, 32] := c1
  rw [if_neg c1] at k
  walk_at "rd"
  refine r_starts ?_
  rw [starts_is tx_rest]
  walk_at "rd"
  refine ifd (fun c2 => ?_) (fun c2 => ?_)
  · have c2 : l.take 5 = [114, 101, 115, 116, 32] := c2
    rw [if_pos c2] at k
    walk_at "rd"
    refine sl_str_from (k := 5) hl ?_
    walk_at "rd"
    exact ⟨l.drop 5, rfl, by rw [List.length_drop]; omega, k⟩
  have c2 : ¬ l.take 5 = [114, 101, 115, 116, 32] := c2
  rw [if_neg c2] at k
  walk_at "rd"
  refine ⟨l, 0, 1, rfl, hl, by omega, by omega, fun H1 z1 k1 hz1 => ?_⟩
  cases e1 : exprAt l 20 0 with
  | none =>
    rw [e1] at hz1 k
    obtain rfl := hz1.isNone
    walk_at "rd"
    refine ⟨rfl, ?_⟩
    walk_at "rd"
    refine ifd (fun _ => ?_) (fun c => absurd rfl c)
    walk_at "rd"
    exact k _ _ k1 .non
  | some r1 =>
    obtain ⟨x1, p1⟩ := r1
    rw [e1] at hz1 k
    dsimp only at k
    obtain ⟨b1, w0, w1, rfl, hT1, h0, h1⟩ := Dt.is2 hz1
    obtain rfl := h1.isInt
    walk_at "rd"
    refine ⟨rfl, ?_⟩
    walk_at "rd"
    refine ifd (fun c => by cases c) (fun _ => ?_)
    walk_at "rd"
    refine sl_str_at (n := 3) hl ?_
    walk_at "rd"
    rw [dec_str]
    refine ifn (fun c => ?_) (fun c => ?_)
    · rw [if_neg (fun z => c (by rw [z, tx_less]))] at k
      walk_at "rd"
      exact k _ _ k1 .non
    · rw [tx_less] at c
      rw [if_pos (tx_inj c)] at k
      walk_at "rd"
      rw [show ((p1 : Nat) : Int) + 3 = ((p1 + 3 : Nat) : Int) by omega]
      refine sl_str_from (k := p1 + 3) hl ?_
      walk_at "rd"
      refine ⟨_, rfl, by rw [List.length_drop]; omega, fun H2 z2 k2 hz2 => ?_⟩
      have k12 := k1.trans k2
      have hT2 := sqT_kp k2 hT1
      cases he : exprOf (l.drop (p1 + 3)) with
      | none =>
        rw [he] at hz2 k
        obtain rfl := hz2.isNone
        walk_at "rd"
        refine ⟨rfl, ?_⟩
        walk_at "rd"
        refine ifd (fun _ => ?_) (fun c => absurd rfl c)
        walk_at "rd"
        exact k _ _ k12 .non
      | some e =>
        rw [he] at hz2 k
        have hz2 : Dt K H2 z2 e.d := hz2
        have hne : z2 ≠ .non := hz2.ne_none (by cases e <;> (intro z; cases z))
        walk_at "rd"
        refine ⟨rfl, ?_⟩
        walk_at "rd"
        refine ifd (fun c => absurd c hne) (fun _ => ?_)
        walk_at "rd"
        refine ⟨by simp [sizeLine_eq], fun q hq => ?_⟩
        have k3 : Kp [] H2 (upd H2 q (.tup [.str "less", w0, z2])) := Kp.nil.new hq
        exact k _ _ (k12.trans k3) (Dt.mk3 upd_same (.str _) ((h0.kp k2).kp k3) (hz2.kp k3))
abbrev stest_of : Stmt := topS 60
abbrev Ntest_of : List Str := ["text", "nots", "test", "turn"]
abbrev Ptest_of : List Str := ["text"]
theorem sctest_of : FnScope Ntest_of Ptest_of (defScope stest_of) :=
  ⟨rfl, rfl, rfl, by decide +kernel, rfl, by decide +kernel, by decide +kernel⟩
theorem ok_test_of (D : Df K mg "test_of" stest_of Ptest_of) (B : Blt mg) {lv : Nat} {t1 : Tok} (g_MOST_NOTS : mg "MOST_NOTS" = some (.int 20 t1)) (Gplain_test_of : Has P w K mg base CX0 "plain_test_of" ["text"] lv (spPtOf K)) :
    Has P w K mg base CX0 "test_of" Ptest_of (lv + 1) (spTestOf K) := by
  refine D.has sctest_of (fun vs H Q E h => ?_) (fun f cdv A outer s H vs Q E hr h => ?_)
  · obtain ⟨l, rfl, _⟩ := h
    rfl
  obtain ⟨l, rfl, hl, k⟩ := h
  unfold testOf at k
  refine ⟨_, (pss_cons (ps_set (i := 1) sctest_of.nd rfl (Or.inl rfl) pe_int)
      (pss_cons (ps_while PassesOwn.never (pt_val (pe_m1 PySem.F.slot_str_startswith PySem.F.type_str_startswith m_starts (pv 0) pe_str)) (pss_cons (ps_aug (i := 1) sctest_of.nd rfl (.inl rfl) pe_int ip_add)
      (pss_one (ps_set (i := 0) sctest_of.nd rfl (Or.inl rfl) (pe_slice sl_str (pv 0) (po_some pe_int) po_none)))))
      (pss_cons (ps_set (i := 2) sctest_of.nd rfl (Or.inl rfl) (pe_f Gplain_test_of (hr.mono (by omega)) (by rfl) pass0 (pa_cons (pv 0) pa_nil)))
      (pss_cons (ps_if (PW.pt (pw_or (pt_cmpR op_isN (pv 2) pe_non (nomark _)) (pw_or1 (pt_cmpR op_gt (pv 1) (pe_gint (by rfl) g_MOST_NOTS) (nomark _))))) (pss_one (ps_ret pe_non))
        pss_nil)
      (pss_cons (ps_for PassesOwn.never rfl (pi_range1 (by rfl) B.range (pa_cons (pv 1) pa_nil)) (pg_name (i := 3) sctest_of.nd rfl (Or.inl rfl))
        (pss_one (ps_set (i := 2) sctest_of.nd rfl (Or.inl rfl) (pe_tup (pa_cons pe_str (pa_cons (pv 2) pa_nil))))))
      (pss_one (ps_ret (pv 2)))))))), ?_⟩
  with_reducible refine r_seq ?_
  walk_at "rds"
  with_reducible refine r_seqJ (fun σ H' => σ = [some (.str (tx (stripN l.length l).2)), some (.int ((stripN l.length l).1 : Nat)), none, none] ∧ H' = H ∧ (stripN l.length l).2.length ≤ 1000000 ∧ (stripN l.length l).1 ≤ 1000000) (fun nx' kx => ?_) ?_
  · refine r_while (fun m σ H' => ∃ (f' i : Nat) (l' : List Nat), m = l'.length ∧ σ = [some (.str (tx l')), some (.int (i : Nat)), none, none] ∧ H' = H ∧ stripN l.length l = (i + (stripN f' l').1, (stripN f' l').2) ∧ l'.length ≤ f' ∧ i + l'.length ≤ l.length) l.length ⟨l.length, 0, l, rfl, rfl, rfl, by rw [Nat.zero_add], Nat.le_refl _, by omega⟩ ?_
    rintro m σ H1 ⟨f', i, l', rfl, rfl, rfl, hs, hf, hi⟩
    walk_at "rd"
    refine r_starts ?_
    rw [starts_is tx_not]
    walk_at "rd"
    refine ifd (fun c1 => ?_) (fun c1 => ?_)
    · have c1 : l'.take 4 = [110, 111, 116, 32] := c1
      obtain ⟨g, rfl, hg⟩ := stripN_yes hf c1
      have h4 := take4_len c1
      have hd : (l'.drop 4).length = l'.length - 4 := List.length_drop
      refine r_turn ?_
      walk_at "rd"
      refine sl_str_from (k := 4) (by omega) ?_
      walk_at "rd"
      exact ⟨(l'.drop 4).length, by omega, g, i + 1, l'.drop 4, rfl, rfl, rfl, by rw [hs, hg]; simp only; congr 1; omega, by omega, by omega⟩
    · have c1 : ¬ l'.take 4 = [110, 111, 116, 32] := c1
      rw [stripN_no c1] at hs
      refine kx _ _ ⟨by rw [hs]; rfl, rfl, by rw [hs]; show l'.length ≤ _; omega, by rw [hs]; show i + 0 ≤ _; omega⟩
  rintro σ H1 ⟨rfl, rfl, b1, b2⟩
  generalize stripN l.length l = R at k b1 b2 ⊢
  obtain ⟨i, l'⟩ := R
  dsimp only at k b1 b2 ⊢
  walk_at "rd"
  refine ⟨l', rfl, b1, fun H2 z2 k2 hz2 => ?_⟩
  cases e1 : ptOf l' with
  | none =>
    rw [e1] at hz2 k
    obtain rfl := hz2.isNone
    walk_at "rd"
    refine ⟨rfl, ?_⟩
    walk_at "rd"
    refine ifd (fun _ => ?_) (fun c => absurd rfl c)
    walk_at "rd"
    exact k _ _ k2 .non
  | some t =>
    rw [e1] at hz2 k
    dsimp only at k
    have hz2 : Dt K H2 z2 t.d := hz2
    have hne : z2 ≠ .non := hz2.ne_none (by cases t <;> (intro z; cases z))
    walk_at "rd"
    refine ⟨rfl, ?_⟩
    walk_at "rd"
    refine ifd (fun c => absurd c hne) (fun _ => ?_)
    walk_at "rd"
    refine ifd (fun c => ?_) (fun c => ?_)
    · rw [if_pos (show i > 20 by omega)] at k
      walk_at "rd"
      exact k _ _ k2 .non
    · rw [if_neg (show ¬ i > 20 by omega)] at k
      walk_at "rd"
      refine r_ForR (fun j σ H' => ∃ (v : V) (x3 : Option V), σ = [some (.str (tx l')), some (.int (i : Nat)), some v, x3] ∧ Kp [] H2 H' ∧ Dt K H' v (addN j t).d) (by omega) (by omega) ⟨z2, none, rfl, Kp.nil, hz2⟩ ?_ ?_
      · rintro j σ H3 hj ⟨v, x3, rfl, k3, hv⟩
        walk_at "rd"
        refine ⟨by simp [sizeLine_eq], fun q hq => ?_⟩
        have k4 : Kp [] H3 (upd H3 q (.tup [.str "not", v])) := Kp.nil.new hq
        have u4 : Dt K (upd H3 q (.tup [.str "not", v])) (.ref q) (addN (j + 1) t).d := Dt.mk2 upd_same (.str _) (hv.kp k4)
        generalize upd H3 q (.tup [.str "not", v]) = H4 at k4 u4 ⊢
        walk_at "rd"
        exact ⟨_, _, rfl, k3.trans k4, u4⟩
      · rintro σ H3 ⟨v, x3, rfl, k3, hv⟩
        rw [Int.toNat_natCast] at hv
        walk_at "rd"
        exact k _ _ (k2.trans k3) hv
abbrev sstatement_of : Stmt := topS 63
abbrev Nstatement_of : List Str := ["line", "word", "space", "rest"]
abbrev Pstatement_of : List Str := ["line"]
theorem scstatement_of : FnScope Nstatement_of Pstatement_of (defScope sstatement_of) :=
  ⟨rfl, rfl, rfl, by decide +kernel, rfl, by decide +kernel, by decide +kernel⟩
theorem ok_statement_of (D : Df K mg "statement_of" sstatement_of Pstatement_of) (B : Blt mg) {lv : Nat} {t1 t2 : Tok} (hlv : 2 ≤ lv) (g_MAX_WORD : mg "MAX_WORD" = some (.int 8 t1)) (g_MOST_FIGURES : mg "MOST_FIGURES" = some (.int 20 t2)) (Gis_word_texts : Has P w K mg base CX0 "is_word_texts" ["text", "most"] 1 spWordT) (Gis_name_texts : Has P w K mg base CX0 "is_name_texts" ["text"] 2 spNameT)
    (Gsetting_of : Has P w K mg base CX0 "setting_of" ["text"] lv (spSetOf K)) (Gvalued : Has P w K mg base CX0 "valued" ["word", "value"] 1 (spVal K)) (Gexpression_of : Has P w K mg base CX0 "expression_of" ["text"] lv (spExOf K)) (Gtest_of : Has P w K mg base CX0 "test_of" ["text"] lv (spTestOf K)) (Ginteger_of : Has P w K mg base CX0 "integer_of" ["text", "most"] 1 spIntOf) :
    Has P w K mg base CX0 "statement_of" Pstatement_of (lv + 1) (spStOf K) := by
  refine D.has scstatement_of (fun vs H Q E h => ?_) (fun f cdv A outer s H vs Q E hr h => ?_)
  · obtain ⟨l, rfl, _⟩ := h
    rfl
  obtain ⟨l, rfl, hl, k⟩ := h
  have h1 := headL_le l
  have h2 := tailL_le l
  unfold stmtOf at k
  refine ⟨_, (pss_cons (ps_asg (pe_m1 PySem.F.slot_str_partition PySem.F.type_str_partition m_part (pv 0) pe_str) (pg_tup rfl (pgs_cons (pg_name (i := 1) scstatement_of.nd rfl (Or.inl rfl)) (pgs_cons (pg_name (i := 2) scstatement_of.nd rfl (Or.inl rfl)) (pgs_cons (pg_name (i := 3) scstatement_of.nd rfl (Or.inl rfl)) pgs_nil)))))
      (pss_cons (ps_if (pt_cmpR op_in_seq (pv 1) (pe_tup (pa_cons pe_str (pa_cons pe_str pa_nil))) (by rfl)) (pss_one (ps_ret (pe_ifExp (pt_val (pe_f Gis_word_texts (hr.mono (by omega)) (by rfl) pass0 (pa_cons (pv 3) (pa_cons (pe_gint (by rfl) g_MAX_WORD) pa_nil)))) (pe_tup (pa_cons (pv 1) (pa_cons (pv 3) pa_nil))) pe_non)))
        pss_nil)
      (pss_cons (ps_if (pt_cmpR op_eq (pv 1) pe_str (nomark _)) (pss_one (ps_ret (pe_ifExp (pt_val (pe_f Gis_name_texts (hr.mono (by omega)) (by rfl) pass0 (pa_cons (pv 3) pa_nil))) (pe_tup (pa_cons (pv 1) (pa_cons (pv 3) pa_nil))) pe_non)))
        pss_nil)
      (pss_cons (ps_if (pt_cmpR op_eq (pv 1) pe_str (nomark _)) (pss_one (ps_ret (pe_f Gsetting_of (hr.mono (by omega)) (by rfl) pass0 (pa_cons (pv 3) pa_nil))))
        pss_nil)
      (pss_cons (ps_if (pt_cmpR op_eq (pv 1) pe_str (nomark _)) (pss_one (ps_ret (pe_f Gvalued (hr.mono (by omega)) (by rfl) pass0 (pa_cons (pv 1) (pa_cons (pe_f Gexpression_of (hr.mono (by omega)) (by rfl) pass0 (pa_cons (pv 3) pa_nil)) pa_nil)))))
        pss_nil)
      (pss_cons (ps_if (pt_cmpR op_eq (pv 1) pe_str (nomark _)) (pss_one (ps_ret (pe_f Gvalued (hr.mono (by omega)) (by rfl) pass0 (pa_cons (pv 1) (pa_cons (pe_f Gtest_of (hr.mono (by omega)) (by rfl) pass0 (pa_cons (pv 3) pa_nil)) pa_nil)))))
        pss_nil)
      (pss_one (ps_ret (pe_ifExp (pt_cmpR op_eq (pv 1) pe_str (nomark _)) (pe_f Gvalued (hr.mono (by omega)) (by rfl) pass0 (pa_cons (pv 1) (pa_cons (pe_f Ginteger_of (hr.mono (by omega)) (by rfl) pass0 (pa_cons (pv 3) (pa_cons (pe_gint (by rfl) g_MOST_FIGURES) pa_nil))) pa_nil))) pe_non))))))))), ?_⟩
  walk_at "rd"
  refine r_part1 hl fun p sp hp => ?_
  have k1 : Kp [] H (upd H p (.tup [.str (tx (headL l)), .str sp, .str (tx (tailL l))])) := Kp.nil.new hp
  have u1 : SqT K (upd H p (.tup [.str (tx (headL l)), .str sp, .str (tx (tailL l))])) p [.str (tx (headL l)), .str sp, .str (tx (tailL l))] := SqT.of upd_same
  generalize upd H p (.tup [.str (tx (headL l)), .str sp, .str (tx (tailL l))]) = H1 at k1 u1 ⊢
  generalize tx (headL l) = wd at k u1 ⊢
  walk_at "rd"
  refine ⟨by decide, fun p2 hp2 => ?_⟩
  have k2 : Kp [] H1 (upd H1 p2 (.tup [.str "say", .str "stop"])) := Kp.nil.new hp2
  refine r_in (.inr (SqT.of upd_same)) rfl rfl ?_
  rw [inV_two wd "say" "stop"]
  generalize upd H1 p2 (.tup [.str "say", .str "stop"]) = H2 at k2 ⊢
  have k12 := k1.trans k2
  by_cases w1 : wd = "say"
  · rw [if_pos w1] at k
    rw [decide_eq_true w1, Bool.true_or]
    walk_at "rd"
    refine ⟨tailL l, 8, rfl, by omega, fun H3 k3 => ?_⟩
    cases hn : isWordT (tailL l) 8 with
    | false =>
      rw [hn, if_neg Bool.false_ne_true] at k
      walk_at "rd"
      exact k _ _ (k12.trans k3) .non
    | true =>
      rw [hn, if_pos rfl] at k
      walk_at "rd"
      refine ⟨by simp [sizeLine_eq], fun q hq => ?_⟩
      have k4 : Kp [] H3 (upd H3 q (.tup [.str wd, .str (tx (tailL l))])) := Kp.nil.new hq
      refine k _ _ ((k12.trans k3).trans k4) ?_
      rw [w1]
      exact Dt.mk2 upd_same (.str _) (.str _)
  rw [if_neg w1] at k
  by_cases w2 : wd = "stop"
  · rw [if_pos w2] at k
    rw [decide_eq_true w2, Bool.or_true]
    walk_at "rd"
    refine ⟨tailL l, 8, rfl, by omega, fun H3 k3 => ?_⟩
    cases hn : isWordT (tailL l) 8 with
    | false =>
      rw [hn, if_neg Bool.false_ne_true] at k
      walk_at "rd"
      exact k _ _ (k12.trans k3) .non
    | true =>
      rw [hn, if_pos rfl] at k
      walk_at "rd"
      refine ⟨by simp [sizeLine_eq], fun q hq => ?_⟩
      have k4 : Kp [] H3 (upd H3 q (.tup [.str wd, .str (tx (tailL l))])) := Kp.nil.new hq
      refine k _ _ ((k12.trans k3).trans k4) ?_
      rw [w2]
      exact Dt.mk2 upd_same (.str _) (.str _)
  rw [if_neg w2] at k
  rw [decide_eq_false w1, decide_eq_false w2, Bool.or_false]
  walk_at "rd"
  rw [dec_str]
  refine ifd (fun w3 => ?_) (fun w3 => ?_)
  · rw [if_pos w3] at k
    walk_at "rd"
    refine ⟨tailL l, rfl, by omega, fun H3 k3 => ?_⟩
    cases hn : isNameT (tailL l) with
    | false =>
      rw [hn, if_neg Bool.false_ne_true] at k
      walk_at "rd"
      exact k _ _ (k12.trans k3) .non
    | true =>
      rw [hn, if_pos rfl] at k
      walk_at "rd"
      refine ⟨by simp [sizeLine_eq], fun q hq => ?_⟩
      have k4 : Kp [] H3 (upd H3 q (.tup [.str wd, .str (tx (tailL l))])) := Kp.nil.new hq
      refine k _ _ ((k12.trans k3).trans k4) ?_
      rw [w3]
      exact Dt.mk2 upd_same (.str _) (.str _)
  rw [if_neg w3] at k
  walk_at "rd"
  rw [dec_str]
  refine ifd (fun w4 => ?_) (fun w4 => ?_)
  · rw [if_pos w4, ← opD_ln] at k
    walk_at "rd"
    exact ⟨tailL l, rfl, by omega, fun H3 z k3 hz => k _ _ (k12.trans k3) hz⟩
  rw [if_neg w4] at k
  walk_at "rd"
  rw [dec_str]
  refine ifd (fun w5 => ?_) (fun w5 => ?_)
  · rw [if_pos w5, ← vlD_ex] at k
    walk_at "rd"
    refine ⟨tailL l, rfl, by omega, fun H3 z k3 hz => ?_⟩
    walk_at "rd"
    exact ⟨wd, z, _, rfl, hz, fun H4 z4 k4 hz4 => k _ _ ((k12.trans k3).trans k4) (by rw [w5] at hz4; exact hz4)⟩
  rw [if_neg w5] at k
  walk_at "rd"
  rw [dec_str]
  refine ifd (fun w6 => ?_) (fun w6 => ?_)
  · rw [if_pos w6, ← vlD_ts] at k
    walk_at "rd"
    refine ⟨tailL l, rfl, by omega, fun H3 z k3 hz => ?_⟩
    walk_at "rd"
    exact ⟨wd, z, _, rfl, hz, fun H4 z4 k4 hz4 => k _ _ ((k12.trans k3).trans k4) (by rw [w6] at hz4; exact hz4)⟩
  rw [if_neg w6] at k
  walk_at "rd"
  rw [dec_str]
  refine ifd (fun w7 => ?_) (fun w7 => ?_)
  · rw [if_pos w7] at k
    walk_at "rd"
    refine ⟨tailL l, 20, rfl, by omega, by omega, fun H3 k3 => ?_⟩
    walk_at "rd"
    obtain ⟨d, hd, he⟩ := oiV_dt (K := K) (H := H3) (intOf (tailL l) 20)
    rw [← he] at k
    exact ⟨wd, _, d, rfl, hd, fun H4 z4 k4 hz4 => k _ _ ((k12.trans k3).trans k4) (by rw [w7] at hz4; exact hz4)⟩
  rw [if_neg w7] at k
  walk_at "rd"
  exact k _ _ k12 .non
abbrev sPart___init__ : Stmt := inClass (topS 64) 0
abbrev NPart___init__ : List Str := ["self", "kind", "head"]
abbrev PPart___init__ : List Str := ["self", "kind", "head"]
theorem scPart___init__ : FnScope NPart___init__ PPart___init__ (defScope sPart___init__) :=
  ⟨rfl, rfl, rfl, by decide +kernel, rfl, by decide +kernel, by decide +kernel⟩
theorem ok_Part_init {CP : Addr} (D : DfM K CP "__init__" "Part.__init__" sPart___init__ PPart___init__) (B : Blt mg) (T : PT K CP) : HasM P w K mg base CX0 CP "__init__" PPart___init__ 1 (spPart6 K CP) := by
  refine D.has scPart___init__ (fun vs H Q E h => ?_) (fun f cdv A outer s H vs Q E hr h => ?_)
  · obtain ⟨sf, dx, kd, hv, hd, rfl, _⟩ := h
    rfl
  obtain ⟨sf, dx, kd, hv, hd, rfl, hI, hh, k⟩ := h
  have cC := T.cl
  refine ⟨_, (pss_cons (ps_fld (pv 0) (pv 1) rfl)
      (pss_cons (ps_fld (pv 0) (pv 2) rfl)
      (pss_cons (ps_fld (pv 0) (pe_lst pa_nil) rfl)
      (pss_one (ps_fld (pv 0) pe_bl rfl))))), ?_⟩
  walk_at "rd"
  refine r_SFld hI cC T.nK (by simp) ?_
  show tSeq _ _ _ _ (upd H sf (.ins CP dx [("kind", .str kd)]))
  have k1 : Kp [sf] H (upd H sf (.ins CP dx [("kind", .str kd)])) := kpW2 hI trivial
  have h1 : upd H sf (.ins CP dx [("kind", .str kd)]) sf = some (.ins CP dx [("kind", .str kd)]) := upd_same
  generalize upd H sf (.ins CP dx [("kind", .str kd)]) = H1 at k1 h1 ⊢
  walk_at "rd"
  refine r_SFld h1 cC T.nH (by simp) ?_
  show tSeq _ _ _ _ (upd H1 sf (.ins CP dx [("kind", .str kd), ("head", hv)]))
  have k2 : Kp [sf] H1 (upd H1 sf (.ins CP dx [("kind", .str kd), ("head", hv)])) := kpW2 h1 trivial
  have h2 : upd H1 sf (.ins CP dx [("kind", .str kd), ("head", hv)]) sf = some (.ins CP dx [("kind", .str kd), ("head", hv)]) := upd_same
  generalize upd H1 sf (.ins CP dx [("kind", .str kd), ("head", hv)]) = H2 at k2 h2 ⊢
  have k12 := k1.trans k2
  walk_at "rd"
  refine ⟨by simp [sizeLine_eq], fun rl hrl => ?_⟩
  have frl : sf ≠ rl := ne_of_none h2 hrl
  have hrl0 : H rl = none := k12.freeM (Ms.cons h2 trivial Ms.nil) hrl
  have k3 : Kp [] H2 (upd H2 rl (.lst [])) := Kp.nil.new hrl
  have k13 := k12.new (o := .lst []) hrl
  have h3 := k3.get h2 (by simp)
  have r3 : upd H2 rl (.lst []) rl = some (.lst []) := upd_same
  generalize upd H2 rl (.lst []) = H3 at k3 k13 h3 r3 ⊢
  walk_at "rd"
  refine r_SFld h3 cC T.nR (by simp) ?_
  show tSeq _ _ _ _ (upd H3 sf (.ins CP dx [("kind", .str kd), ("head", hv), ("rows", .ref rl)]))
  have k4 : Kp [sf] H3 (upd H3 sf (.ins CP dx [("kind", .str kd), ("head", hv), ("rows", .ref rl)])) := kpW2 h3 trivial
  have h4 : upd H3 sf (.ins CP dx [("kind", .str kd), ("head", hv), ("rows", .ref rl)]) sf = some (.ins CP dx [("kind", .str kd), ("head", hv), ("rows", .ref rl)]) := upd_same
  have r4 := k4.get r3 (by simp [Ne.symm frl])
  generalize upd H3 sf (.ins CP dx [("kind", .str kd), ("head", hv), ("rows", .ref rl)]) = H4 at k4 h4 r4 ⊢
  have k14 := k13.trans k4
  walk_at "rd"
  refine r_SFld h4 cC T.nO (by simp) ?_
  show Q .non (upd H4 sf (.ins CP dx [("kind", .str kd), ("head", hv), ("rows", .ref rl), ("is_over", .bl false)]))
  have k5 : Kp [sf] H4 (upd H4 sf (.ins CP dx [("kind", .str kd), ("head", hv), ("rows", .ref rl), ("is_over", .bl false)])) := kpW2 h4 trivial
  have k15 := k14.trans k5
  exact k _ rl hrl0 k15 ⟨dx, hv, [], upd_same, k5.get r4 (by simp [Ne.symm frl]), hh.kp k15, DtL.nil⟩
abbrev sPart_lacks_line : Stmt := inClass (topS 64) 1
abbrev NPart_lacks_line : List Str := ["self"]
abbrev PPart_lacks_line : List Str := ["self"]
theorem scPart_lacks_line : FnScope NPart_lacks_line PPart_lacks_line (defScope sPart_lacks_line) :=
  ⟨rfl, rfl, rfl, by decide +kernel, rfl, by decide +kernel, by decide +kernel⟩
theorem ok_Part_lacks {CP : Addr} (D : DfM K CP "lacks_line" "Part.lacks_line" sPart_lacks_line PPart_lacks_line) (B : Blt mg) (T : PT K CP) {t1 : Tok} (g_HEAD : mg "HEAD" = some (.str "program" t1)) : HasM P w K mg base CX0 CP "lacks_line" PPart_lacks_line 1 (spLacks K CP) := by
  refine D.has scPart_lacks_line (fun vs H Q E h => ?_) (fun f cdv A outer s H vs Q E hr h => ?_)
  · obtain ⟨p, rl, q, rfl, _⟩ := h
    rfl
  obtain ⟨p, rl, q, rfl, hq, k⟩ := h
  have cC := T.cl
  have nK := T.nK
  have nR := T.nR
  have nO := T.nO
  obtain ⟨dx, hv, us, hI, hL, hh, hd⟩ := hq
  unfold Pt.lacks at k
  refine ⟨_, (pss_one (ps_ret (pe_and (pe_cmpR op_ne (pe_fld (pv 0) rfl) (pe_gstr (by rfl) g_HEAD) (nomark _)) (pe_and (pe_cmpR (op_eqNil hr.h64) (pe_fld (pv 0) rfl) (pe_lst pa_nil) (nomark _)) (pe_one (pe_not (pe_fld (pv 0) rfl))))))), ?_⟩
  walk_at "rd"
  rw [dec_str]
  cases hk : decide (q.kind = "program") with
  | true =>
    rw [hk] at k
    walk_at "rd"
    exact k _ Kp.nil
  | false =>
    rw [hk] at k
    walk_at "rd"
    refine ⟨by simp [sizeLine_eq], fun n hn => ?_⟩
    have k1 : Kp [] H (upd H n (.lst [])) := Kp.nil.new hn
    have hI1 := k1.get hI (by simp)
    have hL1 := k1.get hL (by simp)
    have hn1 : upd H n (.lst []) n = some (.lst []) := upd_same
    generalize upd H n (.lst []) = H1 at k1 hI1 hL1 hn1 ⊢
    walk_at "rd"
    have he : us.isEmpty = q.rows.isEmpty := by
      have := hd.len
      rw [List.length_map] at this
      cases us <;> cases hr : q.rows <;> rw [hr] at this <;> first | rfl | (simp at this)
    rw [he]
    cases hr2 : q.rows.isEmpty with
    | false =>
      rw [hr2] at k
      walk_at "rd"
      exact k _ k1
    | true =>
      rw [hr2] at k
      walk_at "rd"
      exact k _ k1
abbrev sProgramReader___init__ : Stmt := inClass (topS 65) 0
abbrev NProgramReader___init__ : List Str := ["self"]
abbrev PProgramReader___init__ : List Str := ["self"]
theorem scProgramReader___init__ : FnScope NProgramReader___init__ PProgramReader___init__ (defScope sProgramReader___init__) :=
  ⟨rfl, rfl, rfl, by decide +kernel, rfl, by decide +kernel, by decide +kernel⟩
theorem ok_Reader_init {C CP : Addr} (D : DfM K C "__init__" "ProgramReader.__init__" sProgramReader___init__ PProgramReader___init__) (B : Blt mg) (T : RT K C) {t1 : Tok} (g_HEAD : mg "HEAD" = some (.str "program" t1))
    (GPart : HasC P w K mg base CX0 "Part" CP ["self", "kind", "head"] 1 (spPart6 K CP)) : HasM P w K mg base CX0 C "__init__" PProgramReader___init__ 3 (spRInit K C CP) := by
  refine D.has scProgramReader___init__ (fun vs H Q E h => ?_) (fun f cdv A outer s H vs Q E hr h => ?_)
  · obtain ⟨sf, dx, rfl, _⟩ := h
    rfl
  obtain ⟨sf, dx, rfl, hI, k⟩ := h
  have cC := T.cl
  refine ⟨_, (pss_one (ps_fld (pv 0) (pe_lst (pa_cons (pe_new GPart (hr.mono (by omega)) (by rfl) pass0 (pa_cons (pe_gstr (by rfl) g_HEAD) (pa_cons (pe_tup pa_nil) pa_nil))) pa_nil)) rfl)), ?_⟩
  with_reducible refine r_sfld ?_
  with_reducible refine r_lst ?_
  with_reducible refine r_cons ?_
  refine r_make ?_
  walk_at "rd"
  refine ⟨by simp [sizeLine_eq], fun e he => ?_⟩
  have k1 : Kp [] H (upd H e (.tup [])) := Kp.nil.new he
  have hI1 := k1.get hI (by simp)
  have he1 : Dt K (upd H e (.tup [])) (.ref e) (.tuple []) := Dt.mk0 upd_same
  generalize upd H e (.tup []) = H1 at k1 hI1 he1 ⊢
  walk_at "rd"
  intro p dp hp hdp hne
  have k2 : Kp [] H1 (upd (upd H1 dp (.own p)) p (.ins CP dp [])) := (Kp.nil.new hdp).new (by rw [upd_ne (Ne.symm hne)]; exact hp)
  have hx2 : upd (upd H1 dp (.own p)) p (.ins CP dp []) p = some (.ins CP dp []) := upd_same
  generalize upd (upd H1 dp (.own p)) p (.ins CP dp []) = H2 at k2 hx2 ⊢
  have k12 := k1.trans k2
  have hI2 := k2.get hI1 (by simp)
  have hp0 : H p = none := k1.freeM Ms.nil hp
  have fsp : sf ≠ p := ne_of_none hI hp0
  refine ⟨p, dp, "program", .ref e, [], rfl, hx2, he1.kp k2, fun H3 rl hrl k3 hq => ⟨rfl, ?_⟩⟩
  have hrl0 : H rl = none := k12.freeM Ms.nil hrl
  have hI3 := k3.get hI2 (by simp [fsp])
  have k13 : Kp [] H H3 := Kp.own1 k12 hp0 k3
  walk_at "rd"
  refine ⟨by simp [sizeLine_eq], fun l hl => ?_⟩
  have k4 : Kp [] H3 (upd H3 l (.lst [.ref p])) := Kp.nil.new hl
  have h4 : upd H3 l (.lst [.ref p]) l = some (.lst [.ref p]) := upd_same
  have hI4 := k4.get hI3 (by simp)
  have hq4 := hq.kp k4 (by simp) (by simp)
  have hl0 : H l = none := k13.freeM Ms.nil hl
  have k14 := k13.new (o := .lst [.ref p]) hl
  have flr : l ≠ rl := by
    intro z
    obtain ⟨_, _, us, _, y, _⟩ := hq
    rw [← z, hl] at y
    cases y
  generalize upd H3 l (.lst [.ref p]) = H4 at k4 h4 hI4 hq4 k14 ⊢
  walk_at "rd"
  refine r_SFld hI4 cC T.nB (by simp) ?_
  show Q .non (upd H4 sf (.ins C dx [("blocks_open", .ref l)]))
  have k5 : Kp [sf] H4 (upd H4 sf (.ins C dx [("blocks_open", .ref l)])) := kpW2 hI4 trivial
  have fsl : sf ≠ l := ne_of_none hI hl0
  have fsr : sf ≠ rl := ne_of_none hI hrl0
  refine k _ l [(p, rl)] ((k14.subM (Ms.cons hI trivial Ms.nil) (by simp)).trans k5) ⟨⟨dx, upd_same⟩, k5.get h4 (by simp [Ne.symm fsl]), ⟨hq4.kp k5 (by simp [Ne.symm fsp]) (by simp [Ne.symm fsr]), trivial⟩, by simp [fsp], by simp [flr]⟩ fun b hb => ?_
  rcases adrs_iff.mp hb with z | z | ⟨a, ha, z⟩
  · exact .inl z
  · exact .inr (by rw [z]; exact hl0)
  · rw [List.mem_singleton] at ha
    subst ha
    rcases z with z | z
    · exact .inr (by rw [z]; exact hp0)
    · exact .inr (by rw [z]; exact hrl0)
abbrev sProgramReader_close : Stmt := inClass (topS 65) 1
abbrev NProgramReader_close : List Str := ["self", "part", "block", "outer"]
abbrev PProgramReader_close : List Str := ["self"]
theorem scProgramReader_close : FnScope NProgramReader_close PProgramReader_close (defScope sProgramReader_close) :=
  ⟨rfl, rfl, rfl, by decide +kernel, rfl, by decide +kernel, by decide +kernel⟩
theorem ok_Reader_close {C CP : Addr} (D : DfM K C "close" "ProgramReader.close" sProgramReader_close PProgramReader_close) (B : Blt mg) (T : RT K C) (TP : PT K CP) : HasM P w K mg base CX0 C "close" PProgramReader_close 1 (spClose K C CP) := by
  refine D.has scProgramReader_close (fun vs H Q E h => ?_) (fun f cdv A outer s H vs Q E hr h => ?_)
  · obtain ⟨sf, l, a, b, as, p, o, R, rfl, _⟩ := h
    rfl
  obtain ⟨sf, l, ⟨pa, rl⟩, ⟨po, ro⟩, as, p, o, R, rfl, hR, hW, z1, z2, z3, k⟩ := h
  have cC := T.cl
  have cP := TP.cl
  have nB := T.nB
  have nK := TP.nK
  have nH := TP.nH
  have nR := TP.nR
  obtain ⟨dx, hI⟩ := hR.obj
  have hl := hR.lst
  rw [refs_cons] at hl
  obtain ⟨R1, N1, P1⟩ := hR.pop
  refine ⟨_, (pss_cons (ps_set (i := 1) scProgramReader_close.nd rfl (Or.inl rfl) (pe_bm0 PySem.F.plainAttrs_list PySem.F.slot_list_pop PySem.F.type_list_pop mt_pop (pe_fld (pv 0) rfl)))
      (pss_cons (ps_par (i := 2) (j := 3) (by rfl) scProgramReader_close.nd rfl rfl (by decide) rfl rfl (pa_cons (pe_callTy c_tup (by rfl) B.tuple (by decide +kernel) (pa_cons (pe_fld (pv 1) rfl) pa_nil)) (pa_cons (pe_ix ix_list (pe_fld (pv 0) rfl) (pe_un un_neg pe_int) (fun _ _ => rfl)) pa_nil)) (by rfl))
      (pss_cons (ps_if (pt_cmpR op_eq (pe_fld (pv 1) rfl) pe_str (nomark _)) (pss_one (ps_asg (pe_op op_catA (pe_slice sl_tupA (pe_ix ix_list (pe_fld (pv 3) rfl) (pe_un un_neg pe_int) (fun _ _ => rfl)) po_none (po_some pe_int)) (pe_tup (pa_cons (pv 2) pa_nil))) (pg_sub (pe_fld (pv 3) rfl) (pe_un un_neg pe_int) set_list)))
        (pss_one (ps_if (pt_cmpR op_eq (pe_fld (pv 1) rfl) pe_str (nomark _)) (pss_one (ps_expr (pe_bm PySem.F.plainAttrs_list PySem.F.slot_list_append PySem.F.type_list_append mt_append (pe_fld (pv 3) rfl) (pa_cons (pe_op op_catA (pe_fld (pv 1) rfl) (pe_tup (pa_cons (pv 2) (pa_cons (pe_tup pa_nil) pa_nil)))) pa_nil))))
        (pss_one (ps_expr (pe_bm PySem.F.plainAttrs_list PySem.F.slot_list_append PySem.F.type_list_append mt_append (pe_fld (pv 3) rfl) (pa_cons (pe_op op_catA (pe_fld (pv 1) rfl) (pe_tup (pa_cons (pv 2) pa_nil))) pa_nil)))))))
      (pss_one (ps_ret (pe_fld (pv 1) rfl)))))), ?_⟩
  walk_at "rd"
  refine r_pop hl ?_
  generalize upd H l (.lst (refs ((po, ro) :: as))) = H1 at R1 N1 P1 ⊢
  obtain ⟨dx1, hI1⟩ := R1.obj
  have hl1 := R1.lst
  rw [refs_cons] at hl1
  obtain ⟨dp, hv, us, hp1, hus, hh, hd⟩ := P1
  have hlast : atI (refs as ++ [V.ref (po, ro).1]) (-1) = some (.ref po) := atI_last _ _
  walk_at "rd"
  refine r_tupL (SqL.of hus) fun t ht => ?_
  have k2 : Kp [] H1 (upd H1 t (.tup us)) := Kp.nil.new ht
  have R2 := R1.kp0 k2
  have N2 := N1.new k2
  have hb2 : Dt K (upd H1 t (.tup us)) (.ref t) p.blk := (hd.kp k2).tup upd_same
  have hI2 := k2.get hI1 (by simp)
  have hl2 := k2.get hl1 (by simp)
  have hp2 := k2.get hp1 (by simp)
  have hh2 := hh.kp k2
  generalize upd H1 t (.tup us) = H2 at k2 R2 N2 hb2 hI2 hl2 hp2 hh2 ⊢
  obtain ⟨⟨do_, hvo, uo, ho2, huo, hho, hdo⟩, _⟩ := R2.pts
  dsimp only at ho2 huo
  have hlo := hdo.len
  rw [List.length_map] at hlo
  walk_at "rd"
  rw [dec_str]
  have fin : ∀ (H' : Hp) (rs : List (List PyData)) (us' : List V), Kp [] H2 H' → H' ro = some (.lst uo) → endP p o = { o with rows := rs } → DtL K H' us' (rs.map PyData.tuple) → Q (.str p.kind) (upd H' ro (.lst us')) := by
    intro H' rs us' kk e1 e2 e3
    have R3 := R2.kp0 kk
    obtain ⟨R4, N4⟩ := R3.rows e3
    rw [← e2] at R4
    exact k _ R4 ((N2.new kk).trans N4)
  have kpx : ∀ (H' : Hp) (us' : List V), Kp [] H2 H' → upd H' ro (.lst us') pa = some (.ins CP dp [("kind", .str p.kind), ("head", hv), ("rows", .ref rl), ("is_over", .bl p.over)]) := by
    intro H' us' kk
    rw [upd_ne (fun z => by rw [← z, hp2] at huo; cases huo)]
    exact kk.get hp2 (by simp)
  refine ifd (fun c1 => ?_) (fun c1 => ?_)
  · obtain ⟨rs, x, er, hx4⟩ := hW.2.1 c1
    have hsn : ∃ uo0 y, uo = uo0 ++ [y] := by
      refine ⟨uo.dropLast, uo.getLast ?_, (List.dropLast_concat_getLast _).symm⟩
      intro z
      rw [z, er] at hlo
      simp at hlo
    obtain ⟨uo0, y, rfl⟩ := hsn
    have hy : atI (uo0 ++ [y]) (-1) = some y := atI_last _ _
    have hlen0 : uo0.length = rs.length := by rw [er] at hlo; simp only [List.length_append, List.length_singleton] at hlo; omega
    have hyd : Dt K H2 y (.tuple x) := hdo.all rs.length y (.tuple x) (by rw [← hlen0]; simp) (by rw [er]; simp)
    have hpre : DtL K H2 uo0 (rs.map PyData.tuple) := ⟨by rw [List.length_map]; exact hlen0, fun i v d e1 e2 => hdo.all i v d (by rw [List.getElem?_append_left (List.getElem?_eq_some_iff.mp e1).1]; exact e1) (by rw [er, List.map_append, List.getElem?_append_left (List.getElem?_eq_some_iff.mp e2).1]; exact e2)⟩
    walk_at "rd"
    refine r_slD6 hyd fun H3 w3 k3 hw3 => ?_
    have e3 : cutD x none (some 3) = x.take 3 := cutD_take x 3
    rw [e3] at hw3
    have hb3 := hb2.kp k3
    walk_at "rd"
    refine ⟨by simp [sizeLine_eq], fun q hq => ?_⟩
    have k4 : Kp [] H3 (upd H3 q (.tup [.ref t])) := Kp.nil.new hq
    have hw4 := hw3.kp k4
    have hq4 : Dt K (upd H3 q (.tup [.ref t])) (.ref q) (.tuple [p.blk]) := Dt.mk1 upd_same (hb3.kp k4)
    generalize upd H3 q (.tup [.ref t]) = H4 at k4 hw4 hq4 ⊢
    refine r_catA hw4 hq4 (by rw [List.length_take]; simp only [List.length_singleton]; omega) fun H5 w5 k5 hw5 => ?_
    have k25 := (k3.trans k4).trans k5
    have ho5 := k25.get ho2 (by simp)
    have huo5 := k25.get huo (by simp)
    have hI5 := k25.get hI2 (by simp)
    have hix : ixN (uo0 ++ [y]).length (-1) = some uo0.length := by rw [List.length_append]; exact ixN_last _
    walk_at "rd"
    have hset : (uo0 ++ [y]).set uo0.length w5 = uo0 ++ [w5] := by simp
    rw [hset]
    have hpx := kpx H5 (uo0 ++ [w5]) k25
    have hfin := fin H5 (rs ++ [x.take 3 ++ [p.blk]]) (uo0 ++ [w5]) k25 huo5 (by
      unfold endP
      rw [if_pos c1, er, List.dropLast_concat, getLast_app]) (by
      rw [List.map_append]
      exact (hpre.kp k25).snoc hw5)
    walk_at "rd"
    exact hfin
  · walk_at "rd"
    rw [dec_str]
    refine ifd (fun c2 => ?_) (fun c2 => ?_)
    · walk_at "rd"
      refine ⟨by simp [sizeLine_eq], fun e he => ?_⟩
      have k3 : Kp [] H2 (upd H2 e (.tup [])) := Kp.nil.new he
      have he3 : Dt K (upd H2 e (.tup [])) (.ref e) (.tuple []) := Dt.mk0 upd_same
      have hb3 := hb2.kp k3
      generalize upd H2 e (.tup []) = H3 at k3 he3 hb3 ⊢
      walk_at "rd"
      refine ⟨by simp [sizeLine_eq], fun q hq => ?_⟩
      have k4 : Kp [] H3 (upd H3 q (.tup [.ref t, .ref e])) := Kp.nil.new hq
      have hq4 : Dt K (upd H3 q (.tup [.ref t, .ref e])) (.ref q) (.tuple [p.blk, .tuple []]) := Dt.mk2 upd_same (hb3.kp k4) (he3.kp k4)
      generalize upd H3 q (.tup [.ref t, .ref e]) = H4 at k4 hq4 ⊢
      refine r_catA ((hh2.kp k3).kp k4) hq4 (by simp only [List.length_cons, List.length_nil]; omega) fun H5 w5 k5 hw5 => ?_
      have k25 := (k3.trans k4).trans k5
      have huo5 := k25.get huo (by simp)
      have hfin := fin H5 (o.rows ++ [p.head ++ [p.blk, .tuple []]]) (uo ++ [w5]) k25 huo5 (by
        unfold endP
        rw [if_neg c1, if_pos c2]
        rfl) (by
        rw [List.map_append]
        exact (hdo.kp k25).snoc hw5)
      have hpx := kpx H5 (uo ++ [w5]) k25
      walk_at "rd"
      · exact hfin
      · rw [sizeLine_eq]
        omega
    · walk_at "rd"
      refine ⟨by simp [sizeLine_eq], fun q hq => ?_⟩
      have k4 : Kp [] H2 (upd H2 q (.tup [.ref t])) := Kp.nil.new hq
      have hq4 : Dt K (upd H2 q (.tup [.ref t])) (.ref q) (.tuple [p.blk]) := Dt.mk1 upd_same (hb2.kp k4)
      generalize upd H2 q (.tup [.ref t]) = H4 at k4 hq4 ⊢
      refine r_catA (hh2.kp k4) hq4 (by simp only [List.length_cons, List.length_nil]; omega) fun H5 w5 k5 hw5 => ?_
      have k25 := k4.trans k5
      have huo5 := k25.get huo (by simp)
      have hfin := fin H5 (o.rows ++ [p.head ++ [p.blk]]) (uo ++ [w5]) k25 huo5 (by
        unfold endP
        rw [if_neg c1, if_neg c2]
        rfl) (by
        rw [List.map_append]
        exact (hdo.kp k25).snoc hw5)
      have hpx := kpx H5 (uo ++ [w5]) k25
      walk_at "rd"
      · exact hfin
      · rw [sizeLine_eq]
        omega
abbrev sProgramReader_come_to : Stmt := inClass (topS 65) 2
abbrev NProgramReader_come_to : List Str := ["self", "depth", "kind"]
abbrev PProgramReader_come_to : List Str := ["self", "depth"]
theorem scProgramReader_come_to : FnScope NProgramReader_come_to PProgramReader_come_to (defScope sProgramReader_come_to) :=
  ⟨rfl, rfl, rfl, by decide +kernel, rfl, by decide +kernel, by decide +kernel⟩
theorem ok_Reader_come {C CP : Addr} (D : DfM K C "come_to" "ProgramReader.come_to" sProgramReader_come_to PProgramReader_come_to) (B : Blt mg) (T : RT K C)
    (GR_close : HasM P w K mg base CX0 C "close" ["self"] 1 (spClose K C CP)) : HasM P w K mg base CX0 C "come_to" PProgramReader_come_to 2 (spCome K C CP) := by
  refine D.has scProgramReader_come_to (fun vs H Q E h => ?_) (fun f cdv A outer s H vs Q E hr h => ?_)
  · obtain ⟨sf, l, as, R, d, m, rfl, _⟩ := h
    rfl
  obtain ⟨sf, l, as, R, d, m, rfl, hR, hW, hF, hm, hd, k⟩ := h
  have cC := T.cl
  have nB := T.nB
  refine ⟨_, (pss_cons (ps_set (i := 2) scProgramReader_come_to.nd rfl (Or.inl rfl) pe_str)
      (pss_cons (ps_while PassesOwn.never (pt_cmpR op_gt (pe_op op_sub (pe_callB c_len (by rfl) B.len (by decide +kernel) (pa_cons (pe_fld (pv 0) rfl) pa_nil)) pe_int) (pv 1) (nomark _)) (pss_one (ps_set (i := 2) scProgramReader_come_to.nd rfl (Or.inl rfl) (pe_m0 GR_close cC (hr.mono (by omega)) pass0 (pv 0)))))
      (pss_one (ps_ret (pv 2))))), ?_⟩
  walk_at "rd"
  refine r_while (fun n σ H' => ∃ (as' : List (Addr × Addr)) (R' : List Pt) (kd : Str), σ = [some (.ref sf), some (.int (d : Nat)), some (.str kd)] ∧ Rdr K C CP sf l as' R' H' ∧ Nx sf l as as' H H' ∧ Wf R' ∧ few (m + (R.length - R'.length)) R' ∧ R'.length ≤ R.length ∧
    d + 1 + n = R'.length ∧ closeN n kd R' = closeN (R.length - 1 - d) "" R) (R.length - 1 - d) ⟨as, R, "", rfl, hR, Nx.refl hR, hW, by rw [Nat.sub_self]; exact hF, Nat.le_refl _, by omega, rfl⟩ ?_
  rintro n σ H1 ⟨as1, R1, kd, rfl, hR1, N1, hW1, hF1, hle, hn, he⟩
  obtain ⟨dx, hI⟩ := hR1.obj
  have hl := hR1.lst
  have hlen := hR1.pts.len
  walk_at "rd"
  rotate_left
  all_goals try (rw [refs_len])
  cases n with
  | zero =>
    have c : decide ((((as1.length : Nat) : Int)) - 1 > ((d : Nat) : Int)) = false := decide_eq_false (by omega)
    rw [c]
    walk_at "rd"
    rw [closeN] at he
    rw [← he] at k
    exact k _ as1 hR1 N1
  | succ n =>
    have c : decide ((((as1.length : Nat) : Int)) - 1 > ((d : Nat) : Int)) = true := decide_eq_true (by omega)
    rw [c]
    refine ifT (r_turn ?_)
    match as1, R1, hlen, hR1, hW1, hF1, hn, he, hl, hle with
    | a :: b :: as2, p :: o :: R2, hlen, hR1, hW1, hF1, hn, he, hl, hle =>
      have fp := hF1 p (List.mem_cons_self ..)
      have fo := hF1 o (List.mem_cons_of_mem _ (List.mem_cons_self ..))
      rw [List.length_cons, List.length_cons] at hn hle hF1 fp fo
      walk_at "rd"
      refine ⟨sf, l, a, b, as2, p, o, R2, rfl, hR1, hW1, by omega, by omega, fp.2, fun H2 hR2 N2 => ?_⟩
      walk_at "rd"
      refine ⟨n, by omega, b :: as2, endP p o :: R2, p.kind, rfl, hR2, N1.trans N2, hW1.end_, ?_, by rw [List.length_cons]; omega, by rw [List.length_cons]; omega, by rw [closeN] at he; exact he⟩
      intro q hq
      rw [List.length_cons]
      rcases List.mem_cons.mp hq with rfl | hq
      · have e : (endP p o).rows.length ≤ o.rows.length + 1 ∧ (endP p o).head = o.head := by
          unfold endP Pt.add
          split
          · refine ⟨?_, rfl⟩
            simp only [List.length_append, List.length_dropLast, List.length_singleton]
            omega
          · split
            · exact ⟨by simp, rfl⟩
            · exact ⟨by simp, rfl⟩
        rw [e.2]
        exact ⟨by omega, fo.2⟩
      · have := hF1 q (List.mem_cons_of_mem _ (List.mem_cons_of_mem _ hq))
        exact ⟨by omega, this.2⟩
abbrev sProgramReader_put : Stmt := inClass (topS 65) 4
abbrev NProgramReader_put : List Str := ["self", "statement"]
abbrev PProgramReader_put : List Str := ["self", "statement"]
theorem scProgramReader_put : FnScope NProgramReader_put PProgramReader_put (defScope sProgramReader_put) :=
  ⟨rfl, rfl, rfl, by decide +kernel, rfl, by decide +kernel, by decide +kernel⟩
theorem ok_Reader_put {C CP : Addr} (D : DfM K C "put" "ProgramReader.put" sProgramReader_put PProgramReader_put) (B : Blt mg) (T : RT K C) (TP : PT K CP)
    (GPart : HasC P w K mg base CX0 "Part" CP ["self", "kind", "head"] 1 (spPart6 K CP)) : HasM P w K mg base CX0 C "put" PProgramReader_put 3 (spPut K C CP) := by
  refine D.has scProgramReader_put (fun vs H Q E h => ?_) (fun f cdv A outer s H vs Q E hr h => ?_)
  · obtain ⟨sf, l, as, R, v, x, rfl, _⟩ := h
    rfl
  obtain ⟨sf, l, as, R, v, x, rfl, hR, hne, hF, hm, hd, k0, k⟩ := h
  have cC := T.cl
  have cP := TP.cl
  have nB := T.nB
  have nR := TP.nR
  obtain ⟨dx, hI⟩ := hR.obj
  have hl := hR.lst
  have hlen := hR.pts.len
  refine ⟨_, (pss_cons (ps_if (pt_cmpR op_isN (pv 1) pe_non (nomark _)) (pss_one (ps_ret pe_bl))
        pss_nil)
      (pss_cons (ps_if (pt_cmpR op_in_seq (pe_ix ix_tup (pv 1) pe_int (fun _ _ => rfl)) (pe_tup (pa_cons pe_str (pa_cons pe_str pa_nil))) (by rfl)) (pss_one (ps_expr (pe_bm PySem.F.plainAttrs_list PySem.F.slot_list_append PySem.F.type_list_append mt_append (pe_fld (pv 0) rfl) (pa_cons (pe_new GPart (hr.mono (by omega)) (by rfl) pass0 (pa_cons (pe_ix ix_tup (pv 1) pe_int (fun _ _ => rfl)) (pa_cons (pv 1) pa_nil))) pa_nil))))
        (pss_one (ps_expr (pe_bm PySem.F.plainAttrs_list PySem.F.slot_list_append PySem.F.type_list_append mt_append (pe_fld (pe_ix ix_list (pe_fld (pv 0) rfl) (pe_un un_neg pe_int) (fun _ _ => rfl)) rfl) (pa_cons (pv 1) pa_nil)))))
      (pss_one (ps_ret pe_bl)))), ?_⟩
  cases x with
  | none =>
    obtain rfl := hd.isNone
    walk_at "rd"
    refine ⟨rfl, ?_⟩
    walk_at "rd"
    exact k0 rfl _ Kp.nil
  | some y =>
    have k := k y rfl
    clear k0
    have hd : Dt K H v y.d := hd
    have hnn : v ≠ .non := hd.ne_none (by rw [Ln.d_its]; intro z; cases z)
    rw [Ln.d_its] at hd
    obtain ⟨p, rl, as, q, R, rfl, rfl⟩ := hR.two hne
    obtain ⟨u1, us1, rfl, hU, hUL⟩ := hd.items
    obtain ⟨hw, ds, hds⟩ : ∃ (hw : Str) (ds : List PyData), y.its = .str hw :: ds := by
      cases y with
      | pl p => cases p <;> exact ⟨_, _, rfl⟩
      | ifh t => exact ⟨_, _, rfl⟩
      | reph m => exact ⟨_, _, rfl⟩
    have hUL' := hUL
    rw [hds] at hUL'
    obtain ⟨u0, us2, rfl, h0⟩ := hUL'.un6
    obtain rfl := h0.isStr
    have hix : atI (V.str hw :: us2) 0 = some (V.str hw) := atI06 _ _
    walk_at "rd"
    refine ⟨rfl, ?_⟩
    walk_at "rd"
    refine ifd (fun z => by cases z) (fun _ => ?_)
    walk_at "rd"
    refine ⟨by decide, fun p2 hp2 => ?_⟩
    have k2 : Kp [] H (upd H p2 (.tup [.str "if", .str "repeat"])) := Kp.nil.new hp2
    refine r_in (.inr (SqT.of upd_same)) rfl rfl ?_
    rw [inV_two hw "if" "repeat"]
    generalize upd H p2 (.tup [.str "if", .str "repeat"]) = H2 at k2 ⊢
    have hI2 := k2.get hI (by simp)
    have hl2 := k2.get hl (by simp)
    have hU2 := sqT_kp k2 hU
    have R2 := hR.kp0 k2
    by_cases hb : (decide (hw = "if") || decide (hw = "repeat")) = true
    · rw [hb]
      have hpt : putP y (q :: R) = ⟨hw, y.its, [], false⟩ :: q :: R ∧ y.its.length ≤ 2 := by
        cases y with
        | pl p => cases p <;> (cases hds; exact absurd hb (by decide +kernel))
        | ifh t => cases hds; exact ⟨rfl, by simp [Ln.its]⟩
        | reph m => cases hds; exact ⟨rfl, by simp [Ln.its]⟩
      walk_at "rd"
      refine r_make ?_
      walk_at "rd"
      intro pp dp hp hdp hne2
      have k3 : Kp [] H2 (upd (upd H2 dp (.own pp)) pp (.ins CP dp [])) := (Kp.nil.new hdp).new (by rw [upd_ne (Ne.symm hne2)]; exact hp)
      have hx3 : upd (upd H2 dp (.own pp)) pp (.ins CP dp []) pp = some (.ins CP dp []) := upd_same
      generalize upd (upd H2 dp (.own pp)) pp (.ins CP dp []) = H3 at k3 hx3 ⊢
      refine ⟨pp, dp, hw, .ref u1, y.its, rfl, hx3, (hd.kp k2).kp k3, fun H4 rr hrr k4 hq4 => ⟨rfl, ?_⟩⟩
      have k24 : Kp [] H2 H4 := Kp.own1 k3 hp k4
      have hrr2 : H2 rr = none := k3.freeM Ms.nil hrr
      have hl4 := k24.get hl2 (by simp)
      obtain ⟨R5, N5⟩ := R2.push k24 hp hrr2 hq4
      rw [← hpt.1] at R5
      have N6 := (Nx.refl hR |>.new k2).trans N5
      have hfin := k _ _ R5 N6
      rw [refs_cons] at hfin
      walk_at "rd"
      · exact hfin
      · rw [refs_len, sizeLine_eq]
        simp only [List.length_cons] at hm hlen ⊢
        omega
    · have hb : (decide (hw = "if") || decide (hw = "repeat")) = false := by simpa using hb
      rw [hb]
      have hpt : putP y (q :: R) = q.add y.its :: R := by
        cases y with
        | pl p => rfl
        | ifh t => cases hds; exact absurd hb (by decide +kernel)
        | reph m => cases hds; exact absurd hb (by decide +kernel)
      have hlast : atI (refs as ++ [V.ref (p, rl).1]) (-1) = some (.ref p) := atI_last _ _
      rw [refs_cons] at hl2
      obtain ⟨⟨dp, hv, us, hp2, hus, hh, hdl⟩, _⟩ := R2.pts
      dsimp only at hp2 hus
      have hql := (hF q (List.mem_cons_self ..)).1
      have hul := hdl.len
      rw [List.length_map] at hul
      obtain ⟨R5, N5⟩ := R2.rows (vs := us ++ [.ref u1]) (rs := q.rows ++ [y.its]) (by
        rw [List.map_append]
        exact hdl.snoc (hd.kp k2))
      have hfin := k _ ((p, rl) :: as) (by rw [hpt]; exact R5) ((Nx.refl hR |>.new k2).trans N5)
      walk_at "rd"
      · exact hfin
      · rw [sizeLine_eq]
        omega
abbrev sProgramReader_read : Stmt := inClass (topS 65) 3
abbrev NProgramReader_read : List Str := ["self", "line", "rest", "depth", "odd_space", "deepest", "lacks", "kind"]
abbrev PProgramReader_read : List Str := ["self", "line"]
theorem scProgramReader_read : FnScope NProgramReader_read PProgramReader_read (defScope sProgramReader_read) :=
  ⟨rfl, rfl, rfl, by decide +kernel, rfl, by decide +kernel, by decide +kernel⟩
theorem ok_Reader_read {C CP : Addr} (D : DfM K C "read" "ProgramReader.read" sProgramReader_read PProgramReader_read) (B : Blt mg) (T : RT K C) (TP : PT K CP) {lv : Nat} (hlv : 3 ≤ lv) (g_divmod : mg "divmod" = none)
    (GPart : HasC P w K mg base CX0 "Part" CP ["self", "kind", "head"] 1 (spPart6 K CP)) (GP_lacks_line : HasM P w K mg base CX0 CP "lacks_line" ["self"] 1 (spLacks K CP))
    (GR_come_to : HasM P w K mg base CX0 C "come_to" ["self", "depth"] 2 (spCome K C CP)) (GR_put : HasM P w K mg base CX0 C "put" ["self", "statement"] 3 (spPut K C CP))
    (Gstatement_of : Has P w K mg base CX0 "statement_of" ["line"] lv (spStOf K)) : HasM P w K mg base CX0 C "read" PProgramReader_read (lv + 1) (spRead1 K C CP) := by
  refine D.has scProgramReader_read (fun vs H Q E h => ?_) (fun f cdv A outer s H vs Q E hr h => ?_)
  · obtain ⟨sf, l, as, R, t, m, rfl, _⟩ := h
    rfl
  obtain ⟨sf, l, as, R, t, m, rfl, hR, hW, hF, hm, ht, k⟩ := h
  have cC := T.cl
  have cP := TP.cl
  have nB := T.nB
  have nK := TP.nK
  have nO := TP.nO
  have hle := lstr_le t
  have hRne : R ≠ [] := by intro z; rw [z] at hW; exact hW
  obtain ⟨dx, hI⟩ := hR.obj
  have hl := hR.lst
  have hlen := hR.pts.len
  refine ⟨_, (pss_cons (ps_set (i := 2) scProgramReader_read.nd rfl (Or.inl rfl) (pe_m1 PySem.F.slot_str_lstrip PySem.F.type_str_lstrip m_lstrip (pv 1) pe_str))
      (pss_cons (ps_asg (pe_callB c_divmod (by rfl) g_divmod (by decide +kernel) (pa_cons (pe_op op_sub (pe_callB c_len (by rfl) B.len (by decide +kernel) (pa_cons (pv 1) pa_nil)) (pe_callB c_len (by rfl) B.len (by decide +kernel) (pa_cons (pv 2) pa_nil))) (pa_cons pe_int pa_nil))) (pg_tup rfl (pgs_cons (pg_name (i := 3) scProgramReader_read.nd rfl (Or.inl rfl)) (pgs_cons (pg_name (i := 4) scProgramReader_read.nd rfl (Or.inl rfl)) pgs_nil))))
      (pss_cons (ps_par (i := 5) (j := 6) (by rfl) scProgramReader_read.nd rfl rfl (by decide) rfl rfl (pa_cons (pe_op op_sub (pe_callB c_len (by rfl) B.len (by decide +kernel) (pa_cons (pe_fld (pv 0) rfl) pa_nil)) pe_int) (pa_cons (pe_m0 GP_lacks_line cP (hr.mono (by omega)) pass0 (pe_ix ix_list (pe_fld (pv 0) rfl) (pe_un un_neg pe_int) (fun _ _ => rfl))) pa_nil)) (by rfl))
      (pss_cons (ps_if (PW.pt (pw_or (pt_cmpR op_eq (pv 4) pe_int (nomark _)) (pw_or (pt_cmpR op_gt (pv 3) (pv 5) (nomark _)) (pw_or1 (PW.pt (pw_and (pt_val (pv 6)) (pw_and1 (pt_cmpR op_ne (pv 3) (pv 5) (nomark _))))))))) (pss_one (ps_ret pe_bl))
        pss_nil)
      (pss_cons (ps_set (i := 7) scProgramReader_read.nd rfl (Or.inl rfl) (pe_m GR_come_to cC (hr.mono (by omega)) pass0 (pv 0) (pa_cons (pv 3) pa_nil)))
      (pss_cons (ps_if (PW.pt (pw_and (pt_cmpR op_eq (pv 2) pe_str (nomark _)) (pw_and1 (pt_cmpR op_eq (pv 7) pe_str (nomark _))))) (pss_cons (ps_expr (pe_bm PySem.F.plainAttrs_list PySem.F.slot_list_append PySem.F.type_list_append mt_append (pe_fld (pv 0) rfl) (pa_cons (pe_new GPart (hr.mono (by omega)) (by rfl) pass0 (pa_cons pe_str (pa_cons (pe_tup pa_nil) pa_nil))) pa_nil)))
      (pss_one (ps_ret pe_bl)))
        pss_nil)
      (pss_cons (ps_if (pt_cmpR op_eq (pv 2) pe_str (nomark _)) (pss_cons (ps_fld (pe_ix ix_list (pe_fld (pv 0) rfl) (pe_un un_neg pe_int) (fun _ _ => rfl)) pe_bl rfl)
      (pss_one (ps_ret (pe_and (pv 6) (pe_one (pe_cmpR op_ne (pe_fld (pe_ix ix_list (pe_fld (pv 0) rfl) (pe_un un_neg pe_int) (fun _ _ => rfl)) rfl) pe_str (nomark _)))))))
        pss_nil)
      (pss_one (ps_ret (pe_and (pe_not (pe_fld (pe_ix ix_list (pe_fld (pv 0) rfl) (pe_un un_neg pe_int) (fun _ _ => rfl)) rfl)) (pe_one (pe_m GR_put cC (hr.mono (by omega)) pass0 (pv 0) (pa_cons (pe_f Gstatement_of (hr.mono (by omega)) (by rfl) pass0 (pa_cons (pv 2) pa_nil)) pa_nil))))))))))))), ?_⟩
  walk_at "rd"
  refine r_lstrip ht ?_
  walk_at "rd"
  rotate_left
  · rw [tx_len, sizeLine_eq]; omega
  · rw [tx_len, sizeLine_eq]; omega
  rw [tx_len, tx_len]
  obtain ⟨n, hn⟩ : ∃ n, n = t.length - (lstr t).length := ⟨_, rfl⟩
  have en : ((t.length : Nat) : Int) - (((lstr t).length : Nat) : Int) = ((n : Nat) : Int) := by omega
  rw [en]
  have e2 : ((n : Nat) : Int) / 2 = ((n / 2 : Nat) : Int) := by omega
  have e3 : ((n : Nat) : Int) % 2 = ((n % 2 : Nat) : Int) := by omega
  refine ⟨_, _, rfl, ⟨by decide, by decide⟩, ?_⟩
  rw [e2, e3]
  intro p1 hp1
  have k1 : Kp [] H (upd H p1 (.tup [.int ((n / 2 : Nat) : Int), .int ((n % 2 : Nat) : Int)])) := Kp.nil.new hp1
  have u1 : SqT K (upd H p1 (.tup [.int ((n / 2 : Nat) : Int), .int ((n % 2 : Nat) : Int)])) p1 [.int ((n / 2 : Nat) : Int), .int ((n % 2 : Nat) : Int)] := SqT.of upd_same
  generalize upd H p1 (.tup [.int ((n / 2 : Nat) : Int), .int ((n % 2 : Nat) : Int)]) = H1 at k1 u1 ⊢
  have R1 := hR.kp0 k1
  obtain ⟨dx1, hI1⟩ := R1.obj
  have hl1 := R1.lst
  obtain ⟨p, rl, as0, q, R0, rfl, rfl⟩ := hR.two hRne
  have hP1 := R1.pts.1
  rw [refs_cons] at hl1
  have hlast : atI (refs as0 ++ [V.ref (p, rl).1]) (-1) = some (.ref p) := atI_last _ _
  obtain ⟨dp, hv, us, hp2, hus, hh, hdl⟩ := id hP1
  dsimp only at hp2 hus
  walk_at "rd"
  refine ⟨p, rl, q, rfl, hP1, fun H2 k2 => ?_⟩
  walk_at "rd"
  have hll : (((refs as0 ++ [V.ref (p, rl).1]).length : Nat) : Int) - 1 = (((q :: R0).length - 1 : Nat) : Int) := by
    rw [List.length_append, refs_len, List.length_singleton]
    simp only [List.length_cons] at hlen ⊢
    omega
  rw [hll, dec_int6, dec_int6]
  have hbad : (decide (((n % 2 : Nat) : Int) = 1) || (decide ((((q :: R0).length - 1 : Nat) : Int) < ((n / 2 : Nat) : Int)) || q.lacks && !decide (((n / 2 : Nat) : Int) = (((q :: R0).length - 1 : Nat) : Int)))) =
      decide (n % 2 = 1 ∨ n / 2 > (q :: R0).length - 1 ∨ (topLacks (q :: R0) = true ∧ n / 2 ≠ (q :: R0).length - 1)) := by
    rw [Bool.eq_iff_iff]
    simp only [Bool.or_eq_true, Bool.and_eq_true, decide_eq_true_eq, Bool.not_eq_true', decide_eq_false_iff_not]
    show _ ↔ (n % 2 = 1 ∨ n / 2 > (q :: R0).length - 1 ∨ (q.lacks = true ∧ n / 2 ≠ (q :: R0).length - 1))
    constructor
    · rintro (z | z | ⟨z1, z2⟩)
      · exact .inl (by omega)
      · exact .inr (.inl (by omega))
      · exact .inr (.inr ⟨z1, fun e => z2 (by omega)⟩)
    · rintro (z | z | ⟨z1, z2⟩)
      · exact .inl (by omega)
      · exact .inr (.inl (by omega))
      · exact .inr (.inr ⟨z1, fun e => z2 (by omega)⟩)
  rw [hbad]
  have R2 := R1.kp0 k2
  have N2 := (Nx.refl hR |>.new k1).new k2
  unfold readP at k
  rw [← hn] at k
  refine ifd (fun c => ?_) (fun c => ?_)
  · rw [if_pos c] at k
    walk_at "rd"
    exact k _ _ N2 fun R' z => by cases z
  rw [if_neg c] at k
  clear hbad
  have hdeep : n / 2 + 1 ≤ (q :: R0).length := by
    rw [not_or, not_or] at c
    have := c.2.1
    simp only [List.length_cons] at this ⊢
    omega
  obtain ⟨dx2, hI2⟩ := R2.obj
  walk_at "rd"
  refine ⟨sf, l, (p, rl) :: as0, q :: R0, n / 2, m, rfl, R2, hW, hF, by omega, hdeep, fun H3 as3 R3 N3 => ?_⟩
  have hW3 := Wf.closeN ((q :: R0).length - 1 - n / 2) "" (q :: R0) hW
  have hif := closeN_if ((q :: R0).length - 1 - n / 2) "" (q :: R0) hW (by decide +kernel)
  have hF3 : few (m + 1) (closeN ((q :: R0).length - 1 - n / 2) "" (q :: R0)).2 := few_close hF
  have hL3 := closeN_len ((q :: R0).length - 1 - n / 2) "" (q :: R0) (by omega)
  generalize closeN ((q :: R0).length - 1 - n / 2) "" (q :: R0) = cl at k R3 hW3 hif hF3 hL3 ⊢
  obtain ⟨kd, S⟩ := cl
  dsimp only at k R3 hW3 hif hF3 hL3 ⊢
  have hSne : S ≠ [] := by intro z; rw [z] at hW3; exact hW3
  have N23 := N2.trans N3
  obtain ⟨p3, rl3, as4, q3, R4, rfl, rfl⟩ := R3.two hSne
  obtain ⟨dx3, hI3⟩ := R3.obj
  have hl3 := R3.lst
  obtain ⟨dp3, hv3, us3, hp3, hus3, hh3, hdl3⟩ := id R3.pts.1
  dsimp only at hp3 hus3
  have hl3' := hl3
  rw [refs_cons] at hl3'
  have hlast3 : atI (refs as4 ++ [V.ref (p3, rl3).1]) (-1) = some (.ref p3) := atI_last _ _
  unfold stepP at k
  dsimp only at k
  walk_at "rd"
  rw [dec_str, dec_str]
  have hand : (decide (tx (lstr t) = "else") && decide (kd = "if")) = decide (tx (lstr t) = "else" ∧ kd = "if") := by rw [Bool.decide_and]
  rw [hand]
  clear hand
  have hS3 : (q3 :: R4).length ≤ 5000000 := by omega
  refine ifd (fun c1 => ?_) (fun c1 => ?_)
  · rw [if_pos c1] at k
    with_reducible refine r_seq ?_
    with_reducible refine r_drop ?_
    with_reducible refine r_BM ?_
    walk_at "rd"
    refine r_make ?_
    walk_at "rd"
    refine ⟨by simp [sizeLine_eq], fun e he => ?_⟩
    have k4 : Kp [] H3 (upd H3 e (.tup [])) := Kp.nil.new he
    have he4 : Dt K (upd H3 e (.tup [])) (.ref e) (.tuple []) := Dt.mk0 upd_same
    generalize upd H3 e (.tup []) = H4 at k4 he4 ⊢
    walk_at "rd"
    intro pp dp5 hp5 hdp hne2
    have k5 : Kp [] H4 (upd (upd H4 dp5 (.own pp)) pp (.ins CP dp5 [])) := (Kp.nil.new hdp).new (by rw [upd_ne (Ne.symm hne2)]; exact hp5)
    have hx5 : upd (upd H4 dp5 (.own pp)) pp (.ins CP dp5 []) pp = some (.ins CP dp5 []) := upd_same
    generalize upd (upd H4 dp5 (.own pp)) pp (.ins CP dp5 []) = H5 at k5 hx5 ⊢
    refine ⟨pp, dp5, "else", .ref e, [], rfl, hx5, he4.kp k5, fun H6 rr hrr k6 hq6 => ⟨rfl, ?_⟩⟩
    have k36 : Kp [] H3 H6 := k4.trans (Kp.own1 k5 hp5 k6)
    have hpp3 : H3 pp = none := k4.freeM Ms.nil hp5
    have hrr3 : H3 rr = none := (k4.trans k5).freeM Ms.nil hrr
    have hl6 := k36.get hl3 (by simp)
    obtain ⟨R7, N7⟩ := R3.push k36 hpp3 hrr3 hq6
    have hfin := k _ _ (N23.trans N7) (fun R' z => by cases z; exact R7)
    rw [refs_cons] at hfin
    walk_at "rd"
    · exact hfin
    · rw [refs_len, sizeLine_eq]
      have := R3.pts.len
      omega
  rw [if_neg c1] at k
  walk_at "rd"
  rw [dec_str]
  refine ifd (fun c2 => ?_) (fun c2 => ?_)
  · rw [if_pos c2] at k
    obtain ⟨R7, N7⟩ := R3.overs hp3
    walk_at "rd"
    refine r_SFld hp3 cP nO (by simp) ?_
    rw [putF_over]
    dsimp only
    generalize upd H3 p3 (.ins CP dp3 [("kind", .str q3.kind), ("head", hv3), ("rows", .ref rl3), ("is_over", .bl true)]) = H7 at R7 N7 ⊢
    obtain ⟨dx7, hI7⟩ := R7.obj
    have hl7 := R7.lst
    rw [refs_cons] at hl7
    obtain ⟨dp7, hv7, us7, hp7, _⟩ := id R7.pts.1
    dsimp only at hp7
    have N8 := N23.trans N7
    cases hql : q.lacks with
    | false =>
      rw [if_neg (by show ¬ (q.lacks = true ∧ _); rw [hql]; simp)] at k
      walk_at "rd"
      exact k _ _ N8 fun R' z => by cases z
    | true =>
      walk_at "rd"
      rw [dec_str]
      by_cases c3 : q3.kind = "else"
      · rw [decide_eq_true c3]
        rw [if_neg (fun z => z.2 c3)] at k
        exact k _ _ N8 fun R' z => by cases z
      · rw [decide_eq_false c3]
        rw [if_pos ⟨hql, c3⟩] at k
        exact k _ _ N8 fun R' z => by cases z; exact R7
  rw [if_neg c2] at k
  walk_at "rd"
  cases ho : q3.over with
  | true =>
    rw [if_pos ho] at k
    walk_at "rd"
    exact k _ _ N23 fun R' z => by cases z
  | false =>
    rw [if_neg (by rw [ho]; decide)] at k
    walk_at "rd"
    refine ⟨lstr t, rfl, by omega, fun H4 z4 k4 hz4 => ?_⟩
    have R5 := R3.kp0 k4
    have N5 := N23.new k4
    refine ⟨sf, l, (p3, rl3) :: as4, q3 :: R4, z4, stmtOf (lstr t), rfl, R5, by simp, hF3.mono (by omega), by omega, hz4, fun e H6 k6 => ?_, fun y e H6 as6 R6 N6 => ?_⟩
    · rw [e] at k
      exact k _ _ (N5.new k6) fun R' z => by cases z
    · rw [e] at k
      exact k _ _ (N5.trans N6) fun R' z => by cases z; exact R6
abbrev sBadText___init__ : Stmt := inClass (topS 13) 0
abbrev NBadText___init__ : List Str := ["self", "line"]
abbrev PBadText___init__ : List Str := ["self", "line"]
theorem scBadText___init__ : FnScope NBadText___init__ PBadText___init__ (defScope sBadText___init__) :=
  ⟨rfl, rfl, rfl, by decide +kernel, rfl, by decide +kernel, by decide +kernel⟩
theorem ok_BadText_init {C CR : Addr} (D : DfM K C "__init__" "BadText.__init__" sBadText___init__ PBadText___init__) (B : Blt mg) (T : OexC K C) (hno : PySem.W.findIn K (.ref C) "line" = some none) (g_R : mg "ReadError" = some (.ref CR)) (rd : PySem.W.readsIn K CR (.type "type") = true)
    (sp : PySem.W.specialIn K (.ref CR) "__getattribute__" = some (some (.builtin "type.__getattribute__"))) (vV : PySem.W.findCls K (.ref CR) (.type "type") "__init__" = some (.val (.builtin "ValueError.__init__"))) :
    HasM P w K mg base CX0 C "__init__" PBadText___init__ 1 (spErr C "line") := by
  refine D.has scBadText___init__ (fun vs H Q E h => ?_) (fun f cdv A outer s H vs Q E hr h => ?_)
  · obtain ⟨a, v, rfl, _⟩ := h
    rfl
  obtain ⟨a, v, rfl, ha, k⟩ := h
  refine ⟨_, (pss_cons (ps_expr (pe_reinit (by rfl) g_R rd sp vV (pa_cons (pv 0) (pa_cons pe_str pa_nil)))) (pss_one (ps_ost (pv 0) (pv 1)))), ?_⟩
  refine ⟨_, rfl, ?_⟩
  refine ⟨a, C, [.str "BadText"], rfl, by simp, T, ha, ?_⟩
  refine ⟨_, rfl, _, rfl, a, C, rfl, T, hno, .inl ⟨ha, fun dx hdx hne => ?_⟩⟩
  exact k dx hdx hne
abbrev sBadProgram___init__ : Stmt := inClass (topS 14) 0
abbrev NBadProgram___init__ : List Str := ["self", "error"]
abbrev PBadProgram___init__ : List Str := ["self", "error"]
theorem scBadProgram___init__ : FnScope NBadProgram___init__ PBadProgram___init__ (defScope sBadProgram___init__) :=
  ⟨rfl, rfl, rfl, by decide +kernel, rfl, by decide +kernel, by decide +kernel⟩
theorem ok_BadProgram_init {C CR : Addr} (D : DfM K C "__init__" "BadProgram.__init__" sBadProgram___init__ PBadProgram___init__) (B : Blt mg) (T : OexC K C) (hno : PySem.W.findIn K (.ref C) "error" = some none) (g_R : mg "ReadError" = some (.ref CR)) (rd : PySem.W.readsIn K CR (.type "type") = true)
    (sp : PySem.W.specialIn K (.ref CR) "__getattribute__" = some (some (.builtin "type.__getattribute__"))) (vV : PySem.W.findCls K (.ref CR) (.type "type") "__init__" = some (.val (.builtin "ValueError.__init__"))) :
    HasM P w K mg base CX0 C "__init__" PBadProgram___init__ 1 (spErr C "error") := by
  refine D.has scBadProgram___init__ (fun vs H Q E h => ?_) (fun f cdv A outer s H vs Q E hr h => ?_)
  · obtain ⟨a, v, rfl, _⟩ := h
    rfl
  obtain ⟨a, v, rfl, ha, k⟩ := h
  refine ⟨_, (pss_cons (ps_expr (pe_reinit (by rfl) g_R rd sp vV (pa_cons (pv 0) (pa_cons pe_str pa_nil)))) (pss_one (ps_ost (pv 0) (pv 1)))), ?_⟩
  refine ⟨_, rfl, ?_⟩
  refine ⟨a, C, [.str "BadProgram"], rfl, by simp, T, ha, ?_⟩
  refine ⟨_, rfl, _, rfl, a, C, rfl, T, hno, .inl ⟨ha, fun dx hdx hne => ?_⟩⟩
  exact k dx hdx hne
abbrev sparse_program : Stmt := topS 66
abbrev Nparse_program : List Str := ["value", "lines", "reader", "number", "line", "program", "error"]
abbrev Pparse_program : List Str := ["value"]
theorem scparse_program : FnScope Nparse_program Pparse_program (defScope sparse_program) :=
  ⟨rfl, rfl, rfl, by decide +kernel, rfl, by decide +kernel, by decide +kernel⟩
theorem ok_parse_program {C CP CT CB : Addr} (D : Df K mg "parse_program" sparse_program Pparse_program) (B : Blt mg) (T : RT K C) (TP : PT K CP) {lv : Nat} (hlv : 9 ≤ lv) {t1 : Tok} (g_HEAD : mg "HEAD" = some (.str "program" t1))
    (GProgramReader : HasC P w K mg base CX0 "ProgramReader" C ["self"] 3 (spRInit K C CP)) (GP_lacks_line : HasM P w K mg base CX0 CP "lacks_line" ["self"] 1 (spLacks K CP))
    (GR_come_to : HasM P w K mg base CX0 C "come_to" ["self", "depth"] 2 (spCome K C CP)) (GR_read : HasM P w K mg base CX0 C "read" ["self", "line"] lv (spRead1 K C CP))
    (GBadText : HasE P w K mg base "BadText" CT ["self", "line"] 1 (spErr CT "line")) (GBadProgram : HasE P w K mg base "BadProgram" CB ["self", "error"] 1 (spErr CB "error"))
    (Gprogram_error : Has P w K mg base CX0 "program_error" ["value"] lv (spPerr K)) : Has P w K mg base (L2.CX P w) "parse_program" Pparse_program (lv + 1) (spParseX K CT CB) := by
  refine D.hasX scparse_program (fun vs H Q E h => ?_) (fun f cdv A outer s H vs Q E hr h => ?_)
  · rcases h with ⟨v, dd, rfl, _⟩ | ⟨l, rfl, _⟩ <;> rfl
  have cC := T.cl
  have cP := TP.cl
  have nB := T.nB
  have nR := TP.nR
  rcases h with ⟨v, dd, rfl, hv, hstr, k⟩ | ⟨l, rfl, hl, hll, k⟩
  · refine ⟨_, (pss_cons (ps_if (pt_not (pt_val (pe_callB c_is2 (by rfl) B.isinstance (by decide +kernel) (pa_cons (pv 0) (pa_cons (pe_ty (T := "str") (by rfl) B.str (by decide +kernel)) pa_nil))))) (pss_one (ps_raise rfl (takes_of rfl rfl rfl rfl) (pmk_err GBadText (hr.mono (by omega)) (by rfl) (pa_cons pe_non pa_nil))))
        pss_nil)
      (pss_cons (ps_set (i := 1) scparse_program.nd rfl (Or.inl rfl) (pe_m1 PySem.F.slot_str_split PySem.F.type_str_split m_split (pv 0) pe_str))
      (pss_cons (ps_if (pt_cmpR op_ne (pe_ix ix_list (pv 1) pe_int (fun _ _ => rfl)) (pe_gstr (by rfl) g_HEAD) (nomark _)) (pss_one (ps_raise rfl (takes_of rfl rfl rfl rfl) (pmk_err GBadText (hr.mono (by omega)) (by rfl) (pa_cons pe_int pa_nil))))
        pss_nil)
      (pss_cons (ps_set (i := 2) scparse_program.nd rfl (Or.inl rfl) (pe_new0 GProgramReader (hr.mono (by omega)) (by rfl) pass0))
      (pss_cons (ps_for (passes_of rfl) rfl (pi_enum (by rfl) B.enumerate (pa_cons (pv 1) pa_nil)) (pg_tup rfl (pgs_cons (pg_name (i := 3) scparse_program.nd rfl (Or.inl rfl)) (pgs_cons (pg_name (i := 4) scparse_program.nd rfl (Or.inl rfl)) pgs_nil)))
        (pss_one (ps_if (PW.pt (pw_and (pt_cmpR op_gt (pv 3) pe_int (nomark _)) (pw_and1 (pt_not (pt_val (pe_m GR_read cC (hr.mono (by omega)) pass0 (pv 2) (pa_cons (pv 4) pa_nil))))))) (pss_one (ps_raise rfl (takes_of rfl rfl rfl rfl) (pmk_err GBadText (hr.mono (by omega)) (by rfl) (pa_cons (pv 3) pa_nil))))
        pss_nil)))
      (pss_cons (ps_if (pt_val (pe_m0 GP_lacks_line cP (hr.mono (by omega)) pass0 (pe_ix ix_list (pe_fld (pv 2) rfl) (pe_un un_neg pe_int) (fun _ _ => rfl)))) (pss_one (ps_raise rfl (takes_of rfl rfl rfl rfl) (pmk_err GBadText (hr.mono (by omega)) (by rfl) (pa_cons (pe_callB c_len (by rfl) B.len (by decide +kernel) (pa_cons (pv 1) pa_nil)) pa_nil))))
        pss_nil)
      (pss_cons (ps_expr (pe_m GR_come_to cC (hr.mono (by omega)) pass0 (pv 2) (pa_cons pe_int pa_nil)))
      (pss_cons (ps_set (i := 5) scparse_program.nd rfl (Or.inl rfl) (pe_callTy c_tup (by rfl) B.tuple (by decide +kernel) (pa_cons (pe_fld (pe_ix ix_list (pe_fld (pv 2) rfl) pe_int (fun _ _ => rfl)) rfl) pa_nil)))
      (pss_cons (ps_set (i := 6) scparse_program.nd rfl (Or.inl rfl) (pe_f Gprogram_error (hr.mono (by omega)) (by rfl) pass0 (pa_cons (pv 5) pa_nil)))
      (pss_cons (ps_if (pt_cmpR op_notN (pv 6) pe_non (nomark _)) (pss_one (ps_raise rfl (takes_of rfl rfl rfl rfl) (pmk_err GBadProgram (hr.mono (by omega)) (by rfl) (pa_cons (pv 6) pa_nil))))
        pss_nil)
      (pss_one (ps_ret (pv 5))))))))))))), ?_⟩
    walk_at "rd"
    refine r_err ?_
    walk_at "rd"
    exact r_ErrQ (k.use Kp.nil)
  obtain ⟨h0, tl, hls⟩ := linesT_ne l
  rw [hls] at k hll
  refine ⟨_, (pss_cons (ps_if (pt_not (pt_val (pe_callB c_is2 (by rfl) B.isinstance (by decide +kernel) (pa_cons (pv 0) (pa_cons (pe_ty (T := "str") (by rfl) B.str (by decide +kernel)) pa_nil))))) (pss_one (ps_raise rfl (takes_of rfl rfl rfl rfl) (pmk_err GBadText (hr.mono (by omega)) (by rfl) (pa_cons pe_non pa_nil))))
        pss_nil)
      (pss_cons (ps_set (i := 1) scparse_program.nd rfl (Or.inl rfl) (pe_m1 PySem.F.slot_str_split PySem.F.type_str_split m_split (pv 0) pe_str))
      (pss_cons (ps_if (pt_cmpR op_ne (pe_ix ix_list (pv 1) pe_int (fun _ _ => rfl)) (pe_gstr (by rfl) g_HEAD) (nomark _)) (pss_one (ps_raise rfl (takes_of rfl rfl rfl rfl) (pmk_err GBadText (hr.mono (by omega)) (by rfl) (pa_cons pe_int pa_nil))))
        pss_nil)
      (pss_cons (ps_set (i := 2) scparse_program.nd rfl (Or.inl rfl) (pe_new0 GProgramReader (hr.mono (by omega)) (by rfl) pass0))
      (pss_cons (ps_for (passes_of rfl) rfl (pi_enum (by rfl) B.enumerate (pa_cons (pv 1) pa_nil)) (pg_tup rfl (pgs_cons (pg_name (i := 3) scparse_program.nd rfl (Or.inl rfl)) (pgs_cons (pg_name (i := 4) scparse_program.nd rfl (Or.inl rfl)) pgs_nil)))
        (pss_one (ps_if (PW.pt (pw_and (pt_cmpR op_gt (pv 3) pe_int (nomark _)) (pw_and1 (pt_not (pt_val (pe_m GR_read cC (hr.mono (by omega)) pass0 (pv 2) (pa_cons (pv 4) pa_nil))))))) (pss_one (ps_raise rfl (takes_of rfl rfl rfl rfl) (pmk_err GBadText (hr.mono (by omega)) (by rfl) (pa_cons (pv 3) pa_nil))))
        pss_nil)))
      (pss_cons (ps_if (pt_val (pe_m0 GP_lacks_line cP (hr.mono (by omega)) pass0 (pe_ix ix_list (pe_fld (pv 2) rfl) (pe_un un_neg pe_int) (fun _ _ => rfl)))) (pss_one (ps_raise rfl (takes_of rfl rfl rfl rfl) (pmk_err GBadText (hr.mono (by omega)) (by rfl) (pa_cons (pe_callB c_len (by rfl) B.len (by decide +kernel) (pa_cons (pv 1) pa_nil)) pa_nil))))
        pss_nil)
      (pss_cons (ps_expr (pe_m GR_come_to cC (hr.mono (by omega)) pass0 (pv 2) (pa_cons pe_int pa_nil)))
      (pss_cons (ps_set (i := 5) scparse_program.nd rfl (Or.inl rfl) (pe_callTy c_tup (by rfl) B.tuple (by decide +kernel) (pa_cons (pe_fld (pe_ix ix_list (pe_fld (pv 2) rfl) pe_int (fun _ _ => rfl)) rfl) pa_nil)))
      (pss_cons (ps_set (i := 6) scparse_program.nd rfl (Or.inl rfl) (pe_f Gprogram_error (hr.mono (by omega)) (by rfl) pass0 (pa_cons (pv 5) pa_nil)))
      (pss_cons (ps_if (pt_cmpR op_notN (pv 6) pe_non (nomark _)) (pss_one (ps_raise rfl (takes_of rfl rfl rfl rfl) (pmk_err GBadProgram (hr.mono (by omega)) (by rfl) (pa_cons (pv 6) pa_nil))))
        pss_nil)
      (pss_one (ps_ret (pv 5))))))))))))), ?_⟩
  have hvs : Dw [] K H (.str (tx l)) (.str (tx l)) := .str _
  walk_at "rd"
  refine r_split1 hl fun pl hpl => ?_
  rw [hls]
  have k1 : Kp [] H (upd H pl (.lst ((h0 :: tl).map fun z => V.str (tx z)))) := Kp.nil.new hpl
  have u1 : upd H pl (.lst ((h0 :: tl).map fun z => V.str (tx z))) pl = some (.lst ((h0 :: tl).map fun z => V.str (tx z))) := upd_same
  generalize upd H pl (.lst ((h0 :: tl).map fun z => V.str (tx z))) = H1 at k1 u1 ⊢
  have hix : atI ((h0 :: tl).map fun z => V.str (tx z)) 0 = some (.str (tx h0)) := atI06 _ _
  walk_at "rd"
  by_cases hhead : tx h0 = "program"
  rotate_left
  · have hp : parseL (h0 :: tl) = .text 0 := by
      unfold parseL
      dsimp only
      rw [if_neg hhead]
    rw [hp] at k
    refine ifn (fun _ => ?_) (fun z => absurd (V.str.inj z) hhead)
    walk_at "rd"
    refine r_err ?_
    walk_at "rd"
    exact r_ErrQ (k.use k1)
  refine ifn (fun c => absurd (by rw [hhead]) c) (fun _ => ?_)
  have hP0 : parseL (h0 :: tl) = (match readL 1 tl root with
      | .inl i => .text i
      | .inr R => if topLacks R = true then .text (tl.length + 1) else .rows (((closeN (R.length - 1) "" R).2.headD ⟨"", [], [], false⟩).rows)) := by
    unfold parseL
    dsimp only
    rw [if_pos hhead]
    try (cases readL 1 tl root <;> rfl)
  rw [hP0] at k
  walk_at "rd"
  refine r_make ?_
  walk_at "rd"
  intro sf dx hsf hdx hne
  have k2 : Kp [] H1 (upd (upd H1 dx (.own sf)) sf (.ins C dx [])) := (Kp.nil.new hdx).new (by rw [upd_ne (Ne.symm hne)]; exact hsf)
  have hx2 : upd (upd H1 dx (.own sf)) sf (.ins C dx []) sf = some (.ins C dx []) := upd_same
  generalize upd (upd H1 dx (.own sf)) sf (.ins C dx []) = H2 at k2 hx2 ⊢
  refine ⟨sf, dx, rfl, hx2, fun H3 la as3 k3 R3 hfr => ⟨rfl, ?_⟩⟩
  have F3 : Rfr K C CP sf la as3 root H1 H3 := ⟨R3, Kp.own1 k2 hsf k3, fun b hb => by
    rcases hfr b hb with z | z
    · rw [z]; exact hsf
    · exact k2.freeM Ms.nil z⟩
  walk_at "rd"
  refine r_ForE (xs := (h0 :: tl).map fun z => V.str (tx z)) (SqL.of (F3.kp.get u1 (by simp))) (fun i σ H' => ∃ (x3 x4 x5 x6 : Option V) (as : List (Addr × Addr)) (R : List Pt), σ = [some (.str (tx l)), some (.ref pl), some (.ref sf), x3, x4, x5, x6] ∧ Rfr K C CP sf la as R H1 H' ∧ Wf R ∧ few (2 * i) R ∧ R.length ≤ i + 1 ∧
    readL (max i 1) ((h0 :: tl).drop (max i 1)) R = readL 1 tl root)
    ⟨none, none, none, none, as3, root, rfl, F3, rfl, (fun q hq => by rw [List.mem_singleton.mp hq]; exact ⟨by simp, by simp⟩), by simp [root], rfl⟩ (fun i σ H' ⟨_, _, _, _, _, _, _, q1, _⟩ => SqL.of (q1.kp.get u1 (by simp))) ?_ ?_
  · rintro i x σ H4 T0 hx ⟨x3, x4, x5, x6, as4, R4, rfl, F4, hW4, hF4, hL4, hr4⟩ hT0
    rw [List.getElem?_map] at hx
    obtain ⟨z, hz0, rfl⟩ := Option.map_eq_some_iff.mp hx
    have hi := (List.getElem?_eq_some_iff.mp hz0).1
    have k5 : Kp [] H4 (upd H4 T0 (.tup [.int ((i : Nat) : Int), .str (tx z)])) := Kp.nil.new hT0
    have u5 : SqT K (upd H4 T0 (.tup [.int ((i : Nat) : Int), .str (tx z)])) T0 [.int ((i : Nat) : Int), .str (tx z)] := SqT.of upd_same
    generalize upd H4 T0 (.tup [.int ((i : Nat) : Int), .str (tx z)]) = H5 at k5 u5 ⊢
    have F5 := F4.kp0 k5
    obtain ⟨dx5, hI5⟩ := F5.r.obj
    cases i with
    | zero =>
      walk_at "rd"
      exact ⟨_, _, _, _, as4, R4, rfl, F5, hW4, hF4.mono (by omega), by omega, hr4⟩
    | succ i =>
      have hm : max (i + 1) 1 = i + 1 := by omega
      have hm2 : max (i + 1 + 1) 1 = i + 1 + 1 := by omega
      rw [hm] at hr4
      rw [List.drop_eq_getElem_cons hi, (List.getElem?_eq_some_iff.mp hz0).2] at hr4
      have hzl : z.length ≤ 1000000 := by
        have hmem : z ∈ linesT l := by rw [hls]; exact List.mem_of_getElem? hz0
        exact Nat.le_trans (linesT_len l z hmem) hl
      have hc : decide ((0 : Int) < (((i + 1 : Nat) : Nat) : Int)) = true := decide_eq_true (by omega)
      have hRne : R4 ≠ [] := by intro z; rw [z] at hW4; exact hW4
      walk_at "rd"
      rw [hc]
      walk_at "rd"
      refine ⟨sf, la, as4, R4, z, 2 * (i + 1), rfl, F5.r, hW4, hF4, by simp only [List.length_cons] at hll hi; omega, hzl, fun H6 as6 N6 hR6 => ?_⟩
      cases hr6 : readP z R4 with
      | none =>
        rw [hr6] at hR6
        rw [readL, hr6] at hr4
        rw [← hr4] at k
        dsimp only at k
        have k16 := F5.kp.outs (fun b hb => .inl (F5.fr b hb)) N6.kp
        rw [Option.isSome_none]
        walk_at "rd"
        refine r_err ?_
        walk_at "rd"
        exact r_ErrQ (k.use (k1.trans k16))
      | some R6 =>
      rw [hr6] at hR6
      have hR6 := hR6 R6 rfl
      rw [readL, hr6] at hr4
      have hr7 : readL (i + 1 + 1) (List.drop (i + 1 + 1) (h0 :: tl)) R6 = readL 1 tl root := hr4
      rw [Option.isSome_some]
      walk_at "rd"
      have hfw := few_read hF4 hRne hr6
      refine ⟨_, _, _, _, as6, R6, rfl, F5.step N6 hR6, hW4.read hr6, hfw.1.mono (by omega), by omega, ?_⟩
      rw [hm2]
      exact hr7
  · rintro σ H4 ⟨x3, x4, x5, x6, as4, R4, rfl, F4, hW4, hF4, hL4, hr4⟩
    rw [List.length_map] at hF4 hL4 hr4
    have hm : max (h0 :: tl).length 1 = (h0 :: tl).length := by simp only [List.length_cons]; omega
    rw [hm, List.drop_length, readL] at hr4
    rw [← hr4] at k
    dsimp only at k
    have hRne : R4 ≠ [] := by intro z; rw [z] at hW4; exact hW4
    have hRl : R4.length ≠ 0 := fun z => hRne (List.length_eq_zero_iff.mp z)
    obtain ⟨p, rl, as0, q, R0, rfl, rfl⟩ := F4.r.two hRne
    obtain ⟨dx4, hI4⟩ := F4.r.obj
    have hl4 := F4.r.lst
    rw [refs_cons] at hl4
    have hlast : atI (refs as0 ++ [V.ref (p, rl).1]) (-1) = some (.ref p) := atI_last _ _
    have hP4 := F4.r.pts.1
    obtain ⟨dp, hv, us, hp4, hus, hh, hdl⟩ := id hP4
    dsimp only at hp4 hus
    walk_at "rd"
    refine ⟨p, rl, q, rfl, hP4, fun H5 k5 => ?_⟩
    have F5 := F4.kp0 k5
    cases hlk : q.lacks with
    | true =>
      rw [if_pos (show topLacks (q :: R0) = true from hlk)] at k
      have hx5 := F5.kp.get u1 (by simp)
      walk_at "rd"
      refine r_err ?_
      walk_at "rd"
      rw [List.length_map]
      refine r_ErrQ (Lv.use ?_ (k1.trans F5.kp))
      exact k
    | false =>
    rw [if_neg (show ¬ topLacks (q :: R0) = true by show ¬ q.lacks = true; rw [hlk]; decide)] at k
    obtain ⟨dx5, hI5⟩ := F5.r.obj
    walk_at "rd"
    refine ⟨sf, la, (p, rl) :: as0, q :: R0, 0, 2 * (h0 :: tl).length, rfl, F5.r, hW4, hF4, by omega, by simp, fun H6 as6 R6 N6 => ?_⟩
    rw [Nat.sub_zero] at R6
    have hL6 := closeN_len ((q :: R0).length - 1) "" (q :: R0) (by omega)
    have F6 := F5.step N6 R6
    generalize closeN ((q :: R0).length - 1) "" (q :: R0) = cl at hL6 k R6 F6 ⊢
    obtain ⟨kd, S⟩ := cl
    dsimp only at hL6 k R6 F6
    obtain ⟨q6, rfl⟩ : ∃ q6, S = [q6] := by
      match S, hL6 with
      | [q6], _ => exact ⟨q6, rfl⟩
      | [], h => simp at h
      | _ :: _ :: _, h => simp at h
    obtain ⟨⟨p6, rl6⟩, rfl⟩ : ∃ a6, as6 = [a6] := by
      have := R6.pts.len
      match as6, this with
      | [a6], _ => exact ⟨a6, rfl⟩
      | [], h => simp at h
      | _ :: _ :: _, h => simp at h
    obtain ⟨dx6, hI6⟩ := R6.obj
    have hl6 := R6.lst
    obtain ⟨dp6, hv6, us6, hp6, hus6, hh6, hdl6⟩ := R6.pts.1
    dsimp only at hp6 hus6
    have hix6 : atI (refs [(p6, rl6)]) 0 = some (.ref p6) := atI06 _ _
    obtain ⟨hz, kok, kbad⟩ : dsz (.tuple (q6.rows.map PyData.tuple)) ≤ 1000000 ∧ (perr (.tuple (q6.rows.map PyData.tuple)) = .none → ∀ (H' : Hp) (z : V), Kp [] H H' → Dt K H' z (.tuple (q6.rows.map PyData.tuple)) → Q z H') ∧
      (perr (.tuple (q6.rows.map PyData.tuple)) ≠ .none → ∀ (H' : Hp) (d : Addr) (v : V), Kp [] H H' → H d = none → H' d = some (.xd [("error", v)]) → Dt K H' v (perr (.tuple (q6.rows.map PyData.tuple))) → E (.ref CB) (some d) H') := k
    walk_at "rd"
    refine r_tupL (SqL.of hus6) fun t7 ht7 => ?_
    have k7 : Kp [] H6 (upd H6 t7 (.tup us6)) := Kp.nil.new ht7
    have hD7 := (hdl6.kp k7).tup upd_same
    generalize upd H6 t7 (.tup us6) = H7 at k7 hD7 ⊢
    walk_at "rd"
    refine ⟨.ref t7, _, rfl, hD7.dw, hz, fun H8 r8 k8 hr8 => ?_⟩
    have k18 := (k1.trans F6.kp).trans (k7.trans k8)
    by_cases he : perr (.tuple (q6.rows.map PyData.tuple)) = .none
    · rw [he] at hr8
      obtain rfl := hr8.isNone
      walk_at "rd"
      refine ⟨rfl, ?_⟩
      walk_at "rd"
      refine ifn (fun c => absurd rfl c) (fun _ => ?_)
      walk_at "rd"
      exact kok he _ _ k18 (hD7.kp k8)
    · have hne8 : r8 ≠ .non := hr8.ne_none he
      walk_at "rd"
      refine ⟨rfl, ?_⟩
      walk_at "rd"
      refine ifn (fun _ => ?_) (fun c => absurd c hne8)
      walk_at "rd"
      refine r_err ?_
      walk_at "rd"
      refine r_ErrQ fun d hd => ?_
      exact kbad he _ d r8 (k18.new hd) (k18.freeM Ms.nil hd) upd_same (hr8.kp (Kp.nil.new hd))
abbrev s_law_parsed : Stmt := topS 92
abbrev N_law_parsed : List Str := ["_law_text", "_law_found", "error"]
abbrev P_law_parsed : List Str := ["_law_text"]
theorem sc_law_parsed : FnScope N_law_parsed P_law_parsed (defScope s_law_parsed) :=
  ⟨rfl, rfl, rfl, by decide +kernel, rfl, by decide +kernel, by decide +kernel⟩
theorem ok_law_parsed {CT CB : Addr} (D : Df K mg "_law_parsed" s_law_parsed P_law_parsed) (B : Blt mg) {lv : Nat} (ET : ErrC K mg "BadText" CT) (EB : ErrC K mg "BadProgram" CB)
    (nl : PySem.W.findIn K (.ref CT) "line" = some none) (ne : PySem.W.findIn K (.ref CB) "error" = some none) (m1 : PySem.W.exmOne K (.ref CT) (.ref CT) = some true) (m2 : PySem.W.exmOne K (.ref CB) (.ref CT) = some false) (m3 : PySem.W.exmOne K (.ref CB) (.ref CB) = some true)
    (Gparse_program : Has P w K mg base (L2.CX P w) "parse_program" ["value"] lv (spParseX K CT CB)) : Has P w K mg base CX0 "_law_parsed" P_law_parsed (lv + 1) (spParsedA K) := by
  refine D.has sc_law_parsed (fun vs H Q E h => ?_) (fun f cdv A outer s H vs Q E hr h => ?_)
  · rcases h with ⟨l, rfl, _⟩ | ⟨v, dd, rfl, _⟩ <;> rfl
  rcases h with ⟨l, rfl, hl, hll, hz, k⟩ | ⟨v, dd, rfl, hv, hstr, k⟩
  rotate_left
  · refine ⟨_, (pss_cons (ps_try_manyA rfl rfl takes0
      (fun W pn xe tk _ => pss_one (ps_set (i := 1) sc_law_parsed.nd rfl (Or.inl rfl) (pe_lst (pa_cons pe_str (pa_cons (pe_fS Gparse_program (hr.mono (by omega)) (by rfl) (fun σ => passAt tk σ) (pa_cons (pv 0) pa_nil)) pa_nil)))))
      (HdsA.cons (i := 2) ⟨rfl, by decide, .inl ET.at_⟩ sc_law_parsed.nd rfl rfl (fun a oe cls d pn hz hf => pss_one (ps_set (i := 1) sc_law_parsed.nd rfl (Or.inl rfl) (pe_lst (pa_cons pe_str (pa_cons (pe_xf ET.f nl hz hf (pv 2)) pa_nil)))))
      (HdsA.cons (i := 2) ⟨rfl, by decide, .inl EB.at_⟩ sc_law_parsed.nd rfl rfl (fun a oe cls d pn hz hf => pss_one (ps_set (i := 1) sc_law_parsed.nd rfl (Or.inl rfl) (pe_lst (pa_cons pe_str (pa_cons (pe_xf EB.f ne hz hf (pv 2)) pa_nil)))))
      HdsA.nil)))
      (pss_one (ps_ret (pv 1)))), ?_⟩
    with_reducible refine r_seq ?_
    show tAsg _ _ _ _ _
    walk_at "rd"
    refine r_callS ?_
    walk_at "rd"
    refine .inl ⟨v, dd, rfl, hv, hstr, fun H' d k' hd hx => ?_⟩
    refine ⟨true, m1, fun _ a ha => ?_, fun z => by cases z⟩
    show tAsg _ _ _ _ _
    walk_at "rd"
    refine r_xf ?_
    walk_at "rd"
    refine r_XfQ hx ?_
    walk_at "rd"
    refine ⟨by simp [sizeLine_eq], fun q hq => ?_⟩
    walk_at "rd"
    exact k _ q (k'.new hq) (k'.freeM Ms.nil hq) upd_same
  refine ⟨_, (pss_cons (ps_try_manyA rfl rfl takes0
      (fun W pn xe tk _ => pss_one (ps_set (i := 1) sc_law_parsed.nd rfl (Or.inl rfl) (pe_lst (pa_cons pe_str (pa_cons (pe_fS Gparse_program (hr.mono (by omega)) (by rfl) (fun σ => passAt tk σ) (pa_cons (pv 0) pa_nil)) pa_nil)))))
      (HdsA.cons (i := 2) ⟨rfl, by decide, .inl ET.at_⟩ sc_law_parsed.nd rfl rfl (fun a oe cls d pn hz hf => pss_one (ps_set (i := 1) sc_law_parsed.nd rfl (Or.inl rfl) (pe_lst (pa_cons pe_str (pa_cons (pe_xf ET.f nl hz hf (pv 2)) pa_nil)))))
      (HdsA.cons (i := 2) ⟨rfl, by decide, .inl EB.at_⟩ sc_law_parsed.nd rfl rfl (fun a oe cls d pn hz hf => pss_one (ps_set (i := 1) sc_law_parsed.nd rfl (Or.inl rfl) (pe_lst (pa_cons pe_str (pa_cons (pe_xf EB.f ne hz hf (pv 2)) pa_nil)))))
      HdsA.nil)))
      (pss_one (ps_ret (pv 1)))), ?_⟩
  with_reducible refine r_seq ?_
  show tAsg _ _ _ _ _
  walk_at "rd"
  refine r_callS ?_
  walk_at "rd"
  refine .inr ⟨l, rfl, hl, hll, ?_⟩
  have fin : ∀ (H' : Hp) (x : Str) (v : V) (dv : PyData), Kp [] H H' → Dt K H' v dv → parsedD l = [.str x, dv] → ∀ q, H' q = none → Q (.ref q) (upd H' q (.lst [.str x, v])) := by
    intro H' x v dv k' hv he q hq
    have k2 : Kp [] H' (upd H' q (.lst [.str x, v])) := Kp.nil.new hq
    refine k _ q [.str x, v] (k'.trans k2) (k'.freeM Ms.nil hq) upd_same ?_
    rw [he]
    exact DtL.cons (.str x) (DtL.cons (hv.kp k2) DtL.nil)
  cases hp : parseL (linesT l) with
  | text i =>
    have he := parsed_text hp
    intro H' d k' hd hx
    refine ⟨true, m1, fun _ a ha => ?_, fun z => by cases z⟩
    show tAsg _ _ _ _ _
    walk_at "rd"
    refine r_xf ?_
    walk_at "rd"
    refine r_XfQ hx ?_
    walk_at "rd"
    refine ⟨by simp [sizeLine_eq], fun q hq => ?_⟩
    walk_at "rd"
    exact fin H' "text" _ _ k' (.int _) he q hq
  | rows rs =>
    refine ⟨hz rs hp, fun he H' z k' hzz => ?_, fun he H' d v k' hd hx hv => ?_⟩
    · walk_at "rd"
      refine ⟨by simp [sizeLine_eq], fun q hq => ?_⟩
      walk_at "rd"
      exact fin H' "ok" z _ k' hzz (parsed_ok hp he) q hq
    · refine ⟨false, m2, (fun z => by cases z), fun _ => ⟨true, m3, fun _ a ha => ?_, (fun z => by cases z)⟩⟩
      show tAsg _ _ _ _ _
      walk_at "rd"
      refine r_xf ?_
      walk_at "rd"
      refine r_XfQ hx ?_
      walk_at "rd"
      refine ⟨by simp [sizeLine_eq], fun q hq => ?_⟩
      walk_at "rd"
      exact fin H' "program" v _ k' hv (parsed_bad hp he) q hq
abbrev s_law_expr_text : Stmt := topS 78
abbrev N_law_expr_text : List Str := ["_law_expr_here", "_law_sign"]
abbrev P_law_expr_text : List Str := ["_law_expr_here"]
theorem sc_law_expr_text : FnScope N_law_expr_text P_law_expr_text (defScope s_law_expr_text) :=
  ⟨rfl, rfl, rfl, by decide +kernel, rfl, by decide +kernel, by decide +kernel⟩
theorem ok_law_expr_text (D : Df K mg "_law_expr_text" s_law_expr_text P_law_expr_text) (B : Blt mg) :
    ∀ n, eLen n ≤ 1000 → Has P w K mg base CX0 "_law_expr_text" P_law_expr_text n (spExT K n)
  | 0, _ => D.void fun vs H Q E h => by
    obtain ⟨v, e, _, _, h, _⟩ := h
    exact h
  | n + 1, hn => by
    have G_law_expr_text := ok_law_expr_text D B n (by unfold eLen at hn; omega)
    refine D.has sc_law_expr_text (fun vs H Q E h => ?_) (fun f cdv A outer s H vs Q E hr h => ?_)
    · obtain ⟨v, e, rfl, _⟩ := h
      rfl
    obtain ⟨v, e, rfl, hd, ho, k⟩ := h
    refine ⟨_, (pss_cons (ps_if (pt_not (pt_val (pe_callB c_is (by rfl) B.isinstance (by decide +kernel) (pa_cons (pv 0) (pa_cons (pe_ty (T := "tuple") (by rfl) B.tuple (by decide +kernel)) pa_nil))))) (pss_one (ps_ret (pe_callTy c_str (by rfl) B.str (by decide +kernel) (pa_cons (pv 0) pa_nil))))
        pss_nil)
      (pss_cons (ps_set (i := 1) sc_law_expr_text.nd rfl (Or.inl rfl) (pe_dget hr.hu (pe_disp (pps_cons pe_str pe_str (pps_cons pe_str pe_str (pps_cons pe_str pe_str pps_nil))) (by rfl) (by rfl) (fun z => by cases z) (by decide)) (pe_ix ix_tup (pv 0) pe_int (fun _ _ => rfl)) (fun _ _ => rfl)))
      (pss_one (ps_ret (pe_op op_addS (pe_op op_addS (pe_op op_addS (pe_op op_addS pe_str (pe_f G_law_expr_text (hr.mono (by omega)) (by rfl) pass0 (pa_cons (pe_ix ix_tup (pv 0) pe_int (fun _ _ => rfl)) pa_nil))) (pv 1)) (pe_f G_law_expr_text (hr.mono (by omega)) (by rfl) pass0 (pa_cons (pe_ix ix_tup (pv 0) pe_int (fun _ _ => rfl)) pa_nil))) pe_str))))), ?_⟩
    cases e with
    | int i =>
      obtain rfl := Dt.isInt hd
      walk_at "rd"
      · exact k _ Kp.nil
      · exact log2_small (by have := ho.1; omega) (by have := ho.2; omega)
    | name x =>
      obtain rfl := Dt.isStr hd
      walk_at "rd"
      exact k _ Kp.nil
    | bin o a b =>
      change Dt K H v (.tuple [.str o, a.d, b.d]) at hd
      obtain ⟨p, x, y, z, rfl, hT, hx, hy, hz⟩ := Dt.is3 hd
      obtain rfl := Dt.isStr hx
      have L := (Ex.ok.sok ho).len
      simp only [Ex.text, Str.length_append] at L
      walk_at "rd"
      intro q hq
      walk_at "rd"
      refine ⟨upd_same, signK, rfl, by decide, ?_⟩
      have k0 : Kp [] H (upd (upd H q (.dK [])) q (.dK (mergeK [] signK))) := (Kp.nil.new hq).own hq
      have hT0 := sqT_kp k0 hT
      walk_at "rd"
      refine r_DG (dget_k upd_same (signK_get ho.1)) ?_
      walk_at "rd"
      refine ⟨y, a, rfl, hy.kp k0, ho.2.1, fun H1 k1 => ?_⟩
      have hT1 := sqT_kp k1 hT0
      walk_at "rd"
      refine ⟨z, b, rfl, hz.kp (k0.trans k1), ho.2.2, fun H2 k2 => ?_⟩
      walk_at "rd"
      · exact k _ ((k0.trans k1).trans k2)
      all_goals walk_at "sl"
abbrev s_law_test_text : Stmt := topS 79
abbrev N_law_test_text : List Str := ["_law_test_here", "_law_numbers"]
abbrev P_law_test_text : List Str := ["_law_test_here"]
theorem sc_law_test_text : FnScope N_law_test_text P_law_test_text (defScope s_law_test_text) :=
  ⟨rfl, rfl, rfl, by decide +kernel, rfl, by decide +kernel, by decide +kernel⟩
theorem ok_law_test_text1 (D : Df K mg "_law_test_text" s_law_test_text P_law_test_text) (B : Blt mg) {sp : Sp} {n : Nat} (hn : n ≤ 100)
    (G_law_expr_text : Has P w K mg base CX0 "_law_expr_text" ["_law_expr_here"] 3 (spExT K 3))
    (G_law_test_text : Has P w K mg base CX0 "_law_test_text" P_law_test_text (n + 3) sp) (hs : ∀ m, n = m + 1 → sp = spTsT K m) :
    Has P w K mg base CX0 "_law_test_text" P_law_test_text (n + 4) (spTsT K n) := by
  refine D.has sc_law_test_text (fun vs H Q E h => ?_) (fun f cdv A outer s H vs Q E hr h => ?_)
  · obtain ⟨v, t, rfl, _⟩ := h
    rfl
  obtain ⟨v, t, rfl, hd, ho, k⟩ := h
  refine ⟨_, (pss_cons (ps_if (pt_cmpR op_eq (pe_ix ix_tup (pv 0) pe_int (fun _ _ => rfl)) pe_str (nomark _)) (pss_one (ps_ret (pe_op op_addS pe_str (pe_f G_law_test_text (hr.mono (by omega)) (by rfl) pass0 (pa_cons (pe_ix ix_tup (pv 0) pe_int (fun _ _ => rfl)) pa_nil)))))
        pss_nil)
      (pss_cons (ps_if (pt_cmpR op_eq (pe_ix ix_tup (pv 0) pe_int (fun _ _ => rfl)) pe_str (nomark _)) (pss_one (ps_ret (pe_op op_addS pe_str (pe_ix ix_tup (pv 0) pe_int (fun _ _ => rfl)))))
        pss_nil)
      (pss_cons (ps_if (pt_cmpR op_eq (pe_ix ix_tup (pv 0) pe_int (fun _ _ => rfl)) pe_str (nomark _)) (pss_cons (ps_set (i := 1) sc_law_test_text.nd rfl (Or.inl rfl) (pe_op op_addS (pe_op op_addS (pe_callTy c_str (by rfl) B.str (by decide +kernel) (pa_cons (pe_ix ix_tup (pv 0) pe_int (fun _ _ => rfl)) pa_nil)) pe_str) (pe_callTy c_str (by rfl) B.str (by decide +kernel) (pa_cons (pe_ix ix_tup (pv 0) pe_int (fun _ _ => rfl)) pa_nil))))
      (pss_one (ps_ret (pe_op op_addS (pe_op op_addS (pe_op op_addS pe_str (pv 1)) pe_str) (pe_f G_law_expr_text (hr.mono (by omega)) (by rfl) pass0 (pa_cons (pe_ix ix_tup (pv 0) pe_int (fun _ _ => rfl)) pa_nil))))))
        pss_nil)
      (pss_one (ps_ret (pe_op op_addS (pe_op op_addS (pe_f G_law_expr_text (hr.mono (by omega)) (by rfl) pass0 (pa_cons (pe_ix ix_tup (pv 0) pe_int (fun _ _ => rfl)) pa_nil)) pe_str) (pe_f G_law_expr_text (hr.mono (by omega)) (by rfl) pass0 (pa_cons (pe_ix ix_tup (pv 0) pe_int (fun _ _ => rfl)) pa_nil)))))))), ?_⟩
  have L := (Ts.ok.sok ho).len
  cases t with
  | not t =>
    cases n with
    | zero => exact ho.elim
    | succ m =>
      obtain rfl := hs m rfl
      change Dt K H v (.tuple [.str "not", t.d]) at hd
      obtain ⟨p, x, y, rfl, hT, hx, hy⟩ := Dt.is2 hd
      obtain rfl := Dt.isStr hx
      simp only [Ts.text, Str.length_append] at L
      walk_at "rd"
      refine ⟨y, t, rfl, hy, ho, fun H1 k1 => ?_⟩
      walk_at "rd"
      · exact k _ k1
      all_goals walk_at "sl"
  | given z =>
    change Dt K H v (.tuple [.str "given", .str z]) at hd
    obtain ⟨p, x, y, rfl, hT, hx, hy⟩ := Dt.is2 hd
    obtain rfl := Dt.isStr hx
    obtain rfl := Dt.isStr hy
    simp only [Ts.text, Str.length_append] at L
    walk_at "rd"
    · exact k _ Kp.nil
    all_goals walk_at "sl"
  | rest e b r =>
    have ho : e.ok 3 ∧ 0 ≤ b ∧ b ≤ 99 ∧ 0 ≤ r ∧ r ≤ 99 := by cases n <;> exact ho
    change Dt K H v (.tuple [.str "rest", e.d, .int b, .int r]) at hd
    obtain ⟨p, x, y, z, u, rfl, hT, hx, hy, hz, hu⟩ := Dt.is4 hd
    obtain rfl := Dt.isStr hx
    obtain rfl := Dt.isInt hz
    obtain rfl := Dt.isInt hu
    simp only [Ts.text, numT, Str.length_append] at L
    walk_at "rd"
    refine ⟨y, e, rfl, hy, ho.1, fun H1 k1 => ?_⟩
    walk_at "rd"
    · have q := k _ k1
      show Q (V.str _) _
      simp only [Ts.text, numT, Str.append_assoc] at q ⊢
      exact q
    all_goals first | walk_at "sl" | exact log2_small (by omega) (by omega)
  | less a b =>
    have ho : a.ok 3 ∧ b.ok 3 := by cases n <;> exact ho
    change Dt K H v (.tuple [.str "less", a.d, b.d]) at hd
    obtain ⟨p, x, y, z, rfl, hT, hx, hy, hz⟩ := Dt.is3 hd
    obtain rfl := Dt.isStr hx
    simp only [Ts.text, Str.length_append] at L
    walk_at "rd"
    refine ⟨y, a, rfl, hy, ho.1, fun H1 k1 => ?_⟩
    have hT1 := sqT_kp k1 hT
    walk_at "rd"
    refine ⟨z, b, rfl, hz.kp k1, ho.2, fun H2 k2 => ?_⟩
    walk_at "rd"
    · exact k _ (k1.trans k2)
    all_goals walk_at "sl"
theorem ok_law_test_text (D : Df K mg "_law_test_text" s_law_test_text P_law_test_text) (B : Blt mg)
    (G_law_expr_text : Has P w K mg base CX0 "_law_expr_text" ["_law_expr_here"] 3 (spExT K 3)) : ∀ n, n ≤ 100 → Has P w K mg base CX0 "_law_test_text" P_law_test_text (n + 4) (spTsT K n)
  | 0, _ => ok_law_test_text1 D B (by omega) G_law_expr_text ((D.void (sp := fun _ _ _ _ => False) fun _ _ _ _ h => h).mono (by omega)) fun m h => by omega
  | n + 1, hn => ok_law_test_text1 D B hn G_law_expr_text (ok_law_test_text D B G_law_expr_text n (by omega)) fun m h => by
    obtain rfl : n = m := by omega
    rfl
abbrev s_law_line : Stmt := topS 80
abbrev N_law_line : List Str := ["_law_statement_here", "_law_word"]
abbrev P_law_line : List Str := ["_law_statement_here"]
theorem sc_law_line : FnScope N_law_line P_law_line (defScope s_law_line) :=
  ⟨rfl, rfl, rfl, by decide +kernel, rfl, by decide +kernel, by decide +kernel⟩
theorem ok_law_line (D : Df K mg "_law_line" s_law_line P_law_line) (B : Blt mg)
    (G_law_expr_text : Has P w K mg base CX0 "_law_expr_text" ["_law_expr_here"] 3 (spExT K 3))
    (G_law_test_text : Has P w K mg base CX0 "_law_test_text" ["_law_test_here"] 6 (spTsT K 2)) : Has P w K mg base CX0 "_law_line" P_law_line 7 (spLine K) := by
  refine D.has sc_law_line (fun vs H Q E h => ?_) (fun f cdv A outer s H vs Q E hr h => ?_)
  · obtain ⟨v, t, n, rfl, _⟩ := h
    rfl
  obtain ⟨v, s, n, rfl, hd, ho, k⟩ := h
  refine ⟨_, (pss_cons (ps_set (i := 1) sc_law_line.nd rfl (Or.inl rfl) (pe_ix ix_tup (pv 0) pe_int (fun _ _ => rfl)))
      (pss_cons (ps_if (pt_cmpR op_eq (pv 1) pe_str (nomark _)) (pss_one (ps_ret (pe_op op_addS (pe_op op_addS (pe_op op_addS pe_str (pe_ix ix_tup (pv 0) pe_int (fun _ _ => rfl))) pe_str) (pe_f G_law_expr_text (hr.mono (by omega)) (by rfl) pass0 (pa_cons (pe_ix ix_tup (pv 0) pe_int (fun _ _ => rfl)) pa_nil)))))
        pss_nil)
      (pss_cons (ps_if (pt_cmpR op_eq (pv 1) pe_str (nomark _)) (pss_one (ps_ret (pe_op op_addS pe_str (pe_f G_law_test_text (hr.mono (by omega)) (by rfl) pass0 (pa_cons (pe_ix ix_tup (pv 0) pe_int (fun _ _ => rfl)) pa_nil)))))
        pss_nil)
      (pss_one (ps_ret (pe_op op_addS (pe_op op_addS (pv 1) pe_str) (pe_ifExp (pt_cmpR op_eq (pv 1) pe_str (nomark _)) (pe_f G_law_expr_text (hr.mono (by omega)) (by rfl) pass0 (pa_cons (pe_ix ix_tup (pv 0) pe_int (fun _ _ => rfl)) pa_nil)) (pe_callTy c_str (by rfl) B.str (by decide +kernel) (pa_cons (pe_ix ix_tup (pv 0) pe_int (fun _ _ => rfl)) pa_nil))))))))), ?_⟩
  have L := (Sm.ok.line ho).len
  cases s with
  | pl s =>
    have ho : s.ok := by cases n <;> exact ho
    rw [Sm.d] at hd
    cases s with
    | set z e =>
      change Dt K H v (.tuple [.str "set", .str z, e.d]) at hd
      obtain ⟨p, x, y, u, rfl, hT, hx, hy, hu⟩ := Dt.is3 hd
      obtain rfl := Dt.isStr hx
      obtain rfl := Dt.isStr hy
      simp only [Sm.line, Pl.text, Str.length_append] at L
      walk_at "rd"
      refine ⟨u, e, rfl, hu, ho.2, fun H1 k1 => ?_⟩
      walk_at "rd"
      · exact k _ k1
      all_goals walk_at "sl"
    | unset z =>
      change Dt K H v (.tuple [.str "unset", .str z]) at hd
      obtain ⟨p, x, y, rfl, hT, hx, hy⟩ := Dt.is2 hd
      obtain rfl := Dt.isStr hx
      obtain rfl := Dt.isStr hy
      simp only [Sm.line, Pl.text, Str.length_append] at L
      walk_at "rd"
      · exact k _ Kp.nil
      all_goals walk_at "sl"
    | tell e =>
      change Dt K H v (.tuple [.str "tell", e.d]) at hd
      obtain ⟨p, x, y, rfl, hT, hx, hy⟩ := Dt.is2 hd
      obtain rfl := Dt.isStr hx
      simp only [Sm.line, Pl.text, Str.length_append] at L
      have e1 : ("tell" ++ " " : Str) = "tell " := by decide +kernel
      have e2 := congrArg Str.length e1
      rw [Str.length_append] at e2
      walk_at "rd"
      refine ⟨y, e, rfl, hy, ho, fun H1 k1 => ?_⟩
      walk_at "rd"
      · rw [e1]
        exact k _ k1
      all_goals walk_at "sl"
    | say z =>
      change Dt K H v (.tuple [.str "say", .str z]) at hd
      obtain ⟨p, x, y, rfl, hT, hx, hy⟩ := Dt.is2 hd
      obtain rfl := Dt.isStr hx
      obtain rfl := Dt.isStr hy
      simp only [Sm.line, Pl.text, Str.length_append] at L
      walk_at "rd"
      · exact k _ Kp.nil
      all_goals walk_at "sl"
    | stop z =>
      change Dt K H v (.tuple [.str "stop", .str z]) at hd
      obtain ⟨p, x, y, rfl, hT, hx, hy⟩ := Dt.is2 hd
      obtain rfl := Dt.isStr hx
      obtain rfl := Dt.isStr hy
      simp only [Sm.line, Pl.text, Str.length_append] at L
      walk_at "rd"
      · exact k _ Kp.nil
      all_goals walk_at "sl"
  | ifs t y z =>
    cases n with
    | zero => exact ho.elim
    | succ n =>
      rw [Sm.d] at hd
      obtain ⟨p, x, u, u1, u2, rfl, hT, hx, hu, hu1, hu2⟩ := Dt.is4 hd
      obtain rfl := Dt.isStr hx
      simp only [Sm.line, Str.length_append] at L
      walk_at "rd"
      refine ⟨u, t, rfl, hu, ho.1, fun H1 k1 => ?_⟩
      walk_at "rd"
      · exact k _ k1
      all_goals walk_at "sl"
  | rep m b =>
    cases n with
    | zero => exact ho.elim
    | succ n =>
      have h1 := ho.1
      have h2 := ho.2.1
      rw [Sm.d] at hd
      obtain ⟨p, x, u, u1, rfl, hT, hx, hu, hu1⟩ := Dt.is3 hd
      obtain rfl := Dt.isStr hx
      obtain rfl := Dt.isInt hu
      simp only [Sm.line, numT, Str.length_append] at L
      walk_at "rd"
      · exact k _ Kp.nil
      all_goals first | walk_at "sl" | exact log2_small (by omega) (by omega)
abbrev s_law_lines : Stmt := topS 81
abbrev N_law_lines : List Str := ["_law_block_here", "_law_ahead", "_law_found", "_law_statement_here"]
abbrev P_law_lines : List Str := ["_law_block_here", "_law_ahead"]
theorem sc_law_lines : FnScope N_law_lines P_law_lines (defScope s_law_lines) :=
  ⟨rfl, rfl, rfl, by decide +kernel, rfl, by decide +kernel, by decide +kernel⟩
theorem ok_law_lines1 (D : Df K mg "_law_lines" s_law_lines P_law_lines) (B : Blt mg) {n : Nat} {sp2 : Sp}
    (G_law_line : Has P w K mg base CX0 "_law_line" ["_law_statement_here"] 7 (spLine K)) (G_law_lines : Has P w K mg base CX0 "_law_lines" P_law_lines (n + 8) sp2)
    (hs : ∀ m, n = m + 1 → sp2 = spLines K m) : Has P w K mg base CX0 "_law_lines" P_law_lines (n + 9) (spLines K n) := by
  refine D.has sc_law_lines (fun vs H Q E h => ?_) (fun f cdv A outer s H vs Q E hr h => ?_)
  · obtain ⟨v, b, ah, rfl, _⟩ := h
    rfl
  obtain ⟨v, b, ah, rfl, hd, ho, hz, hA, hn, k⟩ := h
  refine ⟨_, (pss_cons (ps_set (i := 2) sc_law_lines.nd rfl (Or.inl rfl) (pe_lst pa_nil))
      (pss_cons (ps_for PassesOwn.never rfl (pi_tup (pv 0)) (pg_name (i := 3) sc_law_lines.nd rfl (Or.inl rfl))
        (pss_cons (ps_expr (pe_bm PySem.F.plainAttrs_list PySem.F.slot_list_append PySem.F.type_list_append mt_append (pv 2) (pa_cons (pe_op op_addS (pv 1) (pe_f G_law_line (hr.mono (by omega)) (by rfl) pass0 (pa_cons (pv 3) pa_nil))) pa_nil)))
      (pss_cons (ps_if (pt_cmpR op_in_seq (pe_ix ix_tup (pv 3) pe_int (fun _ _ => rfl)) (pe_lst (pa_cons pe_str (pa_cons pe_str pa_nil))) (by rfl)) (pss_one (ps_expr (pe_bm PySem.F.plainAttrs_list PySem.F.slot_list_extend PySem.F.type_list_extend mt_extend (pv 2) (pa_cons (pe_ifExp (pt_cmpR (op_neD hr.h64) (pe_ix ix_tup (pv 3) pe_int (fun _ _ => rfl)) (pe_tup pa_nil) (nomark _)) (pe_f G_law_lines (hr.mono (by omega)) (by rfl) pass0 (pa_cons (pe_ix ix_tup (pv 3) pe_int (fun _ _ => rfl)) (pa_cons (pe_op op_addS (pv 1) pe_str) pa_nil))) (pe_lst (pa_cons (pe_op op_addS (pv 1) pe_str) pa_nil))) pa_nil))))
        pss_nil)
      (pss_one (ps_if (PW.pt (pw_and (pt_cmpR op_eq (pe_ix ix_tup (pv 3) pe_int (fun _ _ => rfl)) pe_str (nomark _)) (pw_and1 (pt_cmpR (op_neD hr.h64) (pe_ix ix_tup (pv 3) pe_int (fun _ _ => rfl)) (pe_tup pa_nil) (nomark _))))) (pss_cons (ps_expr (pe_bm PySem.F.plainAttrs_list PySem.F.slot_list_append PySem.F.type_list_append mt_append (pv 2) (pa_cons (pe_op op_addS (pv 1) pe_str) pa_nil)))
      (pss_one (ps_expr (pe_bm PySem.F.plainAttrs_list PySem.F.slot_list_extend PySem.F.type_list_extend mt_extend (pv 2) (pa_cons (pe_f G_law_lines (hr.mono (by omega)) (by rfl) pass0 (pa_cons (pe_ix ix_tup (pv 3) pe_int (fun _ _ => rfl)) (pa_cons (pe_op op_addS (pv 1) pe_str) pa_nil))) pa_nil)))))
        pss_nil)))))
      (pss_one (ps_ret (pv 2))))), ?_⟩
  have el : ("else" : Str).length = 4 := by decide +kernel
  have ws : ("  " : Str).length = 2 := by decide +kernel
  have wp : ("  pass" : Str).length = 6 := by decide +kernel
  obtain ⟨a, xs, rfl, hT, hl, hi⟩ := hd.isTup
  rw [Sm.ds_map] at hi
  have hlen : xs.length = b.length := by rw [hl, Sm.ds_map, List.length_map]
  walk_at "rd"
  refine ⟨by decide, fun q hq => ?_⟩
  walk_at "rd"
  have hall := Sm.all_ok n ah _ hA
  refine r_ForT (xs := xs) (sqT_kp (Kp.nil.new hq) hT) (fun i σ H' => ∃ sv, σ = [some (.ref a), some (.str ah), some (.ref q), sv] ∧ Kp [] H H' ∧
      H' q = some (.lst ((Sm.all ah (b.take i)).map V.str))) ⟨none, rfl, Kp.nil.new hq, upd_same⟩ (fun i σ H' ⟨_, _, kk, _⟩ => sqT_kp kk hT) ?_ ?_
  · rintro i x σ H1 hx ⟨sv, rfl, k1, hL⟩
    have hib : i < b.length := by rw [← hlen]; exact (List.getElem?_eq_some_iff.mp hx).1
    have hS : Dt K H1 x (b[i]).d := (hi i x (b[i]).d hx (by rw [List.getElem?_map, List.getElem?_eq_getElem hib]; rfl)).kp k1
    have hO := ho _ (List.getElem_mem hib)
    have hsz := Sm.sizes_mem (List.getElem_mem hib)
    have htk : b.take (i + 1) = b.take i ++ [b[i]] := by rw [List.take_add_one, List.getElem?_eq_getElem hib]; rfl
    have hadd : Sm.all ah (b.take (i + 1)) = Sm.all ah (b.take i) ++ Sm.lines ah b[i] := by
      rw [htk, Sm.all_flat, Sm.all_flat, List.flatMap_append, List.flatMap_cons, List.flatMap_nil, List.append_nil]
    have hfit : (Sm.all ah (b.take (i + 1))).length ≤ 300 := by
      have q1 := (hall (b.take (i + 1)) fun s hs => ho s (List.mem_of_mem_take hs)).1
      have q2 := Sm.sizes_app (b.take (i + 1)) (b.drop (i + 1))
      rw [List.take_append_drop] at q2
      omega
    generalize b[i] = s at *
    have hline := (Sm.ok.line hO).len
    have hal := hA.len
    rw [hadd, List.length_append] at hfit
    walk_at "rd"
    refine ⟨x, s, n, rfl, hS, hO, fun H2 k2 => ?_⟩
    have hL2 := k2.get hL (by simp)
    walk_at "rd"
    rotate_left 1
    · rw [List.length_map, sizeLine_eq]
      omega
    · rw [sizeLine_eq]
      omega
    have k3 : Kp [] H (upd H2 q (.lst (List.map V.str (Sm.all ah (b.take i)) ++ [V.str (ah ++ s.line)]))) := (k1.trans k2).own hq
    have hS3 := (hS.kp k2).kp (kpW (o := .lst (List.map V.str (Sm.all ah (b.take i)) ++ [V.str (ah ++ s.line)])) hL2)
    have hL3 : upd H2 q (.lst (List.map V.str (Sm.all ah (b.take i)) ++ [V.str (ah ++ s.line)])) q = some (.lst ((Sm.all ah (b.take i) ++ [ah ++ s.line]).map V.str)) := by
      rw [upd_same, List.map_append]
      rfl
    generalize upd H2 q (.lst (List.map V.str (Sm.all ah (b.take i)) ++ [V.str (ah ++ s.line)])) = H3 at k3 hS3 hL3 ⊢
    clear hS hL hL2 k1 k2
    cases s with
    | pl s =>
      rw [Sm.d] at hS3
      obtain ⟨p, ys, rfl, hT3, h0⟩ := Pl.head hS3
      walk_at "rd"
      refine ⟨by decide, fun t ht => ?_⟩
      have k4 : Kp [] H3 (upd H3 t (.lst [.str "if", .str "repeat"])) := Kp.nil.new ht
      have hT4 := sqT_kp k4 hT3
      have hL4 := k4.get hL3 (by simp)
      refine r_inF (.inl (SqL.of upd_same)) rfl rfl (Pl.word_in s) ?_
      walk_at "rd"
      refine ifd (fun c => absurd c (Pl.word_ne s)) fun _ => ?_
      walk_at "rd"
      refine ⟨_, rfl, k3.trans k4, ?_⟩
      rw [hL4, hadd, Sm.lines]
      rfl
    | ifs t y z =>
      cases n with
      | zero => exact hO.elim
      | succ m =>
        obtain rfl := hs m rfl
        obtain ⟨ht0, hy0, hz0⟩ := hO
        have hA2 : Sok (ah ++ "  ") (20 - 2 * m) := (hA.app (Sok.lit (n := 2) (by decide +kernel))).mono (by omega)
        rw [Sm.size] at hsz
        rw [Sm.d] at hS3
        obtain ⟨p, x0, x1, x2, x3, rfl, hT3, h0, h1, h2, h3⟩ := Dt.is4 hS3
        obtain rfl := Dt.isStr h0
        walk_at "rd"
        refine ⟨by decide, fun u hu => ?_⟩
        have k4 : Kp [] H3 (upd H3 u (.lst [.str "if", .str "repeat"])) := Kp.nil.new hu
        have hT4 := sqT_kp k4 hT3
        have hL4 := k4.get hL3 (by simp)
        refine r_inT (.inl (SqL.of upd_same)) rfl rfl (by decide +kernel) ?_
        generalize upd H3 u (.lst [.str "if", .str "repeat"]) = H4 at k4 hT4 hL4 ⊢
        walk_at "rdj"
        refine r_ifJ (fun v H5 => ∃ p5, v = .ref p5 ∧ Kp [] H4 H5 ∧ H5 p5 = some (.lst ((Sm.part (ah ++ "  ") y).map V.str))) (fun Q' kQ => ?_) ?_
        · walk_at "rd"
          refine ⟨by decide, fun e5 he5 => ?_⟩
          have k5 : Kp [] H4 (upd H4 e5 (.tup [])) := Kp.nil.new he5
          have hT5 := sqT_kp k5 hT4
          refine r_neD ((h2.kp k4).kp k5).dp (Dt.dp (Dt.mk0 upd_same)) ((Sm.block_cmp hy0).shaped (by omega)) ((Cmp.nil (n := 0)).shaped (by omega)) ?_
          rw [eqv_nil, Sm.ds_map, List.isEmpty_map]
          walk_at "rd"
          cases y with
          | nil =>
            rw [List.isEmpty_nil]
            walk_at "rd"
            refine ⟨by simp [sizeLine_eq], fun p6 h6 => ?_⟩
            · refine kQ _ _ ⟨p6, rfl, k5.new h6, ?_⟩
              rw [upd_same, Sm.part, List.isEmpty_nil, if_pos rfl, Str.append_assoc]
              have e : ("  " ++ "pass" : Str) = "  pass" := by decide +kernel
              rw [e]
              rfl
            · walk_at "sz"
          | cons y0 yr =>
            rw [List.isEmpty_cons]
            walk_at "rd"
            refine ⟨x2, y0 :: yr, ah ++ "  ", rfl, (h2.kp k4).kp k5, hy0, by omega, hA2, by omega, fun H6 p6 k6 n6 h6 => ?_⟩
            · exact kQ _ _ ⟨p6, rfl, k5.trans k6, h6⟩
            · walk_at "sz"
        rintro v5 H5 ⟨p5, rfl, k5, h5⟩
        have hL5 := k5.get hL4 (by simp)
        have k6 := kpW (o := .lst (List.map V.str (Sm.all ah (b.take i) ++ [ah ++ Sm.line (.ifs t y z)]) ++ List.map V.str (Sm.part (ah ++ "  ") y))) hL5
        have kk := (k3.trans k4).trans k5 |>.own (o := .lst (List.map V.str (Sm.all ah (b.take i) ++ [ah ++ Sm.line (.ifs t y z)]) ++ List.map V.str (Sm.part (ah ++ "  ") y))) hq
        have hT6 := sqT_kp k6 (sqT_kp k5 hT4)
        have h6 := ((h3.kp k4).kp k5).kp k6
        have hpart : (Sm.part (ah ++ "  ") y).length + (if z.isEmpty then [] else (ah ++ "else") :: Sm.all (ah ++ "  ") z).length ≤ 300 := by
          rw [Sm.lines, List.length_cons, List.length_append] at hfit
          unfold Sm.part
          omega
        have h300 : (Sm.all ah (b.take i)).length ≤ 300 := by omega
        walk_at "rd"
        rotate_left 1
        · walk_at "sz"
        refine ⟨by decide, fun u7 hu7 => ?_⟩
        have k7 : Kp [] (upd H5 q (.lst (List.map V.str (Sm.all ah (b.take i) ++ [ah ++ Sm.line (.ifs t y z)]) ++ List.map V.str (Sm.part (ah ++ "  ") y)))) _ := Kp.nil.new (o := .tup []) hu7
        have hT7 := sqT_kp k7 hT6
        have hL7 := k7.get upd_same (by simp)
        refine r_neD (h6.kp k7).dp (Dt.dp (Dt.mk0 upd_same)) ((Sm.block_cmp hz0).shaped (by omega)) ((Cmp.nil (n := 0)).shaped (by omega)) ?_
        rw [eqv_nil, Sm.ds_map, List.isEmpty_map]
        walk_at "rd"
        have kk7 := kk.trans k7
        have h7 := h6.kp k7
        generalize upd (upd H5 q (.lst (List.map V.str (Sm.all ah (b.take i) ++ [ah ++ Sm.line (.ifs t y z)]) ++ List.map V.str (Sm.part (ah ++ "  ") y)))) u7 (.tup []) = H7 at kk7 hT7 hL7 h7 ⊢
        cases z with
        | nil =>
          rw [List.isEmpty_nil]
          walk_at "rd"
          refine ⟨_, rfl, kk7, ?_⟩
          rw [hL7, hadd, Sm.lines, Sm.line]
          simp only [List.map_append, List.append_assoc, List.isEmpty_nil, if_true, List.map_cons, List.map_nil, List.nil_append, List.cons_append, List.append_nil]
          rfl
        | cons z0 zr =>
          rw [List.isEmpty_cons]
          rw [List.isEmpty_cons, if_neg Bool.false_ne_true, List.length_cons] at hpart
          walk_at "rd"
          have k8 := kpW (o := .lst (List.map V.str (Sm.all ah (b.take i) ++ [ah ++ Sm.line (.ifs t y (z0 :: zr))]) ++ List.map V.str (Sm.part (ah ++ "  ") y) ++ [V.str (ah ++ "else")])) hL7
          have hT8 := sqT_kp k8 hT7
          walk_at "rd"
          refine ⟨x3, z0 :: zr, ah ++ "  ", rfl, h7.kp k8, hz0, by omega, hA2, by omega, fun H9 p9 k9 n9 h9 => ?_⟩
          have hL9 := k9.get upd_same (by simp)
          walk_at "rd"
          · refine ⟨_, rfl, ((kk7.own hq).trans k9).own hq, ?_⟩
            rw [upd_same, hadd, Sm.lines, Sm.line]
            simp only [List.map_append, List.append_assoc, List.isEmpty_cons, List.map_cons, List.map_nil, List.nil_append, List.cons_append, if_neg Bool.false_ne_true]
            rfl
          all_goals walk_at "sz"
    | rep c y =>
      cases n with
      | zero => exact hO.elim
      | succ m =>
        obtain rfl := hs m rfl
        obtain ⟨hc0, hc1, hy0⟩ := hO
        have hA2 : Sok (ah ++ "  ") (20 - 2 * m) := (hA.app (Sok.lit (n := 2) (by decide +kernel))).mono (by omega)
        rw [Sm.size] at hsz
        rw [Sm.d] at hS3
        obtain ⟨p, x0, x1, x2, rfl, hT3, h0, h1, h2⟩ := Dt.is3 hS3
        obtain rfl := Dt.isStr h0
        walk_at "rd"
        refine ⟨by decide, fun u hu => ?_⟩
        have k4 : Kp [] H3 (upd H3 u (.lst [.str "if", .str "repeat"])) := Kp.nil.new hu
        have hT4 := sqT_kp k4 hT3
        have hL4 := k4.get hL3 (by simp)
        refine r_inT (.inl (SqL.of upd_same)) rfl rfl (by decide +kernel) ?_
        generalize upd H3 u (.lst [.str "if", .str "repeat"]) = H4 at k4 hT4 hL4 ⊢
        walk_at "rdj"
        refine r_ifJ (fun v H5 => ∃ p5, v = .ref p5 ∧ Kp [] H4 H5 ∧ H5 p5 = some (.lst ((Sm.part (ah ++ "  ") y).map V.str))) (fun Q' kQ => ?_) ?_
        · walk_at "rd"
          refine ⟨by decide, fun e5 he5 => ?_⟩
          have k5 : Kp [] H4 (upd H4 e5 (.tup [])) := Kp.nil.new he5
          have hT5 := sqT_kp k5 hT4
          refine r_neD ((h2.kp k4).kp k5).dp (Dt.dp (Dt.mk0 upd_same)) ((Sm.block_cmp hy0).shaped (by omega)) ((Cmp.nil (n := 0)).shaped (by omega)) ?_
          rw [eqv_nil, Sm.ds_map, List.isEmpty_map]
          walk_at "rd"
          cases y with
          | nil =>
            rw [List.isEmpty_nil]
            walk_at "rd"
            refine ⟨by simp [sizeLine_eq], fun p6 h6 => ?_⟩
            · refine kQ _ _ ⟨p6, rfl, k5.new h6, ?_⟩
              rw [upd_same, Sm.part, List.isEmpty_nil, if_pos rfl, Str.append_assoc]
              have e : ("  " ++ "pass" : Str) = "  pass" := by decide +kernel
              rw [e]
              rfl
            · walk_at "sz"
          | cons y0 yr =>
            rw [List.isEmpty_cons]
            walk_at "rd"
            refine ⟨x2, y0 :: yr, ah ++ "  ", rfl, (h2.kp k4).kp k5, hy0, by omega, hA2, by omega, fun H6 p6 k6 n6 h6 => ?_⟩
            · exact kQ _ _ ⟨p6, rfl, k5.trans k6, h6⟩
            · walk_at "sz"
        rintro v5 H5 ⟨p5, rfl, k5, h5⟩
        have hL5 := k5.get hL4 (by simp)
        have k6 := kpW (o := .lst (List.map V.str (Sm.all ah (b.take i) ++ [ah ++ Sm.line (.rep c y)]) ++ List.map V.str (Sm.part (ah ++ "  ") y))) hL5
        have hT6 := sqT_kp k6 (sqT_kp k5 hT4)
        have hpart : (Sm.part (ah ++ "  ") y).length ≤ 300 := by
          rw [Sm.lines, List.length_cons] at hfit
          unfold Sm.part
          omega
        have h300 : (Sm.all ah (b.take i)).length ≤ 300 := by omega
        walk_at "rd"
        · refine ⟨_, rfl, ((k3.trans k4).trans k5).own hq, ?_⟩
          rw [upd_same, hadd, Sm.lines, Sm.line]
          simp only [List.map_append, List.append_assoc, List.map_cons, List.map_nil, List.nil_append, List.cons_append]
          rfl
        all_goals walk_at "sz"
  · rintro σ H1 ⟨sv, rfl, k1, hL⟩
    walk_at "rd"
    rw [hlen, List.take_length] at hL
    exact k _ q k1 hq hL
abbrev s_law_is_word : Stmt := topS 82
abbrev N_law_is_word : List Str := ["_law_text", "_law_sign"]
abbrev P_law_is_word : List Str := ["_law_text"]
theorem sc_law_is_word : FnScope N_law_is_word P_law_is_word (defScope s_law_is_word) :=
  ⟨rfl, rfl, rfl, by decide +kernel, rfl, by decide +kernel, by decide +kernel⟩
theorem ok_law_is_word (D : Df K mg "_law_is_word" s_law_is_word P_law_is_word) (B : Blt mg) : Has P w K mg base CX0 "_law_is_word" P_law_is_word 1 spLWord := by
  refine D.has sc_law_is_word (fun vs H Q E h => ?_) (fun f cdv A outer s H vs Q E hr h => ?_)
  · obtain ⟨l, rfl, _⟩ := h
    rfl
  obtain ⟨l, rfl, hl, k⟩ := h
  dsimp only at k
  have hz : (tx l).length ≤ sizeLine := by rw [tx_len, sizeLine_eq]; omega
  have kf : isWordT l 8 = false → Q (.bl false) H := fun e => by
    have q := k H Kp.nil
    rw [e] at q
    exact q
  refine ⟨_, (pss_cons (ps_if (pt_not (pt_chain op_le op_le pe_int (pe_callB c_len (by rfl) B.len (by decide +kernel) (pa_cons (pv 0) pa_nil)) pe_int)) (pss_one (ps_ret pe_bl))
        pss_nil)
      (pss_one (ps_ret (pe_cmpR (op_eqNil hr.h64) (pe_lc (own := [("_law_sign", 1)]) (g := gName 1) (by rfl) sc_law_is_word.nd (pi_str (pv 0)) (blkOk_by (own := [("_law_sign", 1)]) (N := N_law_is_word) (sc := defScope s_law_is_word) (by decide +kernel)) (fun _ _ _ _ _ => (pg_name (i := 1) sc_law_is_word.nd rfl (Or.inl rfl))) (fun _ _ _ _ _ => (pts_one (pt_cmpR op_notinC (pv 1) pe_str (by rfl)))) (fun _ _ _ _ _ => (pv 1))) (pe_lst pa_nil) (nomark _))))), ?_⟩
  walk_at "rd"
  rotate_left
  · exact hz
  refine ifd (fun c1 => ?_) (fun c1 => ?_)
  rotate_left
  · walk_at "rd"
    refine kf ?_
    unfold isWordT
    rw [decide_eq_false (by rw [tx_len] at c1; exact c1)]
    rfl
  walk_at "rd"
  refine ifn (fun c2 => ?_) (fun c2 => ?_)
  · walk_at "rd"
    refine kf ?_
    unfold isWordT
    rw [decide_eq_false (p := (l.length : Int) ≤ 8) (by rw [tx_len] at c2; exact c2), Bool.and_false]
    rfl
  walk_at "rd"
  refine r_LcSf (f := fun c => !isSgn c) (i := 1) (by rw [tx_len]; omega) (fun c H' R h => ?_) (fun c H' R h => ?_) (fun _ => rfl) fun p hp => ?_
  · walk_at "rd"
    exact h
  · walk_at "rd"
    exact h
  walk_at "rd"
  refine ⟨by decide, fun q hq => ?_⟩
  have e1 : upd (upd H p (.lst (((tx l).cps.toList.filter fun c => !isSgn c).map fun c => V.str ⟨#[c]⟩))) q (.lst []) p = some (.lst (((tx l).cps.toList.filter fun c => !isSgn c).map fun c => V.str ⟨#[c]⟩)) := by
    rw [upd_ne (Ne.symm (Ne.symm (ne_of_none upd_same hq)))]
    exact upd_same
  refine r_eqNL (SqL.of e1) (SqL.of upd_same) ?_
  have q := k _ ((Kp.nil.new hp).new (o := .lst []) hq)
  unfold isWordT at q
  rw [tx_len] at c1 c2
  rw [decide_eq_true c1, decide_eq_true c2, Bool.true_and, Bool.true_and] at q
  rw [List.isEmpty_map, filter_all, tx_cps]
  exact q
abbrev s_law_is_name : Stmt := topS 83
abbrev N_law_is_name : List Str := ["_law_text", "_law_kept"]
abbrev P_law_is_name : List Str := ["_law_text"]
theorem sc_law_is_name : FnScope N_law_is_name P_law_is_name (defScope s_law_is_name) :=
  ⟨rfl, rfl, rfl, by decide +kernel, rfl, by decide +kernel, by decide +kernel⟩
theorem ok_law_is_name (D : Df K mg "_law_is_name" s_law_is_name P_law_is_name) (B : Blt mg) (G_law_is_word : Has P w K mg base CX0 "_law_is_word" ["_law_text"] 1 spLWord) : Has P w K mg base CX0 "_law_is_name" P_law_is_name 2 spLName := by
  refine D.has sc_law_is_name (fun vs H Q E h => ?_) (fun f cdv A outer s H vs Q E hr h => ?_)
  · obtain ⟨l, rfl, _⟩ := h
    rfl
  obtain ⟨l, rfl, hl, k⟩ := h
  refine ⟨_, (pss_cons (ps_set (i := 1) sc_law_is_name.nd rfl (Or.inl rfl) (pe_lst (pa_cons pe_str (pa_cons pe_str (pa_cons pe_str (pa_cons pe_str (pa_cons pe_str (pa_cons pe_str (pa_cons pe_str (pa_cons pe_str (pa_cons pe_str (pa_cons pe_str (pa_cons pe_str (pa_cons pe_str (pa_cons pe_str pa_nil)))))))))))))))
      (pss_one (ps_ret (pe_and (pe_f G_law_is_word (hr.mono (by omega)) (by rfl) pass0 (pa_cons (pv 0) pa_nil)) (pe_and (pe_cmpR op_notinC (pe_ix ix_str (pv 0) pe_int (fun _ _ => rfl)) pe_str (by rfl)) (pe_one (pe_cmpR op_notIn_seq (pv 0) (pv 1) (by rfl)))))))), ?_⟩
  walk_at "rd"
  refine ⟨by simp [sizeLine_eq], fun p hp => ?_⟩
  show gName 1 (V.ref p) _ (upd H p (.lst (KEPTS.map V.str))) _
  have k0 : Kp [] H (upd H p (.lst (KEPTS.map V.str))) := Kp.nil.new hp
  have u0 : upd H p (.lst (KEPTS.map V.str)) p = some (.lst (KEPTS.map V.str)) := upd_same
  generalize upd H p (.lst (KEPTS.map V.str)) = H0 at k0 u0 ⊢
  walk_at "rd"
  refine ⟨l, rfl, hl, fun H1 k1 => ?_⟩
  have q := k H1 (k0.trans k1)
  have u1 := k1.get u0 (by simp)
  rw [isNameT_eq] at q
  dsimp only
  cases hw : isWordT l 8 with
  | false =>
    rw [hw, Bool.false_and] at q
    walk_at "rd"
    exact q
  | true =>
    rw [hw, Bool.true_and] at q
    have hne : l ≠ [] := fun e => by
      rw [e] at hw
      exact absurd hw (by decide +kernel)
    obtain ⟨c0, cr, rfl⟩ := List.exists_cons_of_ne_nil hne
    have hs : isSgn c0 = true := by
      unfold isWordT at hw
      simp only [Bool.and_eq_true, List.all_cons] at hw
      exact hw.2.1
    have hlf : isLet c0 = !decide (c0 ∈ ("0123456789" : Str).cps.toList) := sgn_let c0 hs
    have hat : atI (tx (c0 :: cr)).cps.toList 0 = some c0 := at_nn (Int.le_refl 0) rfl
    walk_at "rd"
    refine r_ixS (by rw [tx_len, sizeLine_eq]; omega) hat ?_
    walk_at "rd"
    change Q (.bl (isLet c0 && !KEPTS.contains (tx (c0 :: cr)))) H1 at q
    rw [hlf] at q
    cases hc : decide (c0 ∈ ("0123456789" : Str).cps.toList) with
    | true =>
      rw [hc] at q
      walk_at "rd"
      exact q
    | false =>
      rw [hc] at q
      walk_at "rd"
      refine ⟨p, _, rfl, .inl (SqL.of u1), rfl, by decide +kernel, ?_⟩
      rw [if_pos rfl, inV_strs]
      exact q
abbrev s_law_is_integer : Stmt := topS 84
abbrev N_law_is_integer : List Str := ["_law_text", "_law_figures", "_law_sign"]
abbrev P_law_is_integer : List Str := ["_law_text"]
theorem sc_law_is_integer : FnScope N_law_is_integer P_law_is_integer (defScope s_law_is_integer) :=
  ⟨rfl, rfl, rfl, by decide +kernel, rfl, by decide +kernel, by decide +kernel⟩
theorem ok_law_is_integer (D : Df K mg "_law_is_integer" s_law_is_integer P_law_is_integer) (B : Blt mg) : Has P w K mg base CX0 "_law_is_integer" P_law_is_integer 1 spLInt := by
  refine D.has sc_law_is_integer (fun vs H Q E h => ?_) (fun f cdv A outer s H vs Q E hr h => ?_)
  · obtain ⟨l, rfl, _⟩ := h
    rfl
  obtain ⟨l, rfl, hl, k⟩ := h
  have hz : (tx l).length ≤ sizeLine := by rw [tx_len, sizeLine_eq]; omega
  have hfl : (figs l).length ≤ l.length := by
    unfold figs
    split
    · simp
    · exact Nat.le_refl _
  have hzf : (tx (figs l)).length ≤ sizeLine := by rw [tx_len, sizeLine_eq]; omega
  refine ⟨_, (pss_cons (ps_set (i := 1) sc_law_is_integer.nd rfl (Or.inl rfl) (pe_slice sl_str (pv 0) (po_some (pe_callTy c_int (by rfl) B.int (by decide +kernel) (pa_cons (pe_cmpR op_eq (pe_slice sl_str (pv 0) po_none (po_some pe_int)) pe_str (nomark _)) pa_nil))) po_none))
      (pss_cons (ps_if (PW.pt (pw_or (pt_not (pt_chain op_le op_le pe_int (pe_callB c_len (by rfl) B.len (by decide +kernel) (pa_cons (pv 1) pa_nil)) pe_int)) (pw_or1 (pt_cmpR (op_neNil hr.h64) (pe_lc (own := [("_law_sign", 2)]) (g := gName 2) (by rfl) sc_law_is_integer.nd (pi_str (pv 1)) (blkOk_by (own := [("_law_sign", 2)]) (N := N_law_is_integer) (sc := defScope s_law_is_integer) (by decide +kernel)) (fun _ _ _ _ _ => (pg_name (i := 2) sc_law_is_integer.nd rfl (Or.inl rfl))) (fun _ _ _ _ _ => (pts_one (pt_cmpR op_notinC (pv 2) pe_str (by rfl)))) (fun _ _ _ _ _ => (pv 2))) (pe_lst pa_nil) (nomark _))))) (pss_one (ps_ret pe_bl))
        pss_nil)
      (pss_one (ps_ret (pe_or (pe_cmpR op_eq (pv 0) pe_str (nomark _)) (pe_one (pe_cmpR op_ne (pe_ix ix_str (pv 1) pe_int (fun _ _ => rfl)) pe_str (nomark _)))))))), ?_⟩
  walk_at "rd"
  refine r_slS ?_ hz
  have e0 := cutS_to l 1
  rw [show ((1 : Nat) : Int) = 1 by rfl] at e0
  rw [e0]
  walk_at "rd"
  have hcut : cutS (tx l) (some (if decide (V.str (tx (List.take 1 l)) = V.str "-") = true then 1 else 0)) none = tx (figs l) := by
    by_cases hc : ∃ r, l = 45 :: r
    · obtain ⟨r, rfl⟩ := hc
      rw [show List.take 1 (45 :: r) = [45] from rfl, if_pos (show decide (V.str (tx [45]) = V.str "-") = true by decide +kernel)]
      have e := cutS_from (45 :: r) 1
      rw [show ((1 : Nat) : Int) = 1 by rfl] at e
      rw [e]
      rfl
    · obtain ⟨_, e2⟩ := starts_no hc
      rw [if_neg]
      · have e := cutS_from l 0
        rw [show ((0 : Nat) : Int) = 0 by rfl] at e
        rw [e, e2, List.drop_zero]
      · intro z
        have z1 := of_decide_eq_true z
        injection z1 with z1
        have z2 : l.take 1 = [45] := tx_inj (by rw [z1]; decide +kernel)
        exact hc (take_one z2)
  refine r_slS ?_ hz
  rw [hcut]
  have kn : ∀ H', Kp [] H H' → isInt l = false → Q (.bl false) H' := fun H' k' e => by
    have q := k H' k'
    rw [e] at q
    exact q
  walk_at "rd"
  rotate_left
  · exact hzf
  refine ifd (fun c1 => ?_) (fun c1 => ?_)
  rotate_left
  · walk_at "rd"
    refine kn _ Kp.nil ?_
    rw [tx_len] at c1
    unfold isInt intOf
    rw [decide_eq_false c1, Bool.false_and, Bool.false_and, if_neg Bool.false_ne_true]
    rfl
  walk_at "rd"
  refine ifn (fun c2 => ?_) (fun c2 => ?_)
  · walk_at "rd"
    refine kn _ Kp.nil ?_
    rw [tx_len] at c2
    unfold isInt intOf
    rw [decide_eq_false c2, Bool.and_false, Bool.false_and, if_neg Bool.false_ne_true]
    rfl
  rw [tx_len] at c1 c2
  walk_at "rd"
  refine r_LcSf (f := fun c => !isFig c) (i := 2) (by rw [tx_len]; omega) (fun c H' R h => ?_) (fun c H' R h => ?_) (fun _ => rfl) fun p hp => ?_
  · walk_at "rd"
    exact h
  · walk_at "rd"
    exact h
  walk_at "rd"
  refine ⟨by decide, fun q hq => ?_⟩
  have k2 : Kp [] H (upd (upd H p (.lst (((tx (figs l)).cps.toList.filter fun c => !isFig c).map fun c => V.str ⟨#[c]⟩))) q (.lst [])) := (Kp.nil.new hp).new hq
  have e1 : upd (upd H p (.lst (((tx (figs l)).cps.toList.filter fun c => !isFig c).map fun c => V.str ⟨#[c]⟩))) q (.lst []) p = some (.lst (((tx (figs l)).cps.toList.filter fun c => !isFig c).map fun c => V.str ⟨#[c]⟩)) := by
    rw [upd_ne (Ne.symm (Ne.symm (ne_of_none upd_same hq)))]
    exact upd_same
  have e2 : upd (upd H p (.lst (((tx (figs l)).cps.toList.filter fun c => !isFig c).map fun c => V.str ⟨#[c]⟩))) q (.lst []) q = some (.lst []) := upd_same
  generalize upd (upd H p (.lst (((tx (figs l)).cps.toList.filter fun c => !isFig c).map fun c => V.str ⟨#[c]⟩))) q (.lst []) = H2 at k2 e1 e2 ⊢
  refine r_neNL (SqL.of e1) (SqL.of e2) ?_
  rw [List.isEmpty_map, filter_all, tx_cps]
  have kI : intOf l 20 = if (figs l).all isFig = true then (if (figs l).headD 0 = 48 ∧ l ≠ [48] then none else PySem.intText? (tx l)) else none := by
    unfold intOf
    rw [decide_eq_true c1, decide_eq_true c2, Bool.true_and, Bool.true_and]
  cases hall : (figs l).all isFig with
  | false =>
    walk_at "rd"
    refine kn _ k2 ?_
    unfold isInt
    rw [kI, hall, if_neg Bool.false_ne_true]
    rfl
  | true =>
    rw [hall, if_pos rfl] at kI
    obtain ⟨n, hn⟩ := intOf_some (l := l) (by omega) (by omega) hall
    have hne : figs l ≠ [] := fun e => by
      rw [e] at c1
      simp at c1
    obtain ⟨c0, cr, hc0⟩ := List.exists_cons_of_ne_nil hne
    have hat : atI (tx (figs l)).cps.toList 0 = some c0 := at_nn (Int.le_refl 0) (by rw [tx_cps, hc0]; rfl)
    have hh : (figs l).headD 0 = c0 := by rw [hc0]; rfl
    have d0 : decide (V.str ⟨#[c0]⟩ = V.str "0") = decide (c0 = 48) := decide_eq_decide.mpr ⟨fun e => by
      injection e with e
      have := tx_inj (a := [c0]) (b := [48]) (by rw [← tx_zero]; exact e)
      injection this, fun e => by rw [e]; rfl⟩
    have d1 : decide (V.str (tx l) = V.str "0") = decide (l = [48]) := decide_eq_decide.mpr ⟨fun e => by
      injection e with e
      exact tx_inj (by rw [← tx_zero]; exact e), fun e => by rw [e, ← tx_zero]⟩
    have q := k _ k2
    unfold isInt at q
    rw [kI, hh] at q
    walk_at "rd"
    rw [d1]
    refine ifd (fun c4 => ?_) (fun c4 => ?_)
    · rw [if_neg (fun z => z.2 c4), hn] at q
      walk_at "rd"
      exact q
    · walk_at "rd"
      refine r_ixS hzf hat ?_
      walk_at "rd"
      rw [d0]
      by_cases c3 : c0 = 48
      · rw [if_pos ⟨c3, c4⟩] at q
        rw [decide_eq_true c3]
        exact q
      · rw [if_neg (fun z => c3 z.1), hn] at q
        rw [decide_eq_false c3]
        exact q
abbrev s_law_cut : Stmt := topS 85
abbrev N_law_cut : List Str := ["_law_text", "_law_deep", "_law_found", "_law_at"]
abbrev P_law_cut : List Str := ["_law_text"]
theorem sc_law_cut : FnScope N_law_cut P_law_cut (defScope s_law_cut) :=
  ⟨rfl, rfl, rfl, by decide +kernel, rfl, by decide +kernel, by decide +kernel⟩
theorem ok_law_cut (D : Df K mg "_law_cut" s_law_cut P_law_cut) (B : Blt mg) : Has P w K mg base CX0 "_law_cut" P_law_cut 1 spLCut := by
  refine D.has sc_law_cut (fun vs H Q E h => ?_) (fun f cdv A outer s H vs Q E hr h => ?_)
  · obtain ⟨l, rfl, _⟩ := h
    rfl
  obtain ⟨l, rfl, hl, k⟩ := h
  have hz : (tx l).length ≤ sizeLine := by rw [tx_len, sizeLine_eq]; omega
  refine ⟨_, (pss_cons (ps_par (i := 1) (j := 2) (by rfl) sc_law_cut.nd rfl rfl (by decide) rfl rfl (pa_cons pe_int (pa_cons (pe_lst pa_nil) pa_nil)) (by rfl))
      (pss_cons (ps_for PassesOwn.never rfl (pi_range1 (by rfl) B.range (pa_cons (pe_callB c_len (by rfl) B.len (by decide +kernel) (pa_cons (pv 0) pa_nil)) pa_nil)) (pg_name (i := 3) sc_law_cut.nd rfl (Or.inl rfl))
        (pss_cons (ps_set (i := 1) sc_law_cut.nd rfl (Or.inl rfl) (pe_op op_sub (pe_op op_add (pv 1) (pe_callTy c_int (by rfl) B.int (by decide +kernel) (pa_cons (pe_cmpR op_eq (pe_ix ix_str (pv 0) (pv 3) (fun _ _ => rfl)) pe_str (nomark _)) pa_nil))) (pe_callTy c_int (by rfl) B.int (by decide +kernel) (pa_cons (pe_cmpR op_eq (pe_ix ix_str (pv 0) (pv 3) (fun _ _ => rfl)) pe_str (nomark _)) pa_nil))))
      (pss_one (ps_if (PW.pt (pw_and (pt_cmpR op_eq (pv 1) pe_int (nomark _)) (pw_and1 (pt_cmpR op_in_seq (pe_slice sl_str (pv 0) (po_some (pv 3)) (po_some (pe_op op_add (pv 3) pe_int))) (pe_lst (pa_cons pe_str (pa_cons pe_str (pa_cons pe_str pa_nil)))) (by rfl))))) (pss_one (ps_expr (pe_bm PySem.F.plainAttrs_list PySem.F.slot_list_append PySem.F.type_list_append mt_append (pv 2) (pa_cons (pv 3) pa_nil))))
        pss_nil))))
      (pss_one (ps_ret (pv 2))))), ?_⟩
  walk_at "rd"
  refine ⟨by decide, fun p hp => ?_⟩
  have k1 : Kp [] H (upd H p (.lst [])) := Kp.nil.new hp
  have u1 : upd H p (.lst []) p = some (.lst ((cutsTo l 0).map fun k => V.int (k : Nat))) := upd_same
  generalize upd H p (.lst []) = H1 at k1 u1 ⊢
  walk_at "rd"
  rotate_left
  · exact hz
  rw [tx_len]
  refine r_ForR (fun j σ H' => ∃ x3 : Option V, σ = [some (.str (tx l)), some (.int (dep (l.take j))), some (.ref p), x3] ∧ Kp [] H H' ∧ H' p = some (.lst ((cutsTo l j).map fun k => V.int (k : Nat)))) (by omega) (by omega) ⟨none, rfl, k1, u1⟩ ?_ ?_
  · rintro j σ H2 hj ⟨x3, rfl, k2, u2⟩
    have hj2 : j < l.length := by omega
    have hc : l[j]? = some (l[j]'hj2) := List.getElem?_eq_getElem hj2
    generalize l[j]'hj2 = c at hc
    have hat : atI (tx l).cps.toList ((j : Nat) : Int) = some c := at_nn (by omega) (by rw [tx_cps, Int.toNat_natCast]; exact hc)
    have hd := dep_step hc
    walk_at "rd"
    refine r_ixS hz hat ?_
    walk_at "rd"
    rw [chr_eq c 40 "(" (by decide +kernel)]
    refine r_ixS hz hat ?_
    walk_at "rd"
    rw [chr_eq c 41 ")" (by decide +kernel)]
    walk_at "rd"
    rw [← hd]
    have hlen : ((cutsTo l j).map fun k => V.int (k : Nat)).length < sizeLine := by
      have := cutsTo_len l j
      rw [List.length_map, sizeLine_eq]
      omega
    have no : cutP l j = false → H2 p = some (.lst ((cutsTo l (j + 1)).map fun k => V.int (k : Nat))) := fun e => by
      rw [cutsTo_succ, e, if_neg Bool.false_ne_true, List.append_nil]
      exact u2
    refine ifd (fun c1 => ?_) (fun c1 => ?_)
    rotate_left
    · walk_at "rd"
      refine ⟨_, rfl, k2, no ?_⟩
      unfold cutP
      rw [decide_eq_false (fun z => c1 (by rw [z]))]
      rfl
    have c1' : dep (l.take (j + 1)) = 1 := by injection c1
    walk_at "rd"
    refine sl_str_at (k := j) (n := 3) hl ?_
    walk_at "rd"
    refine ⟨by simp [sizeLine_eq], fun q hq => ?_⟩
    have k3 : Kp [] H2 (upd H2 q (.lst [.str " + ", .str " - ", .str " * "])) := Kp.nil.new hq
    have u3 := k3.get u2 (by simp)
    refine r_in (.inl (SqL.of upd_same)) rfl rfl ?_
    rw [op_in]
    generalize upd H2 q (.lst [.str " + ", .str " - ", .str " * "]) = H3 at k3 u3 ⊢
    have hp' : cutP l j = !decide (opAt ((l.drop j).take 3) = "") := by
      unfold cutP
      rw [decide_eq_true c1', Bool.true_and]
    rw [← hp']
    cases hcp : cutP l j with
    | false =>
      walk_at "rd"
      exact ⟨_, rfl, k2.trans k3, k3.get (no hcp) (by simp)⟩
    | true =>
      walk_at "rd"
      rotate_left
      · exact hlen
      refine ⟨_, rfl, (k2.trans k3).own hp, ?_⟩
      rw [cutsTo_succ, hcp, if_pos rfl, List.map_append]
      exact upd_same
  · rintro σ H2 ⟨x3, rfl, k2, u2⟩
    walk_at "rd"
    exact k H2 p k2 hp (by rw [Int.toNat_natCast] at u2; exact u2)
abbrev s_law_is_expr : Stmt := topS 86
abbrev N_law_is_expr : List Str := ["_law_text", "_law_deep", "_law_at"]
abbrev P_law_is_expr : List Str := ["_law_text", "_law_deep"]
theorem sc_law_is_expr : FnScope N_law_is_expr P_law_is_expr (defScope s_law_is_expr) :=
  ⟨rfl, rfl, rfl, by decide +kernel, rfl, by decide +kernel, by decide +kernel⟩
theorem ok_law_is_expr (D : Df K mg "_law_is_expr" s_law_is_expr P_law_is_expr) (B : Blt mg) {lv n : Nat} (hlv : 2 ≤ lv) {sp : Sp} (G_law_is_name : Has P w K mg base CX0 "_law_is_name" ["_law_text"] 2 spLName) (G_law_is_integer : Has P w K mg base CX0 "_law_is_integer" ["_law_text"] 1 spLInt)
    (G_law_cut : Has P w K mg base CX0 "_law_cut" ["_law_text"] 1 spLCut) (G_law_is_expr : Has P w K mg base CX0 "_law_is_expr" ["_law_text", "_law_deep"] lv sp) (hs : ∀ m, n = m + 1 → sp = spLEx m) : Has P w K mg base CX0 "_law_is_expr" P_law_is_expr (lv + 1) (spLEx n) := by
  refine D.has sc_law_is_expr (fun vs H Q E h => ?_) (fun f cdv A outer s H vs Q E hr h => ?_)
  · obtain ⟨l, rfl, _⟩ := h
    rfl
  obtain ⟨l, rfl, hl, k⟩ := h
  have hz : (tx l).length ≤ sizeLine := by rw [tx_len, sizeLine_eq]; omega
  refine ⟨_, (pss_cons (ps_if (pt_cmpR op_eq (pv 1) pe_int (nomark _)) (pss_one (ps_ret pe_bl))
        pss_nil)
      (pss_cons (ps_if (PW.pt (pw_or (pt_cmpR op_ne (pe_slice sl_str (pv 0) po_none (po_some pe_int)) pe_str (nomark _)) (pw_or1 (pt_cmpR op_ne (pe_slice sl_str (pv 0) (po_some (pe_un un_neg pe_int)) po_none) pe_str (nomark _))))) (pss_one (ps_ret (pe_or (pe_f G_law_is_name (hr.mono (by omega)) (by rfl) pass0 (pa_cons (pv 0) pa_nil)) (pe_one (pe_f G_law_is_integer (hr.mono (by omega)) (by rfl) pass0 (pa_cons (pv 0) pa_nil))))))
        pss_nil)
      (pss_cons (ps_for PassesOwn.never rfl (pi_list (pe_f G_law_cut (hr.mono (by omega)) (by rfl) pass0 (pa_cons (pv 0) pa_nil))) (pg_name (i := 2) sc_law_is_expr.nd rfl (Or.inl rfl))
        (pss_one (ps_if (pt_val (pe_f G_law_is_expr (hr.mono (by omega)) (by rfl) pass0 (pa_cons (pe_slice sl_str (pv 0) (po_some (pe_op op_add (pv 2) pe_int)) (po_some (pe_un un_neg pe_int))) (pa_cons (pe_op op_sub (pv 1) pe_int) pa_nil)))) (pss_cons (ps_if (PW.pt (pw_and (pt_cmpR op_eq (pe_slice sl_str (pv 0) (po_some (pv 2)) (po_some (pe_op op_add (pv 2) pe_int))) pe_str (nomark _)) (pw_and1 (pt_val (pe_f G_law_is_integer (hr.mono (by omega)) (by rfl) pass0 (pa_cons (pe_slice sl_str (pv 0) (po_some pe_int) (po_some (pv 2))) pa_nil)))))) (pss_one (ps_ret pe_bl))
        pss_nil)
      (pss_one (ps_if (PW.pt (pw_and (pt_cmpR op_ne (pe_slice sl_str (pv 0) (po_some (pv 2)) (po_some (pe_op op_add (pv 2) pe_int))) pe_str (nomark _)) (pw_and1 (pt_val (pe_f G_law_is_expr (hr.mono (by omega)) (by rfl) pass0 (pa_cons (pe_slice sl_str (pv 0) (po_some pe_int) (po_some (pv 2))) (pa_cons (pe_op op_sub (pv 1) pe_int) pa_nil))))))) (pss_one (ps_ret pe_bl))
        pss_nil)))
        pss_nil)))
      (pss_one (ps_ret pe_bl))))), ?_⟩
  walk_at "rd"
  cases n with
  | zero =>
    refine ifd (fun c => ?_) (fun c => absurd rfl c)
    walk_at "rd"
    have q := k H Kp.nil
    rw [exB_false (n := 0) (fun ⟨e, g, _⟩ => g.elim)] at q
    exact q
  | succ n =>
    obtain rfl := hs n rfl
    refine ifd (fun c => by injection c with c; omega) (fun c => ?_)
    walk_at "rd"
    refine r_slS ?_ hz
    have e0 := cutS_to l 1
    rw [show ((1 : Nat) : Int) = 1 by rfl] at e0
    rw [e0]
    have kleaf : ¬ (l.take 1 = [40] ∧ l.getLast? = some 41) → exB (n + 1) l = (isNameT l || isInt l) := ex_leafB
    walk_at "rd"
    rw [tx_eq, show sg "(" = [40] by decide +kernel]
    refine ifn (fun c1 => ?_) (fun c1 => ?_)
    · walk_at "rd"
      refine ⟨l, rfl, hl, fun H1 k1 => ?_⟩
      have q := fun H' (kk : Kp [] H H') => k H' kk
      rw [kleaf (fun z => c1 z.1)] at q
      cases hn : isNameT l with
      | true =>
        rw [hn] at q
        walk_at "rd"
        exact q _ k1
      | false =>
        rw [hn] at q
        walk_at "rd"
        exact ⟨l, rfl, hl, fun H2 k2 => q _ (k1.trans k2)⟩
    walk_at "rd"
    refine r_slS ?_ hz
    rw [cutS_last l]
    walk_at "rd"
    rw [tx_eq, show sg ")" = [41] by decide +kernel]
    refine ifn (fun c2 => ?_) (fun c2 => ?_)
    · walk_at "rd"
      refine ⟨l, rfl, hl, fun H1 k1 => ?_⟩
      have q := fun H' (kk : Kp [] H H') => k H' kk
      rw [kleaf (fun z => c2 ((last_iff l).mpr z.2))] at q
      cases hn : isNameT l with
      | true =>
        rw [hn] at q
        walk_at "rd"
        exact q _ k1
      | false =>
        rw [hn] at q
        walk_at "rd"
        exact ⟨l, rfl, hl, fun H2 k2 => q _ (k1.trans k2)⟩
    have hsum := isEx_sum (n := n) c1 ((last_iff l).mp c2)
    walk_at "rd"
    refine ⟨l, rfl, hl, fun H1 p k1 hp u1 => ?_⟩
    refine r_ForL (SqL.of u1) (fun i σ H' => ∃ x2 : Option V, σ = [some (.str (tx l)), some (.int ((n + 1 : Nat) : Int)), x2] ∧ Kp [] H1 H' ∧ ∀ k ∈ (cutsOf l).take i, ¬ (isEx n (midL l (k + 3) (l.length - 1)) ∧ ((opAt ((l.drop k).take 3) = "times" ∧ isInt (midL l 1 k) = true) ∨ (opAt ((l.drop k).take 3) ≠ "times" ∧ isEx n (midL l 1 k))))) ⟨none, rfl, Kp.nil, by simp⟩ ?_ ?_ ?_
    · rintro i σ H' ⟨x2, _, kk, _⟩
      exact SqL.of (kk.get u1 (by simp))
    · rintro i x σ H2 hx ⟨x2, rfl, k2, no⟩
      rw [List.getElem?_map] at hx
      obtain ⟨kk, hkk, rfl⟩ := Option.map_eq_some_iff.mp hx
      have hmem : kk ∈ cutsOf l := List.mem_of_getElem? hkk
      have hlt : kk < l.length := List.mem_range.mp (List.mem_filter.mp hmem).1
      have hm1 : (midL l (kk + 3) (l.length - 1)).length ≤ 1000000 := by unfold midL; rw [List.length_take, List.length_drop]; omega
      have hm2 : (midL l 1 kk).length ≤ 1000000 := by unfold midL; rw [List.length_take, List.length_drop]; omega
      have hdeep : (((n + 1 : Nat) : Int) - 1) = ((n : Nat) : Int) := by omega
      have cin := cutS_in l (kk + 3)
      rw [show (((kk + 3 : Nat)) : Int) = (kk : Int) + 3 by omega] at cin
      have cmid := cutS_mid l 1 kk
      rw [show ((1 : Nat) : Int) = 1 by rfl] at cmid
      have next : ¬ (isEx n (midL l (kk + 3) (l.length - 1)) ∧ ((opAt ((l.drop kk).take 3) = "times" ∧ isInt (midL l 1 kk) = true) ∨ (opAt ((l.drop kk).take 3) ≠ "times" ∧ isEx n (midL l 1 kk)))) →
          ∀ k ∈ (cutsOf l).take (i + 1), ¬ (isEx n (midL l (k + 3) (l.length - 1)) ∧ ((opAt ((l.drop k).take 3) = "times" ∧ isInt (midL l 1 k) = true) ∨ (opAt ((l.drop k).take 3) ≠ "times" ∧ isEx n (midL l 1 k)))) := by
        intro h k hk
        rw [List.take_add_one, hkk] at hk
        rcases List.mem_append.mp hk with z | z
        · exact no k z
        · have : k = kk := by simpa using z
          rw [this]
          exact h
      have tru : isEx n (midL l (kk + 3) (l.length - 1)) → ((opAt ((l.drop kk).take 3) = "times" ∧ isInt (midL l 1 kk) = true) ∨ (opAt ((l.drop kk).take 3) ≠ "times" ∧ isEx n (midL l 1 kk))) → exB (n + 1) l = true :=
        fun a b => exB_true (hsum.mpr ⟨kk, hmem, a, b⟩)
      walk_at "rd"
      refine r_slS ?_ hz
      rw [cin]
      walk_at "rd"
      rw [hdeep]
      refine ⟨midL l (kk + 3) (l.length - 1), rfl, hm1, fun H3 k3 => ?_⟩
      cases hb : exB n (midL l (kk + 3) (l.length - 1)) with
      | false =>
        walk_at "rd"
        exact ⟨_, rfl, k2.trans k3, next fun z => by rw [exB_true z.1] at hb; cases hb⟩
      | true =>
        have hb' := exB_iff.mp hb
        walk_at "rd"
        refine sl_str_at (k := kk) (n := 3) hl ?_
        walk_at "rd"
        rw [times_iff]
        refine ifd (fun c3 => ?_) (fun c3 => ?_)
        · walk_at "rd"
          refine r_slS ?_ hz
          rw [cmid]
          walk_at "rd"
          refine ⟨midL l 1 kk, rfl, hm2, fun H4 k4 => ?_⟩
          cases hi : isInt (midL l 1 kk) with
          | true =>
            walk_at "rd"
            have q := k H4 (((k1.trans k2).trans k3).trans k4)
            rw [tru hb' (.inl ⟨c3, hi⟩)] at q
            exact q
          | false =>
            walk_at "rd"
            refine sl_str_at (k := kk) (n := 3) hl ?_
            walk_at "rd"
            rw [times_iff]
            refine ifn (fun c4 => absurd c3 c4) (fun c4 => ?_)
            walk_at "rd"
            refine ⟨_, rfl, (k2.trans k3).trans k4, next fun z => ?_⟩
            rcases z.2 with y | y
            · rw [hi] at y; exact absurd y.2 Bool.false_ne_true
            · exact y.1 c3
        · walk_at "rd"
          refine sl_str_at (k := kk) (n := 3) hl ?_
          walk_at "rd"
          rw [times_iff]
          refine ifn (fun c4 => ?_) (fun c4 => absurd c4 c3)
          walk_at "rd"
          refine r_slS ?_ hz
          rw [cmid]
          walk_at "rd"
          rw [hdeep]
          refine ⟨midL l 1 kk, rfl, hm2, fun H4 k4 => ?_⟩
          cases hi : exB n (midL l 1 kk) with
          | true =>
            walk_at "rd"
            have q := k H4 (((k1.trans k2).trans k3).trans k4)
            rw [tru hb' (.inr ⟨c3, exB_iff.mp hi⟩)] at q
            exact q
          | false =>
            walk_at "rd"
            refine ⟨_, rfl, (k2.trans k3).trans k4, next fun z => ?_⟩
            rcases z.2 with y | y
            · exact c3 y.1
            · rw [exB_true y.2] at hi; cases hi
    · rintro σ H2 ⟨x2, rfl, k2, no⟩
      rw [List.length_map, List.take_length] at no
      walk_at "rd"
      have q := k H2 (k1.trans k2)
      rw [exB_false (fun z => by
        obtain ⟨kk, hk, z⟩ := hsum.mp z
        exact no kk hk z)] at q
      exact q
abbrev s_law_is_rest : Stmt := topS 87
abbrev N_law_is_rest : List Str := ["_law_text", "_law_parts"]
abbrev P_law_is_rest : List Str := ["_law_text"]
theorem sc_law_is_rest : FnScope N_law_is_rest P_law_is_rest (defScope s_law_is_rest) :=
  ⟨rfl, rfl, rfl, by decide +kernel, rfl, by decide +kernel, by decide +kernel⟩
theorem ok_law_is_rest (D : Df K mg "_law_is_rest" s_law_is_rest P_law_is_rest) (B : Blt mg) {lv : Nat} (hlv : 2 ≤ lv) (G_law_is_integer : Has P w K mg base CX0 "_law_is_integer" ["_law_text"] 1 spLInt)
    (G_law_is_expr : Has P w K mg base CX0 "_law_is_expr" ["_law_text", "_law_deep"] lv (spLEx 20)) : Has P w K mg base CX0 "_law_is_rest" P_law_is_rest (lv + 1) spLRest := by
  refine D.has sc_law_is_rest (fun vs H Q E h => ?_) (fun f cdv A outer s H vs Q E hr h => ?_)
  · obtain ⟨l, rfl, _⟩ := h
    rfl
  obtain ⟨l, rfl, hl, k⟩ := h
  dsimp only at k
  have hri := rest_iff l
  have hwl : ∀ z ∈ wordsT l, z.length ≤ l.length := fun z hz => by
    have := spl_len [32] l [] 0 z hz
    rw [List.length_nil] at this
    omega
  refine ⟨_, (pss_cons (ps_set (i := 1) sc_law_is_rest.nd rfl (Or.inl rfl) (pe_m1 PySem.F.slot_str_split PySem.F.type_str_split m_split (pv 0) pe_str))
      (pss_cons (ps_if (PW.pt (pw_or (pt_cmpR op_lt (pe_callB c_len (by rfl) B.len (by decide +kernel) (pa_cons (pv 1) pa_nil)) pe_int (nomark _)) (pw_or1 (pt_cmpR op_ne (pe_ix ix_list (pv 1) pe_int (fun _ _ => rfl)) pe_str (nomark _))))) (pss_one (ps_ret pe_bl))
        pss_nil)
      (pss_one (ps_ret (pe_and (pe_f G_law_is_integer (hr.mono (by omega)) (by rfl) pass0 (pa_cons (pe_ix ix_list (pv 1) pe_int (fun _ _ => rfl)) pa_nil)) (pe_and (pe_f G_law_is_integer (hr.mono (by omega)) (by rfl) pass0 (pa_cons (pe_ix ix_list (pv 1) pe_int (fun _ _ => rfl)) pa_nil)) (pe_one (pe_f G_law_is_expr (hr.mono (by omega)) (by rfl) pass0 (pa_cons (pe_join pe_str (pe_slice sl_list (pv 1) (po_some pe_int) po_none)) (pa_cons pe_int pa_nil)))))))))), ?_⟩
  walk_at "rd"
  refine r_words hl fun p hp => ?_
  have k1 : Kp [] H (upd H p (.lst ((wordsT l).map fun z => V.str (tx z)))) := Kp.nil.new hp
  have u1 : upd H p (.lst ((wordsT l).map fun z => V.str (tx z))) p = some (.lst ((wordsT l).map fun z => V.str (tx z))) := upd_same
  generalize upd H p (.lst ((wordsT l).map fun z => V.str (tx z))) = H1 at k1 u1 ⊢
  walk_at "rd"
  have kF : ¬ (4 ≤ (wordsT l).length ∧ (wordsT l)[1]? = some (sg "of") ∧ isInt ((wordsT l).getD 0 []) = true ∧ isInt ((wordsT l).getD 2 []) = true ∧ isEx 20 (TL.joinL [32] ((wordsT l).drop 3))) → ∀ H', Kp [] H1 H' → Q (.bl false) H' := fun z H' k' => by
    have q := k H' (k1.trans k')
    have : (restT l).isSome = false := by
      cases e : (restT l).isSome with
      | false => rfl
      | true => exact absurd (hri.mp e) z
    rw [this] at q
    exact q
  have hjoin := words_join l
  generalize wordsT l = W at u1 hri hwl kF hjoin ⊢
  rw [List.length_map]
  refine ifd (fun c1 => ?_) (fun c1 => ?_)
  · walk_at "rd"
    exact kF (fun z => by have := z.1; omega) _ Kp.nil
  obtain ⟨a, b, c, d, r, rfl⟩ : ∃ a b c d r, W = a :: b :: c :: d :: r := by
    match W, c1 with
    | a :: b :: c :: d :: r, _ => exact ⟨a, b, c, d, r, rfl⟩
    | [], h => simp at h
    | [_], h => simp at h
    | [_, _], h => simp at h
    | [_, _, _], h => simp at h
  have e1 : atI ((a :: b :: c :: d :: r).map fun z => V.str (tx z)) 1 = some (.str (tx b)) := atI_nat (j := 1) rfl
  have e0 : atI ((a :: b :: c :: d :: r).map fun z => V.str (tx z)) 0 = some (.str (tx a)) := atI_nat (j := 0) rfl
  have e2 : atI ((a :: b :: c :: d :: r).map fun z => V.str (tx z)) 2 = some (.str (tx c)) := atI_nat (j := 2) rfl
  have la := hwl a (by simp)
  have lc := hwl c (by simp)
  walk_at "rd"
  rw [tx_eq]
  refine ifn (fun c2 => ?_) (fun c2 => ?_)
  · walk_at "rd"
    exact kF (fun z => c2 (by have := z.2.1; injection this)) _ Kp.nil
  walk_at "rd"
  refine ⟨a, rfl, by omega, fun H2 k2 => ?_⟩
  have u2 := k2.get u1 (by simp)
  cases hi : isInt a with
  | false =>
    walk_at "rd"
    refine kF (fun z => ?_) _ k2
    have y : isInt a = true := z.2.2.1
    rw [hi] at y; cases y
  | true =>
    walk_at "rd"
    refine ⟨c, rfl, by omega, fun H3 k3 => ?_⟩
    have u3 := k3.get u2 (by simp)
    cases hi2 : isInt c with
    | false =>
      walk_at "rd"
      refine kF (fun z => ?_) _ (k2.trans k3)
      have y : isInt c = true := z.2.2.2.1
      rw [hi2] at y; cases y
    | true =>
      walk_at "rd"
      refine r_slL (SqL.of u3) fun q hq => ?_
      have cv := cutV_drop ((a :: b :: c :: d :: r).map fun z => V.str (tx z)) 3
      rw [show ((3 : Nat) : Int) = 3 by rfl] at cv
      rw [cv, show ((a :: b :: c :: d :: r).map fun z => V.str (tx z)).drop 3 = ((d :: r).map tx).map V.str by simp]
      have k4 : Kp [] H3 (upd H3 q (.lst (((d :: r).map tx).map V.str))) := Kp.nil.new hq
      have u4 : upd H3 q (.lst (((d :: r).map tx).map V.str)) q = some (.lst (((d :: r).map tx).map V.str)) := upd_same
      generalize upd H3 q (.lst (((d :: r).map tx).map V.str)) = H4 at k4 u4 ⊢
      have hg := joinL_ge [32] (d :: r) (by simp)
      have hsum : (((d :: r).map tx).map fun x => x.length).sum = ((d :: r).map List.length).sum := by
        rw [List.map_map]
        exact congrArg List.sum (List.map_congr_left fun z _ => tx_len z)
      have hjl : (TL.joinL [32] (d :: r)).length ≤ l.length := by
        rw [← hjoin]
        show _ ≤ (a ++ ([32] ++ (b ++ ([32] ++ (c ++ ([32] ++ TL.joinL [32] (d :: r))))))).length
        simp only [List.length_append]
        omega
      refine ⟨" ", q, (d :: r).map tx, rfl, rfl, .inl (SqL.of u4), ?_, ?_⟩
      · rw [hsum, List.length_map, show (" " : Str).length = 1 by decide +kernel]
        rw [List.length_singleton] at hg
        omega
      rw [join_sp]
      walk_at "rd"
      refine ⟨TL.joinL [32] (d :: r), rfl, by omega, fun H5 k5 => ?_⟩
      have q := k H5 (((k1.trans k2).trans k3).trans (k4.trans k5))
      have : (restT l).isSome = exB 20 (TL.joinL [32] (d :: r)) := by
        cases e : exB 20 (TL.joinL [32] (d :: r)) with
        | true => exact hri.mpr ⟨by simp, by rw [c2]; rfl, hi, hi2, exB_iff.mp e⟩
        | false =>
          cases e' : (restT l).isSome with
          | false => rfl
          | true =>
            have y := (hri.mp e').2.2.2.2
            rw [exB_true (l := TL.joinL [32] (d :: r)) y] at e
            cases e
      rw [this] at q
      exact q
abbrev s_law_is_test : Stmt := topS 88
abbrev N_law_is_test : List Str := ["_law_text", "_law_many", "_law_parts"]
abbrev P_law_is_test : List Str := ["_law_text"]
theorem sc_law_is_test : FnScope N_law_is_test P_law_is_test (defScope s_law_is_test) :=
  ⟨rfl, rfl, rfl, by decide +kernel, rfl, by decide +kernel, by decide +kernel⟩
theorem ok_law_is_test (D : Df K mg "_law_is_test" s_law_is_test P_law_is_test) (B : Blt mg) {lv : Nat} (hlv : 2 ≤ lv) (G_law_is_name : Has P w K mg base CX0 "_law_is_name" ["_law_text"] 2 spLName)
    (G_law_is_expr : Has P w K mg base CX0 "_law_is_expr" ["_law_text", "_law_deep"] lv (spLEx 20)) (G_law_is_rest : Has P w K mg base CX0 "_law_is_rest" ["_law_text"] (lv + 1) spLRest) : Has P w K mg base CX0 "_law_is_test" P_law_is_test (lv + 2) spLTest := by
  refine D.has sc_law_is_test (fun vs H Q E h => ?_) (fun f cdv A outer s H vs Q E hr h => ?_)
  · obtain ⟨l, rfl, _⟩ := h
    rfl
  obtain ⟨l, rfl, hl, k⟩ := h
  dsimp only at k
  rw [testOf_B] at k
  refine ⟨_, (pss_cons (ps_set (i := 1) sc_law_is_test.nd rfl (Or.inl rfl) pe_int)
      (pss_cons (ps_while PassesOwn.never (pt_cmpR op_eq (pe_slice sl_str (pv 0) po_none (po_some pe_int)) pe_str (nomark _)) (pss_one (ps_par (i := 0) (j := 1) (by rfl) sc_law_is_test.nd rfl rfl (by decide) rfl rfl (pa_cons (pe_slice sl_str (pv 0) (po_some pe_int) po_none) (pa_cons (pe_op op_add (pv 1) pe_int) pa_nil)) (by rfl))))
      (pss_cons (ps_if (pt_cmpR op_gt (pv 1) pe_int (nomark _)) (pss_one (ps_ret pe_bl))
        pss_nil)
      (pss_cons (ps_if (pt_cmpR op_eq (pe_slice sl_str (pv 0) po_none (po_some pe_int)) pe_str (nomark _)) (pss_one (ps_ret (pe_f G_law_is_name (hr.mono (by omega)) (by rfl) pass0 (pa_cons (pe_slice sl_str (pv 0) (po_some pe_int) po_none) pa_nil))))
        pss_nil)
      (pss_cons (ps_if (pt_cmpR op_eq (pe_slice sl_str (pv 0) po_none (po_some pe_int)) pe_str (nomark _)) (pss_one (ps_ret (pe_f G_law_is_rest (hr.mono (by omega)) (by rfl) pass0 (pa_cons (pe_slice sl_str (pv 0) (po_some pe_int) po_none) pa_nil))))
        pss_nil)
      (pss_cons (ps_set (i := 2) sc_law_is_test.nd rfl (Or.inl rfl) (pe_m1 PySem.F.slot_str_split PySem.F.type_str_split m_split (pv 0) pe_str))
      (pss_one (ps_ret (pe_and (pe_cmpR op_eq (pe_callB c_len (by rfl) B.len (by decide +kernel) (pa_cons (pv 2) pa_nil)) pe_int (nomark _)) (pe_and (pe_f G_law_is_expr (hr.mono (by omega)) (by rfl) pass0 (pa_cons (pe_ix ix_list (pv 2) pe_int (fun _ _ => rfl)) (pa_cons pe_int pa_nil))) (pe_one (pe_f G_law_is_expr (hr.mono (by omega)) (by rfl) pass0 (pa_cons (pe_ix ix_list (pv 2) pe_int (fun _ _ => rfl)) (pa_cons pe_int pa_nil)))))))))))))), ?_⟩
  with_reducible refine r_seq ?_
  walk_at "rds"
  with_reducible refine r_seqJ (fun σ H' => σ = [some (.str (tx (stripN l.length l).2)), some (.int ((stripN l.length l).1 : Nat)), none] ∧ H' = H ∧ (stripN l.length l).2.length ≤ 1000000 ∧ (stripN l.length l).1 ≤ 1000000) (fun nx' kx => ?_) ?_
  · refine r_while (fun m σ H' => ∃ (f' i : Nat) (l' : List Nat), m = l'.length ∧ σ = [some (.str (tx l')), some (.int (i : Nat)), none] ∧ H' = H ∧ stripN l.length l = (i + (stripN f' l').1, (stripN f' l').2) ∧ l'.length ≤ f' ∧ i + l'.length ≤ l.length) l.length ⟨l.length, 0, l, rfl, rfl, rfl, by rw [Nat.zero_add], Nat.le_refl _, by omega⟩ ?_
    rintro m σ H1 ⟨f', i, l', rfl, rfl, rfl, hs, hf, hi⟩
    walk_at "rd"
    refine r_slS ?_ (by rw [tx_len, sizeLine_eq]; omega)
    have e0 := cutS_to l' 4
    rw [show ((4 : Nat) : Int) = 4 by rfl] at e0
    rw [e0]
    walk_at "rd"
    rw [tx_eq, show sg "not " = [110, 111, 116, 32] by decide +kernel]
    refine ifd (fun c1 => ?_) (fun c1 => ?_)
    · obtain ⟨g, rfl, hg⟩ := stripN_yes hf c1
      have h4 := take4_len c1
      have hd : (l'.drop 4).length = l'.length - 4 := List.length_drop
      refine r_turn ?_
      walk_at "rd"
      refine sl_str_from (k := 4) (by omega) ?_
      walk_at "rd"
      exact ⟨(l'.drop 4).length, by omega, g, i + 1, l'.drop 4, rfl, rfl, rfl, by rw [hs, hg]; simp only; congr 1; omega, by omega, by omega⟩
    · rw [stripN_no c1] at hs
      refine kx _ _ ⟨by rw [hs]; rfl, rfl, by rw [hs]; show l'.length ≤ _; omega, by rw [hs]; show i + 0 ≤ _; omega⟩
  rintro σ H1 ⟨rfl, rfl, b1, b2⟩
  generalize stripN l.length l = R at k b1 b2 ⊢
  obtain ⟨i, l'⟩ := R
  dsimp only at k b1 b2 ⊢
  walk_at "rd"
  refine ifd (fun c1 => ?_) (fun c1 => ?_)
  · walk_at "rd"
    have q := k H1 Kp.nil
    unfold testB at q
    rw [decide_eq_true (show i > 20 by omega)] at q
    exact q
  unfold testB at k
  rw [decide_eq_false (show ¬ i > 20 by omega)] at k
  have k : ∀ H', Kp [] H1 H' → Q (.bl (ptOf l').isSome) H' := k
  have hz : (tx l').length ≤ sizeLine := by rw [tx_len, sizeLine_eq]; omega
  walk_at "rd"
  refine r_slS ?_ hz
  have e4 := cutS_to l' 4
  rw [show ((4 : Nat) : Int) = 4 by rfl] at e4
  have e5 := cutS_to l' 5
  rw [show ((5 : Nat) : Int) = 5 by rfl] at e5
  rw [e4]
  rw [ptOf_eq] at k
  walk_at "rd"
  rw [tx_eq, show sg "set " = [115, 101, 116, 32] by decide +kernel]
  refine ifd (fun c2 => ?_) (fun c2 => ?_)
  · rw [if_pos c2] at k
    walk_at "rd"
    refine sl_str_from (k := 4) b1 ?_
    walk_at "rd"
    refine ⟨l'.drop 4, rfl, by rw [List.length_drop]; omega, fun H2 k2 => ?_⟩
    have q := k H2 k2
    cases hn : isNameT (l'.drop 4) with
    | true =>
      rw [hn, if_pos rfl] at q
      exact q
    | false =>
      rw [hn, if_neg Bool.false_ne_true] at q
      exact q
  rw [if_neg c2] at k
  walk_at "rd"
  refine r_slS ?_ hz
  rw [e5]
  walk_at "rd"
  rw [tx_eq, show sg "rest " = [114, 101, 115, 116, 32] by decide +kernel]
  refine ifd (fun c3 => ?_) (fun c3 => ?_)
  · rw [if_pos c3] at k
    walk_at "rd"
    refine sl_str_from (k := 5) b1 ?_
    walk_at "rd"
    exact ⟨l'.drop 5, rfl, by rw [List.length_drop]; omega, fun H2 k2 => k H2 k2⟩
  rw [if_neg c3] at k
  have hli := less_iff l'
  walk_at "rd"
  refine r_lessW b1 fun p hp => ?_
  have k2 : Kp [] H1 (upd H1 p (.lst ((lessW l').map fun z => V.str (tx z)))) := Kp.nil.new hp
  have u2 : upd H1 p (.lst ((lessW l').map fun z => V.str (tx z))) p = some (.lst ((lessW l').map fun z => V.str (tx z))) := upd_same
  generalize upd H1 p (.lst ((lessW l').map fun z => V.str (tx z))) = H2 at k2 u2 ⊢
  have kF : ¬ ((lessW l').length = 2 ∧ isEx 20 ((lessW l').getD 0 []) ∧ isEx 20 ((lessW l').getD 1 [])) → ∀ H', Kp [] H2 H' → Q (.bl false) H' := fun z H' k' => by
    have q := k H' (k2.trans k')
    have : (lessT l').isSome = false := by
      cases e : (lessT l').isSome with
      | false => rfl
      | true => exact absurd (hli.mp e) z
    rw [this] at q
    exact q
  have hwl : ∀ z ∈ lessW l', z.length ≤ l'.length := fun z hz => by
    have := spl_len [32, 60, 32] l' [] 0 z hz
    rw [List.length_nil] at this
    omega
  generalize lessW l' = W at u2 kF hwl hli ⊢
  walk_at "rd"
  rw [List.length_map]
  refine ifd (fun c4 => ?_) (fun c4 => ?_)
  rotate_left
  · walk_at "rd"
    exact kF (fun z => c4 (by rw [z.1]; rfl)) _ Kp.nil
  obtain ⟨a, b, rfl⟩ : ∃ a b, W = [a, b] := by
    have hw : W.length = 2 := by injection c4 with c4; omega
    match W, hw with
    | [a, b], _ => exact ⟨a, b, rfl⟩
  have i0 : atI (([a, b] : List (List Nat)).map fun z => V.str (tx z)) 0 = some (.str (tx a)) := atI_nat (j := 0) rfl
  have i1 : atI (([a, b] : List (List Nat)).map fun z => V.str (tx z)) 1 = some (.str (tx b)) := atI_nat (j := 1) rfl
  have la := hwl a (by simp)
  have lb := hwl b (by simp)
  walk_at "rd"
  refine ⟨a, rfl, by omega, fun H3 k3 => ?_⟩
  have u3 := k3.get u2 (by simp)
  cases ha : exB 20 a with
  | false =>
    walk_at "rd"
    refine kF (fun z => ?_) _ k3
    have y : isEx 20 a := z.2.1
    rw [exB_true y] at ha; cases ha
  | true =>
    walk_at "rd"
    refine ⟨b, rfl, by omega, fun H4 k4 => ?_⟩
    have q := k H4 ((k2.trans k3).trans k4)
    have : (lessT l').isSome = exB 20 b := by
      cases e : exB 20 b with
      | true => exact hli.mpr ⟨rfl, exB_iff.mp ha, exB_iff.mp e⟩
      | false =>
        cases e' : (lessT l').isSome with
        | false => rfl
        | true =>
          have y : isEx 20 b := (hli.mp e').2.2
          rw [exB_true y] at e
          cases e
    rw [this] at q
    exact q
abbrev s_law_is_line : Stmt := topS 89
abbrev N_law_is_line : List Str := ["_law_line_here", "_law_word", "_law_blank", "_law_rest", "_law_name", "_law_text"]
abbrev P_law_is_line : List Str := ["_law_line_here"]
theorem sc_law_is_line : FnScope N_law_is_line P_law_is_line (defScope s_law_is_line) :=
  ⟨rfl, rfl, rfl, by decide +kernel, rfl, by decide +kernel, by decide +kernel⟩
theorem ok_law_is_line (D : Df K mg "_law_is_line" s_law_is_line P_law_is_line) (B : Blt mg) {lv : Nat} (hlv : 2 ≤ lv) (G_law_is_word : Has P w K mg base CX0 "_law_is_word" ["_law_text"] 1 spLWord) (G_law_is_name : Has P w K mg base CX0 "_law_is_name" ["_law_text"] 2 spLName)
    (G_law_is_integer : Has P w K mg base CX0 "_law_is_integer" ["_law_text"] 1 spLInt)
    (G_law_is_expr : Has P w K mg base CX0 "_law_is_expr" ["_law_text", "_law_deep"] lv (spLEx 20)) (G_law_is_test : Has P w K mg base CX0 "_law_is_test" ["_law_text"] lv spLTest) : Has P w K mg base CX0 "_law_is_line" P_law_is_line (lv + 1) spLLine := by
  refine D.has sc_law_is_line (fun vs H Q E h => ?_) (fun f cdv A outer s H vs Q E hr h => ?_)
  · obtain ⟨l, rfl, _⟩ := h
    rfl
  obtain ⟨l, rfl, hl, k⟩ := h
  dsimp only at k
  have h1 := headL_le l
  have h2 := tailL_le l
  have h3 := headL_le (tailL l)
  have h4 := tailL_le (tailL l)
  rw [stmtOf_B] at k
  refine ⟨_, (pss_cons (ps_asg (pe_m1 PySem.F.slot_str_partition PySem.F.type_str_partition m_part (pv 0) pe_str) (pg_tup rfl (pgs_cons (pg_name (i := 1) sc_law_is_line.nd rfl (Or.inl rfl)) (pgs_cons (pg_name (i := 2) sc_law_is_line.nd rfl (Or.inl rfl)) (pgs_cons (pg_name (i := 3) sc_law_is_line.nd rfl (Or.inl rfl)) pgs_nil)))))
      (pss_cons (ps_if (pt_cmpR op_in_seq (pv 1) (pe_lst (pa_cons pe_str (pa_cons pe_str pa_nil))) (by rfl)) (pss_one (ps_ret (pe_f G_law_is_word (hr.mono (by omega)) (by rfl) pass0 (pa_cons (pv 3) pa_nil))))
        pss_nil)
      (pss_cons (ps_if (pt_cmpR op_eq (pv 1) pe_str (nomark _)) (pss_one (ps_ret (pe_f G_law_is_expr (hr.mono (by omega)) (by rfl) pass0 (pa_cons (pv 3) (pa_cons pe_int pa_nil)))))
        pss_nil)
      (pss_cons (ps_if (pt_cmpR op_eq (pv 1) pe_str (nomark _)) (pss_one (ps_ret (pe_f G_law_is_test (hr.mono (by omega)) (by rfl) pass0 (pa_cons (pv 3) pa_nil))))
        pss_nil)
      (pss_cons (ps_if (pt_cmpR op_eq (pv 1) pe_str (nomark _)) (pss_one (ps_ret (pe_f G_law_is_integer (hr.mono (by omega)) (by rfl) pass0 (pa_cons (pv 3) pa_nil))))
        pss_nil)
      (pss_cons (ps_asg (pe_m1 PySem.F.slot_str_partition PySem.F.type_str_partition m_part (pv 3) pe_str) (pg_tup rfl (pgs_cons (pg_name (i := 4) sc_law_is_line.nd rfl (Or.inl rfl)) (pgs_cons (pg_name (i := 2) sc_law_is_line.nd rfl (Or.inl rfl)) (pgs_cons (pg_name (i := 5) sc_law_is_line.nd rfl (Or.inl rfl)) pgs_nil)))))
      (pss_cons (ps_if (pt_cmpR op_eq (pv 1) pe_str (nomark _)) (pss_one (ps_ret (pe_f G_law_is_name (hr.mono (by omega)) (by rfl) pass0 (pa_cons (pv 3) pa_nil))))
        pss_nil)
      (pss_one (ps_ret (pe_and (pe_cmpR op_eq (pv 1) pe_str (nomark _)) (pe_and (pe_f G_law_is_name (hr.mono (by omega)) (by rfl) pass0 (pa_cons (pv 4) pa_nil)) (pe_one (pe_f G_law_is_expr (hr.mono (by omega)) (by rfl) pass0 (pa_cons (pv 5) (pa_cons pe_int pa_nil))))))))))))))), ?_⟩
  walk_at "rd"
  refine r_part1 hl fun p sp hp => ?_
  have k1 : Kp [] H (upd H p (.tup [.str (tx (headL l)), .str sp, .str (tx (tailL l))])) := Kp.nil.new hp
  have u1 : SqT K (upd H p (.tup [.str (tx (headL l)), .str sp, .str (tx (tailL l))])) p [.str (tx (headL l)), .str sp, .str (tx (tailL l))] := SqT.of upd_same
  generalize upd H p (.tup [.str (tx (headL l)), .str sp, .str (tx (tailL l))]) = H1 at k1 u1 ⊢
  unfold stmtB at k
  walk_at "rd"
  refine ⟨by simp [sizeLine_eq], fun q hq => ?_⟩
  have k2 : Kp [] H1 (upd H1 q (.lst [.str "say", .str "stop"])) := Kp.nil.new hq
  refine r_in (.inl (SqL.of upd_same)) rfl rfl ?_
  rw [inV_two]
  generalize upd H1 q (.lst [.str "say", .str "stop"]) = H2 at k2 ⊢
  have k02 := k1.trans k2
  by_cases c1 : (decide (tx (headL l) = "say") || decide (tx (headL l) = "stop")) = true
  · rw [c1, if_pos rfl] at k
    rw [c1]
    walk_at "rd"
    exact ⟨tailL l, rfl, by omega, fun H3 k3 => k H3 (k02.trans k3)⟩
  have c1 : (decide (tx (headL l) = "say") || decide (tx (headL l) = "stop")) = false := by
    cases z : (decide (tx (headL l) = "say") || decide (tx (headL l) = "stop")) with
    | false => rfl
    | true => exact absurd z c1
  rw [c1, if_neg Bool.false_ne_true] at k
  rw [c1]
  walk_at "rd"
  rw [dec_str]
  refine ifd (fun c2 => ?_) (fun c2 => ?_)
  · rw [if_pos c2] at k
    walk_at "rd"
    exact ⟨tailL l, rfl, by omega, fun H3 k3 => k H3 (k02.trans k3)⟩
  rw [if_neg c2] at k
  walk_at "rd"
  rw [dec_str]
  refine ifd (fun c3 => ?_) (fun c3 => ?_)
  · rw [if_pos c3] at k
    walk_at "rd"
    exact ⟨tailL l, rfl, by omega, fun H3 k3 => k H3 (k02.trans k3)⟩
  rw [if_neg c3] at k
  walk_at "rd"
  rw [dec_str]
  refine ifd (fun c4 => ?_) (fun c4 => ?_)
  · rw [if_pos c4] at k
    walk_at "rd"
    exact ⟨tailL l, rfl, by omega, fun H3 k3 => k H3 (k02.trans k3)⟩
  rw [if_neg c4] at k
  walk_at "rd"
  refine r_part1 (by omega) fun p3 sp3 hp3 => ?_
  have k3 : Kp [] H2 (upd H2 p3 (.tup [.str (tx (headL (tailL l))), .str sp3, .str (tx (tailL (tailL l)))])) := Kp.nil.new hp3
  have u3 : SqT K (upd H2 p3 (.tup [.str (tx (headL (tailL l))), .str sp3, .str (tx (tailL (tailL l)))])) p3 [.str (tx (headL (tailL l))), .str sp3, .str (tx (tailL (tailL l)))] := SqT.of upd_same
  generalize upd H2 p3 (.tup [.str (tx (headL (tailL l))), .str sp3, .str (tx (tailL (tailL l)))]) = H3 at k3 u3 ⊢
  have k03 := k02.trans k3
  walk_at "rd"
  rw [dec_str]
  refine ifd (fun c5 => ?_) (fun c5 => ?_)
  · rw [if_pos c5] at k
    walk_at "rd"
    exact ⟨tailL l, rfl, by omega, fun H4 k4 => k H4 (k03.trans k4)⟩
  rw [if_neg c5] at k
  walk_at "rd"
  rw [dec_str]
  refine ifd (fun c6 => ?_) (fun c6 => ?_)
  rotate_left
  · rw [decide_eq_false c6] at k
    walk_at "rd"
    exact k _ k03
  rw [decide_eq_true c6] at k
  walk_at "rd"
  refine ⟨headL (tailL l), rfl, by omega, fun H4 k4 => ?_⟩
  cases hn : isNameT (headL (tailL l)) with
  | false =>
    rw [hn] at k
    walk_at "rd"
    exact k _ (k03.trans k4)
  | true =>
    rw [hn] at k
    walk_at "rd"
    exact ⟨tailL (tailL l), rfl, by omega, fun H5 k5 => k _ ((k03.trans k4).trans k5)⟩
abbrev s_law_wrong_line : Stmt := topS 90
abbrev N_law_wrong_line : List Str := ["_law_lines_here", "_law_waits", "_law_heads", "_law_over", "_law_number", "_law_line_here", "_law_blanks", "_law_closed", "_law_word"]
abbrev P_law_wrong_line : List Str := ["_law_lines_here"]
theorem sc_law_wrong_line : FnScope N_law_wrong_line P_law_wrong_line (defScope s_law_wrong_line) :=
  ⟨rfl, rfl, rfl, by decide +kernel, rfl, by decide +kernel, by decide +kernel⟩
theorem ok_law_wrong_line (D : Df K mg "_law_wrong_line" s_law_wrong_line P_law_wrong_line) (B : Blt mg) {lv : Nat} (G_law_is_line : Has P w K mg base CX0 "_law_is_line" ["_law_line_here"] lv spLLine) : Has P w K mg base CX0 "_law_wrong_line" P_law_wrong_line (lv + 1) spWrong := by
  refine D.has sc_law_wrong_line (fun vs H Q E h => ?_) (fun f cdv A outer s H vs Q E hr h => ?_)
  · obtain ⟨a, ls, rfl, _⟩ := h
    rfl
  obtain ⟨a, ls, rfl, ha, hn, hlen, k⟩ := h
  refine ⟨_, (pss_cons (ps_par3 (i := 1) (j := 2) (l := 3) (by rfl) sc_law_wrong_line.nd rfl rfl rfl (by decide) (by decide) (by decide) rfl rfl rfl (pa_cons pe_int (pa_cons (pe_lst pa_nil) (pa_cons pe_bl pa_nil))) (by rfl))
      (pss_cons (ps_for PassesOwn.never rfl (pi_range1 (by rfl) B.range (pa_cons (pe_callB c_len (by rfl) B.len (by decide +kernel) (pa_cons (pv 0) pa_nil)) pa_nil)) (pg_name (i := 4) sc_law_wrong_line.nd rfl (Or.inl rfl))
        (pss_cons (ps_set (i := 5) sc_law_wrong_line.nd rfl (Or.inl rfl) (pe_m1 PySem.F.slot_str_lstrip PySem.F.type_str_lstrip m_lstrip (pe_ix ix_list (pv 0) (pv 4) (fun _ _ => rfl)) pe_str))
      (pss_cons (ps_set (i := 6) sc_law_wrong_line.nd rfl (Or.inl rfl) (pe_op op_sub (pe_callB c_len (by rfl) B.len (by decide +kernel) (pa_cons (pe_ix ix_list (pv 0) (pv 4) (fun _ _ => rfl)) pa_nil)) (pe_callB c_len (by rfl) B.len (by decide +kernel) (pa_cons (pv 5) pa_nil))))
      (pss_cons (ps_if (PW.pt (pw_and (pt_cmpR op_eq (pv 4) pe_int (nomark _)) (pw_and1 (pt_cmpR op_ne (pe_ix ix_list (pv 0) pe_int (fun _ _ => rfl)) pe_str (nomark _))))) (pss_one (ps_ret pe_int))
        pss_nil)
      (pss_one (ps_if (pt_cmpR op_gt (pv 4) pe_int (nomark _)) (pss_cons (ps_if (PW.pt (pw_or (pt_cmpR op_eq (pe_op op_mod (pe_callTy c_int (by rfl) B.int (by decide +kernel) (pa_cons (pv 6) pa_nil)) pe_int) pe_int (nomark _)) (pw_or1 (pt_cmpR op_gt (pv 6) (pe_op op_mul pe_int (pe_callB c_len (by rfl) B.len (by decide +kernel) (pa_cons (pv 2) pa_nil))) (nomark _))))) (pss_one (ps_ret (pv 4)))
        pss_nil)
      (pss_cons (ps_if (PW.pt (pw_and (pt_cmpR op_gt (pv 1) pe_int (nomark _)) (pw_and1 (pt_cmpR op_ne (pv 6) (pe_op op_mul pe_int (pe_callB c_len (by rfl) B.len (by decide +kernel) (pa_cons (pv 2) pa_nil))) (nomark _))))) (pss_one (ps_ret (pv 4)))
        pss_nil)
      (pss_cons (ps_set (i := 7) sc_law_wrong_line.nd rfl (Or.inl rfl) (pe_slice sl_list (pv 2) (po_some (pe_op op_fdiv (pv 6) pe_int)) po_none))
      (pss_cons (ps_set (i := 3) sc_law_wrong_line.nd rfl (Or.inl rfl) (pe_and (pv 3) (pe_one (pe_cmpR (op_eqNil hr.h64) (pv 7) (pe_lst pa_nil) (nomark _)))))
      (pss_cons (ps_set (i := 2) sc_law_wrong_line.nd rfl (Or.inl rfl) (pe_slice sl_list (pv 2) po_none (po_some (pe_op op_fdiv (pv 6) pe_int))))
      (pss_one (ps_if (PW.pt (pw_and (pt_cmpR op_eq (pv 5) pe_str (nomark _)) (pw_and1 (pt_cmpR (op_eqD hr.h64) (pe_slice sl_list (pv 7) po_none (po_some pe_int)) (pe_lst (pa_cons pe_str pa_nil)) (nomark _))))) (pss_one (ps_par (i := 2) (j := 1) (by rfl) sc_law_wrong_line.nd rfl rfl (by decide) rfl rfl (pa_cons (pe_op op_cat (pv 2) (pe_lst (pa_cons pe_str pa_nil))) (pa_cons pe_int pa_nil)) (by rfl)))
        (pss_one (ps_if (PW.pt (pw_and (pt_cmpR op_eq (pv 5) pe_str (nomark _)) (pw_and1 (pt_cmpR op_eq (pv 1) pe_int (nomark _))))) (pss_one (ps_asg (pe_tup (pa_cons pe_int (pa_cons pe_bl pa_nil))) (pg_tup rfl (pgs_cons (pg_name (i := 1) sc_law_wrong_line.nd rfl (Or.inl rfl)) (pgs_cons (pg_name (i := 3) sc_law_wrong_line.nd rfl (Or.inl rfl)) pgs_nil)))))
        (pss_one (ps_if (PW.pt (pw_or (pt_val (pv 3)) (pw_or1 (pt_not (pt_val (pe_f G_law_is_line (hr.mono (by omega)) (by rfl) pass0 (pa_cons (pv 5) pa_nil))))))) (pss_one (ps_ret (pv 4)))
        (pss_cons (ps_set (i := 8) sc_law_wrong_line.nd rfl (Or.inl rfl) (pe_ix ix_tup (pe_m1 PySem.F.slot_str_partition PySem.F.type_str_partition m_part (pv 5) pe_str) pe_int (fun _ _ => rfl)))
      (pss_cons (ps_set (i := 1) sc_law_wrong_line.nd rfl (Or.inl rfl) (pe_callTy c_int (by rfl) B.int (by decide +kernel) (pa_cons (pe_cmpR op_in_seq (pv 8) (pe_lst (pa_cons pe_str (pa_cons pe_str pa_nil))) (by rfl)) pa_nil)))
      (pss_one (ps_set (i := 2) sc_law_wrong_line.nd rfl (Or.inl rfl) (pe_op op_cat (pv 2) (pe_op op_rep (pe_lst (pa_cons (pv 8) pa_nil)) (pv 1))))))))))))))))))
        pss_nil))))))
      (pss_one (ps_ret (pe_ifExp (pt_cmpR op_gt (pv 1) pe_int (nomark _)) (pe_callB c_len (by rfl) B.len (by decide +kernel) (pa_cons (pv 0) pa_nil)) pe_non))))), ?_⟩
  walk_at "rd"
  refine ⟨by decide, fun hp hhp => ?_⟩
  have k1 : Kp [] H (upd H hp (.lst [])) := Kp.nil.new hhp
  have u1 : upd H hp (.lst []) hp = some (.lst (([] : List Str).map V.str)) := upd_same
  have a1 := k1.get ha (by simp)
  generalize upd H hp (.lst []) = H1 at k1 u1 a1 ⊢
  walk_at "rd"
  rw [List.length_map]
  refine r_ForR (fun i σ H' => ∃ (w : Nat) (hs : List Str) (ov : Bool) (hp : Addr) (x4 x5 x6 x7 x8 : Option V), σ = [some (.ref a), some (.int (w : Nat)), some (.ref hp), some (.bl ov), x4, x5, x6, x7, x8] ∧ Kp [] H H' ∧ H' hp = some (.lst (hs.map V.str)) ∧
    w ≤ 2 ∧ hs.length ≤ i ∧ (∀ x ∈ hs, HdW x) ∧ (i = 0 → w = 0 ∧ hs = [] ∧ ov = false) ∧ (1 ≤ i → wrongL ls = resL (lwL i (ls.drop i) (w, hs, ov)) ls.length)) (by omega) (by omega)
    ⟨0, [], false, hp, none, none, none, none, none, rfl, k1, u1, by omega, by simp, by simp, (fun _ => ⟨rfl, rfl, rfl⟩), (fun z => by omega)⟩ ?_ ?_
  · rintro i σ H2 hi ⟨w, hs, ov, hp2, x4, x5, x6, x7, x8, rfl, k2, u2, hw, hhs, hhw, h0, h1⟩
    have hi2 : i < ls.length := by omega
    have a2 := k2.get ha (by simp)
    have hl0 : ls[i]? = some (ls[i]'hi2) := List.getElem?_eq_getElem hi2
    have hmem : ls[i]'hi2 ∈ ls := List.getElem_mem hi2
    have hdrop : ls.drop i = ls[i]'hi2 :: ls.drop (i + 1) := List.drop_eq_getElem_cons hi2
    generalize ls[i]'hi2 = l at hl0 hmem hdrop
    have hll := hlen l hmem
    have hlst := lstr_le l
    have hix : atI (ls.map fun z => V.str (tx z)) ((i : Nat) : Int) = some (.str (tx l)) := atI_nat (by rw [List.getElem?_map, hl0]; rfl)
    have hz : (tx l).length ≤ sizeLine := by rw [tx_len, sizeLine_eq]; omega
    have hz2 : (tx (lstr l)).length ≤ sizeLine := by rw [tx_len, sizeLine_eq]; omega
    clear u1 a1 k1
    walk_at "rd"
    refine r_lstrip (by omega) ?_
    walk_at "rd"
    rotate_left
    · exact hz2
    · exact hz
    have hblk : ((tx l).length : Int) - ((tx (lstr l)).length : Int) = ((blk l : Nat) : Int) := by rw [tx_len, tx_len]; unfold blk; omega
    rw [hblk]
    by_cases hi0 : i = 0
    · subst hi0
      obtain ⟨rfl, rfl, rfl⟩ := h0 rfl
      refine ifd (fun _ => ?_) (fun c => absurd rfl c)
      have hix0 : atI (ls.map fun z => V.str (tx z)) 0 = some (.str (tx l)) := hix
      walk_at "rd"
      rw [dec_str]
      have hls : ls = l :: ls.drop 1 := by
        rw [List.drop_zero] at hdrop
        exact hdrop
      refine ifn (fun c => ?_) (fun c => ?_)
      · walk_at "rd"
        have q := k H2 k2
        rw [hls, wrongL_bad c] at q
        exact q
      · walk_at "rd"
        refine ⟨0, [], false, hp2, _, _, _, _, _, rfl, k2, u2, by omega, by simp, by simp, (fun z => by omega), fun _ => ?_⟩
        have e := wrongL_go (t := ls.drop 1) c
        rw [← hls] at e
        exact e
    have hi1 : ¬ V.int ((i : Nat) : Int) = V.int 0 := fun z => by injection z with z; omega
    refine ifd (fun c => absurd c hi1) (fun _ => ?_)
    have hgo := h1 (by omega)
    rw [hdrop] at hgo
    have hno : lwStep l w hs ov = none → ∀ H', Kp [] H H' → Q (.int ((i : Nat) : Int)) H' := fun e H' k' => by
      have q := k H' k'
      rw [hgo, lwL_no (s := (w, hs, ov)) e] at q
      exact q
    have hyes : ∀ s', lwStep l w hs ov = some s' → wrongL ls = resL (lwL (i + 1) (ls.drop (i + 1)) s') ls.length := fun s' e => by
      rw [hgo, lwL_yes (s := (w, hs, ov)) e]
    clear hgo h1 h0 hdrop hix hl0 hmem
    unfold lwStep at hno hyes
    have hB : blk l ≤ 1000000 := by unfold blk; omega
    generalize blk l = B at hno hyes hB ⊢
    generalize lstr l = t at hno hyes hz2 hlst ⊢
    walk_at "rd"
    refine ifd (fun _ => ?_) (fun c => absurd (by omega) c)
    walk_at "rd"
    have dB : (V.int (((B : Nat) : Int) % 2) = V.int 1) ↔ B % 2 = 1 := ⟨fun z => by injection z with z; omega, fun z => by rw [show ((B : Nat) : Int) % 2 = 1 by omega]⟩
    refine ifd (fun c1 => ?_) (fun c1 => ?_)
    · walk_at "rd"
      exact hno (if_pos (.inl (dB.mp c1))) _ k2
    have c1 : ¬ B % 2 = 1 := fun z => c1 (dB.mpr z)
    walk_at "rd"
    rw [List.length_map]
    refine ifd (fun c2 => ?_) (fun c2 => ?_)
    · walk_at "rd"
      exact hno (if_pos (.inr (by omega))) _ k2
    have n1 : ¬ (B % 2 = 1 ∨ 2 * hs.length < B) := by omega
    rw [if_neg n1] at hno hyes
    walk_at "rd"
    · exact c_mulL (by omega) (by omega)
    have e3 : (decide (0 < ((w : Nat) : Int)) && !decide (V.int ((B : Nat) : Int) = V.int (2 * (((hs.map V.str).length : Nat) : Int)))) = decide (0 < w ∧ B ≠ 2 * hs.length) := by
      rw [List.length_map]
      by_cases z1 : 0 < w
      · by_cases z2 : B = 2 * hs.length
        · rw [decide_eq_true (show 0 < ((w : Nat) : Int) by omega), decide_eq_true (show V.int ((B : Nat) : Int) = V.int (2 * ((hs.length : Nat) : Int)) by rw [show ((B : Nat) : Int) = 2 * ((hs.length : Nat) : Int) by omega]), decide_eq_false (show ¬ (0 < w ∧ B ≠ 2 * hs.length) from fun z => z.2 z2)]
          rfl
        · rw [decide_eq_true (show 0 < ((w : Nat) : Int) by omega), decide_eq_false (show ¬ V.int ((B : Nat) : Int) = V.int (2 * ((hs.length : Nat) : Int)) from fun z => by injection z with z; omega), decide_eq_true ⟨z1, z2⟩]
          rfl
      · rw [decide_eq_false (show ¬ 0 < ((w : Nat) : Int) by omega), decide_eq_false (show ¬ (0 < w ∧ B ≠ 2 * hs.length) from fun z => z1 z.1)]
        exact Bool.false_and _
    rw [e3]
    refine ifd (fun c3 => ?_) (fun c3 => ?_)
    · walk_at "rd"
      exact hno (if_pos c3) _ k2
    rw [if_neg c3] at hno hyes
    have hB2 : ((B : Nat) : Int) / 2 = ((B / 2 : Nat) : Int) := by omega
    walk_at "rd"
    refine r_slL (SqL.of u2) fun pc hpc => ?_
    rw [hB2, cutV_drop, ← List.map_drop]
    have k3 : Kp [] H2 (upd H2 pc (.lst ((hs.drop (B / 2)).map V.str))) := Kp.nil.new hpc
    have u3 := k3.get u2 (by simp)
    have v3 : upd H2 pc (.lst ((hs.drop (B / 2)).map V.str)) pc = some (.lst ((hs.drop (B / 2)).map V.str)) := upd_same
    generalize upd H2 pc (.lst ((hs.drop (B / 2)).map V.str)) = H3 at k3 u3 v3 ⊢
    walk_at "rds"
    with_reducible refine r_seqJ (fun σ H' => σ = [some (.ref a), some (.int (w : Nat)), some (.ref hp2), some (.bl (ov && (hs.drop (B / 2)).isEmpty)), some (.int (i : Nat)), some (.str (tx t)), some (.int (B : Nat)), some (.ref pc), x8] ∧ Kp [] H3 H') (fun nx' kn => ?_) ?_
    · walk_at "rd"
      cases ov with
      | false =>
        walk_at "rd"
        exact kn _ _ ⟨rfl, Kp.nil⟩
      | true =>
        walk_at "rd"
        refine ⟨by decide, fun q hq => ?_⟩
        have k4 : Kp [] H3 (upd H3 q (.lst [])) := Kp.nil.new hq
        refine r_eqNL (SqL.of (k4.get v3 (by simp))) (SqL.of upd_same) ?_
        rw [List.isEmpty_map]
        walk_at "rd"
        exact kn _ _ ⟨rfl, k4⟩
    rintro σ H4 ⟨rfl, k4⟩
    have u4 := k4.get u3 (by simp)
    have v4 := k4.get v3 (by simp)
    have k24 := (k2.trans k3).trans k4
    generalize hov : (ov && (hs.drop (B / 2)).isEmpty) = ov1 at hno hyes ⊢
    walk_at "rd"
    refine r_slL (SqL.of u4) fun ph hph => ?_
    rw [hB2, cutV_take, ← List.map_take]
    have k5 : Kp [] H4 (upd H4 ph (.lst ((hs.take (B / 2)).map V.str))) := Kp.nil.new hph
    have u5 : upd H4 ph (.lst ((hs.take (B / 2)).map V.str)) ph = some (.lst ((hs.take (B / 2)).map V.str)) := upd_same
    have v5 := k5.get v4 (by simp)
    generalize upd H4 ph (.lst ((hs.take (B / 2)).map V.str)) = H5 at k5 u5 v5 ⊢
    have k25 := k24.trans k5
    refine r_name ?_
    dsimp only
    have hxt : ∀ x ∈ hs.take (B / 2), HdW x := fun x hx => hhw x (List.mem_of_mem_take hx)
    have hlt : (hs.take (B / 2)).length ≤ i := by rw [List.length_take]; omega
    with_reducible refine r_ifST (fun b H' => b = decide (tx t = "else" ∧ (hs.drop (B / 2)).take 1 = [("if" : Str)]) ∧ Kp [] H5 H') (fun R kR => ?_) (fun H6 j6 => ?_) (fun H6 j6 => ?_)
    · walk_at "rd"
      rw [dec_str]
      refine ifd (fun c4 => ?_) (fun c4 => ?_)
      rotate_left
      · exact kR _ _ ⟨(decide_eq_false (fun z => c4 z.1)).symm, Kp.nil⟩
      walk_at "rd"
      refine r_slL (SqL.of v5) fun pd hpd => ?_
      have cv := cutV_take ((hs.drop (B / 2)).map V.str) 1
      rw [show ((1 : Nat) : Int) = 1 by rfl] at cv
      rw [cv, ← List.map_take]
      have k6 : Kp [] H5 (upd H5 pd (.lst (((hs.drop (B / 2)).take 1).map V.str))) := Kp.nil.new hpd
      have u6 : upd H5 pd (.lst (((hs.drop (B / 2)).take 1).map V.str)) pd = some (.lst (((hs.drop (B / 2)).take 1).map V.str)) := upd_same
      generalize upd H5 pd (.lst (((hs.drop (B / 2)).take 1).map V.str)) = H6 at k6 u6 ⊢
      walk_at "rd"
      refine ⟨by simp [sizeLine_eq], fun pe hpe => ?_⟩
      have k7 : Kp [] H6 (upd H6 pe (.lst [.str "if"])) := Kp.nil.new hpe
      have u7 := k7.get u6 (by simp)
      refine r_eqIf (SqL.of u7) (SqL.of upd_same) (by rw [List.length_take]; omega) (fun x hx => hhw x (List.mem_of_mem_drop (List.mem_of_mem_take hx))) ?_
      generalize upd H6 pe (.lst [.str "if"]) = H7 at k7 u7 ⊢
      walk_at "rd"
      refine kR _ _ ⟨?_, k6.trans k7⟩
      exact decide_eq_decide.mpr ⟨fun z => ⟨c4, z⟩, fun z => z.2⟩
    · obtain ⟨j6, k6⟩ := j6
      have c5 := of_decide_eq_true j6.symm
      have hy := hyes _ (if_pos c5)
      have u6 := k6.get u5 (by simp)
      walk_at "rd"
      refine ⟨by simp [sizeLine_eq], fun pe hpe => ?_⟩
      have k7 : Kp [] H6 (upd H6 pe (.lst [.str "else"])) := Kp.nil.new hpe
      have u7 := k7.get u6 (by simp)
      have w7 : upd H6 pe (.lst [.str "else"]) pe = some (.lst [.str "else"]) := upd_same
      generalize upd H6 pe (.lst [.str "else"]) = H7 at k7 u7 w7 ⊢
      refine r_cat u7 w7 (by rw [List.length_map, sizeLine_eq]; simp only [List.length_cons, List.length_nil]; omega) fun pn hpn => ?_
      have k8 : Kp [] H7 (upd H7 pn (.lst ((hs.take (B / 2)).map V.str ++ [.str "else"]))) := Kp.nil.new hpn
      have u8 : upd H7 pn (.lst ((hs.take (B / 2)).map V.str ++ [.str "else"])) pn = some (.lst ((hs.take (B / 2) ++ [("else" : Str)]).map V.str)) := by rw [List.map_append]; exact upd_same
      generalize upd H7 pn (.lst ((hs.take (B / 2)).map V.str ++ [.str "else"])) = H8 at k8 u8 ⊢
      walk_at "rd"
      exact ⟨2, hs.take (B / 2) ++ [("else" : Str)], ov1, pn, _, _, _, _, _, rfl, ((k25.trans k6).trans k7).trans k8, u8, by omega, by rw [List.length_append]; simp only [List.length_cons, List.length_nil]; omega, (fun x hx => by
        rcases List.mem_append.mp hx with z | z
        · exact hxt x z
        · rw [List.mem_singleton.mp z]; exact .inr (.inr rfl)), (fun z => by omega), fun _ => hy⟩
    · obtain ⟨j6, k6⟩ := j6
      have c5 := of_decide_eq_false j6.symm
      rw [if_neg c5] at hno hyes
      have u6 := k6.get u5 (by simp)
      have k26 := k25.trans k6
      have e6 : (decide (V.str (tx t) = V.str "pass") && decide (V.int ((w : Nat) : Int) = V.int 1)) = decide (tx t = "pass" ∧ w = 1) := by
        rw [dec_str]
        by_cases z1 : tx t = "pass"
        · by_cases z2 : w = 1
          · rw [decide_eq_true z1, decide_eq_true (show V.int ((w : Nat) : Int) = V.int 1 by rw [z2]; rfl), decide_eq_true ⟨z1, z2⟩]
            rfl
          · rw [decide_eq_false (show ¬ V.int ((w : Nat) : Int) = V.int 1 from fun z => by injection z with z; omega), decide_eq_false (show ¬ (tx t = "pass" ∧ w = 1) from fun z => z2 z.2)]
            exact Bool.and_false _
        · rw [decide_eq_false z1, decide_eq_false (show ¬ (tx t = "pass" ∧ w = 1) from fun z => z1 z.1)]
          exact Bool.false_and _
      walk_at "rd"
      rw [e6]
      refine ifd (fun c6 => ?_) (fun c6 => ?_)
      · have hy := hyes _ (if_pos c6)
        walk_at "rd"
        refine ⟨by simp [sizeLine_eq], fun pq hpq => ?_⟩
        have k7 : Kp [] H6 (upd H6 pq (.tup [.int 0, .bl true])) := Kp.nil.new hpq
        have u7 := k7.get u6 (by simp)
        refine r_gtup (SqT.of upd_same) (by rfl) ?_
        generalize upd H6 pq (.tup [.int 0, .bl true]) = H7 at k7 u7 ⊢
        walk_at "rd"
        exact ⟨0, hs.take (B / 2), true, ph, _, _, _, _, _, rfl, k26.trans k7, u7, by omega, by omega, hxt, (fun z => by omega), fun _ => hy⟩
      rw [if_neg c6] at hno hyes
      walk_at "rd"
      clear hov
      cases ov1 with
      | true =>
        walk_at "rd"
        exact hno (if_pos (.inl rfl)) _ k26
      | false =>
        walk_at "rd"
        refine ⟨t, rfl, by omega, fun H7 k7 => ?_⟩
        have k27 := k26.trans k7
        have u7 := k7.get u6 (by simp)
        change Bl _ (V.bl (stmtOf t).isSome) _
        cases hst : stmtOf t with
        | none =>
          rw [Option.isSome_none]
          walk_at "rd"
          exact hno (if_pos (.inr hst)) _ k27
        | some x =>
          rw [Option.isSome_some]
          have hx3 : ¬ (false = true ∨ stmtOf t = none) := fun z => by
            rcases z with z | z
            · cases z
            · rw [hst] at z; cases z
          rw [if_neg hx3] at hno hyes
          walk_at "rd"
          refine r_part1 (by omega) fun pp sp hpp => ?_
          have k8 : Kp [] H7 (upd H7 pp (.tup [.str (tx (headL t)), .str sp, .str (tx (tailL t))])) := Kp.nil.new hpp
          have u8 := k8.get u7 (by simp)
          have w8 : upd H7 pp (.tup [.str (tx (headL t)), .str sp, .str (tx (tailL t))]) pp = some (.tup [.str (tx (headL t)), .str sp, .str (tx (tailL t))]) := upd_same
          generalize upd H7 pp (.tup [.str (tx (headL t)), .str sp, .str (tx (tailL t))]) = H8 at k8 u8 w8 ⊢
          generalize tx (tailL t) = tl at w8
          generalize tx (headL t) = wd at w8 hno hyes
          walk_at "rd"
          refine ⟨by simp [sizeLine_eq], fun pq hpq => ?_⟩
          have k9 : Kp [] H8 (upd H8 pq (.lst [.str "if", .str "repeat"])) := Kp.nil.new hpq
          have u9 := k9.get u8 (by simp)
          refine r_in (.inl (SqL.of upd_same)) rfl rfl ?_
          rw [inV_head]
          generalize upd H8 pq (.lst [.str "if", .str "repeat"]) = H9 at k9 u9 ⊢
          have k29 := (k27.trans k8).trans k9
          cases hh : isHead wd with
          | true =>
            have hy := hyes _ (if_pos hh)
            walk_at "rd"
            refine ⟨by simp [sizeLine_eq], fun pr hpr => ?_⟩
            have ka : Kp [] H9 (upd H9 pr (.lst [.str wd])) := Kp.nil.new hpr
            have ua := ka.get u9 (by simp)
            have wa : upd H9 pr (.lst [.str wd]) pr = some (.lst [.str wd]) := upd_same
            generalize upd H9 pr (.lst [.str wd]) = Ha at ka ua wa ⊢
            walk_at "rd"
            refine r_rep wa (by decide) (by decide) (by simp) fun ps hps => ?_
            have kb : Kp [] Ha (upd Ha ps (.lst [.str wd])) := Kp.nil.new hps
            have ub := kb.get ua (by simp)
            have wb : upd Ha ps (.lst [.str wd]) ps = some (.lst [.str wd]) := upd_same
            change rCat _ _ (upd Ha ps (.lst [.str wd])) _
            generalize upd Ha ps (.lst [.str wd]) = Hb at kb ub wb ⊢
            refine r_cat ub wb (by rw [List.length_map, sizeLine_eq]; simp only [List.length_cons, List.length_nil]; omega) fun pn hpn => ?_
            have kc : Kp [] Hb (upd Hb pn (.lst ((hs.take (B / 2)).map V.str ++ [.str wd]))) := Kp.nil.new hpn
            have uc : upd Hb pn (.lst ((hs.take (B / 2)).map V.str ++ [.str wd])) pn = some (.lst ((hs.take (B / 2) ++ [wd]).map V.str)) := by rw [List.map_append]; exact upd_same
            generalize upd Hb pn (.lst ((hs.take (B / 2)).map V.str ++ [.str wd])) = Hc at kc uc ⊢
            walk_at "rd"
            exact ⟨1, hs.take (B / 2) ++ [wd], false, pn, _, _, _, _, _, rfl, ((k29.trans ka).trans kb).trans kc, uc, by omega, by rw [List.length_append]; simp only [List.length_cons, List.length_nil]; omega, (fun x hx => by
              rcases List.mem_append.mp hx with z | z
              · exact hxt x z
              · rw [List.mem_singleton.mp z]
                unfold isHead at hh
                rw [Bool.or_eq_true, decide_eq_true_eq, decide_eq_true_eq] at hh
                rcases hh with y | y
                · exact .inl y
                · exact .inr (.inl y)), (fun z => by omega), fun _ => hy⟩
          | false =>
            have hy := hyes _ (if_neg (by rw [hh]; exact Bool.false_ne_true))
            walk_at "rd"
            refine ⟨by simp [sizeLine_eq], fun pr hpr => ?_⟩
            have ka : Kp [] H9 (upd H9 pr (.lst [.str wd])) := Kp.nil.new hpr
            have ua := ka.get u9 (by simp)
            have wa : upd H9 pr (.lst [.str wd]) pr = some (.lst [.str wd]) := upd_same
            generalize upd H9 pr (.lst [.str wd]) = Ha at ka ua wa ⊢
            walk_at "rd"
            refine r_rep wa (by decide) (by decide) (by simp) fun ps hps => ?_
            have kb : Kp [] Ha (upd Ha ps (.lst [])) := Kp.nil.new hps
            have ub := kb.get ua (by simp)
            have wb : upd Ha ps (.lst []) ps = some (.lst []) := upd_same
            change rCat _ _ (upd Ha ps (.lst [])) _
            generalize upd Ha ps (.lst []) = Hb at kb ub wb ⊢
            refine r_cat ub wb (by rw [List.length_map, sizeLine_eq]; simp only [List.length_nil]; omega) fun pn hpn => ?_
            rw [List.append_nil]
            have kc : Kp [] Hb (upd Hb pn (.lst ((hs.take (B / 2)).map V.str))) := Kp.nil.new hpn
            have uc : upd Hb pn (.lst ((hs.take (B / 2)).map V.str)) pn = some (.lst ((hs.take (B / 2)).map V.str)) := upd_same
            generalize upd Hb pn (.lst ((hs.take (B / 2)).map V.str)) = Hc at kc uc ⊢
            walk_at "rd"
            exact ⟨0, hs.take (B / 2), false, pn, _, _, _, _, _, rfl, ((k29.trans ka).trans kb).trans kc, uc, by omega, by omega, hxt, (fun z => by omega), fun _ => hy⟩
    all_goals first | exact c_mulL (by omega) (by omega) | exact c_div (by omega) (by omega) | omega
  · rintro σ H2 ⟨w, hs, ov, hp2, x4, x5, x6, x7, x8, rfl, k2, u2, hw, hhs, hhw, h0, h1⟩
    rw [Int.toNat_natCast] at hhs h0 h1
    have a2 := k2.get ha (by simp)
    have q := k H2 k2
    by_cases hl0 : ls.length = 0
    · obtain rfl := List.length_eq_zero_iff.mp hl0
      obtain ⟨rfl, _, _⟩ := h0 rfl
      walk_at "rd"
      exact q
    · rw [h1 (by omega), List.drop_length, lwL, resL] at q
      walk_at "rd"
      refine ifd (fun c => ?_) (fun c => ?_)
      · rw [if_pos (by show 0 < w; omega)] at q
        walk_at "rd"
        rw [List.length_map]
        exact q
      · rw [if_neg (by show ¬ 0 < w; omega)] at q
        walk_at "rd"
        exact q
abbrev s_law_read_right : Stmt := topS 94
abbrev N_law_read_right : List Str := ["_law_text", "_law_wrong", "_law_found"]
abbrev P_law_read_right : List Str := ["_law_text"]
theorem sc_law_read_right : FnScope N_law_read_right P_law_read_right (defScope s_law_read_right) :=
  ⟨rfl, rfl, rfl, by decide +kernel, rfl, by decide +kernel, by decide +kernel⟩
theorem ok_law_read_right (D : Df K mg "_law_read_right" s_law_read_right P_law_read_right) (B : Blt mg) (hM : ∃ mm, base.Ns sysModules mm) {lv : Nat} (hlv : 20 ≤ lv)
    (G_law_wrong_line : Has P w K mg base CX0 "_law_wrong_line" ["_law_lines_here"] lv spWrong) (G_law_parsed : Has P w K mg base CX0 "_law_parsed" ["_law_text"] lv (spParsed K))
    (Gprogram_error : Has P w K mg base CX0 "program_error" ["value"] lv (spPerr K)) (G_law_lines : Has P w K mg base CX0 "_law_lines" ["_law_block_here", "_law_ahead"] lv (spLines K 4)) :
    Has P w K mg base CX0 "_law_read_right" P_law_read_right (lv + 1) spRight := by
  refine D.has sc_law_read_right (fun vs H Q E h => ?_) (fun f cdv A outer s H vs Q E hr h => ?_)
  · obtain ⟨l, rfl, _⟩ := h
    rfl
  obtain ⟨l, rfl, hl, k⟩ := h
  have hmany := linesT_many l
  have hlen := linesT_len l
  refine ⟨_, (pss_cons (ps_par (i := 1) (j := 2) (by rfl) sc_law_read_right.nd rfl rfl (by decide) rfl rfl (pa_cons (pe_f G_law_wrong_line (hr.mono (by omega)) (by rfl) pass0 (pa_cons (pe_m1 PySem.F.slot_str_split PySem.F.type_str_split m_split (pv 0) pe_str) pa_nil)) (pa_cons (pe_f G_law_parsed (hr.mono (by omega)) (by rfl) pass0 (pa_cons (pv 0) pa_nil)) pa_nil)) (by rfl))
      (pss_cons (ps_if (pt_cmpR op_notN (pv 1) pe_non (nomark _)) (pss_one (ps_ret (pe_cmpR op_eq (pe_callB (c_repr3 hr hM) (by rfl) B.repr (by decide +kernel) (pa_cons (pv 2) pa_nil)) (pe_callB (c_repr3 hr hM) (by rfl) B.repr (by decide +kernel) (pa_cons (pe_lst (pa_cons pe_str (pa_cons (pv 1) pa_nil))) pa_nil)) (nomark _))))
        pss_nil)
      (pss_cons (ps_if (pt_cmpR op_eq (pe_ix ix_list (pv 2) pe_int (fun _ _ => rfl)) pe_str (nomark _)) (pss_one (ps_ret (pe_and (pe_cmpR op_isN (pe_f Gprogram_error (hr.mono (by omega)) (by rfl) pass0 (pa_cons (pe_ix ix_list (pv 2) pe_int (fun _ _ => rfl)) pa_nil)) pe_non (nomark _)) (pe_one (pe_cmpR op_eq (pe_join pe_str (pe_op op_cat (pe_lst (pa_cons pe_str pa_nil)) (pe_f G_law_lines (hr.mono (by omega)) (by rfl) pass0 (pa_cons (pe_ix ix_list (pv 2) pe_int (fun _ _ => rfl)) (pa_cons pe_str pa_nil))))) (pv 0) (nomark _))))))
        pss_nil)
      (pss_one (ps_ret (pe_and (pe_cmpR op_eq (pe_ix ix_list (pv 2) pe_int (fun _ _ => rfl)) pe_str (nomark _)) (pe_one (pe_cmpR op_notN (pe_ix ix_list (pv 2) pe_int (fun _ _ => rfl)) pe_non (nomark _))))))))), ?_⟩
  walk_at "rd"
  refine r_split1 (by omega) fun pl hpl => ?_
  have k1 : Kp [] H (upd H pl (.lst ((linesT l).map fun z => V.str (tx z)))) := Kp.nil.new hpl
  have u1 : upd H pl (.lst ((linesT l).map fun z => V.str (tx z))) pl = some (.lst ((linesT l).map fun z => V.str (tx z))) := upd_same
  generalize upd H pl (.lst ((linesT l).map fun z => V.str (tx z))) = H1 at k1 u1 ⊢
  refine ⟨pl, linesT l, rfl, u1, by omega, fun z hz => by have := hlen z hz; omega, fun H2 k2 => ?_⟩
  walk_at "rd"
  refine ⟨l, rfl, by omega, by omega, fun rs hrs => ?_, fun H3 pf xf k3 hpf hef hxf => ?_⟩
  · obtain ⟨b, _, hz, _⟩ := read_again hrs
    omega
  have k13 := (k1.trans k2).trans k3
  have hne : linesT l ≠ [] := by
    obtain ⟨h, t, e⟩ := linesT_ne l
    rw [e]
    simp
  rw [wrong_eq hne]
  cases hp : parseL (linesT l) with
  | text i =>
    rw [parsed_text hp] at hxf
    change tNil _ H3 _
    have e : oiV (Option.map (fun n => ((n : Nat) : Int)) (Pr.text i).wrong) = .int ((i : Nat) : Int) := rfl
    rw [e]
    walk_at "rd"
    refine ⟨rfl, ?_⟩
    rw [decide_eq_false (show ¬ V.int ((i : Nat) : Int) = V.non from fun z => by cases z)]
    walk_at "rd"
    have shT := shw_textW "text" i (Sok.lit (by decide +kernel)) (by have := parse_le hp; omega)
    refine r_repr3 (dw_list hef hxf) shT (by omega) (by omega) ?_
    walk_at "rd"
    refine ⟨by simp [sizeLine_eq], fun pg hpg => ?_⟩
    have kg : Kp [] H3 (upd H3 pg (.lst [.str "text", .int ((i : Nat) : Int)])) := Kp.nil.new hpg
    walk_at "rd"
    refine r_repr3 (dw_list upd_same (DtL.cons (.str _) (DtL.cons (.int _) DtL.nil))) shT (by omega) (by omega) ?_
    walk_at "rd"
    exact k _ (k13.trans kg)
  | rows rs =>
    obtain ⟨b, hb, hz, ht⟩ := read_again hp
    change tNil _ H3 _
    have e : oiV (Option.map (fun n => ((n : Nat) : Int)) (Pr.rows rs).wrong) = .non := rfl
    rw [e]
    by_cases he : perr (.tuple (rs.map PyData.tuple)) = .none
    · rw [parsed_ok hp he] at hxf
      obtain ⟨v0, v1, rfl, hv0, hv1⟩ := hxf.two
      obtain rfl := hv0.isStr
      have ix0 : atI [V.str "ok", v1] 0 = some (V.str "ok") := rfl
      have ix1 : atI [V.str "ok", v1] 1 = some v1 := rfl
      walk_at "rd"
      refine ⟨rfl, ?_⟩
      rw [decide_eq_true (show V.non = V.non from rfl)]
      walk_at "rd"
      obtain ⟨b', hb', hvd, hsz, _⟩ := perr_none he
      have hbb : b = b' := by
        injection hb' with z
        exact Sm.ds_inj (by rw [← hb, ← z])
      subst hbb
      rw [hb] at hv1 hz he
      refine ⟨v1, _, rfl, hv1.dw, by omega, fun H4 r4 k4 hr4 => ?_⟩
      rw [he] at hr4
      obtain rfl := hr4.isNone
      have hef4 := k4.get hef (by simp)
      walk_at "rd"
      refine ⟨rfl, ?_⟩
      rw [decide_eq_true (show V.non = V.non from rfl)]
      walk_at "rd"
      refine ⟨by simp [sizeLine_eq], fun p6 hp6 => ?_⟩
      have k6 : Kp [] H4 (upd H4 p6 (.lst [.str "program"])) := Kp.nil.new hp6
      have h6 : upd H4 p6 (.lst [.str "program"]) p6 = some (.lst [.str "program"]) := upd_same
      have hef6 := k6.get hef4 (by simp)
      generalize upd H4 p6 (.lst [.str "program"]) = H6 at k6 h6 hef6 ⊢
      walk_at "rd"
      have hb4 : ∀ s ∈ b, Sm.ok 4 s := fun s hs => Sm.vd.ok' (hvd s hs)
      have hall := Sm.all_ok 4 "" 0 (Sok.lit (by decide +kernel)) b hb4
      refine ⟨v1, b, "", rfl, (hv1.kp k4).kp k6, hb4, by omega, Sok.lit (by decide +kernel), by omega, fun H7 q k7 nq h7 => ?_⟩
      have h67 := k7.get h6 (by simp)
      refine r_cat h67 h7 (by have := hall.1; walk_at "sz") fun p8 hp8 => ?_
      have k8 : Kp [] H7 (upd H7 p8 (.lst ([V.str "program"] ++ List.map V.str (Sm.all "" b)))) := Kp.nil.new hp8
      have lok : ∀ z ∈ ("program" : Str) :: Sm.all "" b, Sok z 318 := by
        intro z hz
        rcases List.mem_cons.mp hz with rfl | hz
        · exact Sok.lit (by decide +kernel)
        · exact hall.2 z hz
      have ll : (("program" : Str) :: Sm.all "" b).length ≤ 300 := by
        have := hall.1
        rw [List.length_cons]
        omega
      refine ⟨"\n", p8, "program" :: Sm.all "" b, rfl, rfl, .inl (SqL.of upd_same), ?_, ?_⟩
      · have e1 : ("\n" : Str).length = 1 := by decide +kernel
        have q := sum_len lok
        rw [e1]
        omega
      generalize upd H7 p8 (.lst ([V.str "program"] ++ List.map V.str (Sm.all "" b))) = H8 at k8 ⊢
      rw [show Txt.join "\n" ("program" :: Sm.all "" b) = tx l from ht.symm]
      walk_at "rd"
      exact k _ ((((k13.trans k4).trans k6).trans k7).trans k8)
    · rw [parsed_bad hp he] at hxf
      obtain ⟨v0, v1, rfl, hv0, hv1⟩ := hxf.two
      obtain rfl := hv0.isStr
      have ix0 : atI [V.str "program", v1] 0 = some (V.str "program") := rfl
      have ix1 : atI [V.str "program", v1] 1 = some v1 := rfl
      walk_at "rd"
      refine ⟨rfl, ?_⟩
      rw [decide_eq_true (show V.non = V.non from rfl)]
      walk_at "rd"
      refine ⟨rfl, ?_⟩
      rw [decide_eq_false (hv1.ne_none he)]
      exact k _ k13
abbrev s_law_changed : Stmt := topS 91
abbrev N_law_changed : List Str := ["_law_deck_here", "_law_text", "_law_pool", "_law_at", "_law_sign", "_law_way"]
abbrev P_law_changed : List Str := ["_law_deck_here", "_law_text", "_law_pool"]
theorem sc_law_changed : FnScope N_law_changed P_law_changed (defScope s_law_changed) :=
  ⟨rfl, rfl, rfl, by decide +kernel, rfl, by decide +kernel, by decide +kernel⟩
theorem ok_law_changed (D : Df K mg "_law_changed" s_law_changed P_law_changed) (B : Blt mg)
    (G_law_draw : Has P w K mg base CX0 "_law_draw" ["_law_deck_here", "_law_many"] 1 spDraw) (G_law_one : Has P w K mg base CX0 "_law_one" ["_law_deck_here", "_law_items"] 2 (spOne K)) :
    Has P w K mg base CX0 "_law_changed" P_law_changed 3 (spChanged K) := by
  refine D.has sc_law_changed (fun vs H Q E h => ?_) (fun f cdv A outer s H vs Q E hr h => ?_)
  · obtain ⟨d, c, n, z, p, rfl, _⟩ := h
    rfl
  obtain ⟨d, c, n, z, p, rfl, D0, hn, hz, hp1, hp2, k⟩ := h
  obtain ⟨l, rfl⟩ : ∃ l, z = tx l := ⟨sg z, (tx_sg z).symm⟩
  rw [tx_len] at hz
  have n0 := D0.n0
  have hzl : (tx l).length ≤ sizeLine := by rw [tx_len, sizeLine_eq]; omega
  refine ⟨_, (pss_cons (ps_par (i := 3) (j := 4) (by rfl) sc_law_changed.nd rfl rfl (by decide) rfl rfl (pa_cons (pe_f G_law_draw (hr.mono (by omega)) (by rfl) pass0 (pa_cons (pv 0) (pa_cons (pe_op op_add (pe_callB c_len (by rfl) B.len (by decide +kernel) (pa_cons (pv 1) pa_nil)) pe_int) pa_nil))) (pa_cons (pe_f G_law_one (hr.mono (by omega)) (by rfl) pass0 (pa_cons (pv 0) (pa_cons (pv 2) pa_nil))) pa_nil)) (by rfl))
      (pss_cons (ps_set (i := 5) sc_law_changed.nd rfl (Or.inl rfl) (pe_f G_law_draw (hr.mono (by omega)) (by rfl) pass0 (pa_cons (pv 0) (pa_cons pe_int pa_nil))))
      (pss_cons (ps_if (pt_cmpR op_eq (pv 5) pe_int (nomark _)) (pss_one (ps_ret (pe_op op_addS (pe_slice sl_str (pv 1) po_none (po_some (pv 3))) (pe_slice sl_str (pv 1) (po_some (pe_op op_add (pv 3) pe_int)) po_none))))
        pss_nil)
      (pss_cons (ps_if (PW.pt (pw_and (pt_cmpR op_eq (pv 5) pe_int (nomark _)) (pw_and1 (pt_cmpR op_lt (pv 3) (pe_callB c_len (by rfl) B.len (by decide +kernel) (pa_cons (pv 1) pa_nil)) (nomark _))))) (pss_one (ps_ret (pe_op op_addS (pe_op op_addS (pe_slice sl_str (pv 1) po_none (po_some (pv 3))) (pe_ix ix_str (pv 1) (pv 3) (fun _ _ => rfl))) (pe_slice sl_str (pv 1) (po_some (pv 3)) po_none))))
        pss_nil)
      (pss_one (ps_ret (pe_op op_addS (pe_op op_addS (pe_slice sl_str (pv 1) po_none (po_some (pv 3))) (pv 4)) (pe_slice sl_str (pv 1) (po_some (pe_op op_add (pv 3) (pe_callTy c_int (by rfl) B.int (by decide +kernel) (pa_cons (pe_cmpR op_eq (pv 5) pe_int (nomark _)) pa_nil)))) po_none)))))))), ?_⟩
  walk_at "rd"
  rotate_left
  · exact hzl
  refine spDraw.use D0 (by omega) (by omega) (by rw [tx_len]; omega) fun H1 u u0 u1 D1 k1 => ?_
  walk_at "rd"
  refine spOne.text D1 (by omega) hp1 (by omega) fun H2 i hi D2 k2 => ?_
  walk_at "rd"
  refine spDraw.use D2 (by omega) (by omega) (by omega) fun H3 wy w0 w1 D3 k3 => ?_
  rw [tx_len] at u1
  obtain ⟨a, rfl, ha⟩ : ∃ a : Nat, u = (a : Int) ∧ a ≤ l.length := ⟨u.toNat, by omega, by omega⟩
  have k03 := (k1.trans k2).trans k3
  have fin : ∀ y : Str, y.length ≤ l.length + 1 → Q (.str y) H3 := fun y hy => k H3 y (by rw [tx_len]; exact hy) (by rw [show n + 3 = n + 1 + 1 + 1 by omega]; exact D3) k03
  have e1 : ((a : Nat) : Int) + 1 = ((a + 1 : Nat) : Int) := by omega
  have lt : (l.take a).length = a := by rw [List.length_take]; omega
  have ld : ∀ j, (l.drop j).length = l.length - j := fun j => List.length_drop
  walk_at "rd"
  refine ifd (fun c0 => ?_) (fun c0 => ?_)
  · walk_at "rd"
    refine r_slS ?_ hzl
    rw [cutS_to]
    walk_at "rd"
    refine r_slS ?_ hzl
    rw [e1, cutS_from]
    refine r_addS (fin _ ?_) ?_
    · rw [Str.length_append, tx_len, tx_len, lt, ld]; omega
    · rw [tx_len, tx_len, lt, ld, sizeLine_eq]; omega
  have fin2 : ∀ (y : Str) (j : Nat), a ≤ j → y.length ≤ 1 → Q (.str (tx (l.take a) ++ y ++ tx (l.drop j))) H3 := fun y j hj hy => fin _ (by rw [Str.length_append, Str.length_append, tx_len, tx_len, lt, ld]; omega)
  walk_at "rd"
  · exact hzl
  have e2 : (decide (V.int wy = V.int 1) && decide (((a : Nat) : Int) < (((tx l).length : Nat) : Int))) = decide (wy = 1 ∧ a < l.length) := by
    rw [tx_len]
    by_cases z1 : wy = 1
    · by_cases z2 : a < l.length
      · rw [decide_eq_true (show V.int wy = V.int 1 by rw [z1]), decide_eq_true (show ((a : Nat) : Int) < ((l.length : Nat) : Int) by omega), decide_eq_true ⟨z1, z2⟩]
        rfl
      · rw [decide_eq_false (show ¬ ((a : Nat) : Int) < ((l.length : Nat) : Int) by omega), decide_eq_false (show ¬ (wy = 1 ∧ a < l.length) from fun z => z2 z.2)]
        exact Bool.and_false _
    · rw [decide_eq_false (show ¬ V.int wy = V.int 1 from fun z => by injection z with z; omega), decide_eq_false (show ¬ (wy = 1 ∧ a < l.length) from fun z => z1 z.1)]
      exact Bool.false_and _
  rw [e2]
  have hlenA : ∀ (y : Str), y.length ≤ 1 → (tx (l.take a)).length + y.length ≤ sizeLine := fun y hy => by rw [tx_len, lt, sizeLine_eq]; omega
  have hlenB : ∀ (y : Str) (j : Nat), y.length ≤ 1 → (tx (l.take a) ++ y).length + (tx (l.drop j)).length ≤ sizeLine := fun y j hy => by rw [Str.length_append, tx_len, tx_len, lt, ld, sizeLine_eq]; omega
  have one : ∀ c : Nat, (⟨#[c]⟩ : Str).length ≤ 1 := fun c => Nat.le_refl 1
  refine ifd (fun c1 => ?_) (fun c1 => ?_)
  · have hat : atI (tx l).cps.toList ((a : Nat) : Int) = some (l[a]'c1.2) := atI_nat (by rw [tx_cps]; exact List.getElem?_eq_getElem c1.2)
    walk_at "rd"
    refine r_slS ?_ hzl
    rw [cutS_to]
    walk_at "rd"
    refine r_ixS hzl hat ?_
    refine r_addS ?_ (hlenA _ (one _))
    walk_at "rd"
    refine r_slS ?_ hzl
    rw [cutS_from]
    exact r_addS (fin2 _ _ (Nat.le_refl _) (one _)) (hlenB _ _ (one _))
  · walk_at "rd"
    refine r_slS ?_ hzl
    rw [cutS_to]
    walk_at "rd"
    rotate_left
    · exact hlenA _ (one _)
    have e3 : ∃ j : Nat, a ≤ j ∧ j ≤ a + 1 ∧ ((a : Nat) : Int) + (if decide (V.int wy = V.int 2) = true then 1 else 0) = ((j : Nat) : Int) := by
      by_cases cc : V.int wy = V.int 2
      · exact ⟨a + 1, by omega, by omega, by rw [if_pos (decide_eq_true cc)]; omega⟩
      · exact ⟨a, by omega, by omega, by rw [if_neg (by rw [decide_eq_false cc]; exact Bool.false_ne_true)]; omega⟩
    obtain ⟨j, j1, j2, e3⟩ := e3
    rw [e3]
    refine r_slS ?_ hzl
    rw [cutS_from]
    exact r_addS (fin2 _ _ j1 (one _)) (hlenB _ _ (one _))
abbrev s_law_no_text : Stmt := topS 93
abbrev N_law_no_text : List Str := ["_law_deck_here"]
abbrev P_law_no_text : List Str := ["_law_deck_here"]
theorem sc_law_no_text : FnScope N_law_no_text P_law_no_text (defScope s_law_no_text) :=
  ⟨rfl, rfl, rfl, by decide +kernel, rfl, by decide +kernel, by decide +kernel⟩
theorem ok_law_no_text (D : Df K mg "_law_no_text" s_law_no_text P_law_no_text) (B : Blt mg)
    (G_law_one : Has P w K mg base CX0 "_law_one" ["_law_deck_here", "_law_items"] 2 (spOne K)) :
    Has P w K mg base CX0 "_law_no_text" P_law_no_text 3 (spNoText K) := by
  refine D.has sc_law_no_text (fun vs H Q E h => ?_) (fun f cdv A outer s H vs Q E hr h => ?_)
  · obtain ⟨d, c, n, rfl, _⟩ := h
    rfl
  obtain ⟨d, c, n, rfl, D0, hn, k⟩ := h
  have n0 := D0.n0
  refine ⟨_, (pss_one (ps_ret (pe_f G_law_one (hr.mono (by omega)) (by rfl) pass0 (pa_cons (pv 0) (pa_cons (pe_lst (pa_cons pe_non (pa_cons pe_bl (pa_cons pe_int (pa_cons (pe_un un_neg pe_int) (pa_cons (pe_op op_pow pe_int pe_int) (pa_cons (pe_tup pa_nil) (pa_cons (pe_tup (pa_cons pe_str (pa_cons pe_str pa_nil))) (pa_cons (pe_lst pa_nil) (pa_cons (pe_lst (pa_cons pe_str pa_nil)) (pa_cons pe_dnewK (pa_cons (pe_tup (pa_cons (pe_tup (pa_cons pe_str (pa_cons pe_str pa_nil))) pa_nil)) pa_nil)))))))))))) pa_nil))))), ?_⟩
  have oc : Oc [d, c] H := fun a ha => by
    obtain ⟨xs, h⟩ := D0.ls a ha
    exact ⟨_, h⟩
  with_reducible refine r_ret ?_
  with_reducible refine r_call ?_
  with_reducible refine r_cons ?_
  refine r_var rfl ?_
  with_reducible refine r_cons ?_
  with_reducible refine r_lst ?_
  refine CWs.use (M := [d, c]) (K := K) (ds := NTX) ?a1 fun H1 vs1 k1 hs1 => ⟨by rw [hs1.len, sizeLine_eq]; decide, fun p1 hp1 => ?_⟩
  case a1 => walk_at "cw"
  have k2 : Kp [] H (upd H1 p1 (.lst vs1)) := k1.new hp1
  have hs2 := hs1.kp0 (Kp.nil.new (o := .lst vs1) hp1)
  have q2 : upd H1 p1 (.lst vs1) p1 = some (.lst vs1) := upd_same
  have f1 := (D0.kp k1 (by simp) (by simp)).fresh hp1
  generalize upd H1 p1 (.lst vs1) = H2 at k2 hs2 q2 ⊢
  with_reducible refine r_nil ?_
  refine one_dwQ (M := []) (D0.kp k2 (by simp) (by simp)) (by omega) q2 hs2 f1.1 f1.2 (by decide) (by decide) fun H' x e he hx D' k' => ?_
  exact k H' x e hx.nil (ntx_ok e he) D' ((k2.sub D0.ls (by simp)).trans k')
abbrev slaw : Stmt := topS 95
abbrev Nlaw : List Str := ["_law_script", "_law_deck_here", "_law_some", "_law_words", "_law_word", "_law_line_here", "_law_turn", "_law_program_here", "_law_text", "_law_told", "_law_k", "_law_deep"]
abbrev Plaw : List Str := ["_law_script"]
theorem sclaw : FnScope Nlaw Plaw (defScope slaw) :=
  ⟨rfl, rfl, rfl, by decide +kernel, rfl, by decide +kernel, by decide +kernel⟩
theorem ok_law (D : Df K mg "law" slaw Plaw) (B : Blt mg) (hM : ∃ mm, base.Ns sysModules mm) {lv : Nat} (hlv : 30 ≤ lv)
    (G_law_deck : Has P w K mg base CX0 "_law_deck" ["_law_script"] 1 (spDeck K))
    (G_law_draw : Has P w K mg base CX0 "_law_draw" ["_law_deck_here", "_law_many"] 1 spDraw) (G_law_one : Has P w K mg base CX0 "_law_one" ["_law_deck_here", "_law_items"] 2 (spOne K))
    (G_law_names : Has P w K mg base CX0 "_law_names" ["_law_deck_here", "_law_many"] 3 spNames)
    (G_law_program : Has P w K mg base CX0 "_law_program" ["_law_deck_here", "_law_names_here", "_law_most"] lv (spProg K))
    (G_law_lines : Has P w K mg base CX0 "_law_lines" ["_law_block_here", "_law_ahead"] lv (spLines K 4))
    (G_law_changed : Has P w K mg base CX0 "_law_changed" ["_law_deck_here", "_law_text", "_law_pool"] 3 (spChanged K))
    (G_law_no_text : Has P w K mg base CX0 "_law_no_text" ["_law_deck_here"] 3 (spNoText K))
    (G_law_parsed : Has P w K mg base CX0 "_law_parsed" ["_law_text"] lv (spParsedA K))
    (G_law_read_right : Has P w K mg base CX0 "_law_read_right" ["_law_text"] lv spRight) : Has P w K mg base CX0 "law" Plaw (lv + 1) (spLaw K) := by
  refine D.has sclaw (fun vs H Q E h => ?_) (fun f cdv A outer s H vs Q E hr h => ?_)
  · obtain ⟨a, ns, rfl, _⟩ := h
    rfl
  obtain ⟨a, ns, rfl, hS, hl, k⟩ := h
  refine ⟨_, (pss_cons (ps_set (i := 1) sclaw.nd rfl (Or.inl rfl) (pe_f G_law_deck (hr.mono (by omega)) (by rfl) pass0 (pa_cons (pv 0) pa_nil)))
      (pss_cons (ps_set (i := 2) sclaw.nd rfl (Or.inl rfl) (pe_lst (pa_cons pe_str (pa_cons pe_str (pa_cons pe_str (pa_cons pe_str (pa_cons pe_str (pa_cons pe_str (pa_cons pe_str (pa_cons pe_str (pa_cons pe_str pa_nil)))))))))))
      (pss_cons (ps_set (i := 2) sclaw.nd rfl (Or.inl rfl) (pe_op op_cat (pv 2) (pe_lst (pa_cons pe_str (pa_cons pe_str (pa_cons pe_str (pa_cons pe_str (pa_cons pe_str pa_nil))))))))
      (pss_cons (ps_set (i := 2) sclaw.nd rfl (Or.inl rfl) (pe_op op_cat (pv 2) (pe_lst (pa_cons pe_str (pa_cons pe_str (pa_cons pe_str (pa_cons pe_str pa_nil)))))))
      (pss_cons (ps_set (i := 2) sclaw.nd rfl (Or.inl rfl) (pe_op op_cat (pv 2) (pe_lst (pa_cons pe_str (pa_cons pe_str (pa_cons pe_str (pa_cons pe_str pa_nil)))))))
      (pss_cons (ps_set (i := 3) sclaw.nd rfl (Or.inl rfl) (pe_lst (pa_cons pe_str (pa_cons pe_str (pa_cons pe_str (pa_cons pe_str (pa_cons pe_str (pa_cons pe_str (pa_cons pe_str (pa_cons pe_str (pa_cons pe_str (pa_cons pe_str (pa_cons pe_str (pa_cons pe_str (pa_cons pe_str pa_nil)))))))))))))))
      (pss_cons (ps_set (i := 3) sclaw.nd rfl (Or.inl rfl) (pe_op op_cat (pv 3) (pe_lst (pa_cons pe_str (pa_cons pe_str (pa_cons pe_str (pa_cons pe_str (pa_cons pe_str pa_nil))))))))
      (pss_cons (ps_for PassesOwn.never rfl (pi_list (pv 3)) (pg_name (i := 4) sclaw.nd rfl (Or.inl rfl))
        (pss_cons (ps_set (i := 5) sclaw.nd rfl (Or.inl rfl) (pe_op op_addS (pe_f G_law_one (hr.mono (by omega)) (by rfl) pass0 (pa_cons (pv 1) (pa_cons (pe_lst (pa_cons pe_str (pa_cons pe_str (pa_cons pe_str (pa_cons pe_str pa_nil))))) pa_nil))) (pv 4)))
      (pss_one (ps_if (pt_cmpR op_ne (pe_callB (c_repr3 hr hM) (by rfl) B.repr (by decide +kernel) (pa_cons (pe_f G_law_parsed (hr.mono (by omega)) (by rfl) pass0 (pa_cons (pe_op op_addS (pe_op op_addS pe_str (pv 5)) (pe_op op_mulS pe_str (pe_callTy c_int (by rfl) B.int (by decide +kernel) (pa_cons (pe_cmpR op_inC pe_str (pv 5) (by rfl)) pa_nil)))) pa_nil)) pa_nil)) (pe_callB (c_repr3 hr hM) (by rfl) B.repr (by decide +kernel) (pa_cons (pe_lst (pa_cons pe_str (pa_cons pe_int pa_nil))) pa_nil)) (nomark _)) (pss_one (ps_ret pe_bl))
        pss_nil))))
      (pss_cons (ps_for PassesOwn.never rfl (pi_range1 (by rfl) B.range (pa_cons pe_int pa_nil)) (pg_name (i := 6) sclaw.nd rfl (Or.inl rfl))
        (pss_cons (ps_set (i := 7) sclaw.nd rfl (Or.inl rfl) (pe_f G_law_program (hr.mono (by omega)) (by rfl) pass0 (pa_cons (pv 1) (pa_cons (pe_f G_law_names (hr.mono (by omega)) (by rfl) pass0 (pa_cons (pv 1) (pa_cons (pe_op op_add pe_int (pe_f G_law_draw (hr.mono (by omega)) (by rfl) pass0 (pa_cons (pv 1) (pa_cons pe_int pa_nil)))) pa_nil))) (pa_cons pe_int pa_nil)))))
      (pss_cons (ps_set (i := 8) sclaw.nd rfl (Or.inl rfl) (pe_join pe_str (pe_op op_cat (pe_lst (pa_cons pe_str pa_nil)) (pe_f G_law_lines (hr.mono (by omega)) (by rfl) pass0 (pa_cons (pv 7) (pa_cons pe_str pa_nil))))))
      (pss_one (ps_for PassesOwn.never rfl (pi_list (pe_lst (pa_cons (pv 8) (pa_cons (pe_f G_law_one (hr.mono (by omega)) (by rfl) pass0 (pa_cons (pv 1) (pa_cons (pv 2) pa_nil))) pa_nil)))) (pg_name (i := 9) sclaw.nd rfl (Or.inl rfl))
        (pss_cons (ps_for PassesOwn.never rfl (pi_range1 (by rfl) B.range (pa_cons (pe_f G_law_one (hr.mono (by omega)) (by rfl) pass0 (pa_cons (pv 1) (pa_cons (pe_lst (pa_cons pe_int (pa_cons pe_int (pa_cons pe_int (pa_cons pe_int (pa_cons pe_int pa_nil)))))) pa_nil))) pa_nil)) (pg_name (i := 10) sclaw.nd rfl (Or.inl rfl))
        (pss_one (ps_set (i := 9) sclaw.nd rfl (Or.inl rfl) (pe_f G_law_changed (hr.mono (by omega)) (by rfl) pass0 (pa_cons (pv 1) (pa_cons (pv 9) (pa_cons pe_str pa_nil)))))))
      (pss_one (ps_if (pt_not (pt_val (pe_f G_law_read_right (hr.mono (by omega)) (by rfl) pass0 (pa_cons (pv 9) pa_nil)))) (pss_one (ps_ret pe_bl))
        pss_nil))))))))
      (pss_cons (ps_set (i := 11) sclaw.nd rfl (Or.inl rfl) (pe_op op_addS (pe_op op_addS pe_str (pe_f G_law_one (hr.mono (by omega)) (by rfl) pass0 (pa_cons (pv 1) (pa_cons (pe_lst (pa_cons pe_str (pa_cons pe_str (pa_cons pe_str pa_nil)))) pa_nil)))) (pe_op op_mulS pe_str (pe_op op_sub pe_int (pe_f G_law_draw (hr.mono (by omega)) (by rfl) pass0 (pa_cons (pv 1) (pa_cons pe_int pa_nil)))))))
      (pss_cons (ps_if (pt_cmpR op_ne (pe_callB (c_repr3 hr hM) (by rfl) B.repr (by decide +kernel) (pa_cons (pe_f G_law_parsed (hr.mono (by omega)) (by rfl) pass0 (pa_cons (pv 11) pa_nil)) pa_nil)) (pe_callB (c_repr3 hr hM) (by rfl) B.repr (by decide +kernel) (pa_cons (pe_lst (pa_cons pe_str (pa_cons pe_int pa_nil))) pa_nil)) (nomark _)) (pss_one (ps_ret pe_bl))
        pss_nil)
      (pss_one (ps_ret (pe_cmpR op_eq (pe_callB (c_repr3 hr hM) (by rfl) B.repr (by decide +kernel) (pa_cons (pe_f G_law_parsed (hr.mono (by omega)) (by rfl) pass0 (pa_cons (pe_f G_law_no_text (hr.mono (by omega)) (by rfl) pass0 (pa_cons (pv 1) pa_nil)) pa_nil)) pa_nil)) (pe_callB (c_repr3 hr hM) (by rfl) B.repr (by decide +kernel) (pa_cons (pe_lst (pa_cons pe_str (pa_cons pe_non pa_nil))) pa_nil)) (nomark _))))))))))))))), ?_⟩
  walk_at "rd"
  refine ⟨a, ns, rfl, hS, hl, fun H1 d c hd hc D1 k1 => ?_⟩
  walk_at "rd"
  refine ⟨by simp [sizeLine_eq], fun p2 hp2 => ?_⟩
  have k2 : Kp [] H1 (upd H1 p2 (.lst ((SOME3.take 9).map V.str))) := Kp.nil.new hp2
  have h2 : upd H1 p2 (.lst ((SOME3.take 9).map V.str)) p2 = some (.lst ((SOME3.take 9).map V.str)) := upd_same
  change gName 2 (V.ref p2) _ (upd H1 p2 (.lst ((SOME3.take 9).map V.str))) _
  generalize upd H1 p2 (.lst ((SOME3.take 9).map V.str)) = H2 at k2 h2 ⊢
  walk_at "rd"
  refine ⟨by simp [sizeLine_eq], fun p3 hp3 => ?_⟩
  have k3 : Kp [] H2 (upd H2 p3 (.lst (((SOME3.drop 9).take 5).map V.str))) := Kp.nil.new hp3
  have h3 : upd H2 p3 (.lst (((SOME3.drop 9).take 5).map V.str)) p3 = some (.lst (((SOME3.drop 9).take 5).map V.str)) := upd_same
  change rCat (V.ref p2) (V.ref p3) (upd H2 p3 (.lst (((SOME3.drop 9).take 5).map V.str))) _
  generalize upd H2 p3 (.lst (((SOME3.drop 9).take 5).map V.str)) = H3 at k3 h3 ⊢
  refine r_catSS (k3.get h2 (by simp)) h3 (by decide) fun H4 p4 k4 hp4 h4 => ?_
  walk_at "rd"
  refine ⟨by simp [sizeLine_eq], fun p5 hp5 => ?_⟩
  have k5 : Kp [] H4 (upd H4 p5 (.lst (((SOME3.drop 14).take 4).map V.str))) := Kp.nil.new hp5
  have h5 : upd H4 p5 (.lst (((SOME3.drop 14).take 4).map V.str)) p5 = some (.lst (((SOME3.drop 14).take 4).map V.str)) := upd_same
  change rCat (V.ref p4) (V.ref p5) (upd H4 p5 (.lst (((SOME3.drop 14).take 4).map V.str))) _
  generalize upd H4 p5 (.lst (((SOME3.drop 14).take 4).map V.str)) = H5 at k5 h5 ⊢
  refine r_catSS (k5.get h4 (by simp)) h5 (by decide) fun H6 p6 k6 hp6 h6 => ?_
  walk_at "rd"
  refine ⟨by simp [sizeLine_eq], fun p7 hp7 => ?_⟩
  have k7 : Kp [] H6 (upd H6 p7 (.lst ((SOME3.drop 18).map V.str))) := Kp.nil.new hp7
  have h7 : upd H6 p7 (.lst ((SOME3.drop 18).map V.str)) p7 = some (.lst ((SOME3.drop 18).map V.str)) := upd_same
  change rCat (V.ref p6) (V.ref p7) (upd H6 p7 (.lst ((SOME3.drop 18).map V.str))) _
  generalize upd H6 p7 (.lst ((SOME3.drop 18).map V.str)) = H7 at k7 h7 ⊢
  refine r_catSS (k7.get h6 (by simp)) h7 (by decide) fun H8 ps k8 hps h8 => ?_
  have h8 : H8 ps = some (.lst (SOME3.map V.str)) := h8
  have k18 := (((((k2.trans k3).trans k4).trans k5).trans k6).trans k7).trans k8
  have fs := (D1.kp ((((((k2.trans k3).trans k4).trans k5).trans k6).trans k7)) (by simp) (by simp)).fresh hps
  walk_at "rd"
  refine ⟨by simp [sizeLine_eq], fun p9 hp9 => ?_⟩
  have k9 : Kp [] H8 (upd H8 p9 (.lst ((WORDS3.take 13).map V.str))) := Kp.nil.new hp9
  have h9 : upd H8 p9 (.lst ((WORDS3.take 13).map V.str)) p9 = some (.lst ((WORDS3.take 13).map V.str)) := upd_same
  change gName 3 (V.ref p9) _ (upd H8 p9 (.lst ((WORDS3.take 13).map V.str))) _
  generalize upd H8 p9 (.lst ((WORDS3.take 13).map V.str)) = H9 at k9 h9 ⊢
  walk_at "rd"
  refine ⟨by simp [sizeLine_eq], fun pa hpa => ?_⟩
  have ka : Kp [] H9 (upd H9 pa (.lst ((WORDS3.drop 13).map V.str))) := Kp.nil.new hpa
  have ha : upd H9 pa (.lst ((WORDS3.drop 13).map V.str)) pa = some (.lst ((WORDS3.drop 13).map V.str)) := upd_same
  change rCat (V.ref p9) (V.ref pa) (upd H9 pa (.lst ((WORDS3.drop 13).map V.str))) _
  generalize upd H9 pa (.lst ((WORDS3.drop 13).map V.str)) = Ha at ka ha ⊢
  refine r_catSS (ka.get h9 (by simp)) ha (by decide) fun Hb pw kb hpw hb => ?_
  have hb : Hb pw = some (.lst (WORDS3.map V.str)) := hb
  have k8b := (k9.trans ka).trans kb
  have fw := (D1.kp (k18.trans (k9.trans ka)) (by simp) (by simp)).fresh hpw
  have Db := (D1.kp k18 (by simp) (by simp)).kp k8b (by simp) (by simp)
  have hsb := k8b.get h8 (by simp)
  clear k8b k18 hpw ha hpa kb ka h9 hp9 k9 h8 hps k8 k7 h7 hp7 k6 h6 hp6 k5 h5 hp5 k4 h4 hp4 k3 h3 hp3 k2 h2 hp2 D1
  walk_at "rd"
  refine r_ForL (SqL.of hb) (fun i σ H' => ∃ (n' : Int) (x4 x5 x6 x7 x8 x9 x10 x11 : Option V), σ = [some (.ref a), some (.ref d), some (.ref ps), some (.ref pw), x4, x5, x6, x7, x8, x9, x10, x11] ∧ Deck H' d c n' ∧ n' ≤ i ∧
      H' ps = some (.lst (SOME3.map V.str)) ∧ H' pw = some (.lst (WORDS3.map V.str))) ⟨0, none, none, none, none, none, none, none, none, rfl, Db, by omega, hsb, hb⟩
    (fun i σ H ⟨_, _, _, _, _, _, _, _, _, _, _, _, _, q⟩ => SqL.of q) ?_ ?_
  · rintro i x σ Hc hx ⟨nc, x4, x5, x6, x7, x8, x9, x10, x11, rfl, Dc, hnc, hsc, hwc⟩
    rw [List.getElem?_map] at hx
    obtain ⟨wd, hwd, rfl⟩ := Option.map_eq_some_iff.mp hx
    have hwm := List.mem_of_getElem? hwd
    have hi18 : i < 18 := (List.getElem?_eq_some_iff.mp hwd).1
    walk_at "rd"
    refine ⟨by simp [sizeLine_eq], fun pd hpd => ?_⟩
    have kd : Kp [] Hc (upd Hc pd (.lst (PRE4.map V.str))) := Kp.nil.new hpd
    have hd4 : upd Hc pd (.lst (PRE4.map V.str)) pd = some (.lst (PRE4.map V.str)) := upd_same
    change tNil _ (upd Hc pd (.lst (PRE4.map V.str))) _
    generalize upd Hc pd (.lst (PRE4.map V.str)) = Hd at kd hd4 ⊢
    have fd := Dc.fresh hpd
    walk_at "rd"
    refine spOne.list (Dc.kp kd (by simp) (by simp)) (by omega) (SqL.of hd4) fd.1 fd.2 (by decide) (by decide) fun He i' x' hx' De ke => ?_
    obtain ⟨pr, hpr, rfl⟩ : ∃ pr ∈ PRE4, x' = .str pr := by
      rw [List.getElem?_map] at hx'
      obtain ⟨pr, h1, rfl⟩ := Option.map_eq_some_iff.mp hx'
      exact ⟨pr, List.mem_of_getElem? h1, rfl⟩
    obtain ⟨bad, blen, bl40⟩ := bad_word3 hpr hwm
    have hse := ke.get (kd.get hsc (by simp)) (by simp [fs.1, fs.2])
    have hwe := ke.get (kd.get hwc (by simp)) (by simp [fw.1, fw.2])
    have lz : pr.length + wd.length ≤ sizeLine := by rw [← Str.length_append, sizeLine_eq]; omega
    walk_at "rd"
    refine r_inC (c := 40) ?_
    walk_at "rd"
    have m01 : (0 : Int) ≤ (if decide (40 ∈ (pr ++ wd).cps.toList) = true then 1 else 0) ∧ (if decide (40 ∈ (pr ++ wd).cps.toList) = true then 1 else 0) ≤ (1 : Int) := by split <;> omega
    refine r_mulS m01.1 (by omega) (by decide +kernel) ?_
    have tl : ("program\n" ++ (pr ++ wd) ++ Txt.mul ")" (if decide (40 ∈ (pr ++ wd).cps.toList) = true then 1 else 0)).length ≤ 48 := by
      have e : ∀ z : Str, z.length = (sg z).length := fun z => Array.length_toList.symm
      rw [e]
      exact blen
    refine r_addS ?_ (by rw [← Str.length_append, sizeLine_eq]; omega)
    walk_at "rd"
    refine spParsedA.text bad (by omega) fun Hf p xs kf hp hxs hD => ?_
    have hD : DtL K Hf xs [.str "text", .int 1] := hD
    have shT : ShwD (.list [.str "text", .int 1]) 1 1000 := shw_textW "text" 1 (Sok.lit (by decide +kernel)) (by omega)
    walk_at "rd"
    refine r_repr3 (dw_list hxs hD) shT (by omega) (by omega) ?_
    walk_at "rd"
    refine ⟨by simp [sizeLine_eq], fun pg hpg => ?_⟩
    have kg : Kp [] Hf (upd Hf pg (.lst [.str "text", .int 1])) := Kp.nil.new hpg
    walk_at "rd"
    refine r_repr3 (dw_list upd_same (DtL.cons (.str _) (DtL.cons (.int _) DtL.nil))) shT (by omega) (by omega) ?_
    walk_at "rd"
    have kk := kf.trans kg
    exact ⟨nc + 1, _, _, _, _, _, _, _, _, rfl, (De.kp kk (by simp) (by simp)), by omega, kk.get hse (by simp), kk.get hwe (by simp)⟩
    all_goals first | exact lz | (rw [show ("program\n" : Str).length = 8 by decide +kernel, sizeLine_eq]; omega)
  · rintro σ Hc ⟨nc, x4, x5, x6, x7, x8, x9, x10, x11, rfl, Dc, hnc, hsc, hwc⟩
    have hnc : nc ≤ 18 := hnc
    walk_at "rd"
    refine r_ForR (fun i σ H' => ∃ (n' : Int) (x4 x5 x6 x7 x8 x9 x10 x11 : Option V), σ = [some (.ref a), some (.ref d), some (.ref ps), some (.ref pw), x4, x5, x6, x7, x8, x9, x10, x11] ∧ Deck H' d c n' ∧ n' ≤ 100 + 5000 * i ∧
      H' ps = some (.lst (SOME3.map V.str))) (by omega) (by omega) ⟨nc, _, _, _, _, _, _, _, _, rfl, Dc, by omega, hsc⟩ ?_ ?_
    · rintro i σ H2 hi ⟨n2, x4, x5, x6, x7, x8, x9, x10, x11, rfl, D2, hn2, hs2⟩
      have hi5 : i < 5 := hi
      walk_at "rd"
      refine spDraw.use D2 (by omega) (by omega) (by omega) fun H3 u u0 u1 D3 k3 => ?_
      walk_at "rd"
      refine ⟨d, c, _, 1 + u, rfl, D3, by omega, by omega, by omega, fun H4 nm xs n4 hnm D4 q1 q2 k4 N4 => ?_⟩
      have f4 := D3.fresh hnm
      walk_at "rd"
      refine ⟨d, c, nm, n4, 18, xs, rfl, D4, by omega, N4, f4.1, f4.2, by omega, by omega, fun H5 v b n5 D5 q3 q4 sz k5 hv hb => ?_⟩
      have hb4 : ∀ s ∈ b, Sm.ok 4 s := fun s hs => (hb s hs).mono (by omega)
      have hall := Sm.all_ok 4 "" 0 (Sok.lit (by decide +kernel)) b hb4
      have hs5 := ((k3.trans k4).trans k5).get hs2 (by simp [fs.1, fs.2])
      walk_at "rd"
      refine ⟨by decide, fun p6 hp6 => ?_⟩
      have k6 : Kp [] H5 (upd H5 p6 (.lst [.str "program"])) := Kp.nil.new hp6
      have h6 : upd H5 p6 (.lst [.str "program"]) p6 = some (.lst (([("program" : Str)]).map V.str)) := upd_same
      generalize upd H5 p6 (.lst [.str "program"]) = H6 at k6 h6 ⊢
      walk_at "rd"
      refine ⟨v, b, "", rfl, hv.kp k6, hb4, by omega, Sok.lit (by decide +kernel), by omega, fun H7 q k7 nq h7 => ?_⟩
      have h67 := k7.get h6 (by simp)
      have hlen := hall.1
      refine r_catSS h67 h7 (by simp only [List.length_singleton]; omega) fun H8 p8 k8 hp8 h8 => ?_
      have k58 := (k6.trans k7).trans k8
      have D8 := D5.kp k58 (by simp) (by simp)
      have hs8 := k58.get hs5 (by simp)
      have L8 : ∀ z ∈ [("program" : Str)] ++ Sm.all "" b, z.length ≤ 318 := fun z hz => by
        rcases List.mem_append.mp hz with hz | hz
        · rw [List.mem_singleton.mp hz]
          decide +kernel
        · exact (hall.2 z hz).len
      have N8 : ([("program" : Str)] ++ Sm.all "" b).length ≤ 301 := by rw [List.length_append]; simp only [List.length_singleton]; omega
      generalize [("program" : Str)] ++ Sm.all "" b = LS at h8 L8 N8
      have hjl := joinN_len L8
      have hml : LS.length * 319 ≤ 301 * 319 := Nat.mul_le_mul_right _ N8
      clear k58 k6 h6 k7 h7 h67 hall hlen hv hb hb4 D5 k5 D4 k4 N4 D3 k3 D2 hp6 nq hs5
      refine ⟨"\n", p8, LS, rfl, rfl, .inl (SqL.of h8), ?_, ?_⟩
      · have q := joinN_sum L8
        have e1 : ("\n" : Str).length = 1 := by decide +kernel
        simp only [e1, sizeLine_eq]
        omega
      have hT : (Txt.join "\n" LS).length ≤ 100000 := by
        have e : ∀ z : Str, z.length = (sg z).length := fun z => Array.length_toList.symm
        rw [e]
        omega
      generalize Txt.join "\n" LS = T0 at hT ⊢
      walk_at "rd"
      refine spOne.list D8 (by omega) (SqL.of hs8) fs.1 fs.2 (by decide) (by decide) fun H9 i' x' hx' D9 k9 => ?_
      obtain ⟨so, hso, rfl⟩ : ∃ so ∈ SOME3, x' = .str so := by
        rw [List.getElem?_map] at hx'
        obtain ⟨pr, h1, rfl⟩ := Option.map_eq_some_iff.mp hx'
        exact ⟨pr, List.mem_of_getElem? h1, rfl⟩
      have hso := some_len so hso
      have hs9 := k9.get hs8 (by simp [fs.1, fs.2])
      walk_at "rd"
      refine ⟨by simp [sizeLine_eq], fun pt hpt => ?_⟩
      have kt : Kp [] H9 (upd H9 pt (.lst [.str T0, .str so])) := Kp.nil.new hpt
      have ht : upd H9 pt (.lst [.str T0, .str so]) pt = some (.lst [.str T0, .str so]) := upd_same
      have ft := D9.fresh hpt
      have Dt9 := D9.kp kt (by simp) (by simp)
      have hst := kt.get hs9 (by simp)
      generalize upd H9 pt (.lst [.str T0, .str so]) = Ht at kt ht Dt9 hst ⊢
      clear kt hpt hs9 k9 D9 hs8 D8 k8 hp8 h8 L8 N8 hjl hml
      refine r_ForL (SqL.of ht) (fun j σ H' => ∃ (n' : Int) (x4 x5 x6 x9 x10 x11 : Option V), σ = [some (.ref a), some (.ref d), some (.ref ps), some (.ref pw), x4, x5, x6, some v, some (.str T0), x9, x10, x11] ∧ Deck H' d c n' ∧ n' ≤ n5 + 1 + 20 * j ∧
        H' ps = some (.lst (SOME3.map V.str)) ∧ H' pt = some (.lst [.str T0, .str so])) ⟨_, _, _, _, _, _, _, rfl, Dt9, by omega, hst, ht⟩ (fun i σ H ⟨_, _, _, _, _, _, _, _, _, _, _, q⟩ => SqL.of q) ?_ ?_
      · rintro j x σ Ha hx ⟨na, y4, y5, y6, y9, y10, y11, rfl, Da, hna, hsa, hta⟩
        have hj2 : j < 2 := (List.getElem?_eq_some_iff.mp hx).1
        obtain ⟨z, rfl, hz⟩ : ∃ z : Str, x = .str z ∧ z.length ≤ 100000 := by
          have hm := List.mem_of_getElem? hx
          simp only [List.mem_cons, List.not_mem_nil, or_false] at hm
          rcases hm with rfl | rfl
          · exact ⟨_, rfl, hT⟩
          · exact ⟨_, rfl, by omega⟩
        walk_at "rd"
        refine ⟨by decide, fun p9 hp9 => ?_⟩
        have kb : Kp [] Ha (upd Ha p9 (.lst [.int 0, .int 1, .int 1, .int 2, .int 3])) := Kp.nil.new hp9
        have ub : upd Ha p9 (.lst [.int 0, .int 1, .int 1, .int 2, .int 3]) p9 = some (.lst [.int 0, .int 1, .int 1, .int 2, .int 3]) := upd_same
        have fb := Da.fresh hp9
        have Db2 := Da.kp kb (by simp) (by simp)
        have hsb2 := kb.get hsa (by simp)
        have htb2 := kb.get hta (by simp)
        generalize upd Ha p9 (.lst [.int 0, .int 1, .int 1, .int 2, .int 3]) = Hb2 at kb ub Db2 hsb2 htb2 ⊢
        walk_at "rd"
        refine spOne.list Db2 (by omega) (SqL.of ub) fb.1 fb.2 (by simp) (by simp) fun Hc2 i2 x2 hx2 Dc2 kc2 => ?_
        have hsc2 := kc2.get hsb2 (by simp [fs.1, fs.2])
        have htc2 := kc2.get htb2 (by simp [ft.1, ft.2])
        obtain ⟨y, rfl, hy1, hy3⟩ : ∃ y : Int, x2 = .int y ∧ 0 ≤ y ∧ y ≤ 3 := by
          have hm := List.mem_of_getElem? hx2
          simp only [List.mem_cons, List.not_mem_nil, or_false] at hm
          rcases hm with rfl | rfl | rfl | rfl | rfl
          · exact ⟨0, rfl, by omega, by omega⟩
          · exact ⟨1, rfl, by omega, by omega⟩
          · exact ⟨1, rfl, by omega, by omega⟩
          · exact ⟨2, rfl, by omega, by omega⟩
          · exact ⟨3, rfl, by omega, by omega⟩
        walk_at "rd"
        refine r_ForR (fun m σ H' => ∃ (n' : Int) (w10 : Option V) (q : Str), σ = [some (.ref a), some (.ref d), some (.ref ps), some (.ref pw), y4, y5, y6, some v, some (.str T0), some (.str q), w10, y11] ∧ Deck H' d c n' ∧ n' ≤ na + 1 + 3 * m ∧
          H' ps = some (.lst (SOME3.map V.str)) ∧ H' pt = some (.lst [.str T0, .str so]) ∧ q.length ≤ 100000 + m) (by omega) (by omega) ⟨_, _, z, rfl, Dc2, by omega, hsc2, htc2, by omega⟩ ?_ ?_
        · rintro m σ Hd2 hm ⟨nd, w10, q, rfl, Dd, hnd, hsd, htd, hq⟩
          walk_at "rd"
          refine ⟨d, c, nd, q, _, rfl, Dd, by omega, by omega, by decide +kernel, by decide +kernel, fun He2 y2 hy2 De2 ke2 => ?_⟩
          walk_at "rd"
          exact ⟨nd + 3, _, y2, rfl, De2, by omega, ke2.get hsd (by simp [fs.1, fs.2]), ke2.get htd (by simp [ft.1, ft.2]), by omega⟩
        · rintro σ Hd2 ⟨nd, w10, q, rfl, Dd, hnd, hsd, htd, hq⟩
          walk_at "rd"
          have hql : (sg q).length ≤ 400000 := by
            have e : (sg q).length = q.length := Array.length_toList
            rw [e]
            omega
          refine ⟨sg q, by rw [tx_sg]; rfl, hql, fun He2 ke2 => ?_⟩
          walk_at "rd"
          exact ⟨nd, _, _, _, _, _, _, rfl, Dd.kp ke2 (by simp) (by simp), by omega, ke2.get hsd (by simp), ke2.get htd (by simp)⟩
      · rintro σ Ha ⟨na, y4, y5, y6, y9, y10, y11, rfl, Da, hna, hsa, hta⟩
        have hna : na ≤ n5 + 1 + 20 * 2 := hna
        exact ⟨na, _, _, _, _, _, _, _, _, rfl, Da, by omega, hsa⟩
    · rintro σ H2 ⟨n2, x4, x5, x6, x7, x8, x9, x10, x11, rfl, D2, hn2, hs2⟩
      have hn2 : n2 ≤ 100 + 5000 * 5 := hn2
      walk_at "rd"
      refine ⟨by simp [sizeLine_eq], fun pd hpd => ?_⟩
      have kd : Kp [] H2 (upd H2 pd (.lst [.str "tell ", .str "if rest 0 of 2 ", .str "set a "])) := Kp.nil.new hpd
      have ud : upd H2 pd (.lst [.str "tell ", .str "if rest 0 of 2 ", .str "set a "]) pd = some (.lst [.str "tell ", .str "if rest 0 of 2 ", .str "set a "]) := upd_same
      have fd := D2.fresh hpd
      have Dd := D2.kp kd (by simp) (by simp)
      generalize upd H2 pd (.lst [.str "tell ", .str "if rest 0 of 2 ", .str "set a "]) = H3 at kd ud Dd ⊢
      walk_at "rd"
      refine spOne.list Dd (by omega) (SqL.of ud) fd.1 fd.2 (by simp) (by simp) fun H4 i2 x2 hx2 D4 k4 => ?_
      obtain ⟨pr, rfl, hpr⟩ : ∃ pr : Str, x2 = .str pr ∧ (pr = "tell " ∨ pr = "if rest 0 of 2 " ∨ pr = "set a ") := by
        have hm := List.mem_of_getElem? hx2
        simp only [List.mem_cons, List.not_mem_nil, or_false] at hm
        rcases hm with rfl | rfl | rfl
        · exact ⟨_, rfl, .inl rfl⟩
        · exact ⟨_, rfl, .inr (.inl rfl)⟩
        · exact ⟨_, rfl, .inr (.inr rfl)⟩
      have lpr : pr.length ≤ 20 := by rcases hpr with rfl | rfl | rfl <;> decide +kernel
      have l8 : ("program\n" : Str).length = 8 := by decide +kernel
      walk_at "rd"
      refine spDraw.use D4 (by omega) (by omega) (by omega) fun H5 u u0 u1 D5 k5 => ?_
      walk_at "rd"
      refine r_mulS (by omega) (by omega) (by decide +kernel) ?_
      rw [show ("(" : Str) = tx [40] by decide +kernel, mul_one _ _ (by omega)]
      have hml : (tx (List.replicate (2900 - u).toNat 40)).length ≤ 2900 := by rw [tx_len, List.length_replicate]; omega
      refine r_addS ?_ (by rw [Str.length_append, l8, sizeLine_eq]; omega)
      walk_at "rd"
      have hb := deep_bad (p := pr) (2900 - u).toNat hpr
      have hbl : (sg ("program\n" ++ pr ++ tx (List.replicate (2900 - u).toNat 40))).length ≤ 100000 := by
        have e : ∀ z : Str, (sg z).length = z.length := fun z => Array.length_toList
        rw [e, Str.length_append, Str.length_append, l8]
        omega
      refine spParsedA.text hb hbl fun Hf p xs kf hp hxs hD => ?_
      have hD : DtL K Hf xs [.str "text", .int 1] := hD
      have shT : ShwD (.list [.str "text", .int 1]) 1 1000 := shw_textW "text" 1 (Sok.lit (by decide +kernel)) (by omega)
      walk_at "rd"
      refine r_repr3 (dw_list hxs hD) shT (by omega) (by omega) ?_
      walk_at "rd"
      refine ⟨by simp [sizeLine_eq], fun pg hpg => ?_⟩
      have kg : Kp [] Hf (upd Hf pg (.lst [.str "text", .int 1])) := Kp.nil.new hpg
      walk_at "rd"
      refine r_repr3 (dw_list upd_same (DtL.cons (.str _) (DtL.cons (.int _) DtL.nil))) shT (by omega) (by omega) ?_
      walk_at "rd"
      refine ⟨d, c, _, rfl, D5.kp (kf.trans kg) (by simp) (by simp), by omega, fun Hh v dd hv hvs Dh kh => ?_⟩
      walk_at "rd"
      refine .inr ⟨v, dd, rfl, hv, hvs, fun Hi p ki hp hpi => ?_⟩
      have shN : ShwD (.list [.str "text", .none]) 1 1000 := by
        have h : Shw (.list [.str "text", .none]) (0 + 1) (2 * (102 + 2) + 3) := Shw.list (k := 0) (n := 102) fun d hd => by
          simp only [List.mem_cons, List.not_mem_nil, or_false] at hd
          rcases hd with rfl | rfl
          · exact (Shw.str (k := 0) (m := 10) (Sok.lit (by decide +kernel))).mono (by omega) (by omega)
          · exact (Shw.non (k := 0)).mono (by omega) (by omega)
        exact (h.mono (by omega) (by omega)).toD
      walk_at "rd"
      refine r_repr3 (dw_list hpi (DtL.cons (.str _) (DtL.cons .non DtL.nil))) shN (by omega) (by omega) ?_
      walk_at "rd"
      refine ⟨by simp [sizeLine_eq], fun pj hpj => ?_⟩
      walk_at "rd"
      refine r_repr3 (dw_list upd_same (DtL.cons (.str _) (DtL.cons .non DtL.nil))) shN (by omega) (by omega) ?_
      walk_at "rd"
      exact k _
      all_goals first | (rw [l8, sizeLine_eq]; omega) | omega
/-- what the top holds for the family of program_error -/
structure PeTop (mg : Str → Option Value) (K : PySem.W.Frag) : Prop where
  MAX_NAME : ∃ t, mg "MAX_NAME" = some (.int 8 t)
  MAX_WORD : ∃ t, mg "MAX_WORD" = some (.int 8 t)
  MAX_TIMES : ∃ t, mg "MAX_TIMES" = some (.int 8 t)
  MAX_DEEP : ∃ t, mg "MAX_DEEP" = some (.int 3 t)
  MAX_NOTS : ∃ t, mg "MAX_NOTS" = some (.int 2 t)
  MAX_BY : ∃ t, mg "MAX_BY" = some (.int 6 t)
  MAX_PLACES : ∃ t, mg "MAX_PLACES" = some (.int 24 t)
  MAX_WEIGHT : ∃ t, mg "MAX_WEIGHT" = some (.int 30 t)
  MAX_RESTS : ∃ t, mg "MAX_RESTS" = some (.int 2 t)
  MAX_COMPARINGS : ∃ t, mg "MAX_COMPARINGS" = some (.int 2 t)
  MAX_NEST : ∃ t, mg "MAX_NEST" = some (.int 3 t)
  MOST_NUMBER : ∃ t, mg "MOST_NUMBER" = some (.int 99 t)
  MOST_FACTOR : ∃ t, mg "MOST_FACTOR" = some (.int 9 t)
  LETTERS_programs : ∃ t, mg "LETTERS_programs" = some (.str LETT t)
  SIGNS : ∃ t, mg "SIGNS" = some (.str SGN t)
  UNSURE : ∃ t, mg "UNSURE" = some (.str "unsure" t)
  KEPT : ∃ a, mg "KEPT" = some (.ref a) ∧ ∀ H : Hp, SqT K H a (KEPTS.map V.str)
/-- is_name_programs, is_expression, is_test, is_statement .. -/
structure PeHas (P : Program) (w : World) (K : PySem.W.Frag) (mg : Str → Option Value) (base : Heap) : Prop where
  whole : Has P w K mg base CX0 "is_whole" ["value", "least", "most"] 1 (spWhole K)
  blocks : Has P w K mg base CX0 "blocks_of" ["statement"] 1 (spBlocks K)
  rows : Has P w K mg base CX0 "rows_of" ["program"] 3 (spRows K)
  counted : Has P w K mg base CX0 "counted" ["block", "sort"] 7 (spCnt K 4)
  weight : Has P w K mg base CX0 "weight" ["program"] 8 (spWt K)
  error : Has P w K mg base CX0 "program_error" ["value"] 12 (spPerr K)
theorem pe_has (T : PeTop mg K) (B : Blt mg) (D1 : Df K mg "is_whole" sis_whole Pis_whole) (D2 : DfA K mg "is_word_programs" "is_word" sis_word_programs Pis_word_programs) (D3 : DfA K mg "is_name_programs" "is_name" sis_name_programs Pis_name_programs)
    (D4 : Df K mg "is_expression" sis_expression Pis_expression) (D5 : Df K mg "is_rest" sis_rest Pis_rest) (D6 : Df K mg "is_test" sis_test Pis_test) (D7 : Df K mg "is_plain" sis_plain Pis_plain)
    (D8 : Df K mg "is_statement" sis_statement Pis_statement) (D9 : Df K mg "blocks_of" sblocks_of Pblocks_of) (D10 : Df K mg "items_within" sitems_within Pitems_within) (D11 : Df K mg "rows_of" srows_of Prows_of)
    (D12 : Df K mg "order_error" sorder_error Porder_error) (D13 : Df K mg "bare" sbare Pbare) (D14 : Df K mg "own_count" sown_count Pown_count) (D15 : Df K mg "counted" scounted Pcounted)
    (D16 : Df K mg "weight" sweight Pweight) (D17 : Df K mg "program_error" sprogram_error Pprogram_error) : PeHas P w K mg base := by
  obtain ⟨⟨_, e1⟩, ⟨_, e2⟩, ⟨_, e3⟩, ⟨_, e4⟩, ⟨_, e5⟩, ⟨_, e6⟩, ⟨_, e7⟩, ⟨_, e8⟩, ⟨_, e9⟩, ⟨_, e10⟩, ⟨_, e11⟩, ⟨_, e12⟩, ⟨_, e13⟩, ⟨_, e14⟩, ⟨_, e15⟩, ⟨_, e16⟩, ⟨aK, e17, hK⟩⟩ := T
  have G1 := ok_is_whole (P := P) (w := w) (base := base) D1 B
  have G2 := ok_is_word_programs (P := P) (w := w) (base := base) D2 B e2 e16 e15
  have G3 := ok_is_name_programs (P := P) (w := w) (base := base) D3 B e1 e14 e17 hK e15
  have G4 : ∀ n, Has P w K mg base CX0 "is_expression" Pis_expression (n + 2) (spAskN K isExpr n) := by
    intro n
    induction n with
    | zero => exact ok_is_expression1 (lv := 1) D4 B (by omega) e12 e13 G1 G3 ((D4.void (sp := fun _ _ _ _ => False) fun _ _ _ _ h => h).mono (by omega)) fun m h => by omega
    | succ n ih =>
      exact ok_is_expression1 (lv := n + 2) D4 B (by omega) e12 e13 G1 G3 ih fun m h => by
        obtain rfl : n = m := by omega
        rfl
  have G5 := ok_is_rest (lv := 5) D5 B (by omega) e4 e6 G1 (G4 3)
  have G6 : ∀ n, Has P w K mg base CX0 "is_test" Pis_test (n + 7) (spAskN K isTest n) := by
    intro n
    induction n with
    | zero => exact ok_is_test1 (lv := 6) D6 B (by omega) e4 G5 G3 (G4 3) ((D6.void (sp := fun _ _ _ _ => False) fun _ _ _ _ h => h).mono (by omega)) fun m h => by omega
    | succ n ih =>
      exact ok_is_test1 (lv := n + 7) D6 B (by omega) e4 G5 G3 (G4 3) ih fun m h => by
        obtain rfl : n = m := by omega
        rfl
  have G7 := ok_is_plain D7 B e4 G2 G3 (G4 3)
  have G8 := ok_is_statement D8 B e5 e3 G1 (G6 2) G7
  have G9 := ok_blocks_of (P := P) (w := w) (base := base) D9 B
  have G10 := ok_items_within D10 B G9
  have G11 := ok_rows_of D11 B G10
  have G12 := ok_order_error D12 B e11 G8 G10
  have G14 := ok_own_count D14 B (ok_bare (P := P) (w := w) (base := base) D13 B)
  have G15 : ∀ n, Has P w K mg base CX0 "counted" Pcounted (n + 3) (spCnt K n) := by
    intro n
    induction n with
    | zero => exact ok_counted1 (lv := 2) D15 B (by omega) G9 G14 ((D15.void (sp := fun _ _ _ _ => False) fun _ _ _ _ h => h).mono (by omega)) fun m h => by omega
    | succ n ih =>
      exact ok_counted1 (lv := n + 3) D15 B (by omega) G9 G14 ih fun m h => by
        obtain rfl : n = m := by omega
        rfl
  have G16 := ok_weight D16 B (G15 4)
  exact ⟨G1, G9, G11, G15 4, G16, ok_program_error D17 B e7 e8 e9 e10 G12 G11 (G15 4) G16⟩
/-- what the top holds for the reader -/
structure RdTop (mg : Str → Option Value) (K : PySem.W.Frag) (w : World) : Prop where
  MAX_NAME : ∃ t, mg "MAX_NAME" = some (.int 8 t)
  MAX_WORD : ∃ t, mg "MAX_WORD" = some (.int 8 t)
  LETTERS : ∃ t, mg "LETTERS_texts" = some (.str LETT t)
  FIGURES : ∃ t, mg "FIGURES" = some (.str FIG t)
  HEAD : ∃ t, mg "HEAD" = some (.str "program" t)
  MOST_FIGURES : ∃ t, mg "MOST_FIGURES" = some (.int 20 t)
  MOST_DEEP : ∃ t, mg "MOST_DEEP" = some (.int 20 t)
  MOST_NOTS : ∃ t, mg "MOST_NOTS" = some (.int 20 t)
  KEPT : ∃ a, mg "KEPT_WORDS" = some (.ref a) ∧ ∀ H : Hp, SqT K H a (KEPTS.map V.str)
  WORDS : ∃ a, mg "WORDS" = some (.ref a) ∧ KD K w a wordsL
  divmod : mg "divmod" = none
structure RdCls (mg : Str → Option Value) (K : PySem.W.Frag) (C : Addr) : Prop where
  T : RT K C
  mks : PySem.W.makesIn K C = true
  kc : PySem.W.keepIn K (.ref C) = true
  at_ : mg "ProgramReader" = some (.ref C)
  d0 : DfM K C "__init__" "ProgramReader.__init__" sProgramReader___init__ PProgramReader___init__
  d1 : DfM K C "close" "ProgramReader.close" sProgramReader_close PProgramReader_close
  d2 : DfM K C "come_to" "ProgramReader.come_to" sProgramReader_come_to PProgramReader_come_to
  d3 : DfM K C "read" "ProgramReader.read" sProgramReader_read PProgramReader_read
  d4 : DfM K C "put" "ProgramReader.put" sProgramReader_put PProgramReader_put
structure PtCls (mg : Str → Option Value) (K : PySem.W.Frag) (C : Addr) : Prop where
  T : PT K C
  mks : PySem.W.makesIn K C = true
  kc : PySem.W.keepIn K (.ref C) = true
  at_ : mg "Part" = some (.ref C)
  d0 : DfM K C "__init__" "Part.__init__" sPart___init__ PPart___init__
  d1 : DfM K C "lacks_line" "Part.lacks_line" sPart_lacks_line PPart_lacks_line
/-- statement_of -/
theorem rd_stmt (T : RdTop mg K w) (B : Blt mg) (D1 : DfA K mg "is_word_texts" "is_word" sis_word_texts Pis_word_texts) (D2 : DfA K mg "is_name_texts" "is_name" sis_name_texts Pis_name_texts) (D3 : Df K mg "integer_of" sinteger_of Pinteger_of)
    (D4 : Df K mg "sum_at" ssum_at Psum_at) (D5 : Df K mg "expression_at" sexpression_at Pexpression_at) (D6 : Df K mg "expression_of" sexpression_of Pexpression_of) (D7 : Df K mg "valued" svalued Pvalued) (D8 : Df K mg "setting_of" ssetting_of Psetting_of)
    (D9 : Df K mg "rest_of" srest_of Prest_of) (D10 : Df K mg "plain_test_of" splain_test_of Pplain_test_of) (D11 : Df K mg "test_of" stest_of Ptest_of) (D12 : Df K mg "statement_of" sstatement_of Pstatement_of) :
    Has P w K mg base CX0 "statement_of" Pstatement_of 48 (spStOf K) := by
  obtain ⟨⟨_, e1⟩, ⟨_, e2⟩, ⟨_, e3⟩, ⟨_, e4⟩, ⟨_, e5⟩, ⟨_, e6⟩, ⟨_, e7⟩, ⟨_, e8⟩, ⟨aK, e9, hK⟩, ⟨aW, e10, hW⟩, _⟩ := T
  have G1 := ok_is_word_texts (P := P) (w := w) (base := base) D1 B e3 e4
  have G2 := ok_is_name_texts D2 B e1 e3 e9 hK G1
  have G3 := ok_integer_of (P := P) (w := w) (base := base) D3 B e4
  have G5 : ∀ n, Has P w K mg base CX0 "expression_at" Pexpression_at (2 * n + 3) (spExAt K n) := by
    intro n
    induction n with
    | zero => exact ok_expression_at (lv := 2) D5 B (by omega) e7 e6 G3 G2 ((D4.void (sp := fun _ _ _ _ => False) fun _ _ _ _ h => h).mono (by omega)) fun m h => by omega
    | succ n ih =>
      exact ok_expression_at (lv := 2 * n + 4) D5 B (by omega) e7 e6 G3 G2 (ok_sum_at D4 B e10 hW ih) fun m h => by
        obtain rfl : n = m := by omega
        rfl
  have G6 := ok_expression_of D6 B (G5 20)
  have G7 := ok_valued (P := P) (w := w) (base := base) D7 B
  have G8 := ok_setting_of D8 B (by omega) G6 G2
  have G9 := ok_rest_of D9 B (by omega) e6 G6 G3
  have G10 := ok_plain_test_of (lv := 45) D10 B (by omega) G2 G9 ((G5 20).mono (by omega)) (G6.mono (by omega))
  have G11 := ok_test_of D11 B e8 G10
  exact ok_statement_of (lv := 47) D12 B (by omega) e2 e6 G1 G2 (G8.mono (by omega)) G7 (G6.mono (by omega)) G11 G3
/-- the base of the errors -/
structure RErr (mg : Str → Option Value) (K : PySem.W.Frag) (CR : Addr) : Prop where
  at_ : mg "ReadError" = some (.ref CR)
  rd : PySem.W.readsIn K CR (.type "type") = true
  sp : PySem.W.specialIn K (.ref CR) "__getattribute__" = some (some (.builtin "type.__getattribute__"))
  vV : PySem.W.findCls K (.ref CR) (.type "type") "__init__" = some (.val (.builtin "ValueError.__init__"))
/-- an error's class, its one field f -/
structure ErrCls (mg : Str → Option Value) (K : PySem.W.Frag) (x f q : Str) (st : Stmt) (ps : List Str) (C : Addr) : Prop where
  E : ErrC K mg x C
  nf : PySem.W.findIn K (.ref C) f = some none
  d : DfM K C "__init__" q st ps
  m : PySem.W.exmOne K (.ref C) (.ref C) = some true
abbrev ErrT (mg : Str → Option Value) (K : PySem.W.Frag) (C : Addr) : Prop := ErrCls mg K "BadText" "line" "BadText.__init__" sBadText___init__ PBadText___init__ C
abbrev ErrB (mg : Str → Option Value) (K : PySem.W.Frag) (C : Addr) : Prop := ErrCls mg K "BadProgram" "error" "BadProgram.__init__" sBadProgram___init__ PBadProgram___init__ C
/-- parse_program -/
theorem rd_parse {C CP CT CB CR : Addr} (T : RdTop mg K w) (R : RdCls mg K C) (X : PtCls mg K CP) (ER : RErr mg K CR) (ET : ErrT mg K CT) (EB : ErrB mg K CB) (B : Blt mg) (D : Df K mg "parse_program" sparse_program Pparse_program) (Gst : Has P w K mg base CX0 "statement_of" Pstatement_of 48 (spStOf K))
    (Gpe : Has P w K mg base CX0 "program_error" ["value"] 12 (spPerr K)) : Has P w K mg base (L2.CX P w) "parse_program" Pparse_program 50 (spParseX K CT CB) := by
  obtain ⟨_, e5⟩ := T.HEAD
  have P0 := HasC.of6 (ok_Part_init (P := P) (w := w) (base := base) X.d0 B X.T) X.mks X.kc X.at_
  have P1 := ok_Part_lacks (P := P) (w := w) (base := base) X.d1 B X.T e5
  have R0 := HasC.of6 (ok_Reader_init R.d0 B R.T e5 P0) R.mks R.kc R.at_
  have R1 := ok_Reader_close (P := P) (w := w) (base := base) R.d1 B R.T X.T
  have R2 := ok_Reader_come R.d2 B R.T R1
  have R4 := ok_Reader_put R.d4 B R.T X.T P0
  have R3 := ok_Reader_read (lv := 48) R.d3 B R.T X.T (by omega) T.divmod P0 P1 R2 R4 Gst
  have E1 := HasE.of ET.E (ok_BadText_init (P := P) (w := w) (base := base) ET.d B ET.E.o ET.nf ER.at_ ER.rd ER.sp ER.vV)
  have E2 := HasE.of EB.E (ok_BadProgram_init (P := P) (w := w) (base := base) EB.d B EB.E.o EB.nf ER.at_ ER.rd ER.sp ER.vV)
  exact ok_parse_program (lv := 49) D B R.T X.T (by omega) e5 R0 P1 R2 R3 E1 E2 (Gpe.mono (by omega))
/-- _law_parsed -/
theorem rd_parsed {C CP CT CB CR : Addr} (T : RdTop mg K w) (R : RdCls mg K C) (X : PtCls mg K CP) (ER : RErr mg K CR) (ET : ErrT mg K CT) (EB : ErrB mg K CB) (m2 : PySem.W.exmOne K (.ref CB) (.ref CT) = some false) (B : Blt mg)
    (D : Df K mg "parse_program" sparse_program Pparse_program) (D2 : Df K mg "_law_parsed" s_law_parsed P_law_parsed) (Gst : Has P w K mg base CX0 "statement_of" Pstatement_of 48 (spStOf K))
    (Gpe : Has P w K mg base CX0 "program_error" ["value"] 12 (spPerr K)) : Has P w K mg base CX0 "_law_parsed" P_law_parsed 51 (spParsedA K) :=
  ok_law_parsed D2 B ET.E EB.E ET.nf EB.nf ET.m m2 EB.m (rd_parse T R X ER ET EB B D Gst Gpe)
theorem errc_mk {K : PySem.W.Frag} {h : Heap} {mg : Str → Option Value} {C : Addr} {x : Str} {bm : List Value} (X : K.In h) (G : h.Ns mainGlobals mg) (a : PySem.W.nsIn K mainGlobals x = some (some (.ref C)))
    {nm q : Str} {N : Addr} {bs : List Value} {sn : List Str} {sub : List Value} {ab : Bool} {col : Option Bool} {dd : Option Addr} {m0 m1 m2 m3 m5 : Option Value}
    (xL : K.lookup C = some (excClassObj nm q C N bs bm true sn sub ab col dd m0 m1 m2 m3 m5 "ValueError.__new__")) (rv : PySem.HandSPX.refsVE bm = true)
    (sa : PySem.W.findIn K (.ref C) "__setattr__" = some (some (.builtin "object.__setattr__"))) (ga : PySem.W.findIn K (.ref C) "__getattribute__" = some (some (.builtin "BaseException.__getattribute__"))) (gg : PySem.W.findIn K (.ref C) "__getattr__" = some none)
    (kC : PySem.W.keepIn K (.ref C) = true) (eC : PySem.W.subIn K (.ref C) (.type "BaseException") = some true) (tC : PySem.W.typeIn K (.ref C) = some (.type "type")) (hC : PySem.W.hasDictIn K C = true) : ErrC K mg x C :=
  ⟨⟨⟨nm, q, N, bs, _, sn, sub, ab, col, dd, m0, m1, m2, m3, m5, xL, rv⟩, sa, eC, tC, kC⟩, ⟨ga, gg, eC, hC⟩, PySem.W.mg_of X G a⟩
theorem exm_mk {K : PySem.W.Frag} {S U : Addr} {b : Bool} (h1 : PySem.W.subIn K (.ref S) (.type "BaseException") = some true) (h2 : PySem.W.isClsIn K S = true) (h3 : PySem.W.typeIn K (.ref S) = some (.type "type")) (h4 : PySem.W.subIn K (.ref U) (.ref S) = some b) :
    PySem.W.exmOne K (.ref U) (.ref S) = some b := by
  have e1 : (PySem.W.subIn K (.ref S) (.type "BaseException") == some true) = true := by rw [h1] <;> rfl
  have e2 : ((PySem.W.clsIn K S).isSome && PySem.W.typeIn K (.ref S) == some (.type "type")) = true := by
    have h2' : (PySem.W.clsIn K S).isSome = true := h2
    rw [h2', h3] <;> rfl
  show (if (PySem.W.subIn K (.ref S) (.type "BaseException") == some true) = true then (if ((PySem.W.clsIn K S).isSome && PySem.W.typeIn K (.ref S) == some (.type "type")) = true then PySem.W.subIn K (.ref U) (.ref S) else none) else none) = some b
  rw [if_pos e1, if_pos e2]
  exact h4
theorem k01_lines (Dex : Df K mg "_law_expr_text" s_law_expr_text P_law_expr_text) (Dte : Df K mg "_law_test_text" s_law_test_text P_law_test_text) (Dli : Df K mg "_law_line" s_law_line P_law_line)
    (Dls : Df K mg "_law_lines" s_law_lines P_law_lines) (B : Blt mg) : Has P w K mg base CX0 "_law_lines" P_law_lines 13 (spLines K 4) := by
  have Gex := ok_law_expr_text (P := P) (w := w) (base := base) Dex B 3 (by decide)
  have Gte := ok_law_test_text Dte B Gex 2 (by omega)
  have Gli := ok_law_line Dli B Gex Gte
  have Gls : ∀ n, Has P w K mg base CX0 "_law_lines" P_law_lines (n + 9) (spLines K n) := by
    intro n
    induction n with
    | zero => exact ok_law_lines1 Dls B Gli ((Dls.void (sp := fun _ _ _ _ => False) fun _ _ _ _ h => h).mono (by omega)) fun m h => by omega
    | succ n ih =>
      exact ok_law_lines1 Dls B Gli ih fun m h => by
        obtain rfl : n = m := by omega
        rfl
  exact Gls 4
theorem gen_program (Ddr : Df K mg "_law_draw" s_law_draw P_law_draw) (Don : Df K mg "_law_one" s_law_one P_law_one) (Dex : Df K mg "_law_expr" s_law_expr P_law_expr) (Dte : Df K mg "_law_test" s_law_test P_law_test)
    (Dbl : Df K mg "_law_block" s_law_block P_law_block) (Dif : Df K mg "_law_if" s_law_if P_law_if) (Dst : Df K mg "_law_statement" s_law_statement P_law_statement) (Dpr : Df K mg "_law_program" s_law_program P_law_program) (B : Blt mg) :
    Has P w K mg base CX0 "_law_program" P_law_program 18 (spProg K) := by
  have Gdr := ok_law_draw (P := P) (w := w) (base := base) Ddr B
  have Gon := ok_law_one Don B Gdr
  have Gex : Has P w K mg base CX0 "_law_expr" P_law_expr 5 (spExprA K) := Has.any (ι := { m : Nat // 1 ≤ m ∧ m ≤ 3 }) ⟨1, by omega⟩ fun i => (ok_law_expr Dex B Gdr Gon i.1 i.2.1 i.2.2).mono (by have := i.2.2; omega)
  have Gte := ok_law_test Dte B Gdr Gon Gex
  have all : ∀ e, Has P w K mg base CX0 "_law_block" P_law_block (3 * e + 8) (spBlock K e) := by
    intro e
    induction e with
    | zero =>
      exact ok_law_block (lv := 7) Dbl B (by omega) Gon (ok_law_statement (lv := 6) Dst B (by omega) Gdr Gon Gex ((Dif.void (sp := fun _ _ _ _ => False) fun _ _ _ _ h => h).mono (by omega))
        ((Dbl.void (sp := fun _ _ _ _ => False) fun _ _ _ _ h => h).mono (by omega)) fun m h => by omega)
    | succ e ih =>
      refine ok_law_block (lv := 3 * e + 10) Dbl B (by omega) Gon (ok_law_statement (lv := 3 * e + 9) Dst B (by omega) Gdr Gon Gex (ok_law_if (lv := 3 * e + 8) Dif B (by omega) Gdr Gte ih) (ih.mono (by omega)) fun m h => ?_)
      obtain rfl : e = m := by omega
      exact ⟨rfl, rfl⟩
  exact ok_law_program Dpr B (all 3)
theorem q_reader (D1 : Df K mg "_law_is_word" s_law_is_word P_law_is_word) (D2 : Df K mg "_law_is_name" s_law_is_name P_law_is_name) (D3 : Df K mg "_law_is_integer" s_law_is_integer P_law_is_integer) (D4 : Df K mg "_law_cut" s_law_cut P_law_cut)
    (D5 : Df K mg "_law_is_expr" s_law_is_expr P_law_is_expr) (D6 : Df K mg "_law_is_rest" s_law_is_rest P_law_is_rest) (D7 : Df K mg "_law_is_test" s_law_is_test P_law_is_test) (D8 : Df K mg "_law_is_line" s_law_is_line P_law_is_line)
    (D9 : Df K mg "_law_wrong_line" s_law_wrong_line P_law_wrong_line) (B : Blt mg) : Has P w K mg base CX0 "_law_wrong_line" P_law_wrong_line 27 spWrong := by
  have G1 := ok_law_is_word (P := P) (w := w) (base := base) D1 B
  have G2 := ok_law_is_name D2 B G1
  have G3 := ok_law_is_integer (P := P) (w := w) (base := base) D3 B
  have G4 := ok_law_cut (P := P) (w := w) (base := base) D4 B
  have G5 : ∀ n, Has P w K mg base CX0 "_law_is_expr" P_law_is_expr (n + 3) (spLEx n) := by
    intro n
    induction n with
    | zero => exact ok_law_is_expr (lv := 2) D5 B (by omega) G2 G3 G4 ((D5.void (sp := fun _ _ _ _ => False) fun _ _ _ _ h => h).mono (by omega)) fun m h => by omega
    | succ n ih =>
      exact ok_law_is_expr (lv := n + 3) D5 B (by omega) G2 G3 G4 ih fun m h => by
        obtain rfl : n = m := by omega
        rfl
  have G6 := ok_law_is_rest (lv := 23) D6 B (by omega) G3 (G5 20)
  have G7 := ok_law_is_test (lv := 23) D7 B (by omega) G2 (G5 20) G6
  have G8 := ok_law_is_line (lv := 25) D8 B (by omega) G1 G2 G3 ((G5 20).mono (by omega)) G7
  exact ok_law_wrong_line D9 B G8
end
end Aw
open PySem PySem.W PyProof.Rows in
set_option maxRecDepth 100000 in
set_option maxHeartbeats 0 in
theorem PySem.Challenge.cw_anewread_k03_wrong_signs_in_texts_holds : PySem.Challenge.rw_anewread_k03_wrong_signs_in_texts.Holds := by
  w_on; o_law; k_head; (case hw => w_witness2)
  k_fill
  refine Aw.walkG (k := 70) (l := PySem.Challenge.rw_anewread_k03_wrong_signs_in_texts) (x := "_law_script") rfl rfl rfl ⟨⟨rfl, by decide, by decide⟩, rfl⟩ (fun w h Y => PySem.W.kIn_of Y) ?F ?Q
  case Q => rfl
  case F =>
    intro w mg h KX G base _ _ hSys
    have D_law_deck : Aw.Df (L2.KOf KX) mg "_law_deck" Aw.s_law_deck Aw.P_law_deck := by
      unfold L2.KOf
      refine' Aw.df_mk KX G ?a ?l ?c ?k ?b
      (case a => k_is)
      (case l => k_is)
      (case c => k_is)
      (case k => k_is)
      (case b => exact fun _ _ _ _ _ _ us hl => match us, hl with | [_], _ => rfl)
    have D_law_draw : Aw.Df (L2.KOf KX) mg "_law_draw" Aw.s_law_draw Aw.P_law_draw := by
      unfold L2.KOf
      refine' Aw.df_mk KX G ?a ?l ?c ?k ?b
      (case a => k_is)
      (case l => k_is)
      (case c => k_is)
      (case k => k_is)
      (case b => exact fun _ _ _ _ _ _ us hl => match us, hl with | [_, _], _ => rfl)
    have D_law_one : Aw.Df (L2.KOf KX) mg "_law_one" Aw.s_law_one Aw.P_law_one := by
      unfold L2.KOf
      refine' Aw.df_mk KX G ?a ?l ?c ?k ?b
      (case a => k_is)
      (case l => k_is)
      (case c => k_is)
      (case k => k_is)
      (case b => exact fun _ _ _ _ _ _ us hl => match us, hl with | [_, _], _ => rfl)
    have D_law_expr : Aw.Df (L2.KOf KX) mg "_law_expr" Aw.s_law_expr Aw.P_law_expr := by
      unfold L2.KOf
      refine' Aw.df_mk KX G ?a ?l ?c ?k ?b
      (case a => k_is)
      (case l => k_is)
      (case c => k_is)
      (case k => k_is)
      (case b => exact fun _ _ _ _ _ _ us hl => match us, hl with | [_, _, _], _ => rfl)
    have D_law_test : Aw.Df (L2.KOf KX) mg "_law_test" Aw.s_law_test Aw.P_law_test := by
      unfold L2.KOf
      refine' Aw.df_mk KX G ?a ?l ?c ?k ?b
      (case a => k_is)
      (case l => k_is)
      (case c => k_is)
      (case k => k_is)
      (case b => exact fun _ _ _ _ _ _ us hl => match us, hl with | [_, _, _], _ => rfl)
    have D_law_block : Aw.Df (L2.KOf KX) mg "_law_block" Aw.s_law_block Aw.P_law_block := by
      unfold L2.KOf
      refine' Aw.df_mk KX G ?a ?l ?c ?k ?b
      (case a => k_is)
      (case l => k_is)
      (case c => k_is)
      (case k => k_is)
      (case b => exact fun _ _ _ _ _ _ us hl => match us, hl with | [_, _, _, _, _], _ => rfl)
    have D_law_if : Aw.Df (L2.KOf KX) mg "_law_if" Aw.s_law_if Aw.P_law_if := by
      unfold L2.KOf
      refine' Aw.df_mk KX G ?a ?l ?c ?k ?b
      (case a => k_is)
      (case l => k_is)
      (case c => k_is)
      (case k => k_is)
      (case b => exact fun _ _ _ _ _ _ us hl => match us, hl with | [_, _, _, _, _, _], _ => rfl)
    have D_law_statement : Aw.Df (L2.KOf KX) mg "_law_statement" Aw.s_law_statement Aw.P_law_statement := by
      unfold L2.KOf
      refine' Aw.df_mk KX G ?a ?l ?c ?k ?b
      (case a => k_is)
      (case l => k_is)
      (case c => k_is)
      (case k => k_is)
      (case b => exact fun _ _ _ _ _ _ us hl => match us, hl with | [_, _, _, _, _], _ => rfl)
    have D_law_program : Aw.Df (L2.KOf KX) mg "_law_program" Aw.s_law_program Aw.P_law_program := by
      unfold L2.KOf
      refine' Aw.df_mk KX G ?a ?l ?c ?k ?b
      (case a => k_is)
      (case l => k_is)
      (case c => k_is)
      (case k => k_is)
      (case b => exact fun _ _ _ _ _ _ us hl => match us, hl with | [_, _, _], _ => rfl)
    have D_law_names : Aw.Df (L2.KOf KX) mg "_law_names" Aw.s_law_names Aw.P_law_names := by
      unfold L2.KOf
      refine' Aw.df_mk KX G ?a ?l ?c ?k ?b
      (case a => k_is)
      (case l => k_is)
      (case c => k_is)
      (case k => k_is)
      (case b => exact fun _ _ _ _ _ _ us hl => match us, hl with | [_, _], _ => rfl)
    have Dis_whole : Aw.Df (L2.KOf KX) mg "is_whole" Aw.sis_whole Aw.Pis_whole := by
      unfold L2.KOf
      refine' Aw.df_mk KX G ?a ?l ?c ?k ?b
      (case a => k_is)
      (case l => k_is)
      (case c => k_is)
      (case k => k_is)
      (case b => exact fun _ _ _ _ _ _ us hl => match us, hl with | [_, _, _], _ => rfl)
    have Dis_word_programs : Aw.DfA (L2.KOf KX) mg "is_word_programs" "is_word" Aw.sis_word_programs Aw.Pis_word_programs := by
      unfold L2.KOf
      refine' Aw.dfa_mk KX G ?a ?l ?c ?k ?b
      (case a => k_is)
      (case l => k_is)
      (case c => k_is)
      (case k => k_is)
      (case b => exact fun _ _ _ _ _ _ us hl => match us, hl with | [_], _ => rfl)
    have Dis_name_programs : Aw.DfA (L2.KOf KX) mg "is_name_programs" "is_name" Aw.sis_name_programs Aw.Pis_name_programs := by
      unfold L2.KOf
      refine' Aw.dfa_mk KX G ?a ?l ?c ?k ?b
      (case a => k_is)
      (case l => k_is)
      (case c => k_is)
      (case k => k_is)
      (case b => exact fun _ _ _ _ _ _ us hl => match us, hl with | [_], _ => rfl)
    have Dis_expression : Aw.Df (L2.KOf KX) mg "is_expression" Aw.sis_expression Aw.Pis_expression := by
      unfold L2.KOf
      refine' Aw.df_mk KX G ?a ?l ?c ?k ?b
      (case a => k_is)
      (case l => k_is)
      (case c => k_is)
      (case k => k_is)
      (case b => exact fun _ _ _ _ _ _ us hl => match us, hl with | [_, _], _ => rfl)
    have Dis_rest : Aw.Df (L2.KOf KX) mg "is_rest" Aw.sis_rest Aw.Pis_rest := by
      unfold L2.KOf
      refine' Aw.df_mk KX G ?a ?l ?c ?k ?b
      (case a => k_is)
      (case l => k_is)
      (case c => k_is)
      (case k => k_is)
      (case b => exact fun _ _ _ _ _ _ us hl => match us, hl with | [_], _ => rfl)
    have Dis_test : Aw.Df (L2.KOf KX) mg "is_test" Aw.sis_test Aw.Pis_test := by
      unfold L2.KOf
      refine' Aw.df_mk KX G ?a ?l ?c ?k ?b
      (case a => k_is)
      (case l => k_is)
      (case c => k_is)
      (case k => k_is)
      (case b => exact fun _ _ _ _ _ _ us hl => match us, hl with | [_, _], _ => rfl)
    have Dis_plain : Aw.Df (L2.KOf KX) mg "is_plain" Aw.sis_plain Aw.Pis_plain := by
      unfold L2.KOf
      refine' Aw.df_mk KX G ?a ?l ?c ?k ?b
      (case a => k_is)
      (case l => k_is)
      (case c => k_is)
      (case k => k_is)
      (case b => exact fun _ _ _ _ _ _ us hl => match us, hl with | [_], _ => rfl)
    have Dis_statement : Aw.Df (L2.KOf KX) mg "is_statement" Aw.sis_statement Aw.Pis_statement := by
      unfold L2.KOf
      refine' Aw.df_mk KX G ?a ?l ?c ?k ?b
      (case a => k_is)
      (case l => k_is)
      (case c => k_is)
      (case k => k_is)
      (case b => exact fun _ _ _ _ _ _ us hl => match us, hl with | [_], _ => rfl)
    have Dblocks_of : Aw.Df (L2.KOf KX) mg "blocks_of" Aw.sblocks_of Aw.Pblocks_of := by
      unfold L2.KOf
      refine' Aw.df_mk KX G ?a ?l ?c ?k ?b
      (case a => k_is)
      (case l => k_is)
      (case c => k_is)
      (case k => k_is)
      (case b => exact fun _ _ _ _ _ _ us hl => match us, hl with | [_], _ => rfl)
    have Ditems_within : Aw.Df (L2.KOf KX) mg "items_within" Aw.sitems_within Aw.Pitems_within := by
      unfold L2.KOf
      refine' Aw.df_mk KX G ?a ?l ?c ?k ?b
      (case a => k_is)
      (case l => k_is)
      (case c => k_is)
      (case k => k_is)
      (case b => exact fun _ _ _ _ _ _ us hl => match us, hl with | [_, _], _ => rfl)
    have Drows_of : Aw.Df (L2.KOf KX) mg "rows_of" Aw.srows_of Aw.Prows_of := by
      unfold L2.KOf
      refine' Aw.df_mk KX G ?a ?l ?c ?k ?b
      (case a => k_is)
      (case l => k_is)
      (case c => k_is)
      (case k => k_is)
      (case b => exact fun _ _ _ _ _ _ us hl => match us, hl with | [_], _ => rfl)
    have Dorder_error : Aw.Df (L2.KOf KX) mg "order_error" Aw.sorder_error Aw.Porder_error := by
      unfold L2.KOf
      refine' Aw.df_mk KX G ?a ?l ?c ?k ?b
      (case a => k_is)
      (case l => k_is)
      (case c => k_is)
      (case k => k_is)
      (case b => exact fun _ _ _ _ _ _ us hl => match us, hl with | [_], _ => rfl)
    have Dbare : Aw.Df (L2.KOf KX) mg "bare" Aw.sbare Aw.Pbare := by
      unfold L2.KOf
      refine' Aw.df_mk KX G ?a ?l ?c ?k ?b
      (case a => k_is)
      (case l => k_is)
      (case c => k_is)
      (case k => k_is)
      (case b => exact fun _ _ _ _ _ _ us hl => match us, hl with | [_], _ => rfl)
    have Down_count : Aw.Df (L2.KOf KX) mg "own_count" Aw.sown_count Aw.Pown_count := by
      unfold L2.KOf
      refine' Aw.df_mk KX G ?a ?l ?c ?k ?b
      (case a => k_is)
      (case l => k_is)
      (case c => k_is)
      (case k => k_is)
      (case b => exact fun _ _ _ _ _ _ us hl => match us, hl with | [_, _], _ => rfl)
    have Dcounted : Aw.Df (L2.KOf KX) mg "counted" Aw.scounted Aw.Pcounted := by
      unfold L2.KOf
      refine' Aw.df_mk KX G ?a ?l ?c ?k ?b
      (case a => k_is)
      (case l => k_is)
      (case c => k_is)
      (case k => k_is)
      (case b => exact fun _ _ _ _ _ _ us hl => match us, hl with | [_, _], _ => rfl)
    have Dweight : Aw.Df (L2.KOf KX) mg "weight" Aw.sweight Aw.Pweight := by
      unfold L2.KOf
      refine' Aw.df_mk KX G ?a ?l ?c ?k ?b
      (case a => k_is)
      (case l => k_is)
      (case c => k_is)
      (case k => k_is)
      (case b => exact fun _ _ _ _ _ _ us hl => match us, hl with | [_], _ => rfl)
    have Dprogram_error : Aw.Df (L2.KOf KX) mg "program_error" Aw.sprogram_error Aw.Pprogram_error := by
      unfold L2.KOf
      refine' Aw.df_mk KX G ?a ?l ?c ?k ?b
      (case a => k_is)
      (case l => k_is)
      (case c => k_is)
      (case k => k_is)
      (case b => exact fun _ _ _ _ _ _ us hl => match us, hl with | [_], _ => rfl)
    have Dis_word_texts : Aw.DfA (L2.KOf KX) mg "is_word_texts" "is_word" Aw.sis_word_texts Aw.Pis_word_texts := by
      unfold L2.KOf
      refine' Aw.dfa_mk KX G ?a ?l ?c ?k ?b
      (case a => k_is)
      (case l => k_is)
      (case c => k_is)
      (case k => k_is)
      (case b => exact fun _ _ _ _ _ _ us hl => match us, hl with | [_, _], _ => rfl)
    have Dis_name_texts : Aw.DfA (L2.KOf KX) mg "is_name_texts" "is_name" Aw.sis_name_texts Aw.Pis_name_texts := by
      unfold L2.KOf
      refine' Aw.dfa_mk KX G ?a ?l ?c ?k ?b
      (case a => k_is)
      (case l => k_is)
      (case c => k_is)
      (case k => k_is)
      (case b => exact fun _ _ _ _ _ _ us hl => match us, hl with | [_], _ => rfl)
    have Dinteger_of : Aw.Df (L2.KOf KX) mg "integer_of" Aw.sinteger_of Aw.Pinteger_of := by
      unfold L2.KOf
      refine' Aw.df_mk KX G ?a ?l ?c ?k ?b
      (case a => k_is)
      (case l => k_is)
      (case c => k_is)
      (case k => k_is)
      (case b => exact fun _ _ _ _ _ _ us hl => match us, hl with | [_, _], _ => rfl)
    have Dsum_at : Aw.Df (L2.KOf KX) mg "sum_at" Aw.ssum_at Aw.Psum_at := by
      unfold L2.KOf
      refine' Aw.df_mk KX G ?a ?l ?c ?k ?b
      (case a => k_is)
      (case l => k_is)
      (case c => k_is)
      (case k => k_is)
      (case b => exact fun _ _ _ _ _ _ us hl => match us, hl with | [_, _, _], _ => rfl)
    have Dexpression_at : Aw.Df (L2.KOf KX) mg "expression_at" Aw.sexpression_at Aw.Pexpression_at := by
      unfold L2.KOf
      refine' Aw.df_mk KX G ?a ?l ?c ?k ?b
      (case a => k_is)
      (case l => k_is)
      (case c => k_is)
      (case k => k_is)
      (case b => exact fun _ _ _ _ _ _ us hl => match us, hl with | [_, _, _], _ => rfl)
    have Dexpression_of : Aw.Df (L2.KOf KX) mg "expression_of" Aw.sexpression_of Aw.Pexpression_of := by
      unfold L2.KOf
      refine' Aw.df_mk KX G ?a ?l ?c ?k ?b
      (case a => k_is)
      (case l => k_is)
      (case c => k_is)
      (case k => k_is)
      (case b => exact fun _ _ _ _ _ _ us hl => match us, hl with | [_], _ => rfl)
    have Dvalued : Aw.Df (L2.KOf KX) mg "valued" Aw.svalued Aw.Pvalued := by
      unfold L2.KOf
      refine' Aw.df_mk KX G ?a ?l ?c ?k ?b
      (case a => k_is)
      (case l => k_is)
      (case c => k_is)
      (case k => k_is)
      (case b => exact fun _ _ _ _ _ _ us hl => match us, hl with | [_, _], _ => rfl)
    have Dsetting_of : Aw.Df (L2.KOf KX) mg "setting_of" Aw.ssetting_of Aw.Psetting_of := by
      unfold L2.KOf
      refine' Aw.df_mk KX G ?a ?l ?c ?k ?b
      (case a => k_is)
      (case l => k_is)
      (case c => k_is)
      (case k => k_is)
      (case b => exact fun _ _ _ _ _ _ us hl => match us, hl with | [_], _ => rfl)
    have Drest_of : Aw.Df (L2.KOf KX) mg "rest_of" Aw.srest_of Aw.Prest_of := by
      unfold L2.KOf
      refine' Aw.df_mk KX G ?a ?l ?c ?k ?b
      (case a => k_is)
      (case l => k_is)
      (case c => k_is)
      (case k => k_is)
      (case b => exact fun _ _ _ _ _ _ us hl => match us, hl with | [_], _ => rfl)
    have Dplain_test_of : Aw.Df (L2.KOf KX) mg "plain_test_of" Aw.splain_test_of Aw.Pplain_test_of := by
      unfold L2.KOf
      refine' Aw.df_mk KX G ?a ?l ?c ?k ?b
      (case a => k_is)
      (case l => k_is)
      (case c => k_is)
      (case k => k_is)
      (case b => exact fun _ _ _ _ _ _ us hl => match us, hl with | [_], _ => rfl)
    have Dtest_of : Aw.Df (L2.KOf KX) mg "test_of" Aw.stest_of Aw.Ptest_of := by
      unfold L2.KOf
      refine' Aw.df_mk KX G ?a ?l ?c ?k ?b
      (case a => k_is)
      (case l => k_is)
      (case c => k_is)
      (case k => k_is)
      (case b => exact fun _ _ _ _ _ _ us hl => match us, hl with | [_], _ => rfl)
    have Dstatement_of : Aw.Df (L2.KOf KX) mg "statement_of" Aw.sstatement_of Aw.Pstatement_of := by
      unfold L2.KOf
      refine' Aw.df_mk KX G ?a ?l ?c ?k ?b
      (case a => k_is)
      (case l => k_is)
      (case c => k_is)
      (case k => k_is)
      (case b => exact fun _ _ _ _ _ _ us hl => match us, hl with | [_], _ => rfl)
    have Dparse_program : Aw.Df (L2.KOf KX) mg "parse_program" Aw.sparse_program Aw.Pparse_program := by
      unfold L2.KOf
      refine' Aw.df_mk KX G ?a ?l ?c ?k ?b
      (case a => k_is)
      (case l => k_is)
      (case c => k_is)
      (case k => k_is)
      (case b => exact fun _ _ _ _ _ _ us hl => match us, hl with | [_], _ => rfl)
    have D_law_parsed : Aw.Df (L2.KOf KX) mg "_law_parsed" Aw.s_law_parsed Aw.P_law_parsed := by
      unfold L2.KOf
      refine' Aw.df_mk KX G ?a ?l ?c ?k ?b
      (case a => k_is)
      (case l => k_is)
      (case c => k_is)
      (case k => k_is)
      (case b => exact fun _ _ _ _ _ _ us hl => match us, hl with | [_], _ => rfl)
    have D_law_expr_text : Aw.Df (L2.KOf KX) mg "_law_expr_text" Aw.s_law_expr_text Aw.P_law_expr_text := by
      unfold L2.KOf
      refine' Aw.df_mk KX G ?a ?l ?c ?k ?b
      (case a => k_is)
      (case l => k_is)
      (case c => k_is)
      (case k => k_is)
      (case b => exact fun _ _ _ _ _ _ us hl => match us, hl with | [_], _ => rfl)
    have D_law_test_text : Aw.Df (L2.KOf KX) mg "_law_test_text" Aw.s_law_test_text Aw.P_law_test_text := by
      unfold L2.KOf
      refine' Aw.df_mk KX G ?a ?l ?c ?k ?b
      (case a => k_is)
      (case l => k_is)
      (case c => k_is)
      (case k => k_is)
      (case b => exact fun _ _ _ _ _ _ us hl => match us, hl with | [_], _ => rfl)
    have D_law_line : Aw.Df (L2.KOf KX) mg "_law_line" Aw.s_law_line Aw.P_law_line := by
      unfold L2.KOf
      refine' Aw.df_mk KX G ?a ?l ?c ?k ?b
      (case a => k_is)
      (case l => k_is)
      (case c => k_is)
      (case k => k_is)
      (case b => exact fun _ _ _ _ _ _ us hl => match us, hl with | [_], _ => rfl)
    have D_law_lines : Aw.Df (L2.KOf KX) mg "_law_lines" Aw.s_law_lines Aw.P_law_lines := by
      unfold L2.KOf
      refine' Aw.df_mk KX G ?a ?l ?c ?k ?b
      (case a => k_is)
      (case l => k_is)
      (case c => k_is)
      (case k => k_is)
      (case b => exact fun _ _ _ _ _ _ us hl => match us, hl with | [_, _], _ => rfl)
    have D_law_is_word : Aw.Df (L2.KOf KX) mg "_law_is_word" Aw.s_law_is_word Aw.P_law_is_word := by
      unfold L2.KOf
      refine' Aw.df_mk KX G ?a ?l ?c ?k ?b
      (case a => k_is)
      (case l => k_is)
      (case c => k_is)
      (case k => k_is)
      (case b => exact fun _ _ _ _ _ _ us hl => match us, hl with | [_], _ => rfl)
    have D_law_is_name : Aw.Df (L2.KOf KX) mg "_law_is_name" Aw.s_law_is_name Aw.P_law_is_name := by
      unfold L2.KOf
      refine' Aw.df_mk KX G ?a ?l ?c ?k ?b
      (case a => k_is)
      (case l => k_is)
      (case c => k_is)
      (case k => k_is)
      (case b => exact fun _ _ _ _ _ _ us hl => match us, hl with | [_], _ => rfl)
    have D_law_is_integer : Aw.Df (L2.KOf KX) mg "_law_is_integer" Aw.s_law_is_integer Aw.P_law_is_integer := by
      unfold L2.KOf
      refine' Aw.df_mk KX G ?a ?l ?c ?k ?b
      (case a => k_is)
      (case l => k_is)
      (case c => k_is)
      (case k => k_is)
      (case b => exact fun _ _ _ _ _ _ us hl => match us, hl with | [_], _ => rfl)
    have D_law_cut : Aw.Df (L2.KOf KX) mg "_law_cut" Aw.s_law_cut Aw.P_law_cut := by
      unfold L2.KOf
      refine' Aw.df_mk KX G ?a ?l ?c ?k ?b
      (case a => k_is)
      (case l => k_is)
      (case c => k_is)
      (case k => k_is)
      (case b => exact fun _ _ _ _ _ _ us hl => match us, hl with | [_], _ => rfl)
    have D_law_is_expr : Aw.Df (L2.KOf KX) mg "_law_is_expr" Aw.s_law_is_expr Aw.P_law_is_expr := by
      unfold L2.KOf
      refine' Aw.df_mk KX G ?a ?l ?c ?k ?b
      (case a => k_is)
      (case l => k_is)
      (case c => k_is)
      (case k => k_is)
      (case b => exact fun _ _ _ _ _ _ us hl => match us, hl with | [_, _], _ => rfl)
    have D_law_is_rest : Aw.Df (L2.KOf KX) mg "_law_is_rest" Aw.s_law_is_rest Aw.P_law_is_rest := by
      unfold L2.KOf
      refine' Aw.df_mk KX G ?a ?l ?c ?k ?b
      (case a => k_is)
      (case l => k_is)
      (case c => k_is)
      (case k => k_is)
      (case b => exact fun _ _ _ _ _ _ us hl => match us, hl with | [_], _ => rfl)
    have D_law_is_test : Aw.Df (L2.KOf KX) mg "_law_is_test" Aw.s_law_is_test Aw.P_law_is_test := by
      unfold L2.KOf
      refine' Aw.df_mk KX G ?a ?l ?c ?k ?b
      (case a => k_is)
      (case l => k_is)
      (case c => k_is)
      (case k => k_is)
      (case b => exact fun _ _ _ _ _ _ us hl => match us, hl with | [_], _ => rfl)
    have D_law_is_line : Aw.Df (L2.KOf KX) mg "_law_is_line" Aw.s_law_is_line Aw.P_law_is_line := by
      unfold L2.KOf
      refine' Aw.df_mk KX G ?a ?l ?c ?k ?b
      (case a => k_is)
      (case l => k_is)
      (case c => k_is)
      (case k => k_is)
      (case b => exact fun _ _ _ _ _ _ us hl => match us, hl with | [_], _ => rfl)
    have D_law_wrong_line : Aw.Df (L2.KOf KX) mg "_law_wrong_line" Aw.s_law_wrong_line Aw.P_law_wrong_line := by
      unfold L2.KOf
      refine' Aw.df_mk KX G ?a ?l ?c ?k ?b
      (case a => k_is)
      (case l => k_is)
      (case c => k_is)
      (case k => k_is)
      (case b => exact fun _ _ _ _ _ _ us hl => match us, hl with | [_], _ => rfl)
    have D_law_read_right : Aw.Df (L2.KOf KX) mg "_law_read_right" Aw.s_law_read_right Aw.P_law_read_right := by
      unfold L2.KOf
      refine' Aw.df_mk KX G ?a ?l ?c ?k ?b
      (case a => k_is)
      (case l => k_is)
      (case c => k_is)
      (case k => k_is)
      (case b => exact fun _ _ _ _ _ _ us hl => match us, hl with | [_], _ => rfl)
    have D_law_changed : Aw.Df (L2.KOf KX) mg "_law_changed" Aw.s_law_changed Aw.P_law_changed := by
      unfold L2.KOf
      refine' Aw.df_mk KX G ?a ?l ?c ?k ?b
      (case a => k_is)
      (case l => k_is)
      (case c => k_is)
      (case k => k_is)
      (case b => exact fun _ _ _ _ _ _ us hl => match us, hl with | [_, _, _], _ => rfl)
    have D_law_no_text : Aw.Df (L2.KOf KX) mg "_law_no_text" Aw.s_law_no_text Aw.P_law_no_text := by
      unfold L2.KOf
      refine' Aw.df_mk KX G ?a ?l ?c ?k ?b
      (case a => k_is)
      (case l => k_is)
      (case c => k_is)
      (case k => k_is)
      (case b => exact fun _ _ _ _ _ _ us hl => match us, hl with | [_], _ => rfl)
    have Dlaw : Aw.Df (L2.KOf KX) mg "law" Aw.slaw Aw.Plaw := by
      unfold L2.KOf
      refine' Aw.df_mk KX G ?a ?l ?c ?k ?b
      (case a => k_is)
      (case l => k_is)
      (case c => k_is)
      (case k => k_is)
      (case b => exact fun _ _ _ _ _ _ us hl => match us, hl with | [_], _ => rfl)
    have B : Aw.Blt mg := by
      refine' ⟨PySem.W.mg_none_of KX G ?z0, PySem.W.mg_none_of KX G ?z1, PySem.W.mg_none_of KX G ?z2, PySem.W.mg_none_of KX G ?z3, PySem.W.mg_none_of KX G ?z4, PySem.W.mg_none_of KX G ?z5, PySem.W.mg_none_of KX G ?z6, PySem.W.mg_none_of KX G ?z7, PySem.W.mg_none_of KX G ?z8, PySem.W.mg_none_of KX G ?z9, PySem.W.mg_none_of KX G ?z10, PySem.W.mg_none_of KX G ?z11, PySem.W.mg_none_of KX G ?z12, PySem.W.mg_none_of KX G ?z13, PySem.W.mg_none_of KX G ?z14, PySem.W.mg_none_of KX G ?z15, PySem.W.mg_none_of KX G ?z16, PySem.W.mg_none_of KX G ?z17, PySem.W.mg_none_of KX G ?z18⟩
      all_goals k_is
    have T : Aw.PeTop mg (L2.KOf KX) := by
      refine ⟨?t0, ?t1, ?t2, ?t3, ?t4, ?t5, ?t6, ?t7, ?t8, ?t9, ?t10, ?t11, ?t12, ?t13, ?t14, ?t15, ?t16⟩
      case t0 => (refine' Aw.gint_mk KX G ?z; (case z => k_is))
      case t1 => (refine' Aw.gint_mk KX G ?z; (case z => k_is))
      case t2 => (refine' Aw.gint_mk KX G ?z; (case z => k_is))
      case t3 => (refine' Aw.gint_mk KX G ?z; (case z => k_is))
      case t4 => (refine' Aw.gint_mk KX G ?z; (case z => k_is))
      case t5 => (refine' Aw.gint_mk KX G ?z; (case z => k_is))
      case t6 => (refine' Aw.gint_mk KX G ?z; (case z => k_is))
      case t7 => (refine' Aw.gint_mk KX G ?z; (case z => k_is))
      case t8 => (refine' Aw.gint_mk KX G ?z; (case z => k_is))
      case t9 => (refine' Aw.gint_mk KX G ?z; (case z => k_is))
      case t10 => (refine' Aw.gint_mk KX G ?z; (case z => k_is))
      case t11 => (refine' Aw.gint_mk KX G ?z; (case z => k_is))
      case t12 => (refine' Aw.gint_mk KX G ?z; (case z => k_is))
      case t13 => (refine' Aw.gstr_mk KX G ?z; (case z => k_is))
      case t14 => (refine' Aw.gstr_mk KX G ?z; (case z => k_is))
      case t15 => (refine' Aw.gstr_mk KX G ?z; (case z => k_is))
      case t16 =>
        unfold L2.KOf
        refine' Aw.kept_mk KX G ?s1 ?s2 ?s3 ?s4
        (case s1 => k_is)
        (case s2 => k_is)
        (case s3 => decide)
        (case s4 => exact .cons ⟨_, rfl⟩ (.cons ⟨_, rfl⟩ (.cons ⟨_, rfl⟩ (.cons ⟨_, rfl⟩ (.cons ⟨_, rfl⟩ (.cons ⟨_, rfl⟩ (.cons ⟨_, rfl⟩ (.cons ⟨_, rfl⟩ (.cons ⟨_, rfl⟩ (.cons ⟨_, rfl⟩ (.cons ⟨_, rfl⟩ (.cons ⟨_, rfl⟩ (.cons ⟨_, rfl⟩ (.nil))))))))))))))
    have GP := Aw.pe_has (P := PySem.Challenge.pw_anewread_k03_wrong_signs_in_texts) (w := w) (base := base) T B Dis_whole Dis_word_programs Dis_name_programs Dis_expression Dis_rest Dis_test Dis_plain Dis_statement Dblocks_of Ditems_within Drows_of Dorder_error Dbare Down_count Dcounted Dweight Dprogram_error
    have TR : Aw.RdTop mg (L2.KOf KX) w := by
      refine ⟨?t0, ?t1, ?t2, ?t3, ?t4, ?t5, ?t6, ?t7, ?t8, ?t9, ?t10⟩
      case t0 => (refine' Aw.gint_mk KX G ?z; (case z => k_is))
      case t1 => (refine' Aw.gint_mk KX G ?z; (case z => k_is))
      case t2 => (refine' Aw.gstr_mk KX G ?z; (case z => k_is))
      case t3 => (refine' Aw.gstr_mk KX G ?z; (case z => k_is))
      case t4 => (refine' Aw.gstr_mk KX G ?z; (case z => k_is))
      case t5 => (refine' Aw.gint_mk KX G ?z; (case z => k_is))
      case t6 => (refine' Aw.gint_mk KX G ?z; (case z => k_is))
      case t7 => (refine' Aw.gint_mk KX G ?z; (case z => k_is))
      case t8 =>
        unfold L2.KOf
        refine' Aw.keptw_mk KX G ?s1 ?s2 ?s3 ?s4
        (case s1 => k_is)
        (case s2 => k_is)
        (case s3 => decide)
        (case s4 => exact .cons ⟨_, rfl⟩ (.cons ⟨_, rfl⟩ (.cons ⟨_, rfl⟩ (.cons ⟨_, rfl⟩ (.cons ⟨_, rfl⟩ (.cons ⟨_, rfl⟩ (.cons ⟨_, rfl⟩ (.cons ⟨_, rfl⟩ (.cons ⟨_, rfl⟩ (.cons ⟨_, rfl⟩ (.cons ⟨_, rfl⟩ (.cons ⟨_, rfl⟩ (.cons ⟨_, rfl⟩ (.nil))))))))))))))
      case t9 =>
        unfold L2.KOf
        refine' Aw.words_mk KX G ?s1 ?s2 ?s4 ?s5 ?s3
        (case s1 => k_is)
        (case s2 => k_is)
        (case s4 => exact ⟨_, _, _, _, _, _, _, _, _, rfl⟩)
        (case s5 => decide)
        (case s3 => exact ⟨⟨_, _, rfl, rfl⟩, ⟨_, _, rfl, rfl⟩, ⟨_, _, rfl, rfl⟩, trivial⟩)
      case t10 => (refine' PySem.W.mg_none_of KX G ?z; (case z => k_is))
    have XC : ∃ C, Aw.RdCls mg (L2.KOf KX) C := by
      unfold L2.KOf
      refine' ⟨_, ⟨⟨?c1, ?c2, ?c3, ?c4⟩, Aw.na_mk6 ?n0⟩, ?mk0, ?kc, PySem.W.mg_of KX G ?ta0, Aw.dfm_mk6 ?a0 ?l0 ?e0 ?k0 ?i0 ?b0, Aw.dfm_mk6 ?a1 ?l1 ?e1 ?k1 ?i1 ?b1, Aw.dfm_mk6 ?a2 ?l2 ?e2 ?k2 ?i2 ?b2, Aw.dfm_mk6 ?a3 ?l3 ?e3 ?k3 ?i3 ?b3, Aw.dfm_mk6 ?a4 ?l4 ?e4 ?k4 ?i4 ?b4⟩
      (case ta0 => k_is)
      (case c1 => k_is)
      (case c2 => k_is)
      (case c3 => k_is)
      (case c4 => k_is)
      (case n0 => k_is)
      (case mk0 => k_is)
      (case kc => k_is)
      (case a0 => k_is)
      (case l0 => k_is)
      (case e0 => k_is)
      (case k0 => k_is)
      (case i0 => k_is)
      (case b0 => exact fun _ _ _ _ _ _ us hl => match us, hl with | [_], _ => rfl)
      (case a1 => k_is)
      (case l1 => k_is)
      (case e1 => k_is)
      (case k1 => k_is)
      (case i1 => k_is)
      (case b1 => exact fun _ _ _ _ _ _ us hl => match us, hl with | [_], _ => rfl)
      (case a2 => k_is)
      (case l2 => k_is)
      (case e2 => k_is)
      (case k2 => k_is)
      (case i2 => k_is)
      (case b2 => exact fun _ _ _ _ _ _ us hl => match us, hl with | [_, _], _ => rfl)
      (case a3 => k_is)
      (case l3 => k_is)
      (case e3 => k_is)
      (case k3 => k_is)
      (case i3 => k_is)
      (case b3 => exact fun _ _ _ _ _ _ us hl => match us, hl with | [_, _], _ => rfl)
      (case a4 => k_is)
      (case l4 => k_is)
      (case e4 => k_is)
      (case k4 => k_is)
      (case i4 => k_is)
      (case b4 => exact fun _ _ _ _ _ _ us hl => match us, hl with | [_, _], _ => rfl)
    obtain ⟨C, XC⟩ := XC
    have XCP : ∃ C, Aw.PtCls mg (L2.KOf KX) C := by
      unfold L2.KOf
      refine' ⟨_, ⟨⟨?c1, ?c2, ?c3, ?c4⟩, Aw.na_mk6 ?n0, Aw.na_mk6 ?n1, Aw.na_mk6 ?n2, Aw.na_mk6 ?n3⟩, ?mk0, ?kc, PySem.W.mg_of KX G ?ta0, Aw.dfm_mk6 ?a0 ?l0 ?e0 ?k0 ?i0 ?b0, Aw.dfm_mk6 ?a1 ?l1 ?e1 ?k1 ?i1 ?b1⟩
      (case ta0 => k_is)
      (case c1 => k_is)
      (case c2 => k_is)
      (case c3 => k_is)
      (case c4 => k_is)
      (case n0 => k_is)
      (case n1 => k_is)
      (case n2 => k_is)
      (case n3 => k_is)
      (case mk0 => k_is)
      (case kc => k_is)
      (case a0 => k_is)
      (case l0 => k_is)
      (case e0 => k_is)
      (case k0 => k_is)
      (case i0 => k_is)
      (case b0 => exact fun _ _ _ _ _ _ us hl => match us, hl with | [_, _, _], _ => rfl)
      (case a1 => k_is)
      (case l1 => k_is)
      (case e1 => k_is)
      (case k1 => k_is)
      (case i1 => k_is)
      (case b1 => exact fun _ _ _ _ _ _ us hl => match us, hl with | [_], _ => rfl)
    obtain ⟨CP, XCP⟩ := XCP
    have GST := Aw.rd_stmt (P := PySem.Challenge.pw_anewread_k03_wrong_signs_in_texts) (w := w) (base := base) TR B Dis_word_texts Dis_name_texts Dinteger_of Dsum_at Dexpression_at Dexpression_of Dvalued Dsetting_of Drest_of Dplain_test_of Dtest_of Dstatement_of
    have XE : ∃ CR CT CB, Aw.RErr mg (L2.KOf KX) CR ∧ Aw.ErrT mg (L2.KOf KX) CT ∧ Aw.ErrB mg (L2.KOf KX) CB ∧ PySem.W.exmOne (L2.KOf KX) (.ref CB) (.ref CT) = some false := by
      unfold L2.KOf
      refine' ⟨_, _, _, ⟨PySem.W.mg_of KX G ?r0, ?r1, ?r2, ?r3⟩, ⟨Aw.errc_mk KX G ?t0 ?t1 ?t2 ?t3 ?t4 ?t5 ?t6 ?t7 ?t8 ?t9, ?t10, Aw.dfm_mk6 ?t11 ?t12 ?t13 ?t14 ?t15 ?t16, Aw.exm_mk ?t17 ?t18 ?t19 ?t20⟩, ⟨Aw.errc_mk KX G ?b0 ?b1 ?b2 ?b3 ?b4 ?b5 ?b6 ?b7 ?b8 ?b9, ?b10, Aw.dfm_mk6 ?b11 ?b12 ?b13 ?b14 ?b15 ?b16, Aw.exm_mk ?b17 ?b18 ?b19 ?b20⟩, Aw.exm_mk ?m1 ?m2 ?m3 ?m4⟩
      (case r0 => k_is)
      (case r1 => k_is)
      (case r2 => k_is)
      (case r3 => k_is)
      (case t0 => first | k_is | rfl)
      (case t1 => first | k_is | rfl)
      (case t2 => decide +kernel)
      (case t3 => first | k_is | rfl)
      (case t4 => first | k_is | rfl)
      (case t5 => first | k_is | rfl)
      (case t6 => first | k_is | rfl)
      (case t7 => first | k_is | rfl)
      (case t8 => first | k_is | rfl)
      (case t9 => first | k_is | rfl)
      (case t10 => first | k_is | rfl)
      (case t11 => first | k_is | rfl)
      (case t12 => first | k_is | rfl)
      (case t13 => first | k_is | rfl)
      (case t14 => first | k_is | rfl)
      (case t15 => first | k_is | rfl)
      (case t16 => exact fun _ _ _ _ _ _ us hl => match us, hl with | [_, _], _ => rfl)
      (case t17 => first | k_is | rfl)
      (case t18 => first | k_is | rfl)
      (case t19 => first | k_is | rfl)
      (case t20 => first | k_is | rfl)
      (case b0 => first | k_is | rfl)
      (case b1 => first | k_is | rfl)
      (case b2 => decide +kernel)
      (case b3 => first | k_is | rfl)
      (case b4 => first | k_is | rfl)
      (case b5 => first | k_is | rfl)
      (case b6 => first | k_is | rfl)
      (case b7 => first | k_is | rfl)
      (case b8 => first | k_is | rfl)
      (case b9 => first | k_is | rfl)
      (case b10 => first | k_is | rfl)
      (case b11 => first | k_is | rfl)
      (case b12 => first | k_is | rfl)
      (case b13 => first | k_is | rfl)
      (case b14 => first | k_is | rfl)
      (case b15 => first | k_is | rfl)
      (case b16 => exact fun _ _ _ _ _ _ us hl => match us, hl with | [_, _], _ => rfl)
      (case b17 => first | k_is | rfl)
      (case b18 => first | k_is | rfl)
      (case b19 => first | k_is | rfl)
      (case b20 => first | k_is | rfl)
      (case m1 => first | k_is | rfl)
      (case m2 => first | k_is | rfl)
      (case m3 => first | k_is | rfl)
      (case m4 => first | k_is | rfl)
    obtain ⟨CR, CT, CB, XER, XET, XEB, XM⟩ := XE
    have GPR := Aw.rd_parsed (P := PySem.Challenge.pw_anewread_k03_wrong_signs_in_texts) (w := w) (base := base) TR XC XCP XER XET XEB XM B Dparse_program D_law_parsed GST GP.error
    have G1 := Aw.ok_law_deck (P := PySem.Challenge.pw_anewread_k03_wrong_signs_in_texts) (w := w) (base := base) D_law_deck B
    have G2 := Aw.ok_law_draw (P := PySem.Challenge.pw_anewread_k03_wrong_signs_in_texts) (w := w) (base := base) D_law_draw B
    have G3 := Aw.ok_law_one D_law_one B G2
    have G4 := Aw.ok_law_names D_law_names B G2 G3
    have G5 := Aw.gen_program (P := PySem.Challenge.pw_anewread_k03_wrong_signs_in_texts) (w := w) (base := base) D_law_draw D_law_one D_law_expr D_law_test D_law_block D_law_if D_law_statement D_law_program B
    have G6 := Aw.k01_lines (P := PySem.Challenge.pw_anewread_k03_wrong_signs_in_texts) (w := w) (base := base) D_law_expr_text D_law_test_text D_law_line D_law_lines B
    have G7 := Aw.q_reader (P := PySem.Challenge.pw_anewread_k03_wrong_signs_in_texts) (w := w) (base := base) D_law_is_word D_law_is_name D_law_is_integer D_law_cut D_law_is_expr D_law_is_rest D_law_is_test D_law_is_line D_law_wrong_line B
    have G8 := Aw.ok_law_read_right (lv := 51) D_law_read_right B hSys (by omega) (G7.mono (by omega)) (GPR.imp fun _ _ _ _ z => .inl z) (GP.error.mono (by omega)) (G6.mono (by omega))
    have G9 := Aw.ok_law_changed D_law_changed B G2 G3
    have G10 := Aw.ok_law_no_text D_law_no_text B G3
    exact Aw.ok_law (lv := 69) Dlaw B hSys (by omega) G1 G2 G3 G4 (G5.mono (by omega)) (G6.mono (by omega)) G9 G10 (GPR.mono (by omega)) (G8.mono (by omega))
