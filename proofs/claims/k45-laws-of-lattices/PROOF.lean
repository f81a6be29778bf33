import PyProof.Rows.All
import Wide.All
import OpenK.AllK
import Wide.FinOn
import HandS.ForMost
import HandS.IsInst
import HandS.TupAny
import HandS.RaiseMore
import HandS.Conv
import HandS.WideBits
import HandS.More
import HandS.Style
import PyProof.NeKinds
import PyProof.StrLawsIn
import HandS.TupMul
import HandS.ListItems
import HandS.Zip
import KE.KDictList
import HandS.ReplaceLit
import HandS.ReplaceList
import HandS.ExcInit
import HandS.ExcField
import HandS.ExcOwn
import HandS.TryMany
import HandS.WordsExc
import KE.GoesEnum
import HandS.NoneIn
import KE.IntTextLaws
import HandS.Text
import HandS.StrMore
import HandS.Call
import KE.KRevSl
import KE.KDictZip
import KE.KTurns
import HandS.Small
import HandS.TupLe
import PySem.Challenge.RW_anewread_k45_whole_lattices_obey_laws
set_option Elab.async false
set_option linter.all false
set_option maxRecDepth 100000
set_option maxHeartbeats 4000000
set_option autoImplicit false
namespace Aw
open PySem PySem.Spec PyProof.Rows L2
structure RoomG (k : Nat) (A : Around) : Prop where
  r : Room k A
  g : A.guards = some []
theorem RoomG.mono {j k : Nat} {A : Around} (h : RoomG k A) (q : j ≤ k) : RoomG j A := ⟨h.r.mono q, h.g⟩
theorem RoomG.hu {k : Nat} {A : Around} (h : RoomG k A) : A.units + 1 < cLine := hu_of h.r
theorem RoomG.h64 {k : Nat} {A : Around} (h : RoomG k A) : A.units + 64 < cLine := h.r.units
/-- a def keeps its promise wherever nothing is being shown -/
structure FnG (P : Program) (w : World) (K : PySem.W.Frag) (mg : Str → Option Value) (base : Heap) (CX : CXT)
    (k : Nat) (f : Addr) (fd : FuncData) (ps : List Str) (sp : Sp) : Prop where
  len : ∀ vs H Q E, sp vs H Q E → vs.length = ps.length
  run : ∀ (A : Around) (outer : List Env) (s : Shared) (H : Hp) (args : Args) (us : List Value) (vs : List V)
    (Q : VK) (E : XK), RoomG k A → Env0 P w K mg base A outer s H → BindsTo s fd args (ps.zip us) → Vals vs us →
    sp vs H Q E → codeAny (model P w) A (.call (.ref f) args) (CR CX outer P w H s Q E) s
section
variable {P : Program} {w : World} {K : PySem.W.Frag} {mg : Str → Option Value} {base : Heap} {CX : CXT}
theorem FnG.mono {j k : Nat} {f : Addr} {fd : FuncData} {ps : List Str} {sp : Sp}
    (F : FnG P w K mg base CX j f fd ps sp) (h : j ≤ k) : FnG P w K mg base CX k f fd ps sp :=
  ⟨F.len, fun A o s H a us vs Q E hr => F.run A o s H a us vs Q E (hr.mono h)⟩
theorem fnG_of {k : Nat} {f : Addr} {nm qual : Str} {params : Arguments} {body : List Stmt} {scope : Scope}
    {dV kV doc pm cdv ct oc : Value} {an od : Option Addr} {osl : Array (Option Value)} {N ps : List Str} {sp : Sp}
    (lk : K.lookup f = some ⟨oc, od, .func (PySem.W.fnOf nm qual params body scope dV kV doc pm an cdv ct), osl⟩)
    (hcd : PySem.W.codeIn K cdv qual = true) (S : FnScope N ps scope)
    (len : ∀ vs H Q E, sp vs H Q E → vs.length = ps.length)
    (hb : ∀ (A : Around) (outer : List Env) (s : Shared) (H : Hp) (vs : List V) (Q : VK) (E : XK),
      RoomG k (A.deeper (envOfC qual scope s.heap.objs.size f cdv)) → sp vs H Q E →
      ∃ t, PSs (cxOf CX P w K mg base N qual scope f cdv A outer s H E) body t ∧
        t { nx := fun _ H' => Q .non H', rt := Q } (start N vs) H) :
    FnG P w K mg base CX (k + 1) f (PySem.W.fnOf nm qual params body scope dV kV doc pm an cdv ct) ps sp := by
  refine ⟨len, fun A outer s H args us vs Q E hr e0 hbd r hsp => ?_⟩
  have hl := len _ _ _ _ hsp
  have KX : K.In s.heap := e0.mod.kin.keeps fun b o e => (e0.bs b o e).1
  have lim : s.heap.NoLimit := e0.mod.nolimit.keeps fun b o e => (e0.bs b o e).1
  refine codeAny_call_function hr.r.depth (KX _ _ lk) rfl S.co S.gen rfl (PySem.W.codeRec_of KX hcd)
    (hbd _ _ _ _ ?_)
  refine wpAny_newFunctionEnv_cells S.kind (fun ⟨n, v⟩ hy => ?_) fun env he s1 x => ?_
  · rcases S.par n (List.of_mem_zip hy).1 with q | q
    · exact .inl q
    · exact .inr ⟨q, PySem.W.cellsFrom_some _ _ _ (.inl q)⟩
  subst he
  refine ⟨lim.keeps x.toInCall.keep, codeAny_func ?_⟩
  obtain ⟨t, ht, hq⟩ := hb A outer s H vs Q E ⟨hr.r.deeper _, hr.g⟩ hsp
  have I := inv_start (CX := CX) (E := E) (f := f) (cd := cdv) S hr.r.hd e0 hl r x
  refine wpAny_mono (ht.run [] s1 (start N vs) H _ I hq) (fun fl s' hs => ?_) fun e s' hs => hs
  cases fl with
  | ret u =>
    obtain ⟨v, σ', H', J, rv, q⟩ := hs
    exact ⟨v, H', J.os, J.bare, J.base, J.hok, rv, q⟩
  | next =>
    obtain ⟨σ', H', J, q⟩ := hs
    exact ⟨V.non, H', J.os, J.bare, J.base, J.hok, rfl, q⟩
  | brk => exact hs.elim fun _ h => h.elim fun _ h => h.2.elim
  | cont => exact hs.elim fun _ h => h.elim fun _ h => h.2.elim
/-- a def of the top, by its name -/
def Df (K : PySem.W.Frag) (mg : Str → Option Value) (x : Str) (st : Stmt) (ps : List Str) : Prop :=
  ∃ (f : Addr) (fd : FuncData), Fun K x x st f fd ∧ mg x = some (.ref f) ∧ Binds K fd ps []
/-- the def of this name keeps a promise -/
def Has (P : Program) (w : World) (K : PySem.W.Frag) (mg : Str → Option Value) (base : Heap) (CX : CXT) (x : Str)
    (ps : List Str) (k : Nat) (sp : Sp) : Prop :=
  ∃ (f : Addr) (fd : FuncData), (PySem.W.keepIn K (.ref f) = true ∧ ∃ oc od osl, K.lookup f = some ⟨oc, od, .func fd, osl⟩) ∧
    mg x = some (.ref f) ∧ Binds K fd ps [] ∧ FnG P w K mg base CX k f fd ps sp
theorem Has.any {ι : Type} {x : Str} {ps : List Str} {k : Nat} {sp : ι → Sp} (i₀ : ι) (h : ∀ i, Has P w K mg base CX x ps k (sp i)) :
    Has P w K mg base CX x ps k (fun vs H Q E => ∃ i, sp i vs H Q E) := by
  obtain ⟨f, fd, ⟨a, oc, od, osl, l⟩, b, c, _⟩ := h i₀
  have same : ∀ i, FnG P w K mg base CX k f fd ps (sp i) := by
    intro i
    obtain ⟨f', fd', ⟨_, oc', od', osl', l'⟩, b', _, d'⟩ := h i
    cases b.symm.trans b'
    cases l.symm.trans l'
    exact d'
  exact ⟨f, fd, ⟨a, oc, od, osl, l⟩, b, c, fun vs H Q E ⟨i, z⟩ => (same i).len _ _ _ _ z, fun A o s H ar us vs Q E hr he hb hv ⟨i, hs⟩ =>
    (same i).run A o s H ar us vs Q E hr he hb hv hs⟩
theorem Has.mono {x : Str} {ps : List Str} {j k : Nat} {sp : Sp} (h : Has P w K mg base CX x ps j sp) (q : j ≤ k) :
    Has P w K mg base CX x ps k sp := by
  obtain ⟨f, fd, a, b, c, d⟩ := h
  exact ⟨f, fd, a, b, c, d.mono q⟩
theorem Has.imp {x : Str} {ps : List Str} {k : Nat} {sp sp' : Sp} (h : Has P w K mg base CX x ps k sp)
    (q : ∀ vs H Q E, sp' vs H Q E → sp vs H Q E) : Has P w K mg base CX x ps k sp' := by
  obtain ⟨f, fd, a, b, c, d⟩ := h
  exact ⟨f, fd, a, b, c, fun vs H Q E z => d.len _ _ _ _ (q _ _ _ _ z), fun A o s H ar us vs Q E hr he hb hv hs =>
    d.run A o s H ar us vs Q E hr he hb hv (q _ _ _ _ hs)⟩
theorem Df.has {x : Str} {st : Stmt} {ps N : List Str} {k : Nat} {sp : Sp} (d : Df K mg x st ps)
    (S : FnScope N ps (defScope st)) (len : ∀ vs H Q E, sp vs H Q E → vs.length = ps.length)
    (hb : ∀ (f : Addr) (cdv : Value) (A : Around) (outer : List Env) (s : Shared) (H : Hp) (vs : List V) (Q : VK) (E : XK),
      RoomG k (A.deeper (envOfC x (defScope st) s.heap.objs.size f cdv)) → sp vs H Q E →
      ∃ t, PSs (cxOf CX0 P w K mg base N x (defScope st) f cdv A outer s H E).nox (defBody st) t ∧
        t { nx := fun _ H' => Q .non H', rt := Q } (start N vs) H) : Has P w K mg base CX0 x ps (k + 1) sp := by
  obtain ⟨f, fd, F, m, b⟩ := d
  obtain ⟨oc, od, kV, doc, pm, an, cdv, ct, osl, rfl, lk, hcd⟩ := F.ex
  refine ⟨f, _, ⟨F.kp, oc, od, osl, lk⟩, m, b, fnG_of lk hcd S len fun A outer s H vs Q E hr hsp => ?_⟩
  obtain ⟨t, h, q⟩ := hb f cdv A outer s H vs Q E hr hsp
  exact ⟨t, h.nox, q⟩
end
section
variable {X : Cx} {CX : CXT} {k : Nat} {ps : List Str} {sp : Sp} {E : XK} {x : Str} {p pos : Pos} {e : Expr}
  {es : List Expr} {t : TA}
theorem runG {f : Addr} {fd : FuncData} {pins : List (Addr × Obj)} {σ : L2.St} {H : Hp} {s : Shared} {Q : VK}
    {us : List Value} {vs : List V} (F : FnG X.prog X.w X.K X.mg X.base CX k f fd ps sp) (hr : RoomG k X.A)
    (hb : Binds X.K fd ps []) (hx : Passes CX X E) (I : Inv X pins σ H s) (r : Vals vs us) (h : sp vs H Q E) :
    wpAny (model X.prog X.w) X.A (call (.ref f) us) (EP X pins σ Q) X.xe s := by
  have hl : (us ++ []).length = ps.length := by
    rw [List.append_nil, ← r.length]
    exact F.len _ _ _ _ h
  have bb := hb s us I.kIn hl
  rw [List.append_nil] at bb
  refine wpAny_call (codeAny_mono (F.run X.A X.stack s H ⟨us, []⟩ us vs Q E hr I.env0 bb r h) fun r s' hq => ?_)
  match r, hq with
  | .error e, hq => exact hx pins σ H s e s' I hq
  | .ok (.ret u), hq => exact I.after hq
/-- f(e, ..) of a def by its name -/
theorem pe_f (F : Has X.prog X.w X.K X.mg X.base CX x ps k sp) (hr : RoomG k X.A) (hg : Gl X x) (hx : Passes CX X E)
    (ha : PA X (e :: es) t) (hdb : (x == ("__debug__" : Str)) = false := by decide)
    (he : starEach (e :: es) X.env = (false, eval e X.env) :: starEach es X.env := by rfl)
    (hpl : (backTo pos (starEach es X.env)).any (·.1) = false := by rfl) :
    PE X (.Call (.Name x p) (e :: es) [] pos) (tCall sp [] E t) := by
  obtain ⟨f, fd, ⟨hk, _⟩, hm, hb, F⟩ := F
  refine ⟨fun pins s σ H Q I h => wpAny_Call_Name_kw (ld_glob I hg hm ?_ hdb)⟩
  refine PySem.W.callWith_K (h₀ := X.base) I.ok.mod.kin hk (thn (ha.run pos pins s σ H _ I h) fun us s1 q => ?_) he hpl
  obtain ⟨vs, H1, I1, r, q⟩ := q
  rw [List.append_nil] at q
  exact ⟨I1.kIn, runG F hr hb hx I1 r q⟩
end
end Aw
namespace Aw
open PySem PySem.Spec PyProof.Rows L2
def spLaw (K : PySem.W.Frag) : Sp := fun vs H Q _ => ∃ (a : Addr) (ns : List Int),
  vs = [.ref a] ∧ SqL K H a (ns.map V.int) ∧ ns.length ≤ 63 ∧ ∀ H', Q (.bl true) H'
theorem df_mk {K : PySem.W.Frag} {h : Heap} {mg : Str → Option Value} {x : Str} {st : Stmt} {ps : List Str} {f : Addr}
    {oc kV doc pm cdv ct : Value} {od an : Option Addr} {osl : Array (Option Value)} (X : K.In h) (G : h.Ns mainGlobals mg)
    (a : PySem.W.nsIn K mainGlobals x = some (some (.ref f)))
    (l : K.lookup f = some ⟨oc, od, .func (PySem.W.fnOf x x (defArgs st) (defBody st) (defScope st) .none kV doc pm an cdv ct), osl⟩)
    (c : PySem.W.codeIn K cdv x = true) (k : PySem.W.keepIn K (.ref f) = true)
    (b : ∀ (kV doc pm : Value) (an : Option Addr) (cdv ct : Value) (us : List Value), us.length = ps.length →
      bindArgs (PySem.W.fnOf x x (defArgs st) (defBody st) (defScope st) .none kV doc pm an cdv ct) ⟨us, []⟩ = pure (ps.zip us)) :
    Df K mg x st ps := by
  have F := fun_mk (st := st) l c k
  exact ⟨f, _, F, PySem.W.mg_of X G a, F.binds b⟩
theorem gint_mk {K : PySem.W.Frag} {h : Heap} {mg : Str → Option Value} {x : Str} {z : Int} {t : Tok} (X : K.In h) (G : h.Ns mainGlobals mg)
    (a : PySem.W.nsIn K mainGlobals x = some (some (.int z t))) : ∃ t, mg x = some (.int z t) := ⟨t, PySem.W.mg_of X G a⟩
end Aw
namespace Aw
open PySem PySem.Spec L2
/-- names of built-ins that the top leaves alone -/
structure Blt (mg : Str → Option Value) : Prop where
  len : mg "len" = none
  int : mg "int" = none
  abs : mg "abs" = none
  str : mg "str" = none
  bool : mg "bool" = none
  range : mg "range" = none
  isinstance : mg "isinstance" = none
  tuple : mg "tuple" = none
  list : mg "list" = none
  repr : mg "repr" = none
  zip : mg "zip" = none
  enumerate : mg "enumerate" = none
  sum : mg "sum" = none
  min : mg "min" = none
  max : mg "max" = none
  all : mg "all" = none
  any : mg "any" = none
  sorted : mg "sorted" = none
  dict : mg "dict" = none
/-- what may be written -/
def Mut : HO → Prop
  | .tup _ => False
  | .frz _ _ => False
  | _ => True
/-- all but what stands at M is kept -/
def Kp (M : List Addr) (H H' : Hp) : Prop :=
  ∀ b o, H b = some o → (b ∈ M → Mut o) ∧ (b ∉ M → H' b = some o)
/-- lists stand at M -/
def Ls (M : List Addr) (H : Hp) : Prop := ∀ b ∈ M, ∃ xs, H b = some (.lst xs)
theorem Kp.refl {M : List Addr} {H : Hp} (h : Ls M H) : Kp M H H := fun b o e => ⟨fun m => by
  obtain ⟨xs, q⟩ := h b m
  rw [e] at q
  cases q
  trivial, fun _ => e⟩
/-- what may be written stands at M -/
def Ms (M : List Addr) (H : Hp) : Prop := ∀ b ∈ M, ∃ o, H b = some o ∧ Mut o
theorem Kp.reflM {M : List Addr} {H : Hp} (h : Ms M H) : Kp M H H := fun b o e => ⟨fun m => by
  obtain ⟨o', q, z⟩ := h b m
  rw [e] at q
  cases q
  exact z, fun _ => e⟩
theorem Ms.nil {H : Hp} : Ms [] H := fun b m => by cases m
theorem Ms.cons {M : List Addr} {H : Hp} {a : Addr} {o : HO} (e : H a = some o) (z : Mut o) (h : Ms M H) : Ms (a :: M) H := fun b m => by
  rcases List.mem_cons.mp m with rfl | m
  · exact ⟨o, e, z⟩
  · exact h b m
theorem Kp.nil {H : Hp} : Kp [] H H := fun b o e => ⟨fun m => (by cases m), fun _ => e⟩
theorem Kp.trans {M : List Addr} {H H1 H2 : Hp} (a : Kp M H H1) (b : Kp M H1 H2) : Kp M H H2 := fun c o e =>
  ⟨(a c o e).1, fun n => (b c o ((a c o e).2 n)).2 n⟩
theorem Kp.sub {M M' : List Addr} {H H1 : Hp} (a : Kp M H H1) (h : Ls M' H) (s : ∀ b ∈ M, b ∈ M') : Kp M' H H1 := fun c o e =>
  ⟨fun m => by
    obtain ⟨xs, q⟩ := h c m
    rw [e] at q
    cases q
    trivial, fun n => (a c o e).2 fun m => n (s c m)⟩
theorem Kp.subM {M M' : List Addr} {H H1 : Hp} (a : Kp M H H1) (h : Ms M' H) (s : ∀ b ∈ M, b ∈ M') : Kp M' H H1 := fun c o e =>
  ⟨fun m => by
    obtain ⟨o', q, z⟩ := h c m
    rw [e] at q
    cases q
    exact z, fun n => (a c o e).2 fun m => n (s c m)⟩
theorem Kp.same {H H1 : Hp} (a : Kp [] H H1) : Same H H1 := fun b o e => (a b o e).2 (by simp)
theorem Kp.of {H H1 : Hp} (a : Same H H1) : Kp [] H H1 := fun b o e => ⟨fun m => (by cases m), fun _ => a b o e⟩
theorem Kp.get {M : List Addr} {H H1 : Hp} {b : Addr} {o : HO} (a : Kp M H H1) (e : H b = some o) (n : b ∉ M) : H1 b = some o := (a b o e).2 n
theorem Kp.tup {M : List Addr} {H H1 : Hp} {b : Addr} {xs : List V} (a : Kp M H H1) (e : H b = some (.tup xs)) : H1 b = some (.tup xs) :=
  (a b _ e).2 fun m => (a b _ e).1 m
/-- a new object -/
theorem Kp.new {M : List Addr} {H H1 : Hp} {p : Addr} {o : HO} (a : Kp M H H1) (n : H1 p = none) : Kp M H (upd H1 p o) := fun b u e =>
  ⟨(a b u e).1, fun m => by
    have q := (a b u e).2 m
    rw [upd_ne (ne_of_none q n)]
    exact q⟩
/-- a write at M -/
theorem Kp.write {M : List Addr} {H H1 : Hp} {p : Addr} {o : HO} (a : Kp M H H1) (m : p ∈ M) : Kp M H (upd H1 p o) := fun b u e =>
  ⟨(a b u e).1, fun n => by
    have q := (a b u e).2 n
    rw [upd_ne (fun z : b = p => n (by rw [z]; exact m))]
    exact q⟩
/-- what was not there ahead may be written -/
theorem Kp.own {M : List Addr} {H H1 : Hp} {p : Addr} {o : HO} (a : Kp M H H1) (n : H p = none) : Kp M H (upd H1 p o) := fun b u e =>
  ⟨(a b u e).1, fun m => by
    rw [upd_ne (ne_of_none e n)]
    exact (a b u e).2 m⟩
theorem Kp.free {M : List Addr} {H H1 : Hp} {p : Addr} (a : Kp M H H1) (l : Ls M H1) (n : H1 p = none) : H p = none := by
  cases q : H p with
  | none => rfl
  | some o =>
    by_cases m : p ∈ M
    · obtain ⟨xs, z⟩ := l p m
      rw [n] at z
      cases z
    · rw [(a p o q).2 m] at n
      cases n
theorem Kp.freeM {M : List Addr} {H H1 : Hp} {p : Addr} (a : Kp M H H1) (l : Ms M H1) (n : H1 p = none) : H p = none := by
  cases q : H p with
  | none => rfl
  | some o =>
    by_cases m : p ∈ M
    · obtain ⟨o', z, _⟩ := l p m
      rw [n] at z
      cases z
    · rw [(a p o q).2 m] at n
      cases n
theorem sqT_kp {K : PySem.W.Frag} {M : List Addr} {H H1 : Hp} {b : Addr} {xs : List V} (a : Kp M H H1) (h : SqT K H b xs) : SqT K H1 b xs := by
  rcases h with (h | ⟨o, h⟩) | h
  · exact .inl (.inl (a.tup h))
  · exact .inl (.inr ⟨o, (a b _ h).2 fun m => (a b _ h).1 m⟩)
  · exact .inr h
theorem sqL_kp {K : PySem.W.Frag} {M : List Addr} {H H1 : Hp} {b : Addr} {xs : List V} (a : Kp M H H1) (n : b ∉ M) (h : SqL K H b xs) : SqL K H1 b xs := by
  rcases h with (h | ⟨o, h⟩) | h
  · exact .inl (.inl (a.get h n))
  · exact .inl (.inr ⟨o, a.get h n⟩)
  · exact .inr h
/-- data without lists -/
inductive Dt (K : PySem.W.Frag) (H : Hp) : V → PyData → Prop
  | non : Dt K H .non .none
  | bl (b : Bool) : Dt K H (.bl b) (.bool b)
  | int (i : Int) : Dt K H (.int i) (.int i)
  | str (x : Str) : Dt K H (.str x) (.str x)
  | tup {a : Addr} {xs : List V} {ds : List PyData} : SqT K H a xs → xs.length = ds.length →
      (∀ (i : Nat) (v : V) (d : PyData), xs[i]? = some v → ds[i]? = some d → Dt K H v d) → Dt K H (.ref a) (.tuple ds)
theorem Dt.kp {K : PySem.W.Frag} {M : List Addr} {H H1 : Hp} {v : V} {d : PyData} (a : Kp M H H1) (h : Dt K H v d) : Dt K H1 v d := by
  induction h with
  | non => exact .non
  | bl b => exact .bl b
  | int i => exact .int i
  | str x => exact .str x
  | tup s l _ ih => exact .tup (sqT_kp a s) l ih
theorem Dt.dp {K : PySem.W.Frag} {H : Hp} {v : V} {d : PyData} (h : Dt K H v d) : Dp K H v d := by
  induction h with
  | non => exact .non
  | bl b => exact .bl b
  | int i => exact .int i
  | str x => exact .str x
  | @tup a xs ds s l _ ih =>
    refine .tup s ?_
    clear s
    induction xs generalizing ds with
    | nil =>
      cases ds with
      | nil => exact .nil
      | cons d ds => cases l
    | cons x xs ihx =>
      cases ds with
      | nil => cases l
      | cons d ds =>
        refine .cons (ih 0 x d rfl rfl) (ihx (by simpa using l) (fun i => ?_) fun i => ?_)
        · rename_i q
          exact q (i + 1)
        · exact ih (i + 1)
structure Deck (H : Hp) (d c : Addr) (n : Int) : Prop where
  hd : H d = some (.lst [.ref c, .int n])
  hc : ∃ cs : List Int, H c = some (.lst (cs.map V.int)) ∧ (∀ x ∈ cs, 0 ≤ x) ∧ cs.length ≤ 63
  ne : d ≠ c
  n0 : 0 ≤ n
theorem Deck.ls {H : Hp} {d c : Addr} {n : Int} (D : Deck H d c n) : Ls [d, c] H := by
  intro b m
  rcases List.mem_cons.mp m with rfl | m
  · exact ⟨_, D.hd⟩
  · obtain ⟨cs, h, _⟩ := D.hc
    rw [List.mem_singleton.mp m]
    exact ⟨_, h⟩
theorem Deck.fresh {H : Hp} {d c p : Addr} {n : Int} (D : Deck H d c n) (h : H p = none) : p ≠ d ∧ p ≠ c := by
  obtain ⟨cs, hc, _⟩ := D.hc
  exact ⟨Ne.symm (ne_of_none D.hd h), Ne.symm (ne_of_none hc h)⟩
theorem Deck.kp {M : List Addr} {H H1 : Hp} {d c : Addr} {n : Int} (D : Deck H d c n) (k : Kp M H H1) (hd : d ∉ M) (hc : c ∉ M) : Deck H1 d c n := by
  obtain ⟨cs, h, a, b⟩ := D.hc
  exact ⟨k.get D.hd hd, ⟨cs, k.get h hc, a, b⟩, D.ne, D.n0⟩
/-- a draw -/
def spDraw : Sp := fun vs H Q _ => ∃ (d c : Addr) (n m : Int), vs = [.ref d, .int m] ∧ Deck H d c n ∧ n < 10 ^ 12 ∧ 1 ≤ m ∧ m < 2 ^ 30 ∧
  ∀ (H' : Hp) (r : Int), 0 ≤ r → r < m → Deck H' d c (n + 1) → Kp [d, c] H H' → Q (.int r) H'
theorem spDraw.use {H : Hp} {Q : VK} {E : XK} {d c : Addr} {n m : Int} (D : Deck H d c n) (hn : n < 10 ^ 12) (h1 : 1 ≤ m) (h2 : m < 2 ^ 30)
    (k : ∀ (H' : Hp) (r : Int), 0 ≤ r → r < m → Deck H' d c (n + 1) → Kp [d, c] H H' → Q (.int r) H') : spDraw [.ref d, .int m] H Q E :=
  ⟨d, c, n, m, rfl, D, hn, h1, h2, k⟩
/-- the deck is made -/
def spDeck (K : PySem.W.Frag) : Sp := fun vs H Q _ => ∃ (a : Addr) (ns : List Int), vs = [.ref a] ∧ SqL K H a (ns.map V.int) ∧ ns.length ≤ 63 ∧
  ∀ (H' : Hp) (d c : Addr), H d = none → H c = none → Deck H' d c 0 → Kp [] H H' → Q (.ref d) H'
/-- one of the items of a list, of a text -/
def spOneL (K : PySem.W.Frag) : Sp := fun vs H Q _ => ∃ (d c a : Addr) (n : Int) (xs : List V), vs = [.ref d, .ref a] ∧ Deck H d c n ∧ n < 10 ^ 12 ∧ SqL K H a xs ∧ a ≠ d ∧ a ≠ c ∧
  1 ≤ xs.length ∧ xs.length < 2 ^ 30 ∧ ∀ (H' : Hp) (i : Nat) (x : V), xs[i]? = some x → Deck H' d c (n + 1) → Kp [d, c] H H' → Q x H'
def spOneS : Sp := fun vs H Q _ => ∃ (d c : Addr) (n : Int) (z : Str), vs = [.ref d, .str z] ∧ Deck H d c n ∧ n < 10 ^ 12 ∧
  1 ≤ z.length ∧ z.length ≤ 1000 ∧ ∀ (H' : Hp) (k : Nat), k ∈ z.cps.toList → Deck H' d c (n + 1) → Kp [d, c] H H' → Q (.str ⟨#[k]⟩) H'
def spOne (K : PySem.W.Frag) : Sp := fun vs H Q E => spOneL K vs H Q E ∨ spOneS vs H Q E
theorem spOne.list {K : PySem.W.Frag} {H : Hp} {Q : VK} {E : XK} {d c a : Addr} {n : Int} {xs : List V} (D : Deck H d c n) (hn : n < 10 ^ 12) (s : SqL K H a xs) (h1 : a ≠ d) (h2 : a ≠ c)
    (h3 : 1 ≤ xs.length) (h4 : xs.length < 2 ^ 30) (k : ∀ (H' : Hp) (i : Nat) (x : V), xs[i]? = some x → Deck H' d c (n + 1) → Kp [d, c] H H' → Q x H') : spOne K [.ref d, .ref a] H Q E :=
  .inl ⟨d, c, a, n, xs, rfl, D, hn, s, h1, h2, h3, h4, k⟩
theorem spOne.text {K : PySem.W.Frag} {H : Hp} {Q : VK} {E : XK} {d c : Addr} {n : Int} {z : Str} (D : Deck H d c n) (hn : n < 10 ^ 12) (h3 : 1 ≤ z.length) (h4 : z.length ≤ 1000)
    (k : ∀ (H' : Hp) (i : Nat), i ∈ z.cps.toList → Deck H' d c (n + 1) → Kp [d, c] H H' → Q (.str ⟨#[i]⟩) H') : spOne K [.ref d, .str z] H Q E :=
  .inr ⟨d, c, n, z, rfl, D, hn, h3, h4, k⟩
end Aw
namespace Aw
open PySem PySem.Spec L2
section
variable {σ : L2.St} {H : Hp} {D : Ends} {Q : VK} {v x y : V} {i j : Nat} {t u : TS} {te ta tb tc : TE} {tt tu : TT} {ts : TA} {g : TG} {gs : TGs}
theorem r_seq (h : t { D with nx := u D } σ H) : tSeq t u D σ H := h
theorem r_next (h : D.nx σ H) : tNext D σ H := h
theorem r_asg (h : te σ H fun x H1 => g x σ H1 D.nx) : tAsg te g D σ H := h
theorem r_name {R : L2.St → Hp → Prop} (h : R (σ.set i (some v)) H) : gName i v σ H R := h
theorem r_sub {to ti : TE} {w : TSet} {R : L2.St → Hp → Prop} (h : to σ H fun o H1 => ti σ H1 fun i H2 => w o i v H2 fun H3 => R σ H3) : gSub to ti w v σ H R := h
theorem r_gtup {K : PySem.W.Frag} {n : Nat} {a : Addr} {xs : List V} {R : L2.St → Hp → Prop} (h : SqT K H a xs) (l : xs.length = n) (q : gs xs σ H R) : gTup K n gs (.ref a) σ H R := ⟨a, xs, rfl, h, l, q⟩
theorem r_gcons {R : L2.St → Hp → Prop} {xs : List V} (h : g x σ H fun σ' H' => gs xs σ' H' R) : gCons g gs (x :: xs) σ H R := ⟨x, xs, rfl, h⟩
theorem r_gnil {R : L2.St → Hp → Prop} (h : R σ H) : gNil [] σ H R := ⟨rfl, h⟩
theorem r_ifS (h : tt σ H fun b H1 => if b = true then t D σ H1 else u D σ H1) : tIfS tt t u D σ H := h
theorem r_ret (h : te σ H D.rt) : tRet te D σ H := h
theorem r_retN (h : D.rt .non H) : tRetN D σ H := h
theorem r_drop (h : te σ H fun _ H1 => D.nx σ H1) : tDrop te D σ H := h
theorem r_par (h : ts σ H fun vs H1 => ∃ v w, vs = [v, w] ∧ D.nx ((σ.set i (some v)).set j (some w)) H1) : tPar i j ts D σ H := h
theorem r_two {R : V → V → Prop} (h : R x y) : ∃ v w, [x, y] = [v, w] ∧ R v w := ⟨x, y, rfl, h⟩
theorem r_par3 {l : Nat} (h : ts σ H fun vs H1 => ∃ u v w, vs = [u, v, w] ∧ D.nx (((σ.set i (some u)).set j (some v)).set l (some w)) H1) : tPar3 i j l ts D σ H := h
theorem r_three {R : V → V → V → Prop} {z : V} (h : R x y z) : ∃ u v w, [x, y, z] = [u, v, w] ∧ R u v w := ⟨x, y, z, rfl, h⟩
theorem r_aug {ti : TIp} (e : σ[i]? = some (some x)) (h : te σ H fun y H1 => ti x y H1 fun z H2 => D.nx (σ.set i (some z)) H2) : tAug i te ti D σ H := ⟨x, e, h⟩
theorem r_ipI {f : Int → Int → Int} {a b : Int} (h : Q (.int (f a b)) H) : ipI f (.int a) (.int b) H Q := ⟨a, b, rfl, rfl, h⟩
theorem r_var (e : σ[i]? = some (some v)) (h : Q v H) : tVar i σ H Q := ⟨v, e, h⟩
theorem r_C (h : Q v H) : tC v σ H Q := h
theorem r_op {r : R2} (h : ta σ H fun x H1 => tb σ H1 fun y H2 => r x y H2 Q) : tOp r ta tb σ H Q := h
theorem r_un {r : V → Hp → VK → Prop} (h : ta σ H fun x H1 => r x H1 Q) : tUn r ta σ H Q := h
theorem r_I0 {f : Int → Int → V} {a b : Int} (h : Q (f a b) H) : rI0 f (.int a) (.int b) H Q := ⟨a, b, rfl, rfl, h⟩
theorem r_I {C : Int → Int → Prop} {f : Int → Int → V} {a b : Int} (h : Q (f a b) H) (c : C a b) : rI C f (.int a) (.int b) H Q := ⟨a, b, rfl, rfl, c, h⟩
theorem r_U {f : Int → V} {a : Int} (h : Q (f a) H) : rU f (.int a) H Q := ⟨a, rfl, h⟩
theorem r_tup (h : ts σ H fun xs H1 => xs.length ≤ sizeLine ∧ ∀ p, H1 p = none → Q (.ref p) (upd H1 p (.tup xs))) : tTup ts σ H Q := h
theorem r_lst (h : ts σ H fun xs H1 => xs.length ≤ sizeLine ∧ ∀ p, H1 p = none → Q (.ref p) (upd H1 p (.lst xs))) : tLst ts σ H Q := h
theorem r_nil {R : List V → Hp → Prop} (h : R [] H) : tNil σ H R := h
theorem r_cons {R : List V → Hp → Prop} (h : te σ H fun x H1 => ts σ H1 fun xs H2 => R (x :: xs) H2) : tCons te ts σ H R := h
theorem r_call {sp : Sp} {E : XK} (h : ts σ H fun vs H1 => sp (vs ++ []) H1 Q E) : tCall sp [] E ts σ H Q := h
theorem r_CB {r : List V → Hp → VK → Prop} (h : ts σ H fun vs H1 => r vs H1 Q) : tCB r ts σ H Q := h
theorem r_BM {K : PySem.W.Frag} {T : String} {r : V → List V → Hp → VK → Prop} {to : TE} (h : to σ H fun x H1 => tyV K T x H1 ∧ ts σ H1 fun xs H2 => r x xs H2 Q) : tBM K T r to ts σ H Q := h
theorem r_BM0 {K : PySem.W.Frag} {T : String} {r : V → List V → Hp → VK → Prop} {to : TE} (h : to σ H fun x H1 => tyV K T x H1 ∧ r x [] H1 Q) : tBM0 K T r to σ H Q := h
theorem r_tyL {K : PySem.W.Frag} {a : Addr} {xs : List V} {R : Prop} (h : H a = some (.lst xs)) (q : R) : tyV K "list" (.ref a) H ∧ R := ⟨.inl ⟨rfl, _, SqL.of h⟩, q⟩
theorem r_M1 {r : V → List V → Hp → VK → Prop} {to : TE} (h : to σ H fun x H1 => (∃ a, x = .str a) ∧ te σ H1 fun y H2 => r x [y] H2 Q) : tM1 r to te σ H Q := h
theorem r_isS {z : Str} {R : Prop} (h : R) : (∃ a, V.str z = .str a) ∧ R := ⟨⟨z, rfl⟩, h⟩
theorem r_if (h : tt σ H fun c H1 => if c = true then ta σ H1 Q else tb σ H1 Q) : tIf tt ta tb σ H Q := h
/-- the ways of a statement meet -/
theorem r_seqJ (R : L2.St → Hp → Prop) (h : ∀ nx' : L2.St → Hp → Prop, (∀ σ' H', R σ' H' → nx' σ' H') → t { D with nx := nx' } σ H) (k : ∀ σ' H', R σ' H' → u D σ' H') : tSeq t u D σ H := h (u D) k
def Bl (R : Bool → Hp → Prop) : V → Hp → Prop := fun x H => ∃ k, x = .bl k ∧ R k H
theorem r_bl {R : Bool → Hp → Prop} {b : Bool} (h : R b H) : Bl R (.bl b) H := ⟨b, rfl, h⟩
theorem r_test {R : Bool → Hp → Prop} (h : te σ H (Bl R)) : tTest te σ H R := h
theorem r_B {R : Bool → Hp → Prop} (h : te σ H (Bl R)) : tB te σ H R := h
theorem r_and {R : Bool → Hp → Prop} (h : tt σ H fun c H1 => if c = true then tu σ H1 R else R false H1) : tAnd tt tu σ H R := h
theorem r_or {R : Bool → Hp → Prop} (h : tt σ H fun c H1 => if c = true then R true H1 else tu σ H1 R) : tOr tt tu σ H R := h
theorem r_orP {R : Bool → Hp → Prop} {p q : Bool} (h1 : ∀ R' : Bool → Hp → Prop, R' p H → tt σ H R') (h2 : ∀ R' : Bool → Hp → Prop, R' q H → tu σ H R') (h : R (p || q) H) : tOr tt tu σ H R := by
  refine h1 _ ?_
  cases p with
  | true => exact iteT h
  | false => exact iteF (h2 _ h)
theorem r_andP {R : Bool → Hp → Prop} {p q : Bool} (h1 : ∀ R' : Bool → Hp → Prop, R' p H → tt σ H R') (h2 : ∀ R' : Bool → Hp → Prop, R' q H → tu σ H R') (h : R (p && q) H) : tAnd tt tu σ H R := by
  refine h1 _ ?_
  cases p with
  | true => exact iteT (h2 _ h)
  | false => exact iteF h
theorem r_not {R : Bool → Hp → Prop} (h : tt σ H fun c H1 => R (!c) H1) : tNot tt σ H R := h
theorem r_andV (h : ta σ H (Bl fun c H1 => if c = true then tb σ H1 Q else Q (.bl false) H1)) : tAndV ta tb σ H Q := h
theorem r_orV (h : ta σ H (Bl fun c H1 => if c = true then Q (.bl true) H1 else tb σ H1 Q)) : tOrV ta tb σ H Q := h
theorem r_notV (h : ta σ H (Bl fun c H1 => Q (.bl (!c)) H1)) : tNotV ta σ H Q := h
theorem r_chain {r r' : R2} (h : ta σ H fun x H1 => tb σ H1 fun y H2 => r x y H2 (Bl fun k H3 => if k = true then tc σ H3 fun w' H4 => r' y w' H4 Q else Q (.bl false) H3)) : tChain r r' ta tb tc σ H Q := h
theorem r_eq (s : scal x y = true) (h : Q (.bl (decide (x = y))) H) : rEq x y H Q := ⟨s, h⟩
theorem r_ne (s : scal x y = true) (h : Q (.bl (!decide (x = y))) H) : rNe x y H Q := ⟨s, h⟩
theorem r_eqT (e : x = y) (s : scal x y = true) (h : Q (.bl true) H) : rEq x y H Q := ⟨s, by rw [decide_eq_true e]; exact h⟩
theorem r_eqF (e : x ≠ y) (s : scal x y = true) (h : Q (.bl false) H) : rEq x y H Q := ⟨s, by rw [decide_eq_false e]; exact h⟩
theorem r_neT (e : x ≠ y) (s : scal x y = true) (h : Q (.bl true) H) : rNe x y H Q := ⟨s, by rw [decide_eq_false e]; exact h⟩
theorem r_neF (e : x = y) (s : scal x y = true) (h : Q (.bl false) H) : rNe x y H Q := ⟨s, by rw [decide_eq_true e]; exact h⟩
theorem ifd {p A B : Prop} [Decidable p] (h1 : p → A) (h2 : ¬ p → B) : if decide p = true then A else B :=
  ite2 (fun c => h1 (of_decide_eq_true c)) fun c => h2 fun q => c (decide_eq_true q)
theorem ifn {p A B : Prop} [Decidable p] (h1 : ¬ p → A) (h2 : p → B) : if (!decide p) = true then A else B := by
  by_cases h : p
  · rw [decide_eq_true h]
    exact iteF (h2 h)
  · rw [decide_eq_false h]
    exact iteT (h1 h)
theorem ifT {A B : Prop} (h : A) : if true = true then A else B := iteT h
theorem ifF {A B : Prop} (h : B) : if false = true then A else B := iteF h
theorem ifnT {A B : Prop} (h : B) : if (!true) = true then A else B := iteF h
theorem ifnF {A B : Prop} (h : A) : if (!false) = true then A else B := iteT h
theorem c_pow {i j : Int} (h : i.natAbs < 2 ^ 64) (h1 : 0 ≤ j) (h2 : j ≤ 1000000) : CPow i j := ⟨h1, h2, h⟩
theorem c_div {i j : Int} (h : 0 < j) (h1 : j < 1073741824) : CDiv i j := ⟨h, h1⟩
theorem c_mulL {i j : Int} (h : -(2 ^ 64) < i) (h1 : i < 2 ^ 64) : CMul i j := .inl ⟨h, h1⟩
theorem c_mulR {i j : Int} (h : -(2 ^ 64) < j) (h1 : j < 2 ^ 64) : CMul i j := .inr ⟨h, h1⟩
def rAddS : R2 := fun x y H Q => ∃ i j, x = .str i ∧ y = .str j ∧ i.length + j.length ≤ sizeLine ∧ Q (.str (i ++ j)) H
theorem r_addS {a b : Str} (h : Q (.str (a ++ b)) H) (l : a.length + b.length ≤ sizeLine) : rAddS (.str a) (.str b) H Q := ⟨a, b, rfl, rfl, l, h⟩
theorem r_ixL {K : PySem.W.Frag} {a : Addr} {xs : List V} {k : Int} (h : SqL K H a xs) (e : atI xs k = some v) (q : Q v H) : rIxL K (.ref a) (.int k) H Q := ⟨a, xs, k, v, rfl, rfl, h, e, q⟩
theorem r_ixT {K : PySem.W.Frag} {a : Addr} {xs : List V} {k : Int} (h : SqT K H a xs) (e : atI xs k = some v) (q : Q v H) : rIxT K (.ref a) (.int k) H Q := ⟨a, xs, k, v, rfl, rfl, h, e, q⟩
theorem r_ixS {z : Str} {k : Int} {c : Nat} (l : z.length ≤ sizeLine) (e : atI z.cps.toList k = some c) (q : Q (.str ⟨#[c]⟩) H) : rIxS (.str z) (.int k) H Q := ⟨z, k, c, rfl, rfl, l, e, q⟩
theorem r_ixD {K : PySem.W.Frag} {w : World} {a : Addr} {z : Str} (h : KDct K w a z v) (q : Q v H) : rIxD K w (.ref a) (.str z) H Q := ⟨a, z, v, rfl, rfl, h, q⟩
theorem r_setL {R : Hp → Prop} {a : Addr} {xs : List V} {k : Int} {m : Nat} (h : H a = some (.lst xs)) (e : ixN xs.length k = some m) (q : R (upd H a (.lst (xs.set m v)))) : rSetL (.ref a) (.int k) v H R := ⟨a, xs, k, m, rfl, rfl, h, e, q⟩
theorem r_append {a : Addr} {xs : List V} (h : H a = some (.lst xs)) (q : Q .non (upd H a (.lst (xs ++ [x])))) (l : xs.length < sizeLine) : rAppend (.ref a) [x] H Q := ⟨a, xs, x, rfl, rfl, h, l, q⟩
theorem r_extend {a b : Addr} {xs zs : List V} (h : H a = some (.lst xs)) (h2 : H b = some (.lst zs)) (q : Q .non (upd H a (.lst (xs ++ zs)))) (l : xs.length + zs.length ≤ sizeLine) : rExtend (.ref a) [.ref b] H Q := ⟨a, b, xs, zs, rfl, rfl, h, h2, l, q⟩
theorem r_cat {a b : Addr} {xs zs : List V} (h : H a = some (.lst xs)) (h2 : H b = some (.lst zs)) (l : xs.length + zs.length ≤ sizeLine) (q : ∀ p, H p = none → Q (.ref p) (upd H p (.lst (xs ++ zs)))) : rCat (.ref a) (.ref b) H Q := ⟨a, b, xs, zs, rfl, rfl, h, h2, l, q⟩
theorem r_neD {K : PySem.W.Frag} {d e : PyData} (h1 : Dp K H x d) (h2 : Dp K H y e) (s1 : SeqAt.shaped d = true) (s2 : SeqAt.shaped e = true) (q : Q (.bl (!PyData.eqv d e)) H) : rNeD K x y H Q := ⟨d, e, h1, h2, s1, s2, q⟩
theorem at_nn {α : Type} {xs : List α} {r : Int} {v : α} (h0 : 0 ≤ r) (h : xs[r.toNat]? = some v) : atI xs r = some v := by
  have q := atI_nat h
  rw [Int.toNat_of_nonneg h0] at q
  exact q
theorem r_sl {r : V → Option Int → Option Int → Hp → VK → Prop} {tl th : TO} (h : te σ H fun x H1 => tl σ H1 fun l H2 => th σ H2 fun u H3 => r x l u H3 Q) : tSl r te tl th σ H Q := h
theorem r_noPart {R : Option Int → Hp → Prop} (h : R none H) : tNoPart σ H R := h
def PartI (R : Option Int → Hp → Prop) : V → Hp → Prop := fun x H1 => ∃ i, x = .int i ∧ R (some i) H1
theorem r_part {R : Option Int → Hp → Prop} (h : te σ H (PartI R)) : tPart te σ H R := h
theorem r_partI {R : Option Int → Hp → Prop} {k : Int} (h : R (some k) H) : PartI R (.int k) H := ⟨k, rfl, h⟩
theorem r_slL {K : PySem.W.Frag} {a : Addr} {xs : List V} {lo hi : Option Int} (s : SqL K H a xs) (h : ∀ p, H p = none → Q (.ref p) (upd H p (.lst (cutV xs lo hi)))) : rSlL K (.ref a) lo hi H Q := ⟨a, xs, rfl, s, h⟩
theorem cutV_map {α : Type} (f : α → V) (xs : List α) (lo hi : Option Int) : ∃ ys : List α, cutV (xs.map f) lo hi = ys.map f ∧ ys.length ≤ xs.length ∧ ∀ y ∈ ys, y ∈ xs := by
  unfold cutV
  rw [List.length_map, ← List.map_drop, ← List.map_take]
  refine ⟨_, rfl, ?_, fun y hy => List.mem_of_mem_drop (List.mem_of_mem_take hy)⟩
  rw [List.length_take, List.length_drop]
  omega
theorem r_pnil {R : List (V × V) → Hp → Prop} (h : R [] H) : tPairs [] σ H R := h
theorem r_pcons {R : List (V × V) → Hp → Prop} {tk tv : TE} {r : List (TE × TE)} (h : tk σ H fun x H1 => tv σ H1 fun y H2 => tPairs r σ H2 fun ps H3 => R ((x, y) :: ps) H3) : tPairs ((tk, tv) :: r) σ H R := h
def DG (Q : VK) : V → V → Hp → Prop := fun x y H2 => ∃ a v, x = .ref a ∧ DGet H2 a y (some v) ∧ Q v H2
theorem r_dget {td ty : TE} (h : td σ H fun x H1 => ty σ H1 fun y H2 => DG Q x y H2) : tDGet td ty σ H Q := h
/-- the turns of a walk -/
def Turns (J : It) (g : TG) (tb : TS) (D : Ends) (σ : L2.St) (H1 : Hp) : Prop := ∃ W : Nat → Nat → L2.St → Hp → Prop, (∃ m, W 0 m σ H1) ∧ ∀ i m σ H, W i m σ H →
  (J.stop i H ∧ D.nx σ H) ∨ (J.go i H ∧ ∃ N : L2.St → Hp → Prop, (∀ σ' H', N σ' H' → ∃ m', m' < m ∧ W (i + 1) m' σ' H') ∧ ∀ x H', J.yld i H x H' → g x σ H' fun σ2 H2 => tb { D with nx := N, ct := N, bk := D.nx } σ2 H2)
def ForT (K : PySem.W.Frag) (g : TG) (tb : TS) (D : Ends) (σ : L2.St) : V → Hp → Prop := fun x H1 => ∃ a, x = .ref a ∧ (∃ xs, SqT K H1 a xs) ∧ Turns (Itt K a) g tb D σ H1
def ForL (K : PySem.W.Frag) (g : TG) (tb : TS) (D : Ends) (σ : L2.St) : V → Hp → Prop := fun x H1 => ∃ a, x = .ref a ∧ (∃ xs, SqL K H1 a xs) ∧ Turns (Itl K a) g tb D σ H1
def ForR (g : TG) (tb : TS) (D : Ends) (σ : L2.St) : List V → Hp → Prop := fun vs H1 => ∃ j : Int, vs = [.int j] ∧ -(2 ^ 62) ≤ j ∧ j < 2 ^ 62 ∧ Turns (Itr 0 j.toNat) g tb D σ H1
def ForR2 (g : TG) (tb : TS) (D : Ends) (σ : L2.St) : List V → Hp → Prop := fun vs H1 => ∃ i j : Int, vs = [.int i, .int j] ∧ (-(2 ^ 62) ≤ i ∧ i < 2 ^ 62 ∧ -(2 ^ 62) ≤ j ∧ j < 2 ^ 62) ∧ Turns (Itr i (j - i).toNat) g tb D σ H1
section
variable {K : PySem.W.Frag} {tb : TS}
theorem r_forT (h : te σ H (ForT K g tb D σ)) : tFor (iTup K te) g tb D σ H := h
theorem r_forL (h : te σ H (ForL K g tb D σ)) : tFor (iList K te) g tb D σ H := h
theorem r_forR (h : ts σ H (ForR g tb D σ)) : tFor (iRng1 ts) g tb D σ H := h
theorem r_forR2 (h : ts σ H (ForR2 g tb D σ)) : tFor (iRng2 ts) g tb D σ H := h
theorem r_ForT {a : Addr} {xs : List V} (s : SqT K H a xs) (R : Nat → L2.St → Hp → Prop) (h0 : R 0 σ H) (hl : ∀ i σ H, R i σ H → SqT K H a xs)
    (hs : ∀ (i : Nat) x σ H, xs[i]? = some x → R i σ H → g x σ H fun σ2 H2 => tb { D with nx := R (i + 1), ct := R (i + 1), bk := D.nx } σ2 H2) (hd : ∀ σ H, R xs.length σ H → D.nx σ H) :
    ForT K g tb D σ (.ref a) H := ⟨a, rfl, ⟨xs, s⟩, for_tup R h0 (fun i σ H _ => hl i σ H) hs hd⟩
theorem r_ForL {a : Addr} {xs : List V} (s : SqL K H a xs) (R : Nat → L2.St → Hp → Prop) (h0 : R 0 σ H) (hl : ∀ i σ H, R i σ H → SqL K H a xs)
    (hs : ∀ (i : Nat) x σ H, xs[i]? = some x → R i σ H → g x σ H fun σ2 H2 => tb { D with nx := R (i + 1), ct := R (i + 1), bk := D.nx } σ2 H2) (hd : ∀ σ H, R xs.length σ H → D.nx σ H) :
    ForL K g tb D σ (.ref a) H := ⟨a, rfl, ⟨xs, s⟩, for_list R h0 (fun i σ H _ => hl i σ H) hs hd⟩
theorem r_ForR {n : Int} (R : Nat → L2.St → Hp → Prop) (h1 : -(2 ^ 62) ≤ n) (h2 : n < 2 ^ 62) (h0 : R 0 σ H)
    (hs : ∀ (i : Nat) σ H, i < n.toNat → R i σ H → g (.int (i : Int)) σ H fun σ2 H2 => tb { D with nx := R (i + 1), ct := R (i + 1), bk := D.nx } σ2 H2) (hd : ∀ σ H, R n.toNat σ H → D.nx σ H) :
    ForR g tb D σ [.int n] H := by
  refine ⟨n, rfl, h1, h2, for_range (lo := 0) (n := n.toNat) R h0 (fun i σ H hi p => ?_) hd⟩
  have z := hs i σ H hi p
  rw [← Int.zero_add (i : Int)] at z
  exact z
end
def LcTurns (J : It) (g : TG) (tt : TT) (te : TE) (vs : List Nat) (σ : L2.St) (Q : VK) (H1 : Hp) : Prop := ∀ D, H1 D = none → ∃ W : Nat → Nat → Hp → Prop, (∃ m, W 0 m (upd H1 D (.lst []))) ∧ ∀ i m H, W i m H →
  (J.stop i H ∧ Q (.ref D) H) ∨ (J.go i H ∧ ∃ Nx : Hp → Prop, (∀ H', Nx H' → ∃ m', m' < m ∧ W (i + 1) m' H') ∧ ∀ x H', J.yld i H x H' → g x (wipe σ vs) H' fun σ2 H2 => wipe σ2 vs = wipe σ vs ∧ tt σ2 H2 fun b H3 =>
    if b = true then te σ2 H3 fun y H4 => ∃ acc, H4 D = some (.lst acc) ∧ acc.length < sizeLine ∧ Nx (upd H4 D (.lst (acc ++ [y]))) else Nx H3)
def LcT (K : PySem.W.Frag) (g : TG) (tt : TT) (te : TE) (vs : List Nat) (σ : L2.St) (Q : VK) : V → Hp → Prop := fun x H1 => ∃ a, x = .ref a ∧ (∃ xs, SqT K H1 a xs) ∧ LcTurns (Itt K a) g tt te vs σ Q H1
def LcL (K : PySem.W.Frag) (g : TG) (tt : TT) (te : TE) (vs : List Nat) (σ : L2.St) (Q : VK) : V → Hp → Prop := fun x H1 => ∃ a, x = .ref a ∧ (∃ xs, SqL K H1 a xs) ∧ LcTurns (Itl K a) g tt te vs σ Q H1
def LcR (g : TG) (tt : TT) (te : TE) (vs : List Nat) (σ : L2.St) (Q : VK) : List V → Hp → Prop := fun us H1 => ∃ j : Int, us = [.int j] ∧ -(2 ^ 62) ≤ j ∧ j < 2 ^ 62 ∧ LcTurns (Itr 0 j.toNat) g tt te vs σ Q H1
section
variable {K : PySem.W.Frag} {tt : TT} {vs : List Nat} {ti : TE}
theorem r_lcT (h : ti σ H (LcT K g tt te vs σ Q)) : tLc (iTup K ti) g tt te vs σ H Q := h
theorem r_lcL (h : ti σ H (LcL K g tt te vs σ Q)) : tLc (iList K ti) g tt te vs σ H Q := h
theorem r_lcR (h : ts σ H (LcR g tt te vs σ Q)) : tLc (iRng1 ts) g tt te vs σ H Q := h
/-- the end of a turn of a comprehension: the element y is taken -/
def LcEnd (D : Addr) (N : Hp → Prop) : VK := fun y H4 => ∃ acc, H4 D = some (.lst acc) ∧ acc.length < sizeLine ∧ N (upd H4 D (.lst (acc ++ [y])))
theorem r_LcEnd {D : Addr} {N : Hp → Prop} {acc : List V} (h : H D = some (.lst acc)) (l : acc.length < sizeLine) (q : N (upd H D (.lst (acc ++ [y])))) : LcEnd D N y H := ⟨acc, h, l, q⟩
def LcTurn (tt : TT) (te : TE) (vs : List Nat) (σ : L2.St) (D : Addr) (N : Hp → Prop) : L2.St → Hp → Prop := fun σ2 H2 => wipe σ2 vs = wipe σ vs ∧ tt σ2 H2 fun b H3 => if b = true then te σ2 H3 (LcEnd D N) else N H3
theorem r_LcL {a : Addr} {xs : List V} (s : SqL K H a xs) (h : ∀ p, H p = none → ∃ R : Nat → Hp → Prop, R 0 (upd H p (.lst [])) ∧ (∀ i H, R i H → SqL K H a xs) ∧
    (∀ (i : Nat) x H, xs[i]? = some x → R i H → g x (wipe σ vs) H (LcTurn tt te vs σ p (R (i + 1)))) ∧ ∀ H, R xs.length H → Q (.ref p) H) : LcL K g tt te vs σ Q (.ref a) H := by
  refine ⟨a, rfl, ⟨xs, s⟩, fun p hp => ?_⟩
  obtain ⟨R, h0, hl, hs, hd⟩ := h p hp
  exact lc_list R h0 (fun i H _ => hl i H) hs hd
theorem r_LcT {a : Addr} {xs : List V} (s : SqT K H a xs) (h : ∀ p, H p = none → ∃ R : Nat → Hp → Prop, R 0 (upd H p (.lst [])) ∧ (∀ i H, R i H → SqT K H a xs) ∧
    (∀ (i : Nat) x H, xs[i]? = some x → R i H → g x (wipe σ vs) H (LcTurn tt te vs σ p (R (i + 1)))) ∧ ∀ H, R xs.length H → Q (.ref p) H) : LcT K g tt te vs σ Q (.ref a) H := by
  refine ⟨a, rfl, ⟨xs, s⟩, fun p hp => ?_⟩
  obtain ⟨R, h0, hl, hs, hd⟩ := h p hp
  exact lc_tup R h0 (fun i H _ => hl i H) hs hd
theorem r_LcR {n : Int} (h1 : -(2 ^ 62) ≤ n) (h2 : n < 2 ^ 62) (h : ∀ p, H p = none → ∃ R : Nat → Hp → Prop, R 0 (upd H p (.lst [])) ∧
    (∀ (i : Nat) H, i < n.toNat → R i H → g (.int (i : Int)) (wipe σ vs) H (LcTurn tt te vs σ p (R (i + 1)))) ∧ ∀ H, R n.toNat H → Q (.ref p) H) : LcR g tt te vs σ Q [.int n] H := by
  refine ⟨n, rfl, h1, h2, fun p hp => ?_⟩
  obtain ⟨R, h0, hs, hd⟩ := h p hp
  refine lc_range (lo := 0) (n := n.toNat) R h0 (fun i H hi q => ?_) hd
  have z := hs i H hi q
  rw [← Int.zero_add (i : Int)] at z
  exact z
theorem r_LcTurn {D : Addr} {N : Hp → Prop} {σ2 : L2.St} (e : wipe σ2 vs = wipe σ vs) (h : tt σ2 H fun b H3 => if b = true then te σ2 H3 (LcEnd D N) else N H3) : LcTurn tt te vs σ D N σ2 H := ⟨e, h⟩
theorem r_yes {R : Bool → Hp → Prop} (h : R true H) : tYes σ H R := h
end
theorem kpW {a : Addr} {xs : List V} {o : HO} (h : H a = some (.lst xs)) : Kp [a] H (upd H a o) :=
  (Kp.refl (M := [a]) fun b m => ⟨xs, by rw [List.mem_singleton.mp m]; exact h⟩).write (by simp)
end
section
variable {X : Cx} {H : Hp} {Q : VK}
def qAbs : List V → Hp → VK → Prop := fun xs H Q => ∃ i, xs = [.int i] ∧ Q (.int (if i < 0 then -i else i)) H
theorem c_abs : CallR X (.builtin "abs") qAbs := call_abs
theorem r_abs {i : Int} (h : Q (.int (if i < 0 then -i else i)) H) : qAbs [.int i] H Q := ⟨i, rfl, h⟩
def qInt : List V → Hp → VK → Prop := fun xs H Q => (∃ i, xs = [.int i] ∧ Q (.int i) H) ∨ ∃ k, xs = [.bl k] ∧ Q (.int (if k then 1 else 0)) H
theorem c_int : CallR X (.type "int") qInt := call_int1
theorem r_int {i : Int} (h : Q (.int i) H) : qInt [.int i] H Q := .inl ⟨i, rfl, h⟩
theorem r_intB {b : Bool} (h : Q (.int (if b then 1 else 0)) H) : qInt [.bl b] H Q := .inr ⟨b, rfl, h⟩
def qLen (K : PySem.W.Frag) : List V → Hp → VK → Prop := fun xs H Q => ∃ x n, xs = [x] ∧ LenV K x H n ∧ Q (.int n) H
theorem c_len : CallR X (.builtin "len") (qLen X.K) := call_len
theorem r_lenL {K : PySem.W.Frag} {a : Addr} {xs : List V} (h : SqL K H a xs) (q : Q (.int (xs.length : Nat)) H) : qLen K [.ref a] H Q := ⟨_, _, rfl, .inl ⟨_, h, rfl⟩, q⟩
theorem r_lenT {K : PySem.W.Frag} {a : Addr} {xs : List V} (h : SqT K H a xs) (q : Q (.int (xs.length : Nat)) H) : qLen K [.ref a] H Q := ⟨_, _, rfl, .inr ⟨_, h, rfl⟩, q⟩
theorem r_lenS {K : PySem.W.Frag} {z : Str} (q : Q (.int (z.length : Nat)) H) (h : z.length ≤ sizeLine) : qLen K [.str z] H Q := ⟨_, _, rfl, ⟨h, rfl⟩, q⟩
def qStr : List V → Hp → VK → Prop := fun xs H Q => (∃ i, xs = [.int i] ∧ i.natAbs.log2 < 1920 ∧ Q (.str (toString i)) H) ∨ ∃ a, xs = [.str a] ∧ Q (.str a) H
theorem r_strI {i : Int} (h : Q (.str (toString i)) H) (l : i.natAbs.log2 < 1920) : qStr [.int i] H Q := .inl ⟨i, rfl, l, h⟩
theorem r_strS {z : Str} (h : Q (.str z) H) : qStr [.str z] H Q := .inr ⟨z, rfl, h⟩
def qTup (K : PySem.W.Frag) : List V → Hp → VK → Prop := fun xs H Q => ∃ p ys, xs = [.ref p] ∧ ((SqL K H p ys ∧ ∀ l, H l = none → Q (.ref l) (upd H l (.tup ys))) ∨ (SqT K H p ys ∧ Q (.ref p) H))
theorem c_tup : CallR X (.type "tuple") (qTup X.K) := call_tuple_of
theorem r_tupL {K : PySem.W.Frag} {a : Addr} {xs : List V} (s : SqL K H a xs) (h : ∀ l, H l = none → Q (.ref l) (upd H l (.tup xs))) : qTup K [.ref a] H Q := ⟨a, xs, rfl, .inl ⟨s, h⟩⟩
end
section
variable {X : Cx} {x : Str} {pos : Pos}
theorem pe_ty {T : String} (hg : Gl X x) (hm : X.mg x = none) (hv : bootBuiltins x = some (.type T)) (hn : x ≠ "__name__" := by decide) (hd : (x == ("__debug__" : Str)) = false := by decide) : PE X (.Name x pos) (tC (.ty T)) := pe_bltn hg hm hv rfl hn hd
theorem pe_gref {a : Addr} (hg : Gl X x) (hm : X.mg x = some (.ref a)) (hd : (x == ("__debug__" : Str)) = false := by decide) : PE X (.Name x pos) (tC (.ref a)) := pe_glob hg hm rfl hd
theorem pe_gint {i : Int} {t : Tok} (hg : Gl X x) (hm : X.mg x = some (.int i t)) (hd : (x == ("__debug__" : Str)) = false := by decide) : PE X (.Name x pos) (tC (.int i)) := pe_glob hg hm ⟨t, rfl⟩ hd
end
def tyD : PyData → String
  | .none => "NoneType"
  | .bool _ => "bool"
  | .int _ => "int"
  | .str _ => "str"
  | .list _ => "list"
  | .tuple _ => "tuple"
  | .dict _ => "dict"
def isaD (d : PyData) (n : String) : Bool := tyD d == n || (tyD d == "bool" && n == "int")
def qIs (K : PySem.W.Frag) : List V → Hp → VK → Prop := fun xs H Q => ∃ (x : V) (d : PyData) (n : String), xs = [x, .ty n] ∧ Dp K H x d ∧
  n ∈ ["int", "bool", "str", "tuple", "list", "dict"] ∧ Q (.bl (isaD d n)) H
theorem tyX_T {K : PySem.W.Frag} {H : Hp} {a : Addr} {xs : List V} (h : SqT K H a xs) : TyX K H (.ref a) (.type "tuple") := by
  rcases h with (h | ⟨o, h⟩) | ⟨o, its, n, h, c, _⟩
  · exact .base (.tup h)
  · exact .fTuple h
  · exact .kTuple h c
section
variable {X : Cx} {H : Hp} {Q : VK}
def types : List String := ["int", "bool", "str", "tuple", "list", "dict"]
theorem kitAll : ∀ t ∈ "NoneType" :: types, ∀ n ∈ types, kitB t n = some (t == n || (t == "bool" && n == "int")) := by decide +kernel
theorem kitD (K : PySem.W.Frag) (d : PyData) (n : String) (h : n ∈ types) : PySem.W.kitOne K (.type (tyD d)) (.type n) = some (isaD d n) := by
  refine kit_ty (kitAll _ ?_ n h)
  cases d <;> simp [tyD, types]
theorem r_isT {K : PySem.W.Frag} {x : V} {d : PyData} {n : String} (h : Dp K H x d) (e : isaD d n = true) (hn : n ∈ types) (q : Q (.bl true) H) : qIs K [x, .ty n] H Q := ⟨x, d, n, rfl, h, hn, by rw [e]; exact q⟩
theorem r_isF {K : PySem.W.Frag} {x : V} {d : PyData} {n : String} (h : Dp K H x d) (e : isaD d n = false) (hn : n ∈ types) (q : Q (.bl false) H) : qIs K [x, .ty n] H Q := ⟨x, d, n, rfl, h, hn, by rw [e]; exact q⟩
end
end Aw
namespace Aw
open PySem PySem.Spec L2
/-- a text of at most n signs -/
structure Sok (x : Str) (n : Nat) : Prop where
  ok : PyData.strOk x = true
  len : x.length ≤ n
theorem Sok.app {x y : Str} {m n : Nat} (a : Sok x m) (b : Sok y n) : Sok (x ++ y) (m + n) := by
  refine ⟨?_, ?_⟩
  · have h1 := a.ok
    have h2 := b.ok
    unfold PyData.strOk at *
    rw [Str.cps_append, Array.all_append, h1, h2]
    rfl
  · rw [Str.length_append]
    have := a.len
    have := b.len
    omega
theorem Sok.mono {x : Str} {m n : Nat} (a : Sok x m) (h : m ≤ n) : Sok x n := ⟨a.ok, Nat.le_trans a.len h⟩
theorem Sok.repr {x : Str} {n : Nat} (a : Sok x n) : (reprText x).length ≤ 10 * n + 2 := by
  have h := PySem.StrLaws.reprText_len x (fun c hc => by
    have q := a.ok
    unfold PyData.strOk at q
    rw [Array.all_eq_true_iff_forall_mem] at q
    have := of_decide_eq_true (q c (Array.mem_def.mpr hc))
    omega)
  have := a.len
  omega
theorem log2_small {i : Int} (h1 : -(2 ^ 64) < i) (h2 : i < 2 ^ 64) : i.natAbs.log2 < 1920 := by
  by_cases h : i.natAbs = 0
  · rw [h]
    decide
  · exact Nat.lt_of_lt_of_le ((Nat.log2_lt h).mpr (show i.natAbs < 2 ^ 64 by omega)) (by decide)
structure Shw (d : PyData) (k n : Nat) : Prop where
  sh : d.showable = true
  nd : d.hasDict = false
  dep : d.depth ≤ k
  len : d.shown.length ≤ n
theorem Shw.mono {d : PyData} {k n k' n' : Nat} (h : Shw d k n) (hk : k ≤ k') (hn : n ≤ n') : Shw d k' n' := ⟨h.sh, h.nd, Nat.le_trans h.dep hk, Nat.le_trans h.len hn⟩
theorem Shw.str {x : Str} {m k : Nat} (h : Sok x m) : Shw (.str x) k (10 * m + 2) :=
  ⟨by rw [PyData.showable], by rw [PyData.hasDict], by rw [PyData.depth]; exact Nat.zero_le _, by rw [PyData.shown]; exact h.repr⟩
theorem Shw.non {k : Nat} : Shw .none k 4 :=
  ⟨by rw [PyData.showable], by rw [PyData.hasDict], by rw [PyData.depth]; exact Nat.zero_le _, by rw [PyData.shown]; decide +kernel⟩
theorem Shw.bool {b : Bool} {k : Nat} : Shw (.bool b) k 5 :=
  ⟨by rw [PyData.showable], by rw [PyData.hasDict], by rw [PyData.depth]; exact Nat.zero_le _, by rw [PyData.shown]; cases b <;> decide +kernel⟩
theorem shownAll_len {ds : List PyData} {k n : Nat} (h : ∀ d ∈ ds, Shw d k n) : PyData.showableAll ds = true ∧ PyData.hasDictAll ds = false ∧ PyData.depthAll ds ≤ k ∧ (PyData.shownAll ds).length = ds.length ∧
    ((PyData.shownAll ds).map (·.length)).sum ≤ ds.length * n := by
  induction ds with
  | nil => exact ⟨by rw [PyData.showableAll], by rw [PyData.hasDictAll], by rw [PyData.depthAll]; exact Nat.zero_le _, by rw [PyData.shownAll]; rfl, by rw [PyData.shownAll]; exact Nat.zero_le _⟩
  | cons d r ih =>
    obtain ⟨a1, a2, a3, a4, a5⟩ := ih fun d hd => h d (List.mem_cons_of_mem _ hd)
    have q := h d (List.mem_cons_self ..)
    refine ⟨by rw [PyData.showableAll, q.sh, a1]; rfl, by rw [PyData.hasDictAll, q.nd, a2]; rfl, by rw [PyData.depthAll]; exact Nat.max_le.mpr ⟨q.dep, a3⟩, by rw [PyData.shownAll, List.length_cons, List.length_cons, a4], ?_⟩
    have := q.len
    rw [PyData.shownAll, List.map_cons, List.sum_cons, List.length_cons, Nat.add_mul, Nat.one_mul]
    omega
theorem Shw.list {ds : List PyData} {k n : Nat} (h : ∀ d ∈ ds, Shw d k n) : Shw (.list ds) (k + 1) (ds.length * (n + 2) + 3) := by
  obtain ⟨a1, a2, a3, a4, a5⟩ := shownAll_len h
  refine ⟨by rw [PyData.showable]; exact a1, by rw [PyData.hasDict]; exact a2, by rw [PyData.depth]; omega, ?_⟩
  rw [PyData.shown]
  have q := listText_len_le (PyData.shownAll ds)
  rw [a4] at q
  rw [Nat.mul_add]
  omega
theorem Shw.tup {ds : List PyData} {k n : Nat} (h : ∀ d ∈ ds, Shw d k n) : Shw (.tuple ds) (k + 1) (ds.length * (n + 2) + 3) := by
  obtain ⟨a1, a2, a3, a4, a5⟩ := shownAll_len h
  refine ⟨by rw [PyData.showable]; exact a1, by rw [PyData.hasDict]; exact a2, by rw [PyData.depth]; omega, ?_⟩
  rw [PyData.shown]
  have q := tupleText_len_le (PyData.shownAll ds)
  rw [a4] at q
  rw [Nat.mul_add]
  omega
structure DtL (K : PySem.W.Frag) (H : Hp) (vs : List V) (ds : List PyData) : Prop where
  len : vs.length = ds.length
  all : ∀ (i : Nat) (v : V) (d : PyData), vs[i]? = some v → ds[i]? = some d → Dt K H v d
theorem DtL.nil {K : PySem.W.Frag} {H : Hp} : DtL K H [] [] := ⟨rfl, fun i v d e => by simp at e⟩
theorem DtL.kp {K : PySem.W.Frag} {M : List Addr} {H H1 : Hp} {vs : List V} {ds : List PyData} (h : DtL K H vs ds) (a : Kp M H H1) : DtL K H1 vs ds := ⟨h.len, fun i v d e e' => (h.all i v d e e').kp a⟩
theorem DtL.snoc {K : PySem.W.Frag} {H : Hp} {vs : List V} {ds : List PyData} {v : V} {d : PyData} (h : DtL K H vs ds) (hv : Dt K H v d) : DtL K H (vs ++ [v]) (ds ++ [d]) := by
  refine ⟨by rw [List.length_append, List.length_append, h.len]; rfl, fun i u e q q' => ?_⟩
  by_cases hi : i < vs.length
  · rw [List.getElem?_append_left hi] at q
    rw [List.getElem?_append_left (by rw [← h.len]; exact hi)] at q'
    exact h.all i u e q q'
  · rw [List.getElem?_append_right (by omega)] at q
    rw [List.getElem?_append_right (by rw [← h.len]; omega), ← h.len] at q'
    have hlt := (List.getElem?_eq_some_iff.mp q).1
    rw [List.length_singleton] at hlt
    obtain h0 : i - vs.length = 0 := by omega
    rw [h0] at q q'
    cases q
    cases q'
    exact hv
theorem DtL.cons {K : PySem.W.Frag} {H : Hp} {vs : List V} {ds : List PyData} {v : V} {d : PyData} (hv : Dt K H v d) (h : DtL K H vs ds) : DtL K H (v :: vs) (d :: ds) := by
  refine ⟨by rw [List.length_cons, List.length_cons, h.len], fun i u e q q' => ?_⟩
  cases i with
  | zero =>
    cases q
    cases q'
    exact hv
  | succ i => exact h.all i u e (by simpa using q) (by simpa using q')
theorem DtL.tup {K : PySem.W.Frag} {H : Hp} {vs : List V} {ds : List PyData} {a : Addr} (h : DtL K H vs ds) (e : H a = some (.tup vs)) : Dt K H (.ref a) (.tuple ds) := .tup (SqT.of e) h.len h.all
section
variable {K : PySem.W.Frag} {H : Hp} {v : V}
theorem Dt.isInt {i : Int} (h : Dt K H v (.int i)) : v = .int i := by cases h; rfl
theorem Dt.isStr {x : Str} (h : Dt K H v (.str x)) : v = .str x := by cases h; rfl
theorem Dt.isTup {ds : List PyData} (h : Dt K H v (.tuple ds)) : ∃ (a : Addr) (xs : List V), v = .ref a ∧ SqT K H a xs ∧ xs.length = ds.length ∧
    ∀ (i : Nat) (v : V) (d : PyData), xs[i]? = some v → ds[i]? = some d → Dt K H v d := by
  cases h with
  | tup s l q => exact ⟨_, _, rfl, s, l, q⟩
theorem Dt.is2 {d e : PyData} (h : Dt K H v (.tuple [d, e])) : ∃ (a : Addr) (x y : V), v = .ref a ∧ SqT K H a [x, y] ∧ Dt K H x d ∧ Dt K H y e := by
  obtain ⟨a, xs, rfl, s, l, q⟩ := h.isTup
  match xs, l, s, q with
  | [x, y], _, s, q => exact ⟨a, x, y, rfl, s, q 0 x d rfl rfl, q 1 y e rfl rfl⟩
theorem Dt.is3 {d e f : PyData} (h : Dt K H v (.tuple [d, e, f])) : ∃ (a : Addr) (x y z : V), v = .ref a ∧ SqT K H a [x, y, z] ∧ Dt K H x d ∧ Dt K H y e ∧ Dt K H z f := by
  obtain ⟨a, xs, rfl, s, l, q⟩ := h.isTup
  match xs, l, s, q with
  | [x, y, z], _, s, q => exact ⟨a, x, y, z, rfl, s, q 0 x d rfl rfl, q 1 y e rfl rfl, q 2 z f rfl rfl⟩
theorem Dt.mk0 {a : Addr} (h : H a = some (.tup [])) : Dt K H (.ref a) (.tuple []) := .tup (SqT.of h) rfl fun i v d e => by simp at e
theorem Dt.mk1 {a : Addr} {x : V} {d : PyData} (h : H a = some (.tup [x])) (h0 : Dt K H x d) : Dt K H (.ref a) (.tuple [d]) :=
  .tup (SqT.of h) rfl fun i v d' e e' => by
    match i, e, e' with
    | 0, e, e' => cases e; cases e'; exact h0
end
end Aw
namespace Aw
open PySem PySem.Spec L2
def rNil (K : PySem.W.Frag) (neg : Bool) : R2 := fun x y H Q => ∃ (a b : Addr) (xs : List V), x = .ref a ∧ y = .ref b ∧
  ((SqL K H a xs ∧ SqL K H b []) ∨ (SqT K H a xs ∧ SqT K H b [])) ∧ Q (.bl (xs.isEmpty != neg)) H
section
variable {X : Cx} {H : Hp} {Q : VK}
theorem vals_nil {us : List Value} (r : Vals [] us) : us = [] := by cases r; rfl
theorem op_neNil (hu : X.A.units + 64 < cLine) : OpR X (compareOp .NotEq) (rNil X.K true) := by
  intro pins s σ H x y v u Q I rx ry h
  obtain ⟨a, b, xs, rfl, rfl, h, q⟩ := h
  cases (show v = Value.ref a from rx)
  cases (show u = Value.ref b from ry)
  have hu' : X.A.units < cLine := by omega
  rcases h with ⟨ha, hb⟩ | ⟨ha, hb⟩
  · obtain ⟨its, r, ⟨o, n, e, c, _, d⟩, _⟩ := I.list ha
    obtain ⟨its2, r2, ⟨o2, n2, e2, c2, _, d2⟩, _⟩ := I.list hb
    obtain rfl := vals_nil r2
    have hl : s.heap.IsList a its.toArray := ⟨o, e, c, n, d⟩
    have hl2 : s.heap.IsList b #[] := ⟨o2, e2, c2, n2, d2⟩
    cases xs with
    | nil =>
      obtain rfl := vals_nil r
      exact PySem.SeqAt.RcNeAt.lists (e := fun _ => true) hl hl2 rfl hu' (fun j h1 => absurd h1 (by simp)) _ _ _ _ ⟨.bl false, H, I, rfl, q⟩
    | cons x xs =>
      cases r with
      | cons r0 r1 => exact PySem.SeqAt.RcNeAt.lists_lengths hl hl2 (by simp) hu' _ _ _ _ ⟨.bl true, H, I, rfl, q⟩
  · obtain ⟨its, r, ⟨o, e, c, n, d⟩, _⟩ := I.tuple ha
    obtain ⟨its2, r2, ⟨o2, e2, c2, n2, d2⟩, _⟩ := I.tuple hb
    obtain rfl := vals_nil r2
    have hl : s.heap.IsTuple a its.toArray := ⟨o, e, c, n, d⟩
    have hl2 : s.heap.IsTuple b #[] := ⟨o2, e2, c2, n2, d2⟩
    refine PySem.SeqAt.RcNeAt.tuples (e := fun _ => true) hl hl2 hu' (fun j h1 h2 => absurd h2 (by simp)) _ _ _ _ ?_
    cases xs with
    | nil =>
      obtain rfl := vals_nil r
      exact ⟨.bl false, H, I, rfl, q⟩
    | cons x xs =>
      cases r with
      | cons r0 r1 => exact ⟨.bl true, H, I, rfl, q⟩
theorem r_eqNL {K : PySem.W.Frag} {a b : Addr} {xs : List V} (h1 : SqL K H a xs) (h2 : SqL K H b []) (q : Q (.bl xs.isEmpty) H) : rNil K false (.ref a) (.ref b) H Q := ⟨a, b, xs, rfl, rfl, .inl ⟨h1, h2⟩, by simpa using q⟩
theorem r_eqNT {K : PySem.W.Frag} {a b : Addr} {xs : List V} (h1 : SqT K H a xs) (h2 : SqT K H b []) (q : Q (.bl xs.isEmpty) H) : rNil K false (.ref a) (.ref b) H Q := ⟨a, b, xs, rfl, rfl, .inr ⟨h1, h2⟩, by simpa using q⟩
theorem r_neNL {K : PySem.W.Frag} {a b : Addr} {xs : List V} (h1 : SqL K H a xs) (h2 : SqL K H b []) (q : Q (.bl (!xs.isEmpty)) H) : rNil K true (.ref a) (.ref b) H Q := ⟨a, b, xs, rfl, rfl, .inl ⟨h1, h2⟩, by simpa using q⟩
theorem r_neNT {K : PySem.W.Frag} {a b : Addr} {xs : List V} (h1 : SqT K H a xs) (h2 : SqT K H b []) (q : Q (.bl (!xs.isEmpty)) H) : rNil K true (.ref a) (.ref b) H Q := ⟨a, b, xs, rfl, rfl, .inr ⟨h1, h2⟩, by simpa using q⟩
end
def keyD : Key → PyData
  | .inl i => .int i
  | .inr x => .str x
/-- data, the lists and dicts of which are none of M -/
inductive Dw (M : List Addr) (K : PySem.W.Frag) (H : Hp) : V → PyData → Prop
  | non : Dw M K H .non .none
  | bl (b : Bool) : Dw M K H (.bl b) (.bool b)
  | int (i : Int) : Dw M K H (.int i) (.int i)
  | str (x : Str) : Dw M K H (.str x) (.str x)
  | tup {a : Addr} {xs : List V} {ds : List PyData} : SqT K H a xs → xs.length = ds.length →
      (∀ (i : Nat) (v : V) (d : PyData), xs[i]? = some v → ds[i]? = some d → Dw M K H v d) → Dw M K H (.ref a) (.tuple ds)
  | lst {a : Addr} {xs : List V} {ds : List PyData} : H a = some (.lst xs) → a ∉ M → xs.length = ds.length →
      (∀ (i : Nat) (v : V) (d : PyData), xs[i]? = some v → ds[i]? = some d → Dw M K H v d) → Dw M K H (.ref a) (.list ds)
  | dct {a : Addr} {kvs : List (Key × V)} {ps : List (PyData × PyData)} : H a = some (.dK kvs) → a ∉ M → kvs.length = ps.length →
      (∀ (i : Nat) (kv : Key × V) (p : PyData × PyData), kvs[i]? = some kv → ps[i]? = some p → p.1 = keyD kv.1) →
      (∀ (i : Nat) (kv : Key × V) (p : PyData × PyData), kvs[i]? = some kv → ps[i]? = some p → Dw M K H kv.2 p.2) → Dw M K H (.ref a) (.dict ps)
section
variable {K : PySem.W.Frag} {M : List Addr} {H H1 : Hp} {v : V} {d : PyData}
theorem Dw.kp (a : Kp M H H1) (h : Dw M K H v d) : Dw M K H1 v d := by
  induction h with
  | non => exact .non
  | bl b => exact .bl b
  | int i => exact .int i
  | str x => exact .str x
  | tup s l _ ih => exact .tup (sqT_kp a s) l ih
  | lst e n l _ ih => exact .lst (a.get e n) n l ih
  | dct e n l q _ ih => exact .dct (a.get e n) n l q ih
theorem Dw.kp0 (a : Kp [] H H1) (h : Dw M K H v d) : Dw M K H1 v d := by
  induction h with
  | non => exact .non
  | bl b => exact .bl b
  | int i => exact .int i
  | str x => exact .str x
  | tup s l _ ih => exact .tup (sqT_kp a s) l ih
  | lst e n l _ ih => exact .lst (a.get e (by simp)) n l ih
  | dct e n l q _ ih => exact .dct (a.get e (by simp)) n l q ih
theorem Dw.sub {M' : List Addr} (s : ∀ a ∈ M', a ∈ M) (h : Dw M K H v d) : Dw M' K H v d := by
  induction h with
  | non => exact .non
  | bl b => exact .bl b
  | int i => exact .int i
  | str x => exact .str x
  | tup s l _ ih => exact .tup s l ih
  | lst e n l _ ih => exact .lst e (fun m => n (s _ m)) l ih
  | dct e n l q _ ih => exact .dct e (fun m => n (s _ m)) l q ih
theorem Dw.nil (h : Dw M K H v d) : Dw [] K H v d := h.sub (by simp)
theorem Dt.dw (h : Dt K H v d) : Dw M K H v d := by
  induction h with
  | non => exact .non
  | bl b => exact .bl b
  | int i => exact .int i
  | str x => exact .str x
  | tup s l _ ih => exact .tup s l ih
theorem Dw.isTup {ds : List PyData} (h : Dw M K H v (.tuple ds)) : ∃ (a : Addr) (xs : List V), v = .ref a ∧ SqT K H a xs ∧ xs.length = ds.length ∧
    ∀ (i : Nat) (v : V) (d : PyData), xs[i]? = some v → ds[i]? = some d → Dw M K H v d := by
  cases h with
  | tup s l q => exact ⟨_, _, rfl, s, l, q⟩
theorem Dw.isInt {i : Int} (h : Dw M K H v (.int i)) : v = .int i := by cases h; rfl
theorem Dw.ty (h : Dw M K H v d) : TyX K H v (.type (tyD d)) := by
  cases h with
  | non => exact .base .non
  | bl b => exact .base (.bl b)
  | int i => exact .base (.int i)
  | str z => exact .base (.str z)
  | tup s _ _ => exact tyX_T s
  | lst e _ _ _ => exact .base (.lst e)
  | dct e _ _ _ _ => exact .base (.dK e)
end
def qIs2 (K : PySem.W.Frag) : List V → Hp → VK → Prop := fun xs H Q => ∃ (x : V) (d : PyData) (n : String), xs = [x, .ty n] ∧ TyX K H x (.type (tyD d)) ∧
  n ∈ types ∧ Q (.bl (isaD d n)) H
theorem c_is2 {X : Cx} : CallR X (.builtin "isinstance") (qIs2 X.K) := by
  intro pins s σ H xs us Q I r h
  obtain ⟨x, d, n, rfl, hd, hn, q⟩ := h
  exact call_isi pins s σ H _ us Q I r ⟨x, _, _, _, _, rfl, .ty n, hd, kitD X.K d n hn, q⟩
section
variable {K : PySem.W.Frag} {M : List Addr} {H : Hp} {Q : VK} {x : V} {d : PyData} {n : String}
theorem r_is2T (h : Dw M K H x d) (e : isaD d n = true) (hn : n ∈ types) (q : Q (.bl true) H) : qIs2 K [x, .ty n] H Q := ⟨x, d, n, rfl, h.ty, hn, by rw [e]; exact q⟩
theorem r_is2F (h : Dw M K H x d) (e : isaD d n = false) (hn : n ∈ types) (q : Q (.bl false) H) : qIs2 K [x, .ty n] H Q := ⟨x, d, n, rfl, h.ty, hn, by rw [e]; exact q⟩
end
def rInC : R2 := fun x y H Q => ∃ (c : Nat) (z : Str), x = .str ⟨#[c]⟩ ∧ y = .str z ∧ Q (.bl (decide (c ∈ z.cps.toList))) H
def rNotInC : R2 := fun x y H Q => ∃ (c : Nat) (z : Str), x = .str ⟨#[c]⟩ ∧ y = .str z ∧ Q (.bl (!decide (c ∈ z.cps.toList))) H
section
variable {X : Cx} {H : Hp} {Q : VK} {σ : L2.St}
theorem r_inC {c : Nat} {z : Str} (q : Q (.bl (decide (c ∈ z.cps.toList))) H) : rInC (.str ⟨#[c]⟩) (.str z) H Q := ⟨c, z, rfl, rfl, q⟩
theorem r_notinC {c : Nat} {z : Str} (q : Q (.bl (!decide (c ∈ z.cps.toList))) H) : rNotInC (.str ⟨#[c]⟩) (.str z) H Q := ⟨c, z, rfl, rfl, q⟩
def RevL (K : PySem.W.Frag) (Q : VK) : V → Hp → Prop := fun x H1 => ∃ a xs, x = .ref a ∧ SqL K H1 a xs ∧ ∀ p, H1 p = none → Q (.ref p) (upd H1 p (.lst xs.reverse))
theorem r_revL {K : PySem.W.Frag} {te : TE} (h : te σ H (RevL K Q)) : tRevL K te σ H Q := h
def LcS (g : TG) (tt : TT) (te : TE) (vs : List Nat) (σ : L2.St) (Q : VK) : V → Hp → Prop := fun v H1 => ∃ x, v = .str x ∧ LcTurns (Its x) g tt te vs σ Q H1
section
variable {g : TG} {tt : TT} {te ti : TE} {vs : List Nat}
theorem r_lcS (h : ti σ H (LcS g tt te vs σ Q)) : tLc (iStr ti) g tt te vs σ H Q := h
end
theorem r_while {c : TT} {tb : TS} {D : Ends} (Pv : Nat → L2.St → Hp → Prop) (m : Nat) (h0 : Pv m σ H)
    (hs : ∀ m σ H, Pv m σ H → c σ H fun b H1 => if b = true then ∃ N : L2.St → Hp → Prop, (∀ σ' H', N σ' H' → ∃ m', m' < m ∧ Pv m' σ' H') ∧ tb { D with nx := N, ct := N, bk := D.nx } σ H1 else D.nx σ H1) : tWhile c tb D σ H :=
  ⟨Pv, ⟨m, h0⟩, hs⟩
theorem r_turn {tb : TS} {D : Ends} {Pv : Nat → L2.St → Hp → Prop} {m : Nat} (h : tb { D with nx := fun σ' H' => ∃ m', m' < m ∧ Pv m' σ' H', ct := fun σ' H' => ∃ m', m' < m ∧ Pv m' σ' H', bk := D.nx } σ H) :
    ∃ N : L2.St → Hp → Prop, (∀ σ' H', N σ' H' → ∃ m', m' < m ∧ Pv m' σ' H') ∧ tb { D with nx := N, ct := N, bk := D.nx } σ H := ⟨_, fun _ _ z => z, h⟩
def DG2 (a : Addr) (Q : VK) : V → V → Hp → Prop := fun y z H3 => ∃ o, DGet H3 a y o ∧ Q (o.getD z) H3
def DG2a (ty tx : TE) (σ : L2.St) (Q : VK) : V → Hp → Prop := fun x H1 => ∃ a, x = .ref a ∧ IsD H1 a ∧ ty σ H1 fun y H2 => tx σ H2 fun z H3 => DG2 a Q y z H3
theorem r_dget2 {td ty tx : TE} (h : td σ H (DG2a ty tx σ Q)) : tDGet2 td ty tx σ H Q := h
theorem r_DG2a {ty tx : TE} {a : Addr} {kvs : List (Key × V)} (e : H a = some (.dK kvs)) (h : ty σ H fun y H2 => tx σ H2 fun z H3 => DG2 a Q y z H3) : DG2a ty tx σ Q (.ref a) H := ⟨a, rfl, .inl ⟨kvs, .inl e⟩, h⟩
theorem r_DG2 {a : Addr} {kvs : List (Key × V)} {z : V} {x : Str} (e : H a = some (.dK kvs)) (q : Q ((valV kvs (Sum.inr x)).getD z) H) : DG2 a Q (.str x) z H := ⟨_, DGet.k (k := Sum.inr x) e, q⟩
section
variable {K : PySem.W.Frag} {g : TG} {tt : TT} {te : TE} {ts : TA} {vs : List Nat} {tb : TS} {D : Ends}
def LcR2 (g : TG) (tt : TT) (te : TE) (vs : List Nat) (σ : L2.St) (Q : VK) : List V → Hp → Prop := fun us H1 => ∃ i j : Int, us = [.int i, .int j] ∧ (-(2 ^ 62) ≤ i ∧ i < 2 ^ 62 ∧ -(2 ^ 62) ≤ j ∧ j < 2 ^ 62) ∧ LcTurns (Itr i (j - i).toNat) g tt te vs σ Q H1
theorem r_lcR2 (h : ts σ H (LcR2 g tt te vs σ Q)) : tLc (iRng2 ts) g tt te vs σ H Q := h
def ForE (K : PySem.W.Frag) (g : TG) (tb : TS) (D : Ends) (σ : L2.St) : List V → Hp → Prop := fun us H1 => ∃ a xs, us = [.ref a] ∧ SqL K H1 a xs ∧ Turns (Ite K a) g tb D σ H1
theorem r_forE (h : ts σ H (ForE K g tb D σ)) : tFor (iEnum K ts) g tb D σ H := by
  refine cast ?_ h
  rfl
end
theorem ix_tupK {X : Cx} {K : PySem.W.Frag} (h : X.K = K) : IxR X (rIxT K) := by
  subst h
  exact ix_tup
end
/-- an expression that makes data and keeps all that is there -/
def CD (K : PySem.W.Frag) (σ : L2.St) (H0 : Hp) (te : TE) (d : PyData) : Prop := ∀ (H : Hp) (Q : VK), Kp [] H0 H → (∀ H' v, Kp [] H H' → Dt K H' v d → Q v H') → te σ H Q
def CDs (K : PySem.W.Frag) (σ : L2.St) (H0 : Hp) (ts : TA) (ds : List PyData) : Prop := ∀ (H : Hp) (R : List V → Hp → Prop), Kp [] H0 H → (∀ H' vs, Kp [] H H' → DtL K H' vs ds → R vs H') → ts σ H R
section
variable {K : PySem.W.Frag} {σ : L2.St} {H0 : Hp} {te : TE} {ts : TA} {d : PyData} {ds : List PyData}
theorem cd_str {x : Str} : CD K σ H0 (tC (.str x)) (.str x) := fun H Q _ h => h H _ Kp.nil (.str x)
theorem cd_int {x : Int} : CD K σ H0 (tC (.int x)) (.int x) := fun H Q _ h => h H _ Kp.nil (.int x)
theorem cd_non : CD K σ H0 (tC .non) .none := fun H Q _ h => h H _ Kp.nil .non
theorem cd_var {i : Nat} {v : V} (e : σ[i]? = some (some v)) (hv : Dt K H0 v d) : CD K σ H0 (tVar i) d := fun H Q k h => ⟨v, e, h H _ Kp.nil (hv.kp k)⟩
theorem cds_nil : CDs K σ H0 tNil [] := fun H R _ h => h H _ Kp.nil DtL.nil
theorem cds_cons (a : CD K σ H0 te d) (b : CDs K σ H0 ts ds) : CDs K σ H0 (tCons te ts) (d :: ds) := fun H R k h =>
  a H _ k fun H1 v k1 hv => b H1 _ (k.trans k1) fun H2 vs k2 hs => h H2 (v :: vs) (k1.trans k2) (DtL.cons (hv.kp k2) hs)
theorem cd_tup (b : CDs K σ H0 ts ds) (hz : ds.length ≤ 16777216) : CD K σ H0 (tTup ts) (.tuple ds) := fun H Q k h =>
  b H _ k fun H1 vs k1 hs => ⟨by rw [hs.len, sizeLine_eq]; exact hz, fun p hp => h _ _ (k1.new hp) ((hs.kp (Kp.nil.new hp)).tup upd_same)⟩
end
theorem DtL.app {K : PySem.W.Frag} {H : Hp} {vs us : List V} {ds es : List PyData} (h : DtL K H vs ds) (g : DtL K H us es) : DtL K H (vs ++ us) (ds ++ es) := by
  refine ⟨by rw [List.length_append, List.length_append, h.len, g.len], fun i u e q q' => ?_⟩
  by_cases hi : i < vs.length
  · rw [List.getElem?_append_left hi] at q
    rw [List.getElem?_append_left (by rw [← h.len]; exact hi)] at q'
    exact h.all i u e q q'
  · rw [List.getElem?_append_right (by omega)] at q
    rw [List.getElem?_append_right (by rw [← h.len]; omega), ← h.len] at q'
    exact g.all _ u e q q'
theorem DtL.rep {K : PySem.W.Frag} {H : Hp} {vs : List V} {ds : List PyData} (h : DtL K H vs ds) : ∀ n : Nat, DtL K H (List.replicate n vs).flatten (List.replicate n ds).flatten
  | 0 => DtL.nil
  | n + 1 => by
    rw [List.replicate_succ, List.replicate_succ, List.flatten_cons, List.flatten_cons]
    exact h.app (DtL.rep h n)
theorem Dt.items {K : PySem.W.Frag} {H : Hp} {v : V} {ds : List PyData} (h : Dt K H v (.tuple ds)) : ∃ (a : Addr) (xs : List V), v = .ref a ∧ SqT K H a xs ∧ DtL K H xs ds := by
  obtain ⟨a, xs, e, s, l, q⟩ := h.isTup
  exact ⟨a, xs, e, s, l, q⟩
theorem r_rep {H : Hp} {Q : VK} {l : Addr} {k : Int} {xs : List V} (h : H l = some (.lst xs)) (h1 : 0 ≤ k) (h2 : k ≤ 1000) (h3 : xs.length ≤ 1000) (q : ∀ p, H p = none → Q (.ref p) (upd H p (.lst (List.replicate k.toNat xs).flatten))) : rRep (.ref l) (.int k) H Q :=
  ⟨l, k, xs, rfl, rfl, h, by omega, by omega, by
    have := Nat.mul_le_mul h3 (show k.toNat ≤ 1000 by omega)
    rw [sizeLine_eq]
    omega, q⟩
end Aw
namespace Aw
open PySem PySem.Spec L2
/-- data that is shown, with dicts -/
structure ShwD (d : PyData) (k n : Nat) : Prop where
  sh : d.showable = true
  dep : d.depth ≤ k
  len : d.shown.length ≤ n
theorem RoomG.make {k : Nat} {A : Around} (h : RoomG (k + 1) A) (C : Addr) (us : List Value) (kw : List (Str × Value)) : RoomG k (A.under (.builtin "type.__call__" ⟨.ref C :: us, kw⟩)) := ⟨h.r.make C us kw, h.g⟩
/-- a method of the class at C keeps its promise -/
def HasM (P : Program) (w : World) (K : PySem.W.Frag) (mg : Str → Option Value) (base : Heap) (CX : CXT) (C : Addr) (m : Str) (ps : List Str) (k : Nat) (sp : Sp) : Prop :=
  ∃ (f : Addr) (fd : FuncData), (∃ oc od osl, K.lookup f = some ⟨oc, od, .func fd, osl⟩) ∧ Meth K C m f ∧ Binds K fd ps [] ∧ FnG P w K mg base CX k f fd ps sp
/-- a method of the class at C stands in the top -/
def DfM (K : PySem.W.Frag) (C : Addr) (m q : Str) (st : Stmt) (ps : List Str) : Prop :=
  ∃ (f : Addr) (fd : FuncData), Fun K m q st f fd ∧ Meth K C m f ∧ Binds K fd ps []
section
variable {P : Program} {w : World} {K : PySem.W.Frag} {mg : Str → Option Value} {base : Heap} {CX : CXT} {C : Addr} {m q : Str} {st : Stmt} {ps N : List Str} {j k : Nat} {sp sp' : Sp}
theorem HasM.mono (h : HasM P w K mg base CX C m ps j sp) (z : j ≤ k) : HasM P w K mg base CX C m ps k sp := by
  obtain ⟨f, fd, a, b, c, d⟩ := h
  exact ⟨f, fd, a, b, c, d.mono z⟩
theorem HasM.imp (h : HasM P w K mg base CX C m ps k sp) (z : ∀ vs H Q E, sp' vs H Q E → sp vs H Q E) : HasM P w K mg base CX C m ps k sp' := by
  obtain ⟨f, fd, a, b, c, d⟩ := h
  exact ⟨f, fd, a, b, c, fun vs H Q E y => d.len _ _ _ _ (z _ _ _ _ y), fun A o s H ar us vs Q E hr he hb hv hs => d.run A o s H ar us vs Q E hr he hb hv (z _ _ _ _ hs)⟩
theorem DfM.has (d : DfM K C m q st ps) (S : FnScope N ps (defScope st)) (len : ∀ vs H Q E, sp vs H Q E → vs.length = ps.length)
    (hb : ∀ (f : Addr) (cdv : Value) (A : Around) (outer : List Env) (s : Shared) (H : Hp) (vs : List V) (Q : VK) (E : XK),
      RoomG k (A.deeper (PyProof.Rows.envOfC q (defScope st) s.heap.objs.size f cdv)) → sp vs H Q E →
      ∃ t, PSs (cxOf CX0 P w K mg base N q (defScope st) f cdv A outer s H E).nox (defBody st) t ∧
        t { nx := fun _ H' => Q .non H', rt := Q } (start N vs) H) : HasM P w K mg base CX0 C m ps (k + 1) sp := by
  obtain ⟨f, fd, F, mm, b⟩ := d
  obtain ⟨oc, od, kV, doc, pm, an, cdv, ct, osl, rfl, lk, hcd⟩ := F.ex
  refine ⟨f, _, ⟨oc, od, osl, lk⟩, mm, b, fnG_of lk hcd S len fun A outer s H vs Q E hr hsp => ?_⟩
  obtain ⟨t, h, q⟩ := hb f cdv A outer s H vs Q E hr hsp
  exact ⟨t, h.nox, q⟩
end
section
variable {X : Cx} {CX : CXT} {k : Nat} {C : Addr} {ps : List Str} {sp : Sp} {E : XK} {x m : Str} {p pos apos : Pos} {e o : Expr} {es : List Expr} {ta : TE} {t : TA}
/-- o.m(e, ..) -/
theorem pe_m {pl : Sem Bool} (F : HasM X.prog X.w X.K X.mg X.base CX C m ps k sp) (c : Cls X.K C) (hr : RoomG k X.A) (hx : Passes CX X E) (he : PE X o ta) (ha : PA X (e :: es) t)
    (hst : starEach (e :: es) X.env = (false, eval e X.env) :: starEach es X.env := by rfl) (hpl : (backTo pos (starEach es X.env)).any (·.1) = false := by rfl)
    (ht : eval (.Call (.Attribute o m apos) (e :: es) [] pos) X.env = (do
      let ov ← eval o X.env
      standAt apos.atName
      let (f, first) ← holding [ov] (getMethod ov m pl)
      callWith pos f first (backTo pos (starEach (e :: es) X.env)) (backToKw pos (keywordEach [] X.env))) := by rfl) :
    PE X (.Call (.Attribute o m apos) (e :: es) [] pos) (tMeth C m sp [] E ta t) := by
  obtain ⟨f, fd, _, hm, hb, F⟩ := F
  refine ⟨fun pins s σ H Q I h => ?_⟩
  refine PySem.W.methodCall_KW (pl := pl) (thn (he.run pins s σ H _ I h) fun u s1 ⟨x, H1, I1, rx, a, dx, fs, ex, ea, l, q⟩ => ?_) ht
  subst ex
  obtain rfl : u = Value.ref a := rx
  refine getmeth_ok I1 ea c hm l ?_
  refine PySem.W.callWith_K (first := [.ref a]) (h₀ := X.base) I.ok.mod.kin hm.kp (thn (ha.run pos pins s1 σ H1 _ I1 q) fun us s2 ⟨vs, H2, I2, r, q2⟩ => ⟨I2.kIn, ?_⟩) hst hpl
  have q2 : sp (.ref a :: (vs ++ [])) H2 Q E := q2
  rw [List.append_nil] at q2
  exact runG (us := .ref a :: us) (vs := .ref a :: vs) F hr hb hx I2 (.cons rfl r) q2
theorem pe_m0 {pl : Sem Bool} (F : HasM X.prog X.w X.K X.mg X.base CX C m ps k sp) (c : Cls X.K C) (hr : RoomG k X.A) (hx : Passes CX X E) (he : PE X o ta)
    (ht : eval (.Call (.Attribute o m apos) [] [] pos) X.env = (do
      let ov ← eval o X.env
      standAt apos.atName
      let (f, first) ← holding [ov] (getMethod ov m pl)
      callWith pos f first (backTo pos (starEach [] X.env)) (backToKw pos (keywordEach [] X.env))) := by rfl) :
    PE X (.Call (.Attribute o m apos) [] [] pos) (tMeth C m sp [] E ta tNil) := by
  obtain ⟨f, fd, _, hm, hb, F⟩ := F
  refine ⟨fun pins s σ H Q I h => ?_⟩
  refine PySem.W.methodCall_KW (pl := pl) (thn (he.run pins s σ H _ I h) fun u s1 ⟨x, H1, I1, rx, a, dx, fs, ex, ea, l, q⟩ => ?_) ht
  subst ex
  obtain rfl : u = Value.ref a := rx
  refine getmeth_ok I1 ea c hm l ?_
  exact PySem.W.callWith_K0 (first := [.ref a]) I1.kIn hm.kp (runG (us := [.ref a]) (vs := [.ref a]) F hr hb hx I1 (.cons rfl .nil) q)
theorem runMake {f : Addr} {fd : FuncData} {pins : List (Addr × Obj)} {σ : L2.St} {H : Hp} {s : Shared} {Q : VK} {us : List Value} {vs : List V} (M : Mk X.K C f) (F : FnG X.prog X.w X.K X.mg X.base CX k f fd ps sp) (hr : RoomG (k + 1) X.A) (hb : Binds X.K fd ps [])
    (hx : Passes CX X E) (I : Inv X pins σ H s) (r : Vals vs us)
    (h : ∀ x dx, H x = none → H dx = none → dx ≠ x → sp (.ref x :: vs) (upd (upd H dx (.own x)) x (.ins C dx [])) (fun v H2 => v = .non ∧ Q (.ref x) H2) E) :
    wpAny (model X.prog X.w) X.A (call (.ref C) us) (EP X pins σ Q) X.xe s := by
  have hq := h (s.heap.objs.size + 1) s.heap.objs.size (I.hok.fresh (Nat.le_succ _)) (I.hok.fresh (Nat.le_refl _)) (Nat.ne_of_lt (Nat.lt_succ_self _))
  have I2 := Inv.made (C := C) I
  have r2 : Vals (V.ref (s.heap.objs.size + 1) :: vs) (Value.ref (s.heap.objs.size + 1) :: us) := .cons rfl r
  have hl : (Value.ref (s.heap.objs.size + 1) :: us ++ []).length = ps.length := by
    have e := r2.length
    rw [F.len _ _ _ _ hq] at e
    rw [List.append_nil]
    exact e.symm
  have bb := hb _ (Value.ref (s.heap.objs.size + 1) :: us) I2.kIn hl
  rw [List.append_nil] at bb
  refine wpAny_call (make_map (f := f) I.kIn M.makes M.init (beq_iff_eq.mp M.fn) (codeAny_mono (F.run _ X.stack _ _ ⟨Value.ref (s.heap.objs.size + 1) :: us, []⟩ (Value.ref (s.heap.objs.size + 1) :: us) _ _ E (hr.make C us [])
    (I2.env0.make C us []) bb r2 hq) fun r s' hq' => ?_))
  cases r with
  | error e => exact hx pins σ _ _ e s' I2 hq'
  | ok fl =>
    cases fl with
    | ret u =>
      obtain ⟨v, H', I3, rv, ev, q3⟩ := I2.after hq'
      subst ev
      exact ⟨rv, ⟨V.ref (s.heap.objs.size + 1), H', I3, rfl, q3⟩⟩
    | next => exact False.elim hq'
    | brk => exact False.elim hq'
    | cont => exact False.elim hq'
/-- a class of the top and its __init__ -/
def HasC (P : Program) (w : World) (K : PySem.W.Frag) (mg : Str → Option Value) (base : Heap) (CX : CXT) (x : Str) (C : Addr) (ps : List Str) (k : Nat) (sp : Sp) : Prop :=
  ∃ (f : Addr) (fd : FuncData), Mk K C f ∧ mg x = some (.ref C) ∧ Binds K fd ps [] ∧ FnG P w K mg base CX k f fd ps sp
theorem pe_new (F : HasC X.prog X.w X.K X.mg X.base CX x C ps k sp) (hr : RoomG (k + 1) X.A) (hg : Gl X x) (hx : Passes CX X E)
    (ha : PA X (e :: es) t) (hdb : (x == ("__debug__" : Str)) = false := by decide) (he : starEach (e :: es) X.env = (false, eval e X.env) :: starEach es X.env := by rfl) (hpl : (backTo pos (starEach es X.env)).any (·.1) = false := by rfl) :
    PE X (.Call (.Name x p) (e :: es) [] pos) (tMake C sp [] E t) := by
  obtain ⟨f, fd, M, hm, hb, F⟩ := F
  refine ⟨fun pins s σ H Q I h => ?_⟩
  refine wpAny_Call_Name_kw (ld_glob I hg hm ?_ hdb)
  refine PySem.W.callWith_K (h₀ := X.base) I.ok.mod.kin M.kp (thn (ha.run pos pins s σ H _ I h) fun us s1 ⟨vs, H1, I1, r, q⟩ => ⟨I1.kIn, ?_⟩) he hpl
  refine runMake M F hr hb hx I1 r fun x dx a b c => ?_
  have z : sp (.ref x :: (vs ++ [])) _ _ _ := q x dx a b c
  rw [List.append_nil] at z
  exact z
end
end Aw
namespace Aw
open PySem PySem.Spec L2
section
variable {σ : L2.St} {H : Hp} {D : Ends} {Q : VK} {v x y : V} {te td ty tv ta : TE} {tt : TT} {ts : TA} {g : TG} {tb : TS} {vs : List Nat} {K : PySem.W.Frag}
def FldQ (K : PySem.W.Frag) (f : Str) (Q : VK) : V → Hp → Prop := fun x H1 => ∃ a C dx fs v, x = .ref a ∧ H1 a = some (.ins C dx fs) ∧ Cls K C ∧ NoAttr K C f ∧ fs.lookup f = some v ∧ Q v H1
theorem r_fld {f : Str} (h : ta σ H (FldQ K f Q)) : tFld K ta f σ H Q := h
theorem r_Fld {f : Str} {a C dx : Addr} {fs : List (Str × V)} (e : H a = some (.ins C dx fs)) (c : Cls K C) (n : NoAttr K C f) (l : fs.lookup f = some v) (q : Q v H) : FldQ K f Q (.ref a) H := ⟨a, C, dx, fs, v, rfl, e, c, n, l, q⟩
def SFldQ (K : PySem.W.Frag) (f : Str) (y : V) (D : Ends) (σ : L2.St) : V → Hp → Prop := fun x H2 => ∃ a C dx fs, x = .ref a ∧ H2 a = some (.ins C dx fs) ∧ Cls K C ∧ NoAttr K C f ∧ fs.length < 1000 ∧ D.nx σ (upd H2 a (.ins C dx (putF f y fs)))
theorem r_sfld {f : Str} (h : tv σ H fun y H1 => ta σ H1 (SFldQ K f y D σ)) : sFld K ta tv f D σ H := h
theorem r_SFld {f : Str} {a C dx : Addr} {fs : List (Str × V)} (e : H a = some (.ins C dx fs)) (c : Cls K C) (n : NoAttr K C f) (l : fs.length < 1000) (q : D.nx σ (upd H a (.ins C dx (putF f y fs)))) : SFldQ K f y D σ (.ref a) H := ⟨a, C, dx, fs, rfl, e, c, n, l, q⟩
def MethQ (C : Addr) (m : Str) (sp : Sp) (E : XK) (ts : TA) (σ : L2.St) (Q : VK) : V → Hp → Prop := fun x H1 => ∃ a dx fs, x = .ref a ∧ H1 a = some (.ins C dx fs) ∧ fs.lookup m = none ∧ ts σ H1 fun vs H2 => sp (x :: (vs ++ [])) H2 Q E
theorem r_meth {C : Addr} {m : Str} {sp : Sp} {E : XK} (h : ta σ H (MethQ C m sp E ts σ Q)) : tMeth C m sp [] E ta ts σ H Q := h
theorem r_Meth {C a dx : Addr} {m : Str} {sp : Sp} {E : XK} {fs : List (Str × V)} (e : H a = some (.ins C dx fs)) (l : fs.lookup m = none) (q : ts σ H fun vs H2 => sp (.ref a :: (vs ++ [])) H2 Q E) : MethQ C m sp E ts σ Q (.ref a) H := ⟨a, dx, fs, rfl, e, l, q⟩
theorem r_make {C : Addr} {sp : Sp} {E : XK} (h : ts σ H fun vs H1 => ∀ x dx, H1 x = none → H1 dx = none → dx ≠ x → sp (.ref x :: (vs ++ [])) (upd (upd H1 dx (.own x)) x (.ins C dx [])) (fun v H2 => v = .non ∧ Q (.ref x) H2) E) : tMake C sp [] E ts σ H Q := h
def DPutQ (D : Ends) (σ : L2.St) (v : V) : V → V → Hp → Prop := fun x y H3 => ∃ a H4, x = .ref a ∧ DPut H3 a y v H4 ∧ D.nx σ H4
theorem r_dput (h : tv σ H fun v H1 => td σ H1 fun x H2 => ty σ H2 fun y H3 => DPutQ D σ v x y H3) : sDPut td ty tv D σ H := h
def DInQ (Q : VK) : V → V → Hp → Prop := fun y x H2 => ∃ a o, x = .ref a ∧ DGet H2 a y o ∧ Q (.bl o.isSome) H2
theorem r_din (h : ty σ H fun y H1 => td σ H1 fun x H2 => DInQ Q y x H2) : tDIn ty td σ H Q := h
theorem r_DIn {a : Addr} {kvs : List (Key × V)} {z : Str} (e : H a = some (.dK kvs)) (q : Q (.bl (valV kvs (Sum.inr z)).isSome) H) : DInQ Q (.str z) (.ref a) H := ⟨a, _, rfl, DGet.k (k := Sum.inr z) e, q⟩
def DG1 (a : Addr) (Q : VK) : V → Hp → Prop := fun y H2 => ∃ o, DGet H2 a y o ∧ Q (o.getD .non) H2
def DG1a (ty : TE) (σ : L2.St) (Q : VK) : V → Hp → Prop := fun x H1 => ∃ a, x = .ref a ∧ IsD H1 a ∧ ty σ H1 (DG1 a Q)
theorem r_dget1 (h : td σ H (DG1a ty σ Q)) : tDGet1 td ty σ H Q := h
theorem r_DG1a {a : Addr} {kvs : List (Key × V)} (e : H a = some (.dK kvs)) (h : ty σ H (DG1 a Q)) : DG1a ty σ Q (.ref a) H := ⟨a, rfl, .inl ⟨kvs, .inl e⟩, h⟩
theorem r_DG1 {a : Addr} {kvs : List (Key × V)} {z : Str} (e : H a = some (.dK kvs)) (q : Q ((valV kvs (Sum.inr z)).getD .non) H) : DG1 a Q (.str z) H := ⟨_, DGet.k (k := Sum.inr z) e, q⟩
theorem r_DG2i {a : Addr} {kvs : List (Key × V)} {z : V} {i : Int} (e : H a = some (.dK kvs)) (q : Q ((valV kvs (Sum.inl i)).getD z) H) : DG2 a Q (.int i) z H := ⟨_, DGet.k (k := Sum.inl i) e, q⟩
def DPop1Q (a : Addr) (Q : VK) : V → Hp → Prop := fun y H2 => ∃ kvs k v, H2 a = some (.dK kvs) ∧ y = kV k ∧ valV kvs k = some v ∧ Q v (upd H2 a (.dK (dropK kvs k)))
def DPop1a (ty : TE) (σ : L2.St) (Q : VK) : V → Hp → Prop := fun x H1 => ∃ a, x = .ref a ∧ IsD H1 a ∧ ty σ H1 (DPop1Q a Q)
theorem r_dpop1 (h : td σ H (DPop1a ty σ Q)) : tDPop1 td ty σ H Q := h
def ForK (g : TG) (tb : TS) (D : Ends) (σ : L2.St) : V → Hp → Prop := fun x H1 => ∃ d o, x = .ref d ∧ ((∃ kvs, H1 d = some (.frz o (.dK kvs)) ∧ Turns (Itk d o kvs) g tb D σ H1) ∨ ∃ kvs, H1 d = some (.frz o (.dT kvs)) ∧ Turns (Itkt d o kvs) g tb D σ H1)
theorem r_forK (h : te σ H (ForK g tb D σ)) : tFor (iKeys te) g tb D σ H := h
def LcV (g : TG) (tt : TT) (te : TE) (vs : List Nat) (σ : L2.St) (Q : VK) : V → Hp → Prop := fun x H1 => ∃ d o kvs, x = .ref d ∧ H1 d = some (.frz o (.dK kvs)) ∧ LcTurns (Itd d o kvs) g tt te vs σ Q H1
theorem r_lcV {ti : TE} (h : ti σ H (LcV g tt te vs σ Q)) : tLc (iVals ti) g tt te vs σ H Q := h
end
def tListVals (te : TE) : TE := fun σ H Q => te σ H fun x H1 => ∃ (d : Addr) (kvs : List (Key × V)), x = .ref d ∧ H1 d = some (.dK kvs) ∧ ∀ p, H1 p = none → Q (.ref p) (upd H1 p (.lst (kvs.map (·.2))))
def ListValsQ (Q : VK) : V → Hp → Prop := fun x H1 => ∃ (d : Addr) (kvs : List (Key × V)), x = .ref d ∧ H1 d = some (.dK kvs) ∧ ∀ p, H1 p = none → Q (.ref p) (upd H1 p (.lst (kvs.map (·.2))))
theorem r_listVals {te : TE} {σ : L2.St} {H : Hp} {Q : VK} (h : te σ H (ListValsQ Q)) : tListVals te σ H Q := h
def ListItemsQ (Q : VK) : V → Hp → Prop := fun x H1 => LiI.rItemsL x H1 Q
theorem r_listItems {te : TE} {σ : L2.St} {H : Hp} {Q : VK} (h : te σ H (ListItemsQ Q)) : LiI.tListItems te σ H Q := h
/-- what was made behind the beginning may have been written -/
theorem Kp.outs {N M : List Addr} {H H1 H2 : Hp} (k1 : Kp N H H1) (hM : ∀ b ∈ M, H b = none ∨ b ∈ N) (k2 : Kp M H1 H2) : Kp N H H2 := by
  intro c o ec
  refine ⟨(k1 c o ec).1, fun n => (k2 c o ((k1 c o ec).2 n)).2 fun m => ?_⟩
  rcases hM c m with z | z
  · rw [z] at ec
    cases ec
  · exact n z
theorem Kp.own1 {H H1 H2 : Hp} {p : Addr} (k1 : Kp [] H H1) (hp : H p = none) (k2 : Kp [p] H1 H2) : Kp [] H H2 := k1.outs (fun b m => .inl (by rw [List.mem_singleton.mp m]; exact hp)) k2
theorem pi_tupK {X : Cx} {K : PySem.W.Frag} {tg l : Expr} {tl : TE} (h : X.K = K) (hl : PE X l tl) : PI X tg l (iTup K tl) := by
  subst h
  exact pi_tup hl
theorem pe_fldK {X : Cx} {K : PySem.W.Frag} {e : Expr} {f : Str} {pos : Pos} {ta : TE} (h : X.K = K) (he : PE X e ta) (hb : attributeBase e f X.env (eval e X.env) = eval e X.env) : PE X (.Attribute e f pos) (tFld K ta f) := by
  subst h
  exact pe_fld he hb
theorem kpW2 {H : Hp} {a : Addr} {u o : HO} (h : H a = some u) (m : Mut u) : Kp [a] H (upd H a o) := (Kp.reflM (Ms.cons h m Ms.nil)).write (by simp)
end Aw
namespace Aw
open PySem PySem.Spec L2
inductive Ex where
  | int (i : Int)
  | name (x : Str)
  | bin (o : Str) (a b : Ex)
def opSign (o : Str) : Str := if o = "plus" then " + " else if o = "minus" then " - " else " * "
def Ex.d : Ex → PyData
  | .int i => .int i
  | .name x => .str x
  | .bin o a b => .tuple [.str o, a.d, b.d]
def Ex.text : Ex → Str
  | .int i => Str.ofString (toString i)
  | .name x => x
  | .bin o a b => "(" ++ a.text ++ opSign o ++ b.text ++ ")"
def IsOp (o : Str) : Prop := o = "plus" ∨ o = "minus" ∨ o = "times"
def Ex.ok : Nat → Ex → Prop
  | 0, _ => False
  | _ + 1, .int i => -99 ≤ i ∧ i ≤ 99
  | _ + 1, .name x => Sok x 8
  | n + 1, .bin o a b => IsOp o ∧ a.ok n ∧ b.ok n
theorem Ex.ok.succ : ∀ {n : Nat} {e : Ex}, e.ok n → e.ok (n + 1)
  | 0, _, h => h.elim
  | _ + 1, .int _, h => h
  | _ + 1, .name _, h => h
  | _ + 1, .bin _ _ _, h => ⟨h.1, h.2.1.succ, h.2.2.succ⟩
theorem Ex.ok.mono {m n : Nat} {e : Ex} (h : e.ok m) (q : m ≤ n) : e.ok n := by
  induction q with
  | refl => exact h
  | step _ ih => exact ih.succ
inductive Ts where
  | not (t : Ts)
  | given (x : Str)
  | rest (e : Ex) (b r : Int)
  | less (a b : Ex)
def Ts.d : Ts → PyData
  | .not t => .tuple [.str "not", t.d]
  | .given x => .tuple [.str "given", .str x]
  | .rest e b r => .tuple [.str "rest", e.d, .int b, .int r]
  | .less a b => .tuple [.str "less", a.d, b.d]
def numT (i : Int) : Str := Str.ofString (toString i)
def Ts.text : Ts → Str
  | .not t => "not " ++ t.text
  | .given x => "set " ++ x
  | .rest e b r => "rest " ++ numT r ++ " of " ++ numT b ++ " " ++ e.text
  | .less a b => a.text ++ " < " ++ b.text
def Ts.ok : Nat → Ts → Prop
  | 0, .not _ => False
  | n + 1, .not t => t.ok n
  | _, .given x => Sok x 8
  | _, .rest e b r => e.ok 3 ∧ 0 ≤ b ∧ b ≤ 99 ∧ 0 ≤ r ∧ r ≤ 99
  | _, .less a b => a.ok 3 ∧ b.ok 3
inductive Pl where
  | set (x : Str) (e : Ex)
  | unset (x : Str)
  | tell (e : Ex)
  | say (w : Str)
  | stop (w : Str)
def Pl.d : Pl → PyData
  | .set x e => .tuple [.str "set", .str x, e.d]
  | .unset x => .tuple [.str "unset", .str x]
  | .tell e => .tuple [.str "tell", e.d]
  | .say w => .tuple [.str "say", .str w]
  | .stop w => .tuple [.str "stop", .str w]
def Pl.text : Pl → Str
  | .set x e => "set " ++ x ++ " " ++ e.text
  | .unset x => "unset" ++ " " ++ x
  | .tell e => "tell " ++ e.text
  | .say w => "say" ++ " " ++ w
  | .stop w => "stop" ++ " " ++ w
def Pl.ok : Pl → Prop
  | .set x e => Sok x 8 ∧ e.ok 3
  | .unset x => Sok x 8
  | .tell e => e.ok 3
  | .say w => Sok w 8
  | .stop w => Sok w 8
inductive Sm where
  | pl (s : Pl)
  | ifs (t : Ts) (y n : List Sm)
  | rep (k : Int) (b : List Sm)
mutual
def Sm.d : Sm → PyData
  | .pl s => s.d
  | .ifs t y n => .tuple [.str "if", t.d, .tuple (Sm.ds y), .tuple (Sm.ds n)]
  | .rep k b => .tuple [.str "repeat", .int k, .tuple (Sm.ds b)]
def Sm.ds : List Sm → List PyData
  | [] => []
  | s :: r => s.d :: Sm.ds r
end
mutual
def Sm.lines (ah : Str) : Sm → List Str
  | .pl s => [ah ++ s.text]
  | .ifs t y n => (ah ++ ("if " ++ t.text)) :: ((if y.isEmpty then [ah ++ "  " ++ "pass"] else Sm.all (ah ++ "  ") y) ++
      (if n.isEmpty then [] else (ah ++ "else") :: Sm.all (ah ++ "  ") n))
  | .rep k b => (ah ++ ("repeat" ++ " " ++ numT k)) :: (if b.isEmpty then [ah ++ "  " ++ "pass"] else Sm.all (ah ++ "  ") b)
def Sm.all (ah : Str) : List Sm → List Str
  | [] => []
  | s :: r => Sm.lines ah s ++ Sm.all ah r
end
mutual
def Sm.size : Sm → Nat
  | .pl _ => 1
  | .ifs _ y n => 1 + Sm.sizes y + Sm.sizes n
  | .rep _ b => 1 + Sm.sizes b
def Sm.sizes : List Sm → Nat
  | [] => 0
  | s :: r => Sm.size s + Sm.sizes r
end
theorem Sm.sizes_app : ∀ a b : List Sm, Sm.sizes (a ++ b) = Sm.sizes a + Sm.sizes b
  | [], b => by rw [List.nil_append, Sm.sizes, Nat.zero_add]
  | s :: r, b => by rw [List.cons_append, Sm.sizes, Sm.sizes, Sm.sizes_app r b, Nat.add_assoc]
def Sm.ok : Nat → Sm → Prop
  | _, .pl s => s.ok
  | 0, .ifs _ _ _ => False
  | 0, .rep _ _ => False
  | n + 1, .ifs t y z => t.ok 2 ∧ (∀ s ∈ y, Sm.ok n s) ∧ (∀ s ∈ z, Sm.ok n s)
  | n + 1, .rep k b => 0 ≤ k ∧ k ≤ 8 ∧ ∀ s ∈ b, Sm.ok n s
theorem depth_tup {ds : List PyData} {n : Nat} (h : ∀ d ∈ ds, d.depth ≤ n) : (PyData.tuple ds).depth ≤ n + 1 := by
  have q : PyData.depthAll ds ≤ n := by
    induction ds with
    | nil => exact Nat.zero_le _
    | cons d r ih =>
      rw [PyData.depthAll]
      exact Nat.max_le.mpr ⟨h d (List.mem_cons_self ..), ih fun d hd => h d (List.mem_cons_of_mem _ hd)⟩
  rw [PyData.depth]
  omega
theorem lay_tup {ds : List PyData} (h : ∀ d ∈ ds, d.canLay0 = true) : (PyData.tuple ds).canLay0 = true := by
  rw [PyData.canLay0]
  induction ds with
  | nil => rfl
  | cons d r ih =>
    rw [PyData.canLayAll0, h d (List.mem_cons_self ..), ih fun d hd => h d (List.mem_cons_of_mem _ hd)]
    rfl
/-- data that may be compared -/
structure Cmp (d : PyData) (n : Nat) : Prop where
  lay : d.canLay0 = true
  dep : d.depth ≤ n
theorem Cmp.tup {ds : List PyData} {n : Nat} (h : ∀ d ∈ ds, Cmp d n) : Cmp (.tuple ds) (n + 1) :=
  ⟨lay_tup fun d hd => (h d hd).lay, depth_tup fun d hd => (h d hd).dep⟩
theorem Cmp.mono {d : PyData} {m n : Nat} (h : Cmp d m) (q : m ≤ n) : Cmp d n := ⟨h.lay, Nat.le_trans h.dep q⟩
theorem Cmp.str {x : Str} {k n : Nat} (h : Sok x k) : Cmp (.str x) n := ⟨by rw [PyData.canLay0]; exact h.ok, by rw [PyData.depth]; exact Nat.zero_le _⟩
theorem Cmp.int {i : Int} {n : Nat} : Cmp (.int i) n := ⟨by rw [PyData.canLay0], by rw [PyData.depth]; exact Nat.zero_le _⟩
theorem Cmp.shaped {d : PyData} {n : Nat} (h : Cmp d n) (q : n ≤ 64) : SeqAt.shaped d = true := by
  unfold SeqAt.shaped
  rw [h.lay, decide_eq_true (Nat.le_trans h.dep q)]
  rfl
theorem Cmp.nil {n : Nat} : Cmp (.tuple []) (n + 1) := Cmp.tup fun _ h => nomatch h
def Pl.word : Pl → Str
  | .set _ _ => "set"
  | .unset _ => "unset"
  | .tell _ => "tell"
  | .say _ => "say"
  | .stop _ => "stop"
theorem Pl.head {K : PySem.W.Frag} {H : Hp} {v : V} {s : Pl} (h : Dt K H v s.d) : ∃ (p : Addr) (ys : List V), v = .ref p ∧ SqT K H p ys ∧ atI ys 0 = some (.str s.word) := by
  cases s with
  | set x e =>
    obtain ⟨p, a, b, c, rfl, hT, h1, _, _⟩ := Dt.is3 h
    obtain rfl := Dt.isStr h1
    exact ⟨p, _, rfl, hT, rfl⟩
  | unset x =>
    obtain ⟨p, a, b, rfl, hT, h1, _⟩ := Dt.is2 h
    obtain rfl := Dt.isStr h1
    exact ⟨p, _, rfl, hT, rfl⟩
  | tell e =>
    obtain ⟨p, a, b, rfl, hT, h1, _⟩ := Dt.is2 h
    obtain rfl := Dt.isStr h1
    exact ⟨p, _, rfl, hT, rfl⟩
  | say x =>
    obtain ⟨p, a, b, rfl, hT, h1, _⟩ := Dt.is2 h
    obtain rfl := Dt.isStr h1
    exact ⟨p, _, rfl, hT, rfl⟩
  | stop x =>
    obtain ⟨p, a, b, rfl, hT, h1, _⟩ := Dt.is2 h
    obtain rfl := Dt.isStr h1
    exact ⟨p, _, rfl, hT, rfl⟩
end Aw
namespace Aw
open PySem PySem.Spec L2
structure Nms (H : Hp) (a : Addr) (xs : List Str) : Prop where
  h : H a = some (.lst (xs.map V.str))
  ne : 1 ≤ xs.length
  ok : ∀ x ∈ xs, Sok x 8
  len : xs.length ≤ 100
theorem Nms.kp {M : List Addr} {H H1 : Hp} {a : Addr} {xs : List Str} (h : Nms H a xs) (k : Kp M H H1) (n : a ∉ M) : Nms H1 a xs := ⟨k.get h.h n, h.ne, h.ok, h.len⟩
theorem Nms.item {H : Hp} {a : Addr} {xs : List Str} (h : Nms H a xs) {i : Nat} {x : V} (e : (xs.map V.str)[i]? = some x) : ∃ z : Str, x = .str z ∧ Sok z 8 := by
  rw [List.getElem?_map] at e
  obtain ⟨z, hz, rfl⟩ := Option.map_eq_some_iff.mp e
  exact ⟨z, rfl, h.ok z (List.mem_of_getElem? hz)⟩
theorem Ts.ok.succ : ∀ {n : Nat} {t : Ts}, t.ok n → t.ok (n + 1)
  | n + 1, .not t, h => Ts.ok.succ (n := n) (t := t) h
  | n, .given x, h => by cases n <;> exact h
  | n, .rest e b r, h => by cases n <;> exact h
  | n, .less a b, h => by cases n <;> exact h
theorem Ts.ok.mono {m n : Nat} {t : Ts} (h : t.ok m) (q : m ≤ n) : t.ok n := by
  induction q with
  | refl => exact h
  | step _ ih => exact ih.succ
theorem Sm.ok.succ : ∀ (n : Nat) (s : Sm), s.ok n → s.ok (n + 1) := by
  intro n
  induction n with
  | zero =>
    intro s h
    cases s with
    | pl s => exact h
    | ifs t y z => exact h.elim
    | rep k b => exact h.elim
  | succ n ih =>
    intro s h
    cases s with
    | pl s => exact h
    | ifs t y z => exact ⟨h.1, fun s hs => ih s (h.2.1 s hs), fun s hs => ih s (h.2.2 s hs)⟩
    | rep k b => exact ⟨h.1, h.2.1, fun s hs => ih s (h.2.2 s hs)⟩
theorem Sm.ok.mono {m n : Nat} {s : Sm} (h : s.ok m) (q : m ≤ n) : s.ok n := by
  induction q with
  | refl => exact h
  | step _ ih => exact Sm.ok.succ _ _ ih
theorem Sok.iff {x : Str} {n : Nat} : Sok x n ↔ (∀ c ∈ x.cps.toList, c < 1114112) ∧ x.cps.toList.length ≤ n := by
  constructor
  · intro h
    have q := h.ok
    unfold PyData.strOk at q
    rw [Array.all_eq_true_iff_forall_mem] at q
    exact ⟨fun c hc => of_decide_eq_true (q c (Array.mem_def.mpr hc)), by rw [Array.length_toList]; exact h.len⟩
  · intro h
    refine ⟨?_, ?_⟩
    · unfold PyData.strOk
      rw [Array.all_eq_true_iff_forall_mem]
      exact fun c hc => decide_eq_true (h.1 c (Array.mem_def.mp hc))
    · have q := h.2
      rw [Array.length_toList] at q
      exact q
theorem joinL_ok {S : List Nat} {m s : Nat} (hS : S.length ≤ s) (h1 : ∀ c ∈ S, c < 1114112) : ∀ ps : List (List Nat), (∀ p ∈ ps, p.length ≤ m ∧ ∀ c ∈ p, c < 1114112) →
    (TL.joinL S ps).length ≤ ps.length * (m + s) ∧ ∀ c ∈ TL.joinL S ps, c < 1114112
  | [], _ => ⟨Nat.zero_le _, fun c h => (nomatch h)⟩
  | [p], h => by
    obtain ⟨a, b⟩ := h p (List.mem_cons_self ..)
    rw [TL.joinL]
    exact ⟨by rw [List.length_singleton, Nat.one_mul]; omega, b⟩
  | p :: q :: r, h => by
    obtain ⟨a, b⟩ := h p (List.mem_cons_self ..)
    obtain ⟨a2, b2⟩ := joinL_ok hS h1 (q :: r) fun p' hp' => h p' (List.mem_cons_of_mem _ hp')
    rw [TL.joinL]
    refine ⟨?_, fun c hc => ?_⟩
    · rw [List.length_append, List.length_append, List.length_cons, Nat.add_mul, Nat.one_mul]
      omega
    · rcases List.mem_append.mp hc with hc | hc
      · exact b c hc
      · rcases List.mem_append.mp hc with hc | hc
        · exact h1 c hc
        · exact b2 c hc
theorem Sok.join {sep : Str} {ys : List Str} {m s : Nat} (hs : Sok sep s) (h : ∀ y ∈ ys, Sok y m) : Sok (Txt.join sep ys) (ys.length * (m + s)) := by
  rw [Sok.iff] at *
  rw [TL.join_eq]
  have e : (Str.join sep ys).cps.toList = TL.joinL sep.cps.toList (ys.map fun y => y.cps.toList) := TL.tl_join sep ys
  rw [e]
  obtain ⟨a, b⟩ := joinL_ok (m := m) hs.2 hs.1 (ys.map fun y => y.cps.toList) fun p hp => by
    obtain ⟨y, hy, rfl⟩ := List.mem_map.mp hp
    have q := Sok.iff.mp (h y hy)
    exact ⟨q.2, q.1⟩
  rw [List.length_map] at a
  exact ⟨b, a⟩
end Aw
namespace Aw
abbrev Rw := List Int
def at0 (r : Rw) (i : Nat) : Int := r.getD i 0
/-- how many bits a number may have: a constant that cannot be unfolded -/
noncomputable def capB : Nat := Classical.choose (⟨66000000, rfl⟩ : ∃ c : Nat, c = 66000000)
theorem capB_eq : capB = 66000000 := Classical.choose_spec (⟨66000000, rfl⟩ : ∃ c : Nat, c = 66000000)
theorem capB_lt {k : Nat} (h : k < 66000000) : k < capB := by rw [capB_eq]; exact h
theorem cap_pos : 0 < capB := capB_lt (by decide)
theorem cap_100 : capB ≤ 134000000 := by rw [capB_eq]; decide
theorem pow_cap {k : Nat} (h : k < 66000000) : 2 ^ k < 2 ^ capB := Nat.pow_lt_pow_right (by decide) (capB_lt h)
def vplus (r s : Rw) (t : Int) : Rw := List.zipWith (fun x y => x + t * y) r s
def tvec (r : Rw) (t : Int) : Rw := r.map (t * ·)
def leadO (r : Rw) : Nat := r.findIdx fun x => decide (x ≠ 0)
def qOf (i : Nat) (r l : Rw) : Int := (at0 r i).fdiv (at0 l i)
def redR (i : Nat) (r l : Rw) : Rw := vplus r l (0 - qOf i r l)
/-- a row that has the least number at the place -/
def isMin (i : Nat) (left : List Rw) (r : Rw) : Bool := left.all fun s => decide ((at0 r i).natAbs ≤ (at0 s i).natAbs)
def leastO (i : Nat) (left : List Rw) : Rw := (left.find? (isMin i left)).getD []
def meas (i : Nat) (left : List Rw) : Nat := (at0 (leastO i left) i).natAbs
/-- one turn: the others, what is found -/
def stp (i : Nat) (l : Rw) : List Rw → List Rw → List Rw → List Rw × List Rw
  | [], o, f => (o, f)
  | r :: rs, o, f => if r = l then stp i l rs o f else if at0 (redR i r l) i = 0 then stp i l rs (o ++ [redR i r l]) f else stp i l rs o (f ++ [redR i r l])
def clrF : Nat → Nat → List Rw → List Rw → List Rw
  | 0, _, left, others => left ++ others
  | n + 1, i, left, others => if left.length ≤ 1 then left ++ others else clrF n i (stp i (leastO i left) left others [leastO i left]).2 (stp i (leastO i left) left others [leastO i left]).1
def lefts (i : Nat) (rows : List Rw) : List Rw := rows.filter fun r => decide (at0 r i ≠ 0)
def zeros (i : Nat) (rows : List Rw) : List Rw := rows.filter fun r => decide (at0 r i = 0)
def cleared (i : Nat) (rows : List Rw) : List Rw := clrF (meas i (lefts i rows)) i (lefts i rows) (zeros i rows)
def posR (i : Nat) (r : Rw) : Rw := if at0 r i < 0 then tvec r (-1) else r
def ledR (n : Nat) (rows : List Rw) : List Rw := rows.filter fun r => decide (leadO r < n)
def basStep (n i : Nat) (rows found : List Rw) : List Rw × List Rw := match ledR n (cleared i rows) with
  | [] => ([], found)
  | f :: rest => if at0 f i = 0 then (f :: rest, found) else (rest, found.map (fun r => redR i r (posR i f)) ++ [posR i f])
def basF (n : Nat) : Nat → List Rw → List Rw → List Rw
  | 0, _, found => found
  | k + 1, rows, found => basF n k (basStep n (n - (k + 1)) rows found).1 (basStep n (n - (k + 1)) rows found).2
def basisF (n : Nat) (vs : List Rw) : List Rw := basF n n (ledR n vs) []
theorem fd_spec {a b : Int} (hb : b ≠ 0) : (0 < b → 0 ≤ a - b * a.fdiv b ∧ a - b * a.fdiv b < b) ∧ (b < 0 → b < a - b * a.fdiv b ∧ a - b * a.fdiv b ≤ 0) := by
  constructor
  · intro h
    rw [Int.fdiv_eq_ediv_of_nonneg a (by omega)]
    have e := Int.mul_ediv_add_emod a b
    have h1 := Int.emod_nonneg a hb
    have h2 := Int.emod_lt_of_pos a h
    omega
  · intro h
    rw [← Int.neg_fdiv_neg, Int.fdiv_eq_ediv_of_nonneg (-a) (by omega)]
    have e := Int.mul_ediv_add_emod (-a) (-b)
    have h1 := Int.emod_nonneg (-a) (show -b ≠ 0 by omega)
    have h2 := Int.emod_lt_of_pos (-a) (show 0 < -b by omega)
    rw [Int.neg_mul] at e
    omega
theorem fd_rest {a b : Int} (hb : b ≠ 0) : (a - b * a.fdiv b).natAbs < b.natAbs := by
  obtain ⟨h1, h2⟩ := fd_spec (a := a) hb
  rcases Int.lt_or_gt_of_ne hb with h | h
  · have := h2 h
    omega
  · have := h1 h
    omega
/-- the number of times, by the sizes -/
theorem fd_le {a b : Int} (hb : b ≠ 0) : (a.fdiv b).natAbs * b.natAbs ≤ a.natAbs + b.natAbs := by
  have h := fd_rest (a := a) hb
  have e : (b * a.fdiv b).natAbs = b.natAbs * (a.fdiv b).natAbs := Int.natAbs_mul ..
  rw [Nat.mul_comm] at e
  omega
/-- a and b of one sign -/
def oneS (a b : Int) : Prop := (0 < a ∧ 0 < b) ∨ (a < 0 ∧ b < 0)
theorem fd_same {a b : Int} (h : oneS a b) : (a.fdiv b).natAbs * b.natAbs + (a - b * a.fdiv b).natAbs = a.natAbs := by
  have hb : b ≠ 0 := by rcases h with h | h <;> omega
  have e : (b * a.fdiv b).natAbs = b.natAbs * (a.fdiv b).natAbs := Int.natAbs_mul ..
  rw [Nat.mul_comm] at e
  obtain ⟨h1, h2⟩ := fd_spec (a := a) hb
  have hq : 0 ≤ a.fdiv b := by
    rcases h with h | h
    · exact Int.fdiv_nonneg (by omega) (by omega)
    · rw [← Int.neg_fdiv_neg]
      exact Int.fdiv_nonneg (by omega) (by omega)
  rcases h with h | h
  · have h3 := h1 h.2
    have h4 : 0 ≤ b * a.fdiv b := Int.mul_nonneg (by omega) hq
    omega
  · have h3 := h2 h.2
    have h4 : b * a.fdiv b ≤ 0 := by
      have := Int.mul_nonneg (show 0 ≤ -b by omega) hq
      rw [Int.neg_mul] at this
      omega
    omega
theorem at0_lt {r : Rw} {i : Nat} (h : i < r.length) : r[i]? = some (at0 r i) := by
  unfold at0
  rw [List.getD_eq_getElem?_getD, List.getElem?_eq_getElem h]
  rfl
theorem at0_mem {r : Rw} {i : Nat} (h : i < r.length) : at0 r i ∈ r := List.mem_of_getElem? (at0_lt h)
theorem vplus_len {r s : Rw} {t : Int} {n : Nat} (hr : r.length = n) (hs : s.length = n) : (vplus r s t).length = n := by
  unfold vplus
  rw [List.length_zipWith, hr, hs, Nat.min_self]
theorem tvec_len {r : Rw} {t : Int} : (tvec r t).length = r.length := List.length_map ..
theorem vplus_at {r s : Rw} {t : Int} {n i : Nat} (hr : r.length = n) (hs : s.length = n) (hi : i < n) : at0 (vplus r s t) i = at0 r i + t * at0 s i := by
  have h1 : r[i]? = some (at0 r i) := at0_lt (by omega)
  have h2 : s[i]? = some (at0 s i) := at0_lt (by omega)
  have h3 : (vplus r s t)[i]? = some (at0 r i + t * at0 s i) := by
    unfold vplus
    rw [List.getElem?_zipWith, h1, h2]
  have h4 := at0_lt (r := vplus r s t) (i := i) (by rw [vplus_len hr hs]; exact hi)
  rw [h3] at h4
  exact (Option.some.inj h4).symm
theorem redR_at {r l : Rw} {n i : Nat} (hr : r.length = n) (hl : l.length = n) (hi : i < n) : at0 (redR i r l) i = at0 r i - at0 l i * qOf i r l := by
  unfold redR
  rw [vplus_at hr hl hi, Int.zero_sub, Int.neg_mul, Int.mul_comm]
  rfl
theorem redR_len {r l : Rw} {n i : Nat} (hr : r.length = n) (hl : l.length = n) : (redR i r l).length = n := vplus_len hr hl
/-- all numbers of some rows -/
def BdN (E : Nat) (rs : List Rw) : Prop := ∀ r ∈ rs, ∀ x ∈ r, x.natAbs ≤ E
def LnN (n : Nat) (rs : List Rw) : Prop := ∀ r ∈ rs, r.length = n
theorem vplus_bd {r s : Rw} {t : Int} {E F : Nat} (hr : ∀ x ∈ r, x.natAbs ≤ E) (hs : ∀ x ∈ s, x.natAbs ≤ F) : ∀ x ∈ vplus r s t, x.natAbs ≤ E + t.natAbs * F := by
  intro x hx
  obtain ⟨i, hi⟩ := List.mem_iff_getElem?.mp hx
  unfold vplus at hi
  rw [List.getElem?_zipWith] at hi
  cases h1 : r[i]? with
  | none => rw [h1] at hi; cases hi
  | some a =>
    cases h2 : s[i]? with
    | none => rw [h1, h2] at hi; cases hi
    | some b =>
      rw [h1, h2] at hi
      cases hi
      have q1 := hr a (List.mem_of_getElem? h1)
      have q2 := hs b (List.mem_of_getElem? h2)
      have q3 := Nat.mul_le_mul_left t.natAbs q2
      have q4 : (t * b).natAbs = t.natAbs * b.natAbs := Int.natAbs_mul ..
      omega
end Aw
namespace Aw
theorem exists_min (i : Nat) : ∀ (l : List Rw), l ≠ [] → ∃ r ∈ l, ∀ s ∈ l, (at0 r i).natAbs ≤ (at0 s i).natAbs
  | [], h => absurd rfl h
  | [r], _ => ⟨r, List.mem_singleton.mpr rfl, fun s hs => by rw [List.mem_singleton.mp hs]; exact Nat.le_refl _⟩
  | r :: t :: u, _ => by
    obtain ⟨x, hx, hm⟩ := exists_min i (t :: u) (List.cons_ne_nil _ _)
    by_cases c : (at0 r i).natAbs ≤ (at0 x i).natAbs
    · refine ⟨r, List.mem_cons_self .., fun s hs => ?_⟩
      rcases List.mem_cons.mp hs with rfl | hs
      · exact Nat.le_refl _
      · exact Nat.le_trans c (hm s hs)
    · refine ⟨x, List.mem_cons_of_mem _ hx, fun s hs => ?_⟩
      rcases List.mem_cons.mp hs with rfl | hs
      · omega
      · exact hm s hs
theorem isMin_iff {i : Nat} {left : List Rw} {r : Rw} : isMin i left r = true ↔ ∀ s ∈ left, (at0 r i).natAbs ≤ (at0 s i).natAbs := by
  unfold isMin
  rw [List.all_eq_true]
  exact ⟨fun h s hs => of_decide_eq_true (h s hs), fun h s hs => decide_eq_true (h s hs)⟩
theorem leastO_spec {i : Nat} {left : List Rw} (h : left ≠ []) : left.find? (isMin i left) = some (leastO i left) ∧ leastO i left ∈ left ∧ ∀ s ∈ left, meas i left ≤ (at0 s i).natAbs := by
  obtain ⟨r, hr, hm⟩ := exists_min i left h
  cases e : left.find? (isMin i left) with
  | none => exact absurd (isMin_iff.mpr hm) (List.find?_eq_none.mp e r hr)
  | some x =>
    have e2 : leastO i left = x := by
      unfold leastO
      rw [e]
      rfl
    rw [e2]
    refine ⟨rfl, List.mem_of_find?_eq_some e, ?_⟩
    unfold meas
    rw [e2]
    exact isMin_iff.mp (List.find?_some e)
theorem stp_eq (i : Nat) (l : Rw) : ∀ (rs o f : List Rw), stp i l rs o f = (o ++ (rs.filter fun r => decide (r ≠ l ∧ at0 (redR i r l) i = 0)).map fun r => redR i r l, f ++ (rs.filter fun r => decide (r ≠ l ∧ at0 (redR i r l) i ≠ 0)).map fun r => redR i r l)
  | [], o, f => by simp [stp]
  | r :: rs, o, f => by
    rw [stp]
    by_cases c : r = l
    · rw [if_pos c, stp_eq i l rs, List.filter_cons_of_neg (by simp [c]), List.filter_cons_of_neg (by simp [c])]
    · rw [if_neg c]
      by_cases d : at0 (redR i r l) i = 0
      · rw [if_pos d, stp_eq i l rs, List.filter_cons_of_pos (by simp [c, d]), List.filter_cons_of_neg (by simp [c, d])]
        simp
      · rw [if_neg d, stp_eq i l rs, List.filter_cons_of_neg (by simp [c, d]), List.filter_cons_of_pos (by simp [c, d])]
        simp
/-- those that are lost in a turn -/
def lost (i : Nat) (l : Rw) (rs : List Rw) : Nat := (rs.filter fun r => !decide (r ≠ l ∧ at0 (redR i r l) i ≠ 0)).length
theorem lost_len (i : Nat) (l : Rw) (rs : List Rw) : (rs.filter fun r => decide (r ≠ l ∧ at0 (redR i r l) i ≠ 0)).length + lost i l rs = rs.length := by
  unfold lost
  rw [← List.length_append]
  exact (List.filter_append_perm (fun r => decide (r ≠ l ∧ at0 (redR i r l) i ≠ 0)) rs).length_eq
theorem lost_pos {i : Nat} {l : Rw} {rs : List Rw} (h : l ∈ rs) : 1 ≤ lost i l rs := by
  unfold lost
  refine List.length_pos_of_mem (a := l) (List.mem_filter.mpr ⟨h, ?_⟩)
  simp
/-- the numbers of a column -/
def ColN (i M : Nat) (rs : List Rw) : Prop := ∀ r ∈ rs, (at0 r i).natAbs ≤ M
def Ph0 (i D P : Nat) (left : List Rw) : Prop := ∃ E M, BdN E left ∧ ColN i M left ∧ 6 * E * M * D ≤ P
def Ph1 (i P : Nat) (left : List Rw) : Prop := (∀ r ∈ left, ∀ s ∈ left, oneS (at0 r i) (at0 s i)) ∧ ∃ E M, BdN E left ∧ ColN i M left ∧ (∃ r ∈ left, (at0 r i).natAbs = M) ∧ E * M * (M + meas i left) ≤ P
structure LI (n i D G P : Nat) (left others : List Rw) : Prop where
  l1 : LnN n left
  l2 : LnN n others
  nz : ∀ r ∈ left, at0 r i ≠ 0
  zz : ∀ r ∈ others, at0 r i = 0
  b1 : BdN P left
  b2 : BdN P others
  ph : left.length ≤ 1 ∨ (meas i left ≤ D ∧ (Ph0 i D P left ∨ Ph1 i P left))
  pv : left.length ≤ 1 → ColN i G left
theorem ne_len {l : List Rw} (h : 1 < l.length) : l ≠ [] := fun z => by rw [z] at h; simp at h
section
variable {n i D G P : Nat} {left others : List Rw}
/-- what a turn leads to, in numbers -/
theorem red_facts {r l : Rw} (hi : i < n) (hr : r.length = n) (hl : l.length = n) (hn : at0 l i ≠ 0) : (at0 (redR i r l) i).natAbs < (at0 l i).natAbs ∧ (at0 (redR i r l) i ≠ 0 → oneS (at0 l i) (at0 (redR i r l) i)) := by
  rw [redR_at hr hl hi]
  have h1 := fd_rest (a := at0 r i) hn
  obtain ⟨h2, h3⟩ := fd_spec (a := at0 r i) hn
  refine ⟨h1, fun hz => ?_⟩
  unfold qOf at hz ⊢
  rcases Int.lt_or_gt_of_ne hn with h | h
  · have := h3 h
    exact .inr ⟨h, by omega⟩
  · have := h2 h
    exact .inl ⟨h, by omega⟩
theorem div_mul_le' (a m : Nat) : a / m * m ≤ a := Nat.div_mul_le_self a m
theorem LI.step (h : LI n i D G P left others) (hi : i < n) (hk : 1 < left.length) (hD : D ≤ G) : LI n i D G P (stp i (leastO i left) left others [leastO i left]).2 (stp i (leastO i left) left others [leastO i left]).1 ∧
    (1 < (stp i (leastO i left) left others [leastO i left]).2.length → meas i (stp i (leastO i left) left others [leastO i left]).2 < meas i left) := by
  rw [stp_eq]
  obtain ⟨_, hlm, hmin⟩ := leastO_spec (i := i) (ne_len hk)
  have hln := h.l1 _ hlm
  have hlz := h.nz _ hlm
  have em : meas i left = (at0 (leastO i left) i).natAbs := rfl
  generalize hL : leastO i left = l at hlm hln hlz em ⊢
  have m1 : 1 ≤ meas i left := by omega
  obtain ⟨hmD, hph⟩ : meas i left ≤ D ∧ (Ph0 i D P left ∨ Ph1 i P left) := by
    rcases h.ph with q | q
    · omega
    · exact q
  have hlen := lost_len i l left
  have hlp := lost_pos (i := i) hlm
  generalize hfs : (left.filter fun r => decide (r ≠ l ∧ at0 (redR i r l) i ≠ 0)) = fs at hlen ⊢
  have hfm : ∀ r ∈ fs, r ∈ left ∧ r ≠ l ∧ at0 (redR i r l) i ≠ 0 := fun r hr => by
    rw [← hfs] at hr
    obtain ⟨a, b⟩ := List.mem_filter.mp hr
    exact ⟨a, of_decide_eq_true b⟩
  have hzm : ∀ x ∈ (left.filter fun r => decide (r ≠ l ∧ at0 (redR i r l) i = 0)).map (fun r => redR i r l), ∃ r ∈ left, x = redR i r l ∧ at0 x i = 0 := fun x hx => by
    obtain ⟨r, hr, rfl⟩ := List.mem_map.mp hx
    obtain ⟨a, b⟩ := List.mem_filter.mp hr
    exact ⟨r, a, rfl, (of_decide_eq_true b).2⟩
  have hnew : ∀ y ∈ [l] ++ fs.map (fun r => redR i r l), y = l ∨ ∃ r ∈ left, y = redR i r l ∧ at0 y i ≠ 0 := fun y hy => by
    rcases List.mem_append.mp hy with hy | hy
    · exact .inl (List.mem_singleton.mp hy)
    · obtain ⟨r, hr, rfl⟩ := List.mem_map.mp hy
      exact .inr ⟨r, (hfm r hr).1, rfl, (hfm r hr).2.2⟩
  have hflen : ([l] ++ fs.map (fun r => redR i r l)).length = 1 + fs.length := by rw [List.length_append, List.length_map, List.length_singleton]
  have hnl : ∀ y ∈ [l] ++ fs.map (fun r => redR i r l), y.length = n := fun y hy => by
    rcases hnew y hy with rfl | ⟨r, hr, rfl, _⟩
    · exact hln
    · exact redR_len (h.l1 r hr) hln
  have hcol : ColN i (meas i left) ([l] ++ fs.map (fun r => redR i r l)) := fun y hy => by
    rcases hnew y hy with rfl | ⟨r, hr, rfl, _⟩
    · exact Nat.le_of_eq em.symm
    · have := (red_facts hi (h.l1 r hr) hln hlz).1
      omega
  have hnz2 : ∀ y ∈ [l] ++ fs.map (fun r => redR i r l), at0 y i ≠ 0 := fun y hy => by
    rcases hnew y hy with rfl | ⟨r, hr, rfl, q⟩
    · exact hlz
    · exact q
  have hsame : ∀ y ∈ [l] ++ fs.map (fun r => redR i r l), oneS (at0 l i) (at0 y i) := fun y hy => by
    rcases hnew y hy with rfl | ⟨r, hr, rfl, q⟩
    · rcases Int.lt_or_gt_of_ne hlz with z | z
      · exact .inr ⟨z, z⟩
      · exact .inl ⟨z, z⟩
    · exact (red_facts hi (h.l1 r hr) hln hlz).2 q
  have hone : ∀ r ∈ [l] ++ fs.map (fun r => redR i r l), ∀ s ∈ [l] ++ fs.map (fun r => redR i r l), oneS (at0 r i) (at0 s i) := fun r hr s hs => by
    rcases hsame r hr with a | a <;> rcases hsame s hs with b | b
    · exact .inl ⟨a.2, b.2⟩
    · omega
    · omega
    · exact .inr ⟨a.2, b.2⟩
  have hmeas : 1 < ([l] ++ fs.map (fun r => redR i r l)).length → meas i ([l] ++ fs.map (fun r => redR i r l)) < meas i left := fun hk2 => by
    rw [hflen] at hk2
    obtain ⟨r, hr⟩ := List.exists_mem_of_length_pos (l := fs) (by omega)
    have q := (leastO_spec (i := i) (left := [l] ++ fs.map (fun r => redR i r l)) (by simp)).2.2 (redR i r l) (List.mem_append_right _ (List.mem_map.mpr ⟨r, hr, rfl⟩))
    have := (red_facts hi (h.l1 r (hfm r hr).1) hln hlz).1
    omega
  have hpv : ([l] ++ fs.map (fun r => redR i r l)).length ≤ 1 → ColN i G ([l] ++ fs.map (fun r => redR i r l)) := fun _ y hy => Nat.le_trans (hcol y hy) (Nat.le_trans hmD hD)
  rcases hph with ⟨E, M, hE, hM, hP⟩ | ⟨hS, E, M, hE, hM, hMx, hP⟩
  · have hmM : meas i left ≤ M := by rw [em]; exact hM l hlm
    have big : 3 * E * M ≤ P := by
      have q1 := Nat.mul_le_mul_left (6 * E * M) (show 1 ≤ D by omega)
      have e4 : 3 * E * M = 3 * (E * M) := Nat.mul_assoc ..
      have e5 : 6 * E * M = 6 * (E * M) := Nat.mul_assoc ..
      omega
    have hred : ∀ r ∈ left, ∀ x ∈ redR i r l, x.natAbs * meas i left ≤ 3 * E * M := fun r hr x hx => by
      have q1 := vplus_bd (hE r hr) (hE l hlm) x hx
      have q2 := fd_le (a := at0 r i) hlz
      rw [← em] at q2
      have q3 := hM r hr
      have e1 : (0 - qOf i r l).natAbs = (qOf i r l).natAbs := by omega
      rw [e1] at q1
      have q4 : (qOf i r l).natAbs * meas i left ≤ 2 * M := by unfold qOf; omega
      have q5 := Nat.mul_le_mul_right (meas i left) q1
      have q6 := Nat.mul_le_mul_right E q4
      have q7 := Nat.mul_le_mul_left E hmM
      have e2 : (E + (qOf i r l).natAbs * E) * meas i left = E * meas i left + (qOf i r l).natAbs * meas i left * E := by rw [Nat.add_mul, Nat.mul_assoc, Nat.mul_assoc, Nat.mul_comm E (meas i left)]
      have e3 : 2 * M * E = 2 * (E * M) := by rw [Nat.mul_assoc, Nat.mul_comm M E]
      have e4 : 3 * E * M = 3 * (E * M) := Nat.mul_assoc ..
      omega
    have hE1 : BdN (3 * E * M / meas i left) ([l] ++ fs.map (fun r => redR i r l)) := fun y hy x hx => by
      refine (Nat.le_div_iff_mul_le (by omega)).mpr ?_
      rcases hnew y hy with rfl | ⟨r, hr, rfl, _⟩
      · have q1 := Nat.mul_le_mul (hE _ hlm x hx) hmM
        have e4 : 3 * E * M = 3 * (E * M) := Nat.mul_assoc ..
        omega
      · exact hred r hr x hx
    have hle : 3 * E * M / meas i left ≤ P := Nat.le_trans (Nat.div_le_self _ _) big
    refine ⟨⟨hnl, fun x hx => ?_, hnz2, fun x hx => ?_, fun y hy x hx => Nat.le_trans (hE1 y hy x hx) hle, fun y hy x hx => ?_, ?_, hpv⟩, hmeas⟩
    · rcases List.mem_append.mp hx with hx | hx
      · exact h.l2 x hx
      · obtain ⟨r, hr, rfl, _⟩ := hzm x hx
        exact redR_len (h.l1 r hr) hln
    · rcases List.mem_append.mp hx with hx | hx
      · exact h.zz x hx
      · obtain ⟨r, hr, rfl, q⟩ := hzm x hx
        exact q
    · rcases List.mem_append.mp hy with hy | hy
      · exact h.b2 y hy x hx
      · obtain ⟨r, hr, rfl, _⟩ := hzm y hy
        have q := hred r hr x hx
        have q2 := Nat.le_mul_of_pos_right x.natAbs (show 0 < meas i left by omega)
        omega
    · by_cases hk2 : ([l] ++ fs.map (fun r => redR i r l)).length ≤ 1
      · exact .inl hk2
      · have hm2 := hmeas (by omega)
        refine .inr ⟨Nat.le_trans (Nat.le_of_lt hm2) hmD, .inr ⟨hone, _, meas i left, hE1, hcol, ⟨l, by simp, em.symm⟩, ?_⟩⟩
        generalize meas i ([l] ++ fs.map (fun r => redR i r l)) = m2 at hm2
        have q1 := div_mul_le' (3 * E * M) (meas i left)
        have q2 : meas i left + m2 ≤ 2 * D := by omega
        have q3 := Nat.mul_le_mul q1 q2
        have e4 : 3 * E * M * (2 * D) = 6 * E * M * D := by
          rw [← Nat.mul_assoc, Nat.mul_comm (3 * E * M) 2, ← Nat.mul_assoc, ← Nat.mul_assoc]
        omega
  · have hmM : meas i left ≤ M := by rw [em]; exact hM l hlm
    have big : E * (M + meas i left) ≤ P := by
      have q0 := Nat.mul_le_mul_left (E * (M + meas i left)) (show 1 ≤ M by omega)
      have e4 : E * (M + meas i left) * M = E * M * (M + meas i left) := by rw [Nat.mul_assoc, Nat.mul_comm (M + meas i left) M, ← Nat.mul_assoc]
      omega
    have hred : ∀ r ∈ left, ∀ x ∈ redR i r l, x.natAbs * meas i left ≤ E * (M + meas i left) := fun r hr x hx => by
      have q1 := vplus_bd (hE r hr) (hE l hlm) x hx
      have q2 := fd_same (hS r hr l hlm)
      rw [← em] at q2
      have q3 := hM r hr
      have e1 : (0 - qOf i r l).natAbs = (qOf i r l).natAbs := by omega
      rw [e1] at q1
      have q4 : (qOf i r l).natAbs * meas i left ≤ M := by unfold qOf; omega
      have q5 := Nat.mul_le_mul_right (meas i left) q1
      have q6 := Nat.mul_le_mul_right E q4
      have e2 : (E + (qOf i r l).natAbs * E) * meas i left = E * meas i left + (qOf i r l).natAbs * meas i left * E := by rw [Nat.add_mul, Nat.mul_assoc, Nat.mul_assoc, Nat.mul_comm E (meas i left)]
      have e3 : M * E = E * M := Nat.mul_comm ..
      have e4 : E * (M + meas i left) = E * M + E * meas i left := Nat.mul_add ..
      omega
    have hE1 : BdN (E * (M + meas i left) / meas i left) ([l] ++ fs.map (fun r => redR i r l)) := fun y hy x hx => by
      refine (Nat.le_div_iff_mul_le (by omega)).mpr ?_
      rcases hnew y hy with rfl | ⟨r, hr, rfl, _⟩
      · exact Nat.mul_le_mul (hE _ hlm x hx) (by omega)
      · exact hred r hr x hx
    have hle : E * (M + meas i left) / meas i left ≤ P := Nat.le_trans (Nat.div_le_self _ _) big
    refine ⟨⟨hnl, fun x hx => ?_, hnz2, fun x hx => ?_, fun y hy x hx => Nat.le_trans (hE1 y hy x hx) hle, fun y hy x hx => ?_, ?_, hpv⟩, hmeas⟩
    · rcases List.mem_append.mp hx with hx | hx
      · exact h.l2 x hx
      · obtain ⟨r, hr, rfl, _⟩ := hzm x hx
        exact redR_len (h.l1 r hr) hln
    · rcases List.mem_append.mp hx with hx | hx
      · exact h.zz x hx
      · obtain ⟨r, hr, rfl, q⟩ := hzm x hx
        exact q
    · rcases List.mem_append.mp hy with hy | hy
      · exact h.b2 y hy x hx
      · obtain ⟨r, hr, rfl, _⟩ := hzm y hy
        have q := hred r hr x hx
        have q2 := Nat.le_mul_of_pos_right x.natAbs (show 0 < meas i left by omega)
        omega
    · by_cases hk2 : ([l] ++ fs.map (fun r => redR i r l)).length ≤ 1
      · exact .inl hk2
      · have hm2 := hmeas (by omega)
        refine .inr ⟨Nat.le_trans (Nat.le_of_lt hm2) hmD, .inr ⟨hone, _, meas i left, hE1, hcol, ⟨l, by simp, em.symm⟩, ?_⟩⟩
        have q1 := div_mul_le' (E * (M + meas i left)) (meas i left)
        refine Nat.le_trans ?_ hP
        -- the least before and the least now together are at most the greatest before
        have big2 : ∀ r ∈ left, (at0 r i).natAbs = M → meas i left < M → meas i left + meas i ([l] ++ fs.map (fun r => redR i r l)) ≤ M := fun r hr hrM hlt => by
          have q7 := fd_same (hS r hr l hlm)
          have q11 := fd_rest (a := at0 r i) hlz
          have q9 : 1 ≤ ((at0 r i).fdiv (at0 l i)).natAbs := by
            rcases Nat.eq_zero_or_pos ((at0 r i).fdiv (at0 l i)).natAbs with z | z
            · exfalso
              rw [z] at q7
              omega
            · exact z
          by_cases z : at0 (redR i r l) i = 0
          · have hrl := redR_at (h.l1 r hr) hln hi
            rw [z] at hrl
            unfold qOf at hrl
            rw [← hrl] at q7
            have q9b : 2 ≤ ((at0 r i).fdiv (at0 l i)).natAbs := by
              rcases Nat.lt_or_ge ((at0 r i).fdiv (at0 l i)).natAbs 2 with y | y
              · exfalso
                have : ((at0 r i).fdiv (at0 l i)).natAbs = 1 := by omega
                rw [this] at q7
                omega
              · exact y
            have q10 := Nat.mul_le_mul_right (at0 l i).natAbs q9b
            omega
          · have hrne : r ≠ l := fun e => by
              rw [e] at hrM
              omega
            have hrf : r ∈ fs := by
              rw [← hfs]
              exact List.mem_filter.mpr ⟨hr, decide_eq_true ⟨hrne, z⟩⟩
            have q6 := (leastO_spec (i := i) (left := [l] ++ fs.map (fun r => redR i r l)) (by simp)).2.2 (redR i r l) (List.mem_append_right _ (List.mem_map.mpr ⟨r, hrf, rfl⟩))
            rw [redR_at (h.l1 r hr) hln hi] at q6
            unfold qOf at q6
            have q10 := Nat.mul_le_mul_right (at0 l i).natAbs q9
            omega
        have hlt : meas i left < M := by
          rcases Nat.lt_or_ge (meas i left) M with z | z
          · exact z
          · exfalso
            rw [hflen] at hk2
            obtain ⟨r, hr⟩ := List.exists_mem_of_length_pos (l := fs) (by omega)
            obtain ⟨a1, a2, a3⟩ := hfm r hr
            have q3 := hM r a1
            have q4 := hmin r a1
            have q7 := fd_same (hS r a1 l hlm)
            have q11 := fd_rest (a := at0 r i) hlz
            rw [redR_at (h.l1 r a1) hln hi] at a3
            unfold qOf at a3
            have q9 : 1 ≤ ((at0 r i).fdiv (at0 l i)).natAbs := by
              rcases Nat.eq_zero_or_pos ((at0 r i).fdiv (at0 l i)).natAbs with z | z
              · exfalso
                rw [z] at q7
                omega
              · exact z
            have q10 := Nat.mul_le_mul_right (at0 l i).natAbs q9
            omega
        obtain ⟨rM, hrM, erM⟩ := hMx
        have q12 := big2 rM hrM erM hlt
        have q13 := Nat.mul_le_mul q1 q12
        have e5 : E * (M + meas i left) * M = E * M * (M + meas i left) := by rw [Nat.mul_assoc, Nat.mul_comm (M + meas i left) M, ← Nat.mul_assoc]
        exact Nat.le_trans q13 (Nat.le_of_eq e5)
end
end Aw
namespace Aw
theorem clr_done {n i : Nat} {left others : List Rw} (h : left.length ≤ 1) : ∀ k, clrF k i left others = left ++ others
  | 0 => rfl
  | k + 1 => by rw [clrF, if_pos h]
theorem clr_out {n i D G P : Nat} (hi : i < n) (hD : D ≤ G) : ∀ (k : Nat) (left others : List Rw), LI n i D G P left others → (left.length ≤ 1 ∨ meas i left ≤ k) → ∃ l' o', clrF k i left others = l' ++ o' ∧ l'.length ≤ 1 ∧ LI n i D G P l' o'
  | 0, left, others, h, hk => by
    rcases hk with hk | hk
    · exact ⟨left, others, rfl, hk, h⟩
    · by_cases c : left.length ≤ 1
      · exact ⟨left, others, rfl, c, h⟩
      · exfalso
        obtain ⟨_, hm, _⟩ := leastO_spec (i := i) (ne_len (show 1 < left.length by omega))
        have := h.nz _ hm
        have e : meas i left = (at0 (leastO i left) i).natAbs := rfl
        omega
  | k + 1, left, others, h, hk => by
    by_cases c : left.length ≤ 1
    · exact ⟨left, others, clr_done (n := n) c _, c, h⟩
    · rw [clrF, if_neg c]
      obtain ⟨h2, h3⟩ := h.step hi (by omega) hD
      refine clr_out hi hD k _ _ h2 ?_
      by_cases c2 : (stp i (leastO i left) left others [leastO i left]).2.length ≤ 1
      · exact .inl c2
      · have := h3 (by omega)
        exact .inr (by omega)
/-- a column can be cleared -/
def SafeC (n i P : Nat) (rows : List Rw) : Prop := ∃ D G, LI n i D G P (lefts i rows) (zeros i rows) ∧ D ≤ G ∧ G < 2 ^ capB
structure SafeS (n i P F : Nat) (rows found : List Rw) : Prop where
  lt : i < n
  c : SafeC n i P rows
  l : LnN n found
  b : BdN F found
  r : rows.length < 1000
  f : found.length < 1000
  p : P < 2 ^ capB
  q : F < 2 ^ capB
/-- all columns can be cleared -/
def BasOk (n : Nat) : Nat → List Rw → List Rw → Prop
  | 0, _, _ => True
  | k + 1, rows, found => (∃ P F, SafeS n (n - (k + 1)) P F rows found) ∧ BasOk n k (basStep n (n - (k + 1)) rows found).1 (basStep n (n - (k + 1)) rows found).2
theorem SafeC.out {n i P : Nat} {rows : List Rw} (h : SafeC n i P rows) (hi : i < n) : LnN n (cleared i rows) ∧ BdN P (cleared i rows) ∧ (∀ f r, cleared i rows = f :: r → at0 f i ≠ 0 → (at0 f i).natAbs < 2 ^ capB) ∧ ∀ f r, ledR n (cleared i rows) = f :: r → at0 f i ≠ 0 → (at0 f i).natAbs < 2 ^ capB := by
  obtain ⟨D, G, hL, hD, hG⟩ := h
  obtain ⟨l', o', e, hl, h2⟩ := clr_out hi hD (meas i (lefts i rows)) _ _ hL (.inr (Nat.le_refl _))
  have e : cleared i rows = l' ++ o' := e
  have piv : ∀ f ∈ cleared i rows, at0 f i ≠ 0 → (at0 f i).natAbs < 2 ^ capB := fun f hf hz => by
    rw [e] at hf
    rcases List.mem_append.mp hf with hf | hf
    · exact Nat.lt_of_le_of_lt (h2.pv hl f hf) hG
    · exact absurd (h2.zz f hf) hz
  refine ⟨fun r hr => ?_, fun r hr => ?_, fun f r e2 hz => piv f (by rw [e2]; exact List.mem_cons_self ..) hz, fun f r e2 hz => piv f ((List.mem_filter (p := fun r => decide (leadO r < n))).mp (by
    show f ∈ ledR n (cleared i rows)
    rw [e2]
    exact List.mem_cons_self ..)).1 hz⟩
  · rw [e] at hr
    rcases List.mem_append.mp hr with hr | hr
    · exact h2.l1 r hr
    · exact h2.l2 r hr
  · rw [e] at hr
    rcases List.mem_append.mp hr with hr | hr
    · exact h2.b1 r hr
    · exact h2.b2 r hr
theorem posR_facts {i : Nat} {r : Rw} {P n : Nat} (hl : r.length = n) (hb : ∀ x ∈ r, x.natAbs ≤ P) (hi : i < n) (hz : at0 r i ≠ 0) : (posR i r).length = n ∧ (∀ x ∈ posR i r, x.natAbs ≤ P) ∧ 0 < at0 (posR i r) i ∧ (at0 (posR i r) i).natAbs = (at0 r i).natAbs := by
  unfold posR
  by_cases c : at0 r i < 0
  · rw [if_pos c]
    have e : at0 (tvec r (-1)) i = -at0 r i := by
      have h1 := at0_lt (r := r) (i := i) (by omega)
      have h2 := at0_lt (r := tvec r (-1)) (i := i) (by rw [tvec_len]; omega)
      unfold tvec at h2
      rw [List.getElem?_map, h1] at h2
      have h3 := Option.some.inj h2
      rw [show at0 (tvec r (-1)) i = -1 * at0 r i from h3.symm]
      omega
    refine ⟨by rw [tvec_len, hl], fun x hx => ?_, by omega, by omega⟩
    obtain ⟨y, hy, rfl⟩ := List.mem_map.mp hx
    have := hb y hy
    omega
  · rw [if_neg c]
    exact ⟨hl, hb, by omega, rfl⟩
theorem redR_bd {i : Nat} {r l : Rw} {P F n : Nat} (hr : r.length = n) (hi : i < n) (hb : ∀ x ∈ r, x.natAbs ≤ F) (hl : ∀ x ∈ l, x.natAbs ≤ P) (hz : at0 l i ≠ 0) : ∀ x ∈ redR i r l, x.natAbs ≤ F + (F + 1) * P := by
  intro x hx
  have q1 := vplus_bd hb hl x hx
  have q2 := fd_le (a := at0 r i) hz
  have q3 := hb (at0 r i) (at0_mem (by omega))
  have e1 : (0 - qOf i r l).natAbs = (qOf i r l).natAbs := by omega
  rw [e1] at q1
  have q4 : (qOf i r l).natAbs ≤ F + 1 := by
    have h0 : 1 ≤ (at0 l i).natAbs := by omega
    unfold qOf
    rcases Nat.lt_or_ge (F + 1) ((at0 r i).fdiv (at0 l i)).natAbs with c | c
    · have q5 := Nat.mul_le_mul_right (at0 l i).natAbs c
      have e2 : (F + 1 + 1) * (at0 l i).natAbs = (F + 1) * (at0 l i).natAbs + (at0 l i).natAbs := by rw [Nat.add_mul, Nat.one_mul]
      have q6 := Nat.mul_le_mul_left (F + 1) h0
      have e3 : (F + 1).succ * (at0 l i).natAbs = (F + 1 + 1) * (at0 l i).natAbs := rfl
      omega
    · exact c
  have q5 := Nat.mul_le_mul_right P q4
  omega
/-- a stage -/
structure Stg (n k e f : Nat) (rows found : List Rw) : Prop where
  l1 : LnN n rows
  l2 : LnN n found
  b1 : BdN (2 ^ e) rows
  b2 : BdN (2 ^ f) found
  r : rows.length ≤ k
  f : found.length ≤ n
theorem stp_len (i : Nat) (left others : List Rw) (h : left ≠ []) : (stp i (leastO i left) left others [leastO i left]).1.length + (stp i (leastO i left) left others [leastO i left]).2.length ≤ left.length + others.length := by
  rw [stp_eq]
  obtain ⟨_, hm, _⟩ := leastO_spec (i := i) h
  generalize leastO i left = l at hm ⊢
  have q : ∀ rs : List Rw, (rs.filter fun r => decide (r ≠ l ∧ at0 (redR i r l) i = 0)).length + (rs.filter fun r => decide (r ≠ l ∧ at0 (redR i r l) i ≠ 0)).length + (rs.filter fun r => decide (r = l)).length = rs.length := by
    intro rs
    induction rs with
    | nil => rfl
    | cons r rs ih =>
      by_cases c : r = l
      · rw [List.filter_cons_of_neg (by simp [c]), List.filter_cons_of_neg (by simp [c]), List.filter_cons_of_pos (by simp [c]), List.length_cons, List.length_cons]
        omega
      · by_cases d : at0 (redR i r l) i = 0
        · rw [List.filter_cons_of_pos (by simp [c, d]), List.filter_cons_of_neg (by simp [c, d]), List.filter_cons_of_neg (by simp [c]), List.length_cons, List.length_cons]
          omega
        · rw [List.filter_cons_of_neg (by simp [c, d]), List.filter_cons_of_pos (by simp [c, d]), List.filter_cons_of_neg (by simp [c]), List.length_cons, List.length_cons]
          omega
  have q1 := q left
  have q2 : 1 ≤ (left.filter fun r => decide (r = l)).length := List.length_pos_of_mem (a := l) (List.mem_filter.mpr ⟨hm, by simp⟩)
  rw [List.length_append, List.length_append, List.length_map, List.length_map, List.length_singleton]
  omega
theorem clr_len (i : Nat) : ∀ (k : Nat) (left others : List Rw), (clrF k i left others).length ≤ left.length + others.length
  | 0, left, others => by rw [clrF, List.length_append]; omega
  | k + 1, left, others => by
    rw [clrF]
    split
    · rw [List.length_append]
      omega
    · rename_i c
      have q := clr_len i k (stp i (leastO i left) left others [leastO i left]).2 (stp i (leastO i left) left others [leastO i left]).1
      have q2 := stp_len i left others (ne_len (by omega))
      omega
theorem cleared_len (i : Nat) (rows : List Rw) : (cleared i rows).length ≤ rows.length := by
  have q := clr_len i (meas i (lefts i rows)) (lefts i rows) (zeros i rows)
  have e : (lefts i rows).length + (zeros i rows).length = rows.length := by
    unfold lefts zeros
    have q := (List.filter_append_perm (fun r => decide (at0 r i ≠ 0)) rows).length_eq
    rw [List.length_append] at q
    have e2 : (rows.filter fun r => decide (at0 r i = 0)) = rows.filter fun r => !decide (at0 r i ≠ 0) := List.filter_congr fun r _ => by simp
    rw [e2]
    exact q
  unfold cleared
  omega
theorem Stg.next {n i k e f d : Nat} {rows found : List Rw} (h : Stg n k e f rows found) (hi : i < n) (hf : found.length ≤ i) (hk : k ≤ 900) (hn : n ≤ 900) (hd : d ≤ e) (he : e < capB) (hm : 1 < (lefts i rows).length → meas i (lefts i rows) ≤ 2 ^ d) (hP : 3 + 2 * e + d < capB) (hF : f < capB) :
    SafeS n i (2 ^ (3 + 2 * e + d)) (2 ^ f) rows found ∧ Stg n k (3 + 2 * e + d) (f + (3 + 2 * e + d) + 2) (basStep n i rows found).1 (basStep n i rows found).2 ∧ (basStep n i rows found).2.length ≤ i + 1 := by
  have hsub : ∀ r ∈ lefts i rows, r ∈ rows ∧ at0 r i ≠ 0 := fun r hr => by
    obtain ⟨a, b⟩ := List.mem_filter.mp hr
    exact ⟨a, of_decide_eq_true b⟩
  have hzub : ∀ r ∈ zeros i rows, r ∈ rows ∧ at0 r i = 0 := fun r hr => by
    obtain ⟨a, b⟩ := List.mem_filter.mp hr
    exact ⟨a, of_decide_eq_true b⟩
  have hle : 2 ^ e ≤ 2 ^ (3 + 2 * e + d) := Nat.pow_le_pow_right (by decide) (by omega)
  have hll : (lefts i rows).length ≤ k := Nat.le_trans (List.length_filter_le _ _) h.r
  have colE : ColN i (2 ^ e) (lefts i rows) := fun r hr => h.b1 r (hsub r hr).1 _ (at0_mem (by rw [h.l1 r (hsub r hr).1]; exact hi))
  have hsc : SafeC n i (2 ^ (3 + 2 * e + d)) rows := by
    refine ⟨2 ^ d, 2 ^ e, ⟨fun r hr => h.l1 r (hsub r hr).1, fun r hr => h.l1 r (hzub r hr).1, fun r hr => (hsub r hr).2, fun r hr => (hzub r hr).2, fun r hr x hx => Nat.le_trans (h.b1 r (hsub r hr).1 x hx) hle, fun r hr x hx => Nat.le_trans (h.b1 r (hzub r hr).1 x hx) hle, ?_, fun _ => colE⟩, Nat.pow_le_pow_right (by decide) hd, Nat.pow_lt_pow_right (by decide) he⟩
    by_cases c : (lefts i rows).length ≤ 1
    · exact .inl c
    · refine .inr ⟨hm (by omega), .inl ⟨2 ^ e, 2 ^ e, fun r hr => h.b1 r (hsub r hr).1, colE, ?_⟩⟩
      have q1 : 6 * 2 ^ e * 2 ^ e * 2 ^ d ≤ 8 * 2 ^ e * 2 ^ e * 2 ^ d := Nat.mul_le_mul_right _ (Nat.mul_le_mul_right _ (Nat.mul_le_mul_right _ (by decide)))
      refine Nat.le_trans q1 (Nat.le_of_eq ?_)
      rw [show (8 : Nat) = 2 ^ 3 from rfl, ← Nat.pow_add, ← Nat.pow_add, ← Nat.pow_add]
      congr 1
      omega
  obtain ⟨o1, o2, o3, o4⟩ := hsc.out hi
  have hcl := cleared_len i rows
  have hlr : ∀ r ∈ ledR n (cleared i rows), r ∈ cleared i rows := fun r hr => (List.mem_filter.mp hr).1
  have hll2 : (ledR n (cleared i rows)).length ≤ (cleared i rows).length := List.length_filter_le _ _
  have hr := h.r
  refine ⟨⟨hi, hsc, h.l2, h.b2, by omega, by omega, Nat.pow_lt_pow_right (by decide) (by omega), Nat.pow_lt_pow_right (by decide) (by omega)⟩, ?_⟩
  unfold basStep
  have hff : 2 ^ f ≤ 2 ^ (f + (3 + 2 * e + d) + 2) := Nat.pow_le_pow_right (by decide) (by omega)
  cases e2 : ledR n (cleared i rows) with
  | nil => exact ⟨⟨fun r hr => (by cases hr), h.l2, fun r hr => (by cases hr), fun r hr x hx => Nat.le_trans (h.b2 r hr x hx) hff, Nat.zero_le _, h.f⟩, by show found.length ≤ i + 1; omega⟩
  | cons g rest =>
    rw [e2] at hlr hll2
    rw [List.length_cons] at hll2
    dsimp only
    by_cases c : at0 g i = 0
    · rw [if_pos c]
      exact ⟨⟨fun r hr => o1 r (hlr r hr), h.l2, fun r hr => o2 r (hlr r hr), fun r hr x hx => Nat.le_trans (h.b2 r hr x hx) hff, by rw [List.length_cons]; omega, h.f⟩, by show found.length ≤ i + 1; omega⟩
    · rw [if_neg c]
      have hg := hlr g (List.mem_cons_self ..)
      obtain ⟨p1, p2, p3, p4⟩ := posR_facts (o1 g hg) (o2 g hg) hi c
      refine ⟨⟨fun r hr => o1 r (hlr r (List.mem_cons_of_mem _ hr)), fun r hr => ?_, fun r hr => o2 r (hlr r (List.mem_cons_of_mem _ hr)), fun r hr x hx => ?_, by show rest.length ≤ k; omega, ?_⟩, ?_⟩
      · rcases List.mem_append.mp hr with hr | hr
        · obtain ⟨s, hs, rfl⟩ := List.mem_map.mp hr
          exact redR_len (h.l2 s hs) p1
        · rw [List.mem_singleton.mp hr]
          exact p1
      · rcases List.mem_append.mp hr with hr | hr
        · obtain ⟨s, hs, rfl⟩ := List.mem_map.mp hr
          have q := redR_bd (h.l2 s hs) hi (h.b2 s hs) p2 (show at0 (posR i g) i ≠ 0 by omega) x hx
          refine Nat.le_trans q ?_
          have h1 : 1 ≤ 2 ^ f := Nat.one_le_two_pow
          have h2 : 1 ≤ 2 ^ (3 + 2 * e + d) := Nat.one_le_two_pow
          have h3 : (2 ^ f + 1) * 2 ^ (3 + 2 * e + d) ≤ 2 * (2 ^ f * 2 ^ (3 + 2 * e + d)) := by
            rw [← Nat.mul_assoc]
            exact Nat.mul_le_mul_right _ (by omega)
          have h4 : 2 ^ f ≤ 2 ^ f * 2 ^ (3 + 2 * e + d) := Nat.le_mul_of_pos_right _ (by omega)
          rw [Nat.pow_add 2 (f + (3 + 2 * e + d)) 2, Nat.pow_add 2 f]
          have e4 : (2 : Nat) ^ 2 = 4 := rfl
          omega
        · rw [List.mem_singleton.mp hr] at hx
          exact Nat.le_trans (p2 x hx) (Nat.pow_le_pow_right (by decide) (by omega))
      · show (found.map (fun r => redR i r (posR i g)) ++ [posR i g]).length ≤ n
        rw [List.length_append, List.length_map, List.length_singleton]
        omega
      · show (found.map (fun r => redR i r (posR i g)) ++ [posR i g]).length ≤ i + 1
        rw [List.length_append, List.length_map, List.length_singleton]
        omega
end Aw
namespace Aw
open PySem PySem.Spec PyProof.Rows L2
section
variable {P : Program} {w : World} {K : PySem.W.Frag} {mg : Str → Option Value} {base : Heap}
theorem Df.hasX {x : Str} {st : Stmt} {ps N : List Str} {k : Nat} {sp : Sp} (d : Df K mg x st ps)
    (S : FnScope N ps (defScope st)) (len : ∀ vs H Q E, sp vs H Q E → vs.length = ps.length)
    (hb : ∀ (f : Addr) (cdv : Value) (A : Around) (outer : List Env) (s : Shared) (H : Hp) (vs : List V) (Q : VK) (E : XK),
      RoomG k (A.deeper (envOfC x (defScope st) s.heap.objs.size f cdv)) → sp vs H Q E →
      ∃ t, PSs (cxOf (L2.CX P w) P w K mg base N x (defScope st) f cdv A outer s H E) (defBody st) t ∧
        t { nx := fun _ H' => Q .non H', rt := Q } (start N vs) H) : Has P w K mg base (L2.CX P w) x ps (k + 1) sp := by
  obtain ⟨f, fd, F, m, b⟩ := d
  obtain ⟨oc, od, kV, doc, pm, an, cdv, ct, osl, rfl, lk, hcd⟩ := F.ex
  exact ⟨f, _, ⟨F.kp, oc, od, osl, lk⟩, m, b, fnG_of lk hcd S len fun A outer s H vs Q E hr hsp => hb f cdv A outer s H vs Q E hr hsp⟩
theorem DfM.hasX {C : Addr} {m q : Str} {st : Stmt} {ps N : List Str} {k : Nat} {sp : Sp} (d : DfM K C m q st ps) (S : FnScope N ps (defScope st)) (len : ∀ vs H Q E, sp vs H Q E → vs.length = ps.length)
    (hb : ∀ (f : Addr) (cdv : Value) (A : Around) (outer : List Env) (s : Shared) (H : Hp) (vs : List V) (Q : VK) (E : XK),
      RoomG k (A.deeper (envOfC q (defScope st) s.heap.objs.size f cdv)) → sp vs H Q E →
      ∃ t, PSs (cxOf (L2.CX P w) P w K mg base N q (defScope st) f cdv A outer s H E) (defBody st) t ∧
        t { nx := fun _ H' => Q .non H', rt := Q } (start N vs) H) : HasM P w K mg base (L2.CX P w) C m ps (k + 1) sp := by
  obtain ⟨f, fd, F, mm, b⟩ := d
  obtain ⟨oc, od, kV, doc, pm, an, cdv, ct, osl, rfl, lk, hcd⟩ := F.ex
  exact ⟨f, _, ⟨oc, od, osl, lk⟩, mm, b, fnG_of lk hcd S len fun A outer s H vs Q E hr hsp => hb f cdv A outer s H vs Q E hr hsp⟩
end
/-- what the written part says of an error's class at C, by the name x -/
structure ErrC (K : PySem.W.Frag) (mg : Str → Option Value) (x : Str) (C : Addr) : Prop where
  o : OexC K C
  f : XfC K C
  at_ : mg x = some (.ref C)
/-- the error's __init__ keeps its promise -/
def HasE (P : Program) (w : World) (K : PySem.W.Frag) (mg : Str → Option Value) (base : Heap) (x : Str) (C : Addr) (ps : List Str) (k : Nat) (sp : Sp) : Prop :=
  ErrC K mg x C ∧ ∃ (f : Addr) (fd : FuncData), PySem.W.findIn K (.ref C) "__init__" = some (some (.ref f)) ∧ PySem.W.typeIn K (.ref f) = some (.type "function") ∧ Binds K fd ps [] ∧ FnG P w K mg base CX0 k f fd ps sp
theorem HasE.of {P : Program} {w : World} {K : PySem.W.Frag} {mg : Str → Option Value} {base : Heap} {x : Str} {C : Addr} {ps : List Str} {k : Nat} {sp : Sp} (E : ErrC K mg x C) (h : HasM P w K mg base CX0 C "__init__" ps k sp) : HasE P w K mg base x C ps k sp := by
  obtain ⟨f, fd, _, M, b, F⟩ := h
  exact ⟨E, f, fd, M.at_, beq_iff_eq.mp M.fn, b, F⟩
/-- self.f = v is all that it does -/
def spErr (C : Addr) (f : Str) : Sp := fun vs H Q _ => ∃ (a : Addr) (v : V), vs = [.ref a, v] ∧ H a = some (exo a C none) ∧
  ∀ dx, H dx = none → dx ≠ a → Q .non (upd (upd H dx (exd dx [(f, v)])) a (exo a C (some dx)))
/-- x(e): the error that is made -/
def tErr (C : Addr) (f : Str) (ta : TA) : L2.St → Hp → XK → Prop := fun σ H Q => ta σ H fun vs H1 => ∃ v, vs = [v] ∧ ∀ d, H1 d = none → Q (.ref C) (some d) (upd H1 d (.xd [(f, v)]))
section
variable {X : Cx} {e : Expr} {es : List Expr} {ta : TA} {x f : Str} {C : Addr} {k : Nat} {ps : List Str} {p pos p1 p2 : Pos}
theorem mk_oexG {sp : Sp} {pins : List (Addr × Obj)} {σ : L2.St} {H1 : Hp} {Q : XK} {us : List Value} {vs : List V} {s1 : Shared} (F : HasE X.prog X.w X.K X.mg X.base x C ps k sp) (hr : RoomG (k + 1) X.A) (I1 : Inv X pins σ H1 s1) (r1 : Vals vs us) (hz : vs.length ≤ 1000)
    (q1 : ∀ a, H1 a = none → sp (.ref a :: (vs ++ [])) (upd H1 a (exo a C none)) (fun v H2 => v = .non ∧ ∃ (d : Addr) (fs : List (Str × V)), H2 a = some (exo a C (some d)) ∧ H2 d = some (exd d fs) ∧ H1 d = none ∧ Q (.ref C) (some d) (upd (del H2 a) d (.xd fs))) (fun _ _ _ => False)) :
    wpAny (model X.prog X.w) X.A (call (.ref C) us) (MkP X pins σ Q) X.xe s1 := by
  obtain ⟨⟨T, _, hm⟩, fI, fd, iC, tI, hb, F1⟩ := F
  obtain ⟨nm, q, N, bs, bm, sn, sub, ab, col, dd, k0, k1, k2, k3, k5, hC, hbm⟩ := T.cls
  obtain ⟨hp, g, dr, tk, os⟩ := s1
  have hsz : hp.objs.size ≤ hp.objs.size + 1 := Nat.le_succ _
  have hn : H1 (hp.objs.size + 1) = none := I1.hok.fresh hsz
  have hq := q1 (hp.objs.size + 1) hn
  rw [List.append_nil] at hq
  have kk : ∀ b o, hp.get? b = some o → ((hp.push (PySem.W.kdv_tup us)).push (PySem.HandSPX.excO C hp.objs.size)).get? b = some o := fun b o e => Heap.get?_push_of_some _ (Heap.get?_push_of_some _ e)
  have hget : ((hp.push (PySem.W.kdv_tup us)).push (PySem.HandSPX.excO C hp.objs.size)).get? (hp.objs.size + 1) = some (PySem.HandSPX.excO C hp.objs.size) := by heap_get
  have I2 : Inv X pins σ (upd H1 (hp.objs.size + 1) (exo (hp.objs.size + 1) C none)) ⟨(hp.push (PySem.W.kdv_tup us)).push (PySem.HandSPX.excO C hp.objs.size), g, dr, tk, os⟩ :=
    I1.laid (t' := tk) (a := hp.objs.size + 1) (o := exo (hp.objs.size + 1) C none) (h' := (hp.push (PySem.W.kdv_tup us)).push (PySem.HandSPX.excO C hp.objs.size)) kk hsz (exo_ok hget)
  have r2 : Vals (V.ref (hp.objs.size + 1) :: vs) (Value.ref (hp.objs.size + 1) :: us) := .cons rfl r1
  have hl : (Value.ref (hp.objs.size + 1) :: us ++ []).length = ps.length := by
    have e := r2.length
    rw [F1.len _ _ _ _ hq] at e
    rw [List.append_nil]
    exact e.symm
  have hus : us.length ≤ sizeLine := by
    rw [← Paired.length r1, sizeLine_eq]
    omega
  have bb := hb _ (Value.ref (hp.objs.size + 1) :: us) I2.kIn hl
  rw [List.append_nil] at bb
  refine wpAny_call (PySem.HandSPX.call_own F.excBase_ValueError (fun Y => PySem.HandSPX.refsVE_contains Y bm hbm) (I1.kIn _ _ hC) (PySem.W.looks_findIn I1.kIn iC) (fun self => PySem.W.bind_fn I1.kIn self tI) hus
    (codeAny_mono (F1.run _ X.stack _ _ ⟨Value.ref (hp.objs.size + 1) :: us, []⟩ (Value.ref (hp.objs.size + 1) :: us) _ _ (fun _ _ _ => False) (hr.make C us []) (I2.env0.make C us []) bb r2 hq) fun r s' hq' => ?_))
  cases r with
  | error er => exact pass0 pins σ _ _ er s' I2 hq'
  | ok fl =>
    cases fl with
    | ret u =>
      obtain ⟨v, H2, os2, bare2, un2, hok2, rv, ev, d, fs, ea, ed, hd1, q2⟩ := hq'
      subst ev
      obtain ⟨h2, g2, d2, t2, os'⟩ := s'
      exact ⟨rv, mk_end (raises_own T.exC T.tyC) I1 hsz kk un2 hok2 os2 bare2 ea ed hd1 q2⟩
    | next => exact False.elim hq'
    | brk => exact False.elim hq'
    | cont => exact False.elim hq'
theorem upd_exd {H : Hp} {a d : Addr} {o1 o2 o3 o4 : HO} (ha : H a = none) (hne : d ≠ a) : upd (del (upd (upd (upd H a o1) d o2) a o3) a) d o4 = upd H d o4 := by
  funext b
  by_cases hd : b = d
  · rw [hd, upd_same, upd_same]
  · rw [upd_ne hd, upd_ne hd]
    by_cases hb : b = a
    · rw [hb, del_same, ha]
    · rw [del_ne hb, upd_ne hb, upd_ne hd, upd_ne hb]
/-- x(e) of an error with one field -/
theorem pmk_err (F : HasE X.prog X.w X.K X.mg X.base x C ps k (spErr C f)) (hr : RoomG (k + 1) X.A) (hg : Gl X x) (ha : PA X [e] ta)
    (hdb : (x == ("__debug__" : Str)) = false := by decide) (he : starEach [e] X.env = (false, eval e X.env) :: starEach [] X.env := by rfl) (hpl : (backTo pos (starEach [] X.env)).any (·.1) = false := by rfl) :
    PMk X (.Call (.Name x p) [e] [] pos) (tErr C f ta) := by
  intro pins s σ H Q I h
  refine wpAny_Call_Name_kw (ld_glob I hg F.1.at_ ?_ hdb)
  refine PySem.W.callWith_K (h₀ := X.base) I.ok.mod.kin F.1.o.kC (thn (ha.run pos pins s σ H _ I h) fun us s1 ⟨vs, H1, I1, r1, v, ev, q1⟩ => ⟨I1.kIn, ?_⟩) he hpl
  subst ev
  refine mk_oexG F hr I1 r1 (by simp) fun a ha => ⟨a, v, rfl, upd_same, fun dx hdx hne => ⟨rfl, dx, [(f, v)], upd_same, ?_, ?_, ?_⟩⟩
  · rw [upd_ne hne, upd_same]
  · rw [upd_ne hne] at hdx
    exact hdx
  · rw [upd_exd ha hne]
    rw [upd_ne hne] at hdx
    exact q1 dx hdx
/-- R.__init__(self, ..), R an own class over ValueError without an __init__ -/
theorem pe_reinit {R : Str} {CR : Addr} {pl : Sem Bool} (hg : Gl X R) (hm : X.mg R = some (.ref CR)) (rd : PySem.W.readsIn X.K CR (.type "type") = true) (sp : PySem.W.specialIn X.K (.ref CR) "__getattribute__" = some (some (.builtin "type.__getattribute__")))
    (vV : PySem.W.findCls X.K (.ref CR) (.type "type") "__init__" = some (.val (.builtin "ValueError.__init__"))) (ha : PA X (e :: es) ta)
    (hdb : (R == ("__debug__" : Str)) = false := by decide)
    (hc : eval (.Call (.Attribute (.Name R p1) "__init__" p2) (e :: es) [] pos) X.env = (do
      let ov ← eval (.Name R p1) X.env
      standAt p2.atName
      let (f, first) ← holding [ov] (getMethod ov "__init__" pl)
      callWith pos f first (backTo pos (starEach (e :: es) X.env)) (backToKw pos (keywordEach [] X.env))) := by rfl)
    (he : starEach (e :: es) X.env = (false, eval e X.env) :: starEach es X.env := by rfl) (hpl : (backTo pos (starEach es X.env)).any (·.1) = false := by rfl) :
    PE X (.Call (.Attribute (.Name R p1) "__init__" p2) (e :: es) [] pos) (tVeI X.K ta) := by
  refine ⟨fun pins s σ H Q I h => ?_⟩
  refine PySem.W.methodCall_KW (ld_glob I hg hm ?_ hdb) hc
  refine PySem.W.method_cls I.kIn sp (PySem.W.cls_value I.kIn rd vV (by decide +kernel) ?_)
  show wpAny _ _ (callWith pos (Value.builtin "ValueError.__init__") [] (backTo pos (starEach (e :: es) X.env)) []) _ _ _
  refine PyProof.Rows.callWith_method1 (thn (ha.run pos pins _ σ H _ (I.tok _) h) fun us s1 ⟨vs, H1, I1, r1, a, C, ws, ev, hl, T, ea, q⟩ => ?_) he hpl
  subst ev
  cases r1 with
  | @cons _ u0 _ ur ra rw' =>
    obtain rfl : u0 = Value.ref a := ra
    have hlen : ur.length ≤ sizeLine := by
      rw [← Paired.length rw', sizeLine_eq]
      omega
    exact oinit_ok T I1 ea hlen fun s' J => ⟨.non, H1, J, rfl, q⟩
end
section
variable {X : Cx} {CX : CXT} {k : Nat} {ps : List Str} {sp : Sp} {E : L2.St → XK} {x : Str} {p pos : Pos} {e : Expr} {es : List Expr} {t : TA}
theorem runGS {f : Addr} {fd : FuncData} {pins : List (Addr × Obj)} {σ : L2.St} {H : Hp} {s : Shared} {Q : VK}
    {us : List Value} {vs : List V} (F : FnG X.prog X.w X.K X.mg X.base CX k f fd ps sp) (hr : RoomG k X.A)
    (hb : Binds X.K fd ps []) (hx : PassesAt CX X σ (E σ)) (I : Inv X pins σ H s) (r : Vals vs us) (h : sp vs H Q (E σ)) :
    wpAny (model X.prog X.w) X.A (call (.ref f) us) (EP X pins σ Q) X.xe s := by
  have hl : (us ++ []).length = ps.length := by
    rw [List.append_nil, ← r.length]
    exact F.len _ _ _ _ h
  have bb := hb s us I.kIn hl
  rw [List.append_nil] at bb
  refine wpAny_call (codeAny_mono (F.run X.A X.stack s H ⟨us, []⟩ us vs Q (E σ) hr I.env0 bb r h) fun r s' hq => ?_)
  match r, hq with
  | .error e, hq => exact hx pins H s e s' I hq
  | .ok (.ret u), hq => exact I.after hq
end
end Aw
namespace Aw
open PySem PySem.Spec L2
/-- an error with one field leaves -/
def Lv (H : Hp) (E : XK) (C : Addr) (f : Str) (v : V) : Prop := ∀ (H' : Hp) (d : Addr), Kp [] H H' → H d = none → H' d = some (.xd [(f, v)]) → E (.ref C) (some d) H'
def ErrQ (C : Addr) (f : Str) (Q : XK) : List V → Hp → Prop := fun vs H1 => ∃ v, vs = [v] ∧ ∀ d, H1 d = none → Q (.ref C) (some d) (upd H1 d (.xd [(f, v)]))
theorem r_err {C : Addr} {f : Str} {ta : TA} {σ : L2.St} {H : Hp} {Q : XK} (h : ta σ H (ErrQ C f Q)) : tErr C f ta σ H Q := h
theorem r_ErrQ {C : Addr} {f : Str} {H : Hp} {Q : XK} {v : V} (h : ∀ d, H d = none → Q (.ref C) (some d) (upd H d (.xd [(f, v)]))) : ErrQ C f Q [v] H := ⟨v, rfl, h⟩
theorem Lv.use {H H1 : Hp} {E : XK} {C : Addr} {f : Str} {v : V} (h : Lv H E C f v) (k : Kp [] H H1) : ∀ d, H1 d = none → E (.ref C) (some d) (upd H1 d (.xd [(f, v)])) := fun d hd =>
  h _ d (k.new hd) (k.freeM Ms.nil hd) upd_same
end Aw
namespace Aw
open PySem PySem.Spec PyProof.Rows L2
theorem pg_tupK {X : Cx} {K : PySem.W.Frag} {es : List Expr} {k : Nat} {t : TGs} {n : Nat} {pos : Pos} (h : X.K = K) (hc : X.calm = true) (hp : PGs X es t)
    (hn : (assignEach es X.env).length = n := by rfl) (hst : (assignEach es X.env).findIdx? (·.1) = none := by rfl) : PG X (.Tuple es k pos) (gTup K n t) := by
  subst h
  exact pg_tup hc hp hn hst
def LcZipQ (K : PySem.W.Frag) (g : TG) (tt : TT) (te : TE) (vs : List Nat) (σ : L2.St) (Q : VK) : List V → Hp → Prop := fun us H1 => ∃ (a b : Addr) (xs ys : List V), us = [.ref a, .ref b] ∧
  ((SqL K H1 a xs ∧ SqL K H1 b ys ∧ LcTurns (Itz K a b) g tt te vs σ Q H1) ∨ (SqT K H1 a xs ∧ SqT K H1 b ys ∧ LcTurns (RZ.ItzT K a b) g tt te vs σ Q H1))
theorem r_lcZip {K : PySem.W.Frag} {ts : TA} {g : TG} {tt : TT} {te : TE} {vs : List Nat} {σ : L2.St} {Q : VK} {H : Hp} (h : ts σ H (LcZipQ K g tt te vs σ Q)) : tLc (RZ.iZipA K ts) g tt te vs σ H Q := h
theorem r_LcZipM {K : PySem.W.Frag} {g : TG} {tt : TT} {te : TE} {vs : List Nat} {σ : L2.St} {Q : VK} {H : Hp} {a b : Addr} {xs ys : List V} (s1 : SqT K H a xs) (s2 : SqT K H b ys)
    (h : ∀ p, H p = none → ∃ R : Nat → Hp → Prop, R 0 (upd H p (.lst [])) ∧ (∀ i H, R i H → SqT K H a xs ∧ SqT K H b ys) ∧
      (∀ (i : Nat) (x y : V) (T : Addr) (H : Hp), xs[i]? = some x → ys[i]? = some y → R i H → H T = none → g (.ref T) (wipe σ vs) (upd H T (.tup [x, y])) (LcTurn tt te vs σ p (R (i + 1)))) ∧ ∀ H, R (min xs.length ys.length) H → Q (.ref p) H) :
    LcZipQ K g tt te vs σ Q [.ref a, .ref b] H := by
  refine ⟨a, b, xs, ys, rfl, .inr ⟨s1, s2, fun p hp => ?_⟩⟩
  obtain ⟨R, h0, hl, hs, hd⟩ := h p hp
  refine ⟨fun i m H => m = min xs.length ys.length - i ∧ i ≤ min xs.length ys.length ∧ R i H, ⟨_, rfl, Nat.zero_le _, h0⟩, ?_⟩
  rintro i m H ⟨rfl, hi, p'⟩
  obtain ⟨qx, qy⟩ := hl i H p'
  by_cases hlt : i < min xs.length ys.length
  · have hl1 : i < xs.length := by omega
    have hl2 : i < ys.length := by omega
    refine .inr ⟨⟨xs, ys, _, _, qx, qy, List.getElem?_eq_getElem hl1, List.getElem?_eq_getElem hl2⟩, R (i + 1), fun H' q => ⟨min xs.length ys.length - (i + 1), by omega, rfl, hlt, q⟩, fun v H' y => ?_⟩
    obtain ⟨T, x', y', rfl, hT, rfl, f1, f2⟩ := y
    exact hs i x' y' T H (f1 xs qx) (f2 ys qy) p' hT
  · obtain rfl : i = min xs.length ys.length := by omega
    exact .inl ⟨⟨xs, ys, qx, qy, by omega⟩, hd H p'⟩
end Aw
namespace Aw
open PySem PySem.Spec PyProof.Rows L2
theorem enum_new1 {v : Value} {o : Obj} {H : Heap → Prop} (B : Begins v o H) :
    Meets (Builtin.«enumerate.__new__» ⟨[.type "enumerate", v], []⟩) (fun _ R s => H s.heap ∧
      R (.ok (.ret (.ref (s.heap.push o).objs.size))) { s with heap := (s.heap.push o).push { cls := .type "enumerate", data := .fields #[.none, .bool false, .ref s.heap.objs.size, rawInt 0, .none, .none] } }) :=
  .of_wp fun prog w A R s h => by
    obtain ⟨hp, g, d, tk, os⟩ := s
    obtain ⟨h1, h⟩ := h
    have hsub := sub_enumerate
    have q1 : ∀ {A' : Around} {E : Value → Shared → Prop} {Q : Value → Shared → Prop}, Q (.ref hp.objs.size) ⟨hp.push o, g, d, tk, os⟩ → wpAny (model prog w) A' (pyIter v) Q E ⟨hp, g, d, tk, os⟩ :=
      fun q => B.iter prog w _ _ ⟨hp, g, d, tk, os⟩ _ h1 q
    wp_walk using q1
    refine wpAny_stack_any fun st => wpAny_pure ?_
    split
    · rename_i c _ _ _ _ _
      cases (c == Value.type "enumerate") <;>
        (wp_walk using q1
         exact ⟨_, rfl, h⟩)
    · wp_walk using q1
      exact ⟨_, rfl, h⟩
theorem enum_call1 {prog : Program} {w : World} {A : Around} {E : Value → Shared → Prop} {s : Shared} {v : Value} {o : Obj} {H : Heap → Prop} {Q : Value → Shared → Prop} (B : Begins v o H) (h1 : H s.heap)
    (h : ∀ h', IsEnum h' (s.heap.objs.size + 1) s.heap.objs.size 0 .none → h'.get? s.heap.objs.size = some o → (∀ b u, s.heap.get? b = some u → h'.get? b = some u) → Q (.ref (s.heap.objs.size + 1)) { s with heap := h' }) :
    wpAny (model prog w) A (call (.type "enumerate") [v]) Q E s := by
  refine callType_new F.called_enumerate (by decide) (F.typeCall_enumerate_1 _) (F.newCall_enumerate_1 _) (fun obj => F.args_object_init_2 obj _) F.entry_enumerate_new (enum_new1 B) ⟨h1, ?_⟩
  have hz : (s.heap.push o).objs.size = s.heap.objs.size + 1 := Heap.size_push ..
  show _ ∧ _
  rw [hz]
  have he : IsEnum ((s.heap.push o).push { cls := .type "enumerate", data := .fields #[.none, .bool false, .ref s.heap.objs.size, rawInt 0, .none, .none] }) (s.heap.objs.size + 1) s.heap.objs.size 0 .none := by
    have q := Heap.get?_push_size (s.heap.push o) (o := { cls := .type "enumerate", data := .fields #[.none, .bool false, .ref s.heap.objs.size, rawInt 0, .none, .none] }) rfl
    rw [hz] at q
    exact q
  exact ⟨⟨_, he, rfl⟩, h _ he (Heap.get?_push_of_some _ (Heap.get?_push_size _ B.free)) fun b u x => Heap.get?_push_of_some _ (Heap.get?_push_of_some _ x)⟩
/-- the tuple at a, each item in a new pair -/
def IteT (K : PySem.W.Frag) (a : Addr) : It :=
  ⟨fun i H => ∃ (xs : List V) (x : V), SqT K H a xs ∧ xs[i]? = some x, fun i H v H' => ∃ T x, v = .ref T ∧ H T = none ∧ H' = upd H T (.tup [.int (i : Nat), x]) ∧ ∀ xs, SqT K H a xs → xs[i]? = some x, fun i H => ∃ xs : List V, SqT K H a xs ∧ xs.length ≤ i⟩
theorem turn_enumT {P : Program} {w : World} {K : PySem.W.Frag} {elts : List Expr} {kk : Nat} {tpos : Pos} (a e it : Addr) :
    Turn P w K (.Tuple elts kk tpos) (IteT K a) [e, it] e (fun i h => (∃ old, IsEnum h e it ((i : Nat) : Int) old) ∧ h.IsTupleIter it a i ∧ e ≠ it ∧ e ≠ a ∧ a ≠ it) where
  mem := by simp
  obj := fun i h st b hb => by
    obtain ⟨⟨old, he⟩, ⟨o, ho, hc, hd⟩, _⟩ := st
    have e' : b = e ∨ b = it := by simpa using hb
    rcases e' with z | z
    · rw [z]; exact ⟨_, he, fun v q => nomatch q⟩
    · rw [z]; exact ⟨o, ho, fun v q => by rw [hd] at q; cases q⟩
  keep := fun i h h' st k => let ⟨⟨old, he⟩, hi, hne⟩ := st; ⟨⟨old, k e (by simp) _ he⟩, hi.at fun o q => k it (by simp) o q, hne⟩
  item := by
    intro X hP hw hK hc i pins s σ H E I hf st hg
    subst hP hw hK
    obtain ⟨⟨old, he⟩, hit, hne, hea, hai⟩ := st
    obtain ⟨xs, x, hq, hx⟩ := hg
    obtain ⟨its, rv, p, hz⟩ := I.tuple hq
    obtain ⟨u, hu, ru⟩ := rv.get hx
    have hel : e < s.heap.objs.size := Heap.lt_size he
    have hil : it < s.heap.objs.size := by obtain ⟨_, q, _⟩ := hit; exact Heap.lt_size q
    have hlt : i < its.toArray.size := by
      have := (List.getElem?_eq_some_iff.mp hu).1
      simpa using this
    refine wpAny_pyNext_enum_itemD (Draws.tuple (A := X.A.in1) (I.ok.hd hc) it a hai its.toArray) he ⟨hit, p⟩ hlt hne (by simp [hne, hea]) fun u' h' tk hP ho hit' hT hsz hk => ?_
    have e0 : its.toArray[i]? = some u := by simpa using hu
    obtain rfl : u' = u := Option.some.inj (hP.symm.trans e0)
    refine ⟨_, rfl, wpAny_letOwnedTupleGo_enum (s := { s with heap := h', toks := tk + 1 }) ho fun h'' he' sb => ?_⟩
    have hT2 : h''.get? s.heap.objs.size = some { cls := .type "tuple", data := .seq #[.int i tk, u'] } := (sb.2 _ (Nat.ne_of_gt hel)).trans hT
    have new : ObjOk X.prog X.w (upd H s.heap.objs.size (.tup [.int (i : Nat), x])) h'' s.heap.objs.size (.tup [.int (i : Nat), x]) :=
      ⟨by show 2 ≤ sizeLine; decide, [.int i tk, u'], .cons ⟨_, rfl⟩ (.cons ru .nil), ⟨_, hT2, rfl, _, rfl⟩⟩
    have I1 : Inv X pins σ (upd H s.heap.objs.size (.tup [.int (i : Nat), x])) { s with heap := h'', toks := tk + 1 } :=
      I.turnedNew (ch := [e, it]) (fun b ob hb q => (sb.2 b (fun z => hb (by simp [z]))).trans (hk b ob (fun z => hb (by simp [z])) (fun z => hb (by simp [z])) q)) hf (Nat.le_refl _) new
    refine ⟨.ref s.heap.objs.size, _, I1, rfl, ⟨_, x, rfl, I.hok.fresh (Nat.le_refl _), rfl, fun ys hy => by rw [I.tuple_inj hy hq]; exact hx⟩, ⟨⟨u', ?_⟩, hit'.1.at fun o q => (sb.2 it (Ne.symm hne)).trans q, hne, hea, hai⟩, fun b hb => ?_⟩
    · have e1 : ((i + 1 : Nat) : Int) = (i : Int) + 1 := by omega
      rw [e1]; exact he'
    · have hb' : b < s.heap.objs.size := by
        have e' : b = e ∨ b = it := by simpa using hb
        rcases e' with z | z
        · rw [z]; exact hel
        · rw [z]; exact hil
      rw [upd_ne (Nat.ne_of_lt hb')]
      exact (hf b hb).1
  done := by
    intro X hP hw hK hc i pins s σ H E I hf st hg
    subst hP hw hK
    obtain ⟨⟨old, he⟩, hit, hne, hea, hai⟩ := st
    obtain ⟨xs, hq, hx⟩ := hg
    obtain ⟨its, rv, p, hz⟩ := I.tuple hq
    obtain ⟨f0, f1, f2, f3, f4, f5⟩ := hf it (by simp)
    have hl := rv.length
    have D : Draws X.prog X.w X.A.in1 it [it, a] i (fun _ _ => True) (fun j h => j = i ∧ h.IsTupleIter it a i ∧ h.IsTuple a its.toArray) :=
      ⟨fun _ _ st => let ⟨o, ho, _⟩ := st.2.1; ⟨o, ho⟩, fun _ _ _ st hk => ⟨st.1, st.2.1.at fun o e => hk it (by simp) o e, st.2.2.at fun o e => hk a (by simp) o e⟩,
        fun j s Q E hj st _ => absurd st.1 (Nat.ne_of_lt hj), fun s Q E st hE => wpAny_nextOf_tuple_end (I.ok.hd hc) st.2.1 st.2.2 (by simp; omega) hE⟩
    exact wpAny_pyNext_enum_endD D he ⟨rfl, hit, p⟩ fun h' eb => ⟨rfl, I.turned (t' := s.toks) (fun b o hb q => eb b o hb q) f0 f1 f3 f4 f5⟩
  self := fun A i s Q E st h => let ⟨⟨_, he⟩, _⟩ := st; wpAny_pyIter_enum he h
def iEnumT (K : PySem.W.Frag) (ta : TA) : TI := fun σ H R => ta σ H fun vs H1 => ∃ a xs, vs = [.ref a] ∧ SqT K H1 a xs ∧ R (IteT K a) H1
theorem pi_enumT {X : Cx} {e : Expr} {ta : TA} {p pos tpos : Pos} {elts : List Expr} {kk : Nat} (hg : Gl X "enumerate") (hm : X.mg "enumerate" = none) (ha : PA X [e] ta) (hs : starEach [e] X.env = [(false, eval e X.env)] := by rfl) :
    PI X (.Tuple elts kk tpos) (.Call (.Name "enumerate" p) [e] [] pos) (iEnumT X.K ta) := by
  refine ⟨fun pins s σ H R I h => ?_⟩
  refine Call_ (ld_blt I hg hm boot_enumerate (PyProof.Rows.callWith_type1 (thn (ha.run pos pins s σ H _ I h) fun us s1 ⟨vs, H1, I1, r1, q1⟩ => ?_) hs rfl))
  obtain ⟨a, xs, ex, hq, q⟩ := q1
  subst ex
  cases r1 with
  | cons r rr =>
    cases rr
    cases r
    obtain ⟨its, rv, p', hz⟩ := I1.tuple hq
    have hal : a < s1.heap.objs.size := by
      obtain ⟨_, q, _⟩ := p'
      exact Heap.lt_size q
    refine enum_call1 (begins_tuple a its.toArray) p' fun h' he hit hk => wpAny_pyIter_enum he ?_
    have I2 : Inv X pins σ H1 { s1 with heap := h' } := I1.kept (t' := s1.toks) hk
    refine ⟨s1.heap.objs.size + 1, [s1.heap.objs.size + 1, s1.heap.objs.size], _, _, H1, rfl, I2, turn_enumT a (s1.heap.objs.size + 1) s1.heap.objs.size, ⟨⟨.none, he⟩, ⟨_, hit, rfl, rfl⟩, Nat.succ_ne_self _, Nat.ne_of_gt (Nat.lt_succ_of_lt hal), Nat.ne_of_lt hal⟩, fun b hb => ?_, q⟩
    have e' : b = s1.heap.objs.size + 1 ∨ b = s1.heap.objs.size := by simpa using hb
    have hle : s1.heap.objs.size ≤ b := by
      rcases e' with z | z
      · rw [z]; exact Nat.le_add_right _ _
      · rw [z]; exact Nat.le_refl _
    exact I1.fpOk hle (I1.hok.fresh hle)
section
variable {K : PySem.W.Frag} {g : TG} {ts : TA} {tb : TS} {D : Ends} {σ : L2.St} {H : Hp}
def ForET (K : PySem.W.Frag) (g : TG) (tb : TS) (D : Ends) (σ : L2.St) : List V → Hp → Prop := fun us H1 => ∃ a xs, us = [.ref a] ∧ SqT K H1 a xs ∧ Turns (IteT K a) g tb D σ H1
theorem r_forET (h : ts σ H (ForET K g tb D σ)) : tFor (iEnumT K ts) g tb D σ H := by
  refine cast ?_ h
  rfl
theorem r_ForET {a : Addr} {xs : List V} (s : SqT K H a xs) (R : Nat → L2.St → Hp → Prop) (h0 : R 0 σ H) (hl : ∀ i σ H, R i σ H → SqT K H a xs)
    (hs : ∀ (i : Nat) x σ H T, xs[i]? = some x → R i σ H → H T = none → g (.ref T) σ (upd H T (.tup [.int (i : Nat), x])) fun σ2 H2 => tb { D with nx := R (i + 1), ct := R (i + 1), bk := D.nx } σ2 H2)
    (hd : ∀ σ H, R xs.length σ H → D.nx σ H) : ForET K g tb D σ [.ref a] H := by
  refine ⟨a, xs, rfl, s, fun i m σ H => i + m = xs.length ∧ R i σ H, ⟨xs.length, by omega, h0⟩, fun i m σ H ⟨e, r⟩ => ?_⟩
  have sl := hl i σ H r
  by_cases hi : i < xs.length
  · refine .inr ⟨⟨xs, xs[i], sl, List.getElem?_eq_getElem hi⟩, R (i + 1), fun σ' H' r' => ⟨m - 1, by omega, by omega, r'⟩, fun v H' hy => ?_⟩
    obtain ⟨T, x, rfl, hT, rfl, hx⟩ := hy
    exact hs i x σ H T (hx xs sl) r hT
  · refine .inl ⟨⟨xs, sl, by omega⟩, hd σ H ?_⟩
    have e2 : i = xs.length := by omega
    rw [← e2]
    exact r
end
end Aw
namespace Aw
open PySem PySem.Spec L2
def LETT : Str := "abcdefghijklmnopqrstuvwxyz"
def SGN : Str := "abcdefghijklmnopqrstuvwxyz0123456789"
def KEPTS : List Str := ["unset", "tell", "say", "stop", "if", "else", "repeat", "pass", "rest", "of", "set", "not", "program"]
def isSgn (c : Nat) : Bool := decide (c ∈ SGN.cps.toList)
def isLet (c : Nat) : Bool := decide (c ∈ LETT.cps.toList)
def isWordS (x : Str) : Bool := decide (1 ≤ x.length) && decide (x.length ≤ 8) && !decide (x = "unsure") && x.cps.toList.all isSgn
def isNameS (x : Str) : Bool := decide (1 ≤ x.length) && decide (x.length ≤ 8) && isLet (x.cps.toList.headD 0) && x.cps.toList.all isSgn && !KEPTS.contains x
def one (f : PyData → Bool) : List PyData → Bool
  | [a] => f a
  | _ => false
mutual
def dsz : PyData → Nat
  | .none => 1
  | .bool _ => 1
  | .int _ => 1
  | .str x => 1 + x.length
  | .list ds => 1 + dszs ds
  | .tuple ds => 1 + dszs ds
  | .dict _ => 1
def dszs : List PyData → Nat
  | [] => 0
  | d :: r => dsz d + dszs r
end
theorem dsz_pos (d : PyData) : 1 ≤ dsz d := by cases d <;> (rw [dsz]; try omega)
theorem dszs_len : ∀ b : List PyData, b.length ≤ dszs b
  | [] => Nat.zero_le _
  | d :: r => by have := dszs_len r; have := dsz_pos d; rw [dszs, List.length_cons]; omega
def Ex.vd : Nat → Ex → Prop
  | 0, _ => False
  | _ + 1, .int i => -99 ≤ i ∧ i ≤ 99
  | _ + 1, .name x => isNameS x = true
  | n + 1, .bin o a b => b.vd n ∧ ((o = "times" ∧ ∃ i : Int, a = .int i ∧ -9 ≤ i ∧ i ≤ 9) ∨ ((o = "plus" ∨ o = "minus") ∧ a.vd n))
def Ts.vd : Nat → Ts → Prop
  | 0, .not _ => False
  | n + 1, .not t => t.vd n
  | _, .given x => isNameS x = true
  | _, .rest e b r => e.vd 3 ∧ 2 ≤ b ∧ b ≤ 6 ∧ 0 ≤ r ∧ r ≤ b - 1
  | _, .less a b => a.vd 3 ∧ b.vd 3
def Pl.vd : Pl → Prop
  | .set x e => isNameS x = true ∧ e.vd 3
  | .unset x => isNameS x = true
  | .tell e => e.vd 3
  | .say w => isWordS w = true
  | .stop w => isWordS w = true
def Sm.vd : Nat → Sm → Prop
  | _, .pl s => s.vd
  | 0, .ifs t y z => t.vd 2 ∧ y = [] ∧ z = []
  | 0, .rep k b => 0 ≤ k ∧ k ≤ 8 ∧ b = []
  | n + 1, .ifs t y z => t.vd 2 ∧ (∀ s ∈ y, Sm.vd n s) ∧ (∀ s ∈ z, Sm.vd n s)
  | n + 1, .rep k b => 0 ≤ k ∧ k ≤ 8 ∧ ∀ s ∈ b, Sm.vd n s
theorem Pl.hd (p : Pl) : ∃ u r, p.d = .tuple (.str u :: r) ∧ u ≠ "if" ∧ u ≠ "repeat" := by
  cases p <;> exact ⟨_, _, rfl, by decide +kernel, by decide +kernel⟩
structure DwL (M : List Addr) (K : PySem.W.Frag) (H : Hp) (vs : List V) (ds : List PyData) : Prop where
  len : vs.length = ds.length
  all : ∀ (i : Nat) (v : V) (d : PyData), vs[i]? = some v → ds[i]? = some d → Dw M K H v d
structure Stk (M : List Addr) (K : PySem.W.Frag) (H : Hp) (vs : List V) (st : List (Nat × PyData)) : Prop where
  len : vs.length = st.length
  all : ∀ (i : Nat) (v : V) (p : Nat × PyData), vs[i]? = some v → st[i]? = some p → ∃ (a : Addr) (y : V), v = .ref a ∧ H a = some (.tup [.int p.1, y]) ∧ Dw M K H y p.2
section
variable {M : List Addr} {K : PySem.W.Frag} {H H1 : Hp} {v : V} {vs us : List V} {d : PyData} {ds es : List PyData} {st tt : List (Nat × PyData)} {p : Nat × PyData}
theorem Dw.fresh {l : Addr} (h : Dw M K H v d) (n : H l = none) : Dw (l :: M) K H v d := by
  induction h with
  | non => exact .non
  | bl b => exact .bl b
  | int i => exact .int i
  | str x => exact .str x
  | tup s l _ ih => exact .tup s l ih
  | lst e k l _ ih =>
    refine .lst e (fun m => ?_) l ih
    rcases List.mem_cons.mp m with z | z
    · rw [z, n] at e; cases e
    · exact k z
  | dct e k l q _ ih =>
    refine .dct e (fun m => ?_) l q ih
    rcases List.mem_cons.mp m with z | z
    · rw [z, n] at e; cases e
    · exact k z
theorem Dw.items {ds : List PyData} (h : Dw M K H v (.tuple ds)) : ∃ (a : Addr) (xs : List V), v = .ref a ∧ SqT K H a xs ∧ DwL M K H xs ds := by
  obtain ⟨a, xs, e, s, l, q⟩ := h.isTup
  exact ⟨a, xs, e, s, l, q⟩
theorem DwL.kp (h : DwL M K H vs ds) (k : Kp M H H1) : DwL M K H1 vs ds := ⟨h.len, fun i v d e e' => (h.all i v d e e').kp k⟩
theorem DwL.kp0 (h : DwL M K H vs ds) (k : Kp [] H H1) : DwL M K H1 vs ds := ⟨h.len, fun i v d e e' => (h.all i v d e e').kp0 k⟩
theorem DwL.nil : DwL M K H [] [] := ⟨rfl, fun i v d e => by simp at e⟩
theorem DwL.cons (hv : Dw M K H v d) (h : DwL M K H vs ds) : DwL M K H (v :: vs) (d :: ds) := by
  refine ⟨by rw [List.length_cons, List.length_cons, h.len], fun i u e q q' => ?_⟩
  cases i with
  | zero =>
    cases q
    cases q'
    exact hv
  | succ i => exact h.all i u e (by simpa using q) (by simpa using q')
theorem DwL.inv (h : DwL M K H vs (d :: ds)) : ∃ v r, vs = v :: r ∧ Dw M K H v d ∧ DwL M K H r ds := by
  cases vs with
  | nil => have := h.len; simp at this
  | cons v r => exact ⟨v, r, rfl, h.all 0 v d rfl rfl, by have := h.len; simpa using this, fun i u e q q' => h.all (i + 1) u e (by simpa using q) (by simpa using q')⟩
theorem DwL.get {i : Nat} (h : DwL M K H vs ds) (e : vs[i]? = some v) : ∃ d, ds[i]? = some d ∧ Dw M K H v d := by
  have hi := (List.getElem?_eq_some_iff.mp e).1
  have hj : i < ds.length := by rw [← h.len]; exact hi
  exact ⟨ds[i], List.getElem?_eq_getElem hj, h.all i v _ e (List.getElem?_eq_getElem hj)⟩
theorem Stk.kp (h : Stk M K H vs st) (k : Kp M H H1) : Stk M K H1 vs st := ⟨h.len, fun i v p e e' => by
  obtain ⟨a, y, q1, q2, q3⟩ := h.all i v p e e'
  exact ⟨a, y, q1, k.tup q2, q3.kp k⟩⟩
theorem Stk.kp0 (h : Stk M K H vs st) (k : Kp [] H H1) : Stk M K H1 vs st := ⟨h.len, fun i v p e e' => by
  obtain ⟨a, y, q1, q2, q3⟩ := h.all i v p e e'
  exact ⟨a, y, q1, k.tup q2, q3.kp0 k⟩⟩
theorem Stk.fresh {l : Addr} (h : Stk M K H vs st) (n : H l = none) : Stk (l :: M) K H vs st := ⟨h.len, fun i v p e e' => by
  obtain ⟨a, y, q1, q2, q3⟩ := h.all i v p e e'
  exact ⟨a, y, q1, q2, q3.fresh n⟩⟩
theorem Stk.nil : Stk M K H [] [] := ⟨rfl, fun i v d e => by simp at e⟩
theorem Stk.app (h : Stk M K H vs st) (h2 : Stk M K H us tt) : Stk M K H (vs ++ us) (st ++ tt) := by
  refine ⟨by rw [List.length_append, List.length_append, h.len, h2.len], fun i u e q q' => ?_⟩
  by_cases hi : i < vs.length
  · rw [List.getElem?_append_left hi] at q
    rw [List.getElem?_append_left (by rw [← h.len]; exact hi)] at q'
    exact h.all i u e q q'
  · rw [List.getElem?_append_right (by omega)] at q
    rw [List.getElem?_append_right (by rw [← h.len]; omega), ← h.len] at q'
    exact h2.all _ u e q q'
theorem Stk.one {a : Addr} {y : V} (h : H a = some (.tup [.int p.1, y])) (hy : Dw M K H y p.2) : Stk M K H [.ref a] [p] := ⟨rfl, fun i v q e e' => by
  match i, e, e' with
  | 0, e, e' => cases e; cases e'; exact ⟨a, y, rfl, h, hy⟩⟩
end
section
variable {M N : List Addr} {K : PySem.W.Frag} {H H1 : Hp} {v : V} {vs us : List V} {d : PyData} {ds es : List PyData} {st tt : List (Nat × PyData)}
theorem DwL.fresh {l : Addr} (h : DwL M K H vs ds) (n : H l = none) : DwL (l :: M) K H vs ds := ⟨h.len, fun i v d e e' => (h.all i v d e e').fresh n⟩
theorem DwL.sub (h : DwL M K H vs ds) (s : ∀ b ∈ N, b ∈ M) : DwL N K H vs ds := ⟨h.len, fun i v d e e' => (h.all i v d e e').sub s⟩
theorem Stk.sub (h : Stk M K H vs st) (s : ∀ b ∈ N, b ∈ M) : Stk N K H vs st := ⟨h.len, fun i v p e e' => by
  obtain ⟨c, y, q1, q2, q3⟩ := h.all i v p e e'
  exact ⟨c, y, q1, q2, q3.sub s⟩⟩
end
mutual
def Sm.rows (dep : Nat) : Sm → List (Nat × PyData)
  | .pl p => [(dep, p.d)]
  | .ifs t y z => (dep, .tuple [.str "if", t.d, .tuple (Sm.ds y), .tuple (Sm.ds z)]) :: (Sm.rowsL (dep + 1) y ++ Sm.rowsL (dep + 1) z)
  | .rep k b => (dep, .tuple [.str "repeat", .int k, .tuple (Sm.ds b)]) :: Sm.rowsL (dep + 1) b
def Sm.rowsL (dep : Nat) : List Sm → List (Nat × PyData)
  | [] => []
  | s :: r => Sm.rows dep s ++ Sm.rowsL dep r
end
def dT (T : List (Nat × Sm)) : List (Nat × PyData) := T.map fun p => (p.1, p.2.d)
def Ts.bare : Ts → Ts
  | .not t => t.bare
  | t => t
def Ts.word : Ts → Str
  | .not _ => "not"
  | .given _ => "given"
  | .rest _ _ _ => "rest"
  | .less _ _ => "less"
def Sm.own (so : Str) (s : Sm) : Int := if so = "weight" then 1 else match s with
  | .ifs t _ _ => if t.bare.word = so then 1 else 0
  | _ => 0
mutual
def Sm.cnt (so : Str) : Sm → Int
  | .pl p => Sm.own so (.pl p)
  | .ifs t y z => Sm.own so (.ifs t y z) + (Sm.cnts so y + Sm.cnts so z)
  | .rep k b => Sm.own so (.rep k b) + Sm.cnts so b * k
def Sm.cnts (so : Str) : List Sm → Int
  | [] => 0
  | s :: r => Sm.cnt so s + Sm.cnts so r
end
def VdB : Nat → List Sm → Prop
  | 0, b => b = []
  | n + 1, b => ∀ s ∈ b, Sm.vd n s
def Sm.parts : Sm → List (List Sm)
  | .pl _ => []
  | .ifs _ y z => [y, z]
  | .rep _ b => [b]
theorem Sm.vd.parts {n : Nat} {s : Sm} (h : s.vd n) : ∀ b ∈ s.parts, VdB n b := by
  intro b hb
  cases s with
  | pl p => cases hb
  | ifs t y z =>
    cases n with
    | zero =>
      rcases List.mem_cons.mp hb with rfl | hb
      · exact h.2.1
      · rw [List.mem_singleton.mp hb]; exact h.2.2
    | succ n =>
      rcases List.mem_cons.mp hb with rfl | hb
      · exact h.2.1
      · rw [List.mem_singleton.mp hb]; exact h.2.2
  | rep k c =>
    cases n with
    | zero => rw [List.mem_singleton.mp hb]; exact h.2.2
    | succ n => rw [List.mem_singleton.mp hb]; exact h.2.2
def errD (x : Str) : PyData := .tuple [.none, .str x]
def lim (p : List Sm) : PyData := if Sm.sizes p > 24 then errD "places" else if Sm.cnts "weight" p > 30 then errD "weight" else if Sm.cnts "rest" p > 2 then errD "rests" else if Sm.cnts "less" p > 2 then errD "comparings" else .none
def Sm.wd : Sm → Str
  | .ifs t _ _ => t.bare.word
  | _ => "none"
end Aw
namespace Aw
open PySem PySem.Spec L2
theorem Shw.int {i : Int} {k : Nat} (h1 : -(2 ^ 64) < i) (h2 : i < 2 ^ 64) : Shw (.int i) k 70 := by
  refine ⟨by rw [PyData.showable]; exact decide_eq_true (log2_small h1 h2), by rw [PyData.hasDict], by rw [PyData.depth]; exact Nat.zero_le _, ?_⟩
  rw [PyData.shown]
  have h : i.natAbs.log2 < 64 := by
    by_cases h : i.natAbs = 0
    · rw [h]
      decide
    · exact (Nat.log2_lt h).mpr (show i.natAbs < 2 ^ 64 by omega)
  have q := int_text_length_le (k := 64) (by decide) h
  show (Str.ofString (toString i)).length ≤ 70
  rw [ofString_length]
  omega
theorem Sm.vd.mono {m : Nat} : ∀ {n : Nat} {s : Sm}, s.vd m → m ≤ n → s.vd n := by
  induction m with
  | zero =>
    intro n s h hn
    cases s with
    | pl p => cases n <;> exact h
    | ifs t y z =>
      obtain ⟨h1, rfl, rfl⟩ := h
      cases n
      · exact ⟨h1, rfl, rfl⟩
      · exact ⟨h1, (fun _ q => nomatch q), (fun _ q => nomatch q)⟩
    | rep k b =>
      obtain ⟨h1, h2, rfl⟩ := h
      cases n
      · exact ⟨h1, h2, rfl⟩
      · exact ⟨h1, h2, (fun _ q => nomatch q)⟩
  | succ m ih =>
    intro n s h hn
    obtain ⟨n, rfl⟩ : ∃ k, n = k + 1 := ⟨n - 1, by omega⟩
    cases s with
    | pl p => exact h
    | ifs t y z => exact ⟨h.1, fun s q => ih (h.2.1 s q) (by omega), fun s q => ih (h.2.2 s q) (by omega)⟩
    | rep k b => exact ⟨h.1, h.2.1, fun s q => ih (h.2.2 s q) (by omega)⟩
section
variable {K : PySem.W.Frag} {σ : L2.St} {H0 : Hp} {te ta tb ti : TE} {ds es : List PyData} {i j k : Int}
theorem r_catA {H : Hp} {Q : VK} {v u : V} (hv : Dt K H v (.tuple ds)) (hu : Dt K H u (.tuple es)) (hz : ds.length + es.length ≤ 16777216)
    (h : ∀ H' w, Kp [] H H' → Dt K H' w (.tuple (ds ++ es)) → Q w H') : rCatA K v u H Q := by
  obtain ⟨a, xs, rfl, ha, la⟩ := hv.items
  obtain ⟨b, ys, rfl, hb, lb⟩ := hu.items
  refine ⟨a, b, xs, ys, rfl, rfl, ha, hb, by rw [la.len, lb.len, sizeLine_eq]; exact hz, fun e => ?_, fun _ e => ?_, fun _ _ p hp => ?_⟩
  · have q := la.len
    rw [e] at q
    obtain rfl : ds = [] := List.length_eq_zero_iff.mp q.symm
    exact h _ _ Kp.nil hu
  · have q := lb.len
    rw [e] at q
    obtain rfl : es = [] := List.length_eq_zero_iff.mp q.symm
    rw [List.append_nil] at h
    exact h _ _ Kp.nil hv
  · exact h _ _ (Kp.nil.new hp) (((la.app lb).kp (Kp.nil.new hp)).tup upd_same)
end
end Aw
namespace Aw
open PySem PySem.Spec L2
structure NmV (H : Hp) (a : Addr) (xs : List Str) : Prop where
  h : H a = some (.lst (xs.map V.str))
  len : xs.length = 4
  ok : ∀ x ∈ xs, isNameS x = true
theorem NmV.kp {M : List Addr} {H H1 : Hp} {a : Addr} {xs : List Str} (h : NmV H a xs) (k : Kp M H H1) (n : a ∉ M) : NmV H1 a xs := ⟨k.get h.h n, h.len, h.ok⟩
theorem NmV.item {H : Hp} {a : Addr} {xs : List Str} (h : NmV H a xs) {i : Nat} {x : V} (e : (xs.map V.str)[i]? = some x) : ∃ z : Str, x = .str z ∧ isNameS z = true := by
  rw [List.getElem?_map] at e
  obtain ⟨z, hz, rfl⟩ := Option.map_eq_some_iff.mp e
  exact ⟨z, rfl, h.ok z (List.mem_of_getElem? hz)⟩
theorem NmV.one {K : PySem.W.Frag} {H : Hp} {Q : VK} {E : XK} {d c a : Addr} {n : Int} {xs : List Str} (h : NmV H a xs) (D : Deck H d c n) (hn : n < 10 ^ 12) (h1 : a ≠ d) (h2 : a ≠ c)
    (k : ∀ (H' : Hp) (z : Str), isNameS z = true → Deck H' d c (n + 1) → Kp [d, c] H H' → Q (.str z) H') : spOne K [.ref d, .ref a] H Q E := by
  refine spOne.list D hn (SqL.of h.h) h1 h2 (by rw [List.length_map, h.len]; omega) (by rw [List.length_map, h.len]; omega) fun H' i x hx D' k' => ?_
  obtain ⟨z, rfl, hz⟩ := h.item hx
  exact k H' z hz D' k'
theorem Ex.vd.succ : ∀ {n : Nat} {e : Ex}, e.vd n → e.vd (n + 1)
  | 0, _, h => h.elim
  | _ + 1, .int _, h => h
  | _ + 1, .name _, h => h
  | _ + 1, .bin _ _ _, h => ⟨h.1.succ, h.2.imp id fun q => ⟨q.1, q.2.succ⟩⟩
theorem Ex.vd.mono {m n : Nat} {e : Ex} (h : e.vd m) (q : m ≤ n) : e.vd n := by
  induction q with
  | refl => exact h
  | step _ ih => exact ih.succ
theorem Ts.vd.succ : ∀ {n : Nat} {t : Ts}, t.vd n → t.vd (n + 1)
  | n + 1, .not t, h => Ts.vd.succ (n := n) (t := t) h
  | n, .given x, h => by cases n <;> exact h
  | n, .rest e b r, h => by cases n <;> exact h
  | n, .less a b, h => by cases n <;> exact h
theorem Ts.vd.mono {m n : Nat} {t : Ts} (h : t.vd m) (q : m ≤ n) : t.vd n := by
  induction q with
  | refl => exact h
  | step _ ih => exact ih.succ
/-- what a test counts -/
def Ts.one (so : Str) (t : Ts) : Int := if t.bare.word = so then 1 else 0
theorem Sm.cnts_one (so : Str) (s : Sm) : Sm.cnts so [s] = Sm.cnt so s := by rw [Sm.cnts, Sm.cnts, Int.add_zero]
theorem Sm.cnts_app (so : Str) : ∀ a b : List Sm, Sm.cnts so (a ++ b) = Sm.cnts so a + Sm.cnts so b
  | [], b => by rw [List.nil_append, Sm.cnts, Int.zero_add]
  | u :: r, b => by rw [List.cons_append, Sm.cnts, Sm.cnts, Sm.cnts_app so r b, Int.add_assoc]
/-- both sides of less are two deep at most -/
def Ts.lo : Ts → Prop
  | .not t => t.lo
  | .less a b => a.vd 2 ∧ b.vd 2
  | _ => True
mutual
def Sm.lo : Sm → Prop
  | .pl _ => True
  | .ifs t y z => t.lo ∧ Sm.los y ∧ Sm.los z
  | .rep _ b => Sm.los b
def Sm.los : List Sm → Prop
  | [] => True
  | s :: r => Sm.lo s ∧ Sm.los r
end
theorem Sm.los_app : ∀ a b : List Sm, Sm.los a → Sm.los b → Sm.los (a ++ b)
  | [], b, _, h => h
  | s :: r, b, h, g => by
    rw [Sm.los] at h
    rw [List.cons_append, Sm.los]
    exact ⟨h.1, Sm.los_app r b h.2 g⟩
/-- what is left behind rows that count so many times -/
structure Took (ti a b r s a' b' r' s' : Int) (x : List Sm) : Prop where
  a : a' = a - Sm.sizes x
  b : b' = b - ti * Sm.cnts "weight" x
  r : r' = r - ti * Sm.cnts "rest" x
  s : s' = s - ti * Sm.cnts "less" x
  l : Sm.los x
theorem Took.nil {ti a b r s : Int} : Took ti a b r s a b r s [] := by
  constructor <;> simp [Sm.sizes, Sm.cnts, Sm.los]
theorem Took.app {ti a b r s a1 b1 r1 s1 a2 b2 r2 s2 : Int} {x y : List Sm} (h : Took ti a b r s a1 b1 r1 s1 x) (g : Took ti a1 b1 r1 s1 a2 b2 r2 s2 y) : Took ti a b r s a2 b2 r2 s2 (x ++ y) := by
  have h1 := h.a; have h2 := h.b; have h3 := h.r; have h4 := h.s
  have g1 := g.a; have g2 := g.b; have g3 := g.r; have g4 := g.s
  constructor
  · rw [Sm.sizes_app]; omega
  · rw [Sm.cnts_app, Int.mul_add]; omega
  · rw [Sm.cnts_app, Int.mul_add]; omega
  · rw [Sm.cnts_app, Int.mul_add]; omega
  · exact Sm.los_app _ _ h.l g.l
/-- a program within all bounds -/
structure PgV (b : List Sm) : Prop where
  vd : ∀ s ∈ b, Sm.vd 3 s
  size : Sm.sizes b ≤ 24
  weight : Sm.cnts "weight" b ≤ 30
  rest : Sm.cnts "rest" b ≤ 2
  less : Sm.cnts "less" b ≤ 2
  lo : Sm.los b
theorem Kp.out {H H1 H2 : Hp} {d c l : Addr} (k1 : Kp [d, c] H H1) (hl : H l = none) (k2 : Kp [d, c, l] H1 H2) : Kp [d, c] H H2 := fun z o e => ⟨(k1 z o e).1, fun nm' => by
  refine (k2 z o ((k1 z o e).2 nm')).2 fun hz => ?_
  simp only [List.mem_cons, List.not_mem_nil, or_false, not_or] at hz nm'
  rcases hz with rfl | rfl | rfl
  · exact nm'.1 rfl
  · exact nm'.2 rfl
  · rw [hl] at e
    cases e⟩
end Aw
namespace Aw
open PySem PySem.Spec L2
mutual
def shb : PyData → Bool
  | .none => true
  | .bool _ => true
  | .int i => decide (i.natAbs.log2 < 200)
  | .str x => PyData.strOk x
  | .list ds => shbs ds
  | .tuple ds => shbs ds
  | .dict [] => true
  | .dict [(.str x, .int i)] => PyData.strOk x && decide (x.length ≤ 8) && decide (i.natAbs.log2 < 200)
  | .dict _ => false
def shbs : List PyData → Bool
  | [] => true
  | d :: r => shb d && shbs r
end
theorem int_len {i : Int} (h : i.natAbs.log2 < 200) : (Str.ofString (toString i)).length ≤ 201 := by
  have q := int_text_length_le (k := 200) (by decide) h
  rw [ofString_length]
  omega
mutual
theorem shb_ok : ∀ d : PyData, shb d = true → d.showable = true ∧ d.shown.length + 2 ≤ 300 * dsz d
  | .none, _ => ⟨by rw [PyData.showable], by rw [PyData.shown, dsz]; decide +kernel⟩
  | .bool b, _ => ⟨by rw [PyData.showable], by rw [PyData.shown, dsz]; cases b <;> decide +kernel⟩
  | .int i, h => by
    rw [shb, decide_eq_true_eq] at h
    refine ⟨by rw [PyData.showable]; exact decide_eq_true (by omega), ?_⟩
    rw [PyData.shown, dsz]
    have := int_len h
    show (Str.ofString (toString i)).length + 2 ≤ 300 * 1
    omega
  | .str x, h => by
    rw [shb] at h
    refine ⟨by rw [PyData.showable], ?_⟩
    rw [PyData.shown, dsz]
    have := (Sok.repr (x := x) (n := x.length) ⟨h, Nat.le_refl _⟩)
    omega
  | .list ds, h => by
    rw [shb] at h
    obtain ⟨a, b, c⟩ := shbs_ok ds h
    refine ⟨by rw [PyData.showable]; exact a, ?_⟩
    rw [PyData.shown, dsz]
    have q := listText_len_le (PyData.shownAll ds)
    omega
  | .tuple ds, h => by
    rw [shb] at h
    obtain ⟨a, b, c⟩ := shbs_ok ds h
    refine ⟨by rw [PyData.showable]; exact a, ?_⟩
    rw [PyData.shown, dsz]
    have q := tupleText_len_le (PyData.shownAll ds)
    omega
  | .dict [], _ => ⟨by rw [PyData.showable, PyData.showableKv], by rw [PyData.shown, PyData.shownKv, dsz]; decide +kernel⟩
  | .dict [(.str x, .int i)], h => by
    rw [shb, Bool.and_eq_true, Bool.and_eq_true, decide_eq_true_eq, decide_eq_true_eq] at h
    obtain ⟨⟨h1, h2⟩, h3⟩ := h
    refine ⟨by simp [PyData.showable, PyData.showableKv]; omega, ?_⟩
    rw [PyData.shown, dsz]
    have q := dictText_len_le (PyData.shownKv [(.str x, .int i)])
    have e : PyData.shownKv [(.str x, .int i)] = [reprText x ++ ": " ++ Str.ofString (toString i)] := by
      simp [PyData.shownKv, PyData.shown]
    rw [e] at q ⊢
    have r1 := (Sok.repr (x := x) (n := 8) ⟨h1, h2⟩)
    have r2 := int_len h3
    simp only [List.map_cons, List.map_nil, List.sum_cons, List.sum_nil, List.length_cons, List.length_nil, Str.length_append] at q
    have r3 : (": " : Str).length = 2 := by decide +kernel
    omega
  | .dict ((.none, _) :: _), h => by simp [shb] at h
  | .dict ((.bool _, _) :: _), h => by simp [shb] at h
  | .dict ((.int _, _) :: _), h => by simp [shb] at h
  | .dict ((.list _, _) :: _), h => by simp [shb] at h
  | .dict ((.tuple _, _) :: _), h => by simp [shb] at h
  | .dict ((.dict _, _) :: _), h => by simp [shb] at h
  | .dict ((.str _, .none) :: _), h => by simp [shb] at h
  | .dict ((.str _, .bool _) :: _), h => by simp [shb] at h
  | .dict ((.str _, .str _) :: _), h => by simp [shb] at h
  | .dict ((.str _, .list _) :: _), h => by simp [shb] at h
  | .dict ((.str _, .tuple _) :: _), h => by simp [shb] at h
  | .dict ((.str _, .dict _) :: _), h => by simp [shb] at h
  | .dict ((.str _, .int _) :: _ :: _), h => by simp [shb] at h
theorem shbs_ok : ∀ ds : List PyData, shbs ds = true → PyData.showableAll ds = true ∧ (PyData.shownAll ds).length = ds.length ∧ ((PyData.shownAll ds).map (·.length)).sum + 2 * (PyData.shownAll ds).length ≤ 300 * dszs ds
  | [], _ => ⟨by rw [PyData.showableAll], by rw [PyData.shownAll]; rfl, by rw [PyData.shownAll]; simp⟩
  | d :: r, h => by
    rw [shbs, Bool.and_eq_true] at h
    obtain ⟨a, b⟩ := shb_ok d h.1
    obtain ⟨a1, b1, c1⟩ := shbs_ok r h.2
    refine ⟨by rw [PyData.showableAll, a, a1]; rfl, by rw [PyData.shownAll, List.length_cons, List.length_cons, b1], ?_⟩
    rw [PyData.shownAll, List.map_cons, List.sum_cons, List.length_cons, dszs]
    omega
end
/-- data of a size, that may be shown, of a depth -/
structure Dok (d : PyData) (z k : Nat) : Prop where
  sz : dsz d ≤ z
  sh : shb d = true
  dp : d.depth ≤ k
theorem Dok.shw {d : PyData} {z k : Nat} (h : Dok d z k) : ShwD d k (300 * z) := by
  obtain ⟨a, b⟩ := shb_ok d h.sh
  have := h.sz
  exact ⟨a, h.dp, by omega⟩
theorem Dok.mono {d : PyData} {z k z' k' : Nat} (h : Dok d z k) (hz : z ≤ z') (hk : k ≤ k') : Dok d z' k' := ⟨Nat.le_trans h.sz hz, h.sh, Nat.le_trans h.dp hk⟩
theorem Dok.by {d : PyData} {z k : Nat} (h : (decide (dsz d ≤ z) && shb d && decide (d.depth ≤ k)) = true) : Dok d z k := by
  rw [Bool.and_eq_true, Bool.and_eq_true, decide_eq_true_eq, decide_eq_true_eq] at h
  exact ⟨h.1.1, h.1.2, h.2⟩
def Oc (M : List Addr) (H : Hp) : Prop := ∀ a ∈ M, ∃ o, H a = some o
theorem Oc.new {M : List Addr} {H H1 : Hp} {p : Addr} (h : Oc M H) (k : Kp [] H H1) (hp : H1 p = none) : p ∉ M := fun m => by
  obtain ⟨o, e⟩ := h p m
  rw [k.get e (by simp)] at hp
  cases hp
def CW (M : List Addr) (K : PySem.W.Frag) (σ : L2.St) (H0 : Hp) (te : TE) (d : PyData) : Prop := ∀ (H : Hp) (Q : VK), Kp [] H0 H → (∀ H' v, Kp [] H H' → Dw M K H' v d → Q v H') → te σ H Q
def CWs (M : List Addr) (K : PySem.W.Frag) (σ : L2.St) (H0 : Hp) (ts : TA) (ds : List PyData) : Prop := ∀ (H : Hp) (R : List V → Hp → Prop), Kp [] H0 H → (∀ H' vs, Kp [] H H' → DwL M K H' vs ds → R vs H') → ts σ H R
section
variable {M : List Addr} {K : PySem.W.Frag} {σ : L2.St} {H0 : Hp} {te ta tb : TE} {ts : TA} {d : PyData} {ds es : List PyData}
theorem DwL.tup {H : Hp} {vs : List V} {a : Addr} (h : DwL M K H vs ds) (e : H a = some (.tup vs)) : Dw M K H (.ref a) (.tuple ds) := .tup (SqT.of e) h.len h.all
theorem DwL.lst {H : Hp} {vs : List V} {a : Addr} (h : DwL M K H vs ds) (e : H a = some (.lst vs)) (n : a ∉ M) : Dw M K H (.ref a) (.list ds) := .lst e n h.len h.all
theorem DwL.app {H : Hp} {vs us : List V} (h : DwL M K H vs ds) (g : DwL M K H us es) : DwL M K H (vs ++ us) (ds ++ es) := by
  refine ⟨by rw [List.length_append, List.length_append, h.len, g.len], fun i u e q q' => ?_⟩
  by_cases hi : i < vs.length
  · rw [List.getElem?_append_left hi] at q
    rw [List.getElem?_append_left (by rw [← h.len]; exact hi)] at q'
    exact h.all i u e q q'
  · rw [List.getElem?_append_right (by omega)] at q
    rw [List.getElem?_append_right (by rw [← h.len]; omega), ← h.len] at q'
    exact g.all _ u e q q'
theorem DwL.mem {H : Hp} {vs : List V} {x : V} (h : DwL M K H vs ds) (m : x ∈ vs) : ∃ d ∈ ds, Dw M K H x d := by
  obtain ⟨i, hi, rfl⟩ := List.mem_iff_getElem.mp m
  obtain ⟨d, e, q⟩ := h.get (List.getElem?_eq_getElem hi)
  exact ⟨d, List.mem_of_getElem? e, q⟩
theorem cw_str {x : Str} : CW M K σ H0 (tC (.str x)) (.str x) := fun H Q _ h => h H _ Kp.nil (.str x)
theorem cw_int {x : Int} : CW M K σ H0 (tC (.int x)) (.int x) := fun H Q _ h => h H _ Kp.nil (.int x)
theorem cw_bl {x : Bool} : CW M K σ H0 (tC (.bl x)) (.bool x) := fun H Q _ h => h H _ Kp.nil (.bl x)
theorem cw_non : CW M K σ H0 (tC .non) .none := fun H Q _ h => h H _ Kp.nil .non
theorem cw_var {i : Nat} {v : V} (e : σ[i]? = some (some v)) (hv : Dw M K H0 v d) : CW M K σ H0 (tVar i) d := fun H Q k h => ⟨v, e, h H _ Kp.nil (hv.kp0 k)⟩
theorem cw_neg {i : Int} : CW M K σ H0 (tUn (rU fun i => .int (-i)) (tC (.int i))) (.int (-i)) := fun H Q _ h => r_un (r_C (r_U (h H _ Kp.nil (.int _))))
theorem cw_pow {i j : Int} (h0 : CPow i j) : CW M K σ H0 (tOp (rI CPow fun i j => .int (i ^ j.toNat)) (tC (.int i)) (tC (.int j))) (.int (i ^ j.toNat)) := fun H Q _ h => r_op (r_C (r_C (r_I (h H _ Kp.nil (.int _)) h0)))
theorem cws_nil : CWs M K σ H0 tNil [] := fun H R _ h => h H _ Kp.nil DwL.nil
theorem cws_cons (a : CW M K σ H0 te d) (b : CWs M K σ H0 ts ds) : CWs M K σ H0 (tCons te ts) (d :: ds) := fun H R k h =>
  a H _ k fun H1 v k1 hv => b H1 _ (k.trans k1) fun H2 vs k2 hs => h H2 (v :: vs) (k1.trans k2) (DwL.cons (hv.kp0 k2) hs)
theorem cw_tup (b : CWs M K σ H0 ts ds) (hz : ds.length ≤ 16777216) : CW M K σ H0 (tTup ts) (.tuple ds) := fun H Q k h =>
  b H _ k fun H1 vs k1 hs => ⟨by rw [hs.len, sizeLine_eq]; exact hz, fun p hp => h _ _ (k1.new hp) ((hs.kp0 (Kp.nil.new hp)).tup upd_same)⟩
theorem cw_lst (hM : Oc M H0) (b : CWs M K σ H0 ts ds) (hz : ds.length ≤ 16777216) : CW M K σ H0 (tLst ts) (.list ds) := fun H Q k h =>
  b H _ k fun H1 vs k1 hs => ⟨by rw [hs.len, sizeLine_eq]; exact hz, fun p hp => h _ _ (k1.new hp) ((hs.kp0 (Kp.nil.new hp)).lst upd_same (hM.new (k.trans k1) hp))⟩
theorem cw_d0 (hM : Oc M H0) : CW M K σ H0 tDNewK (.dict []) := fun H Q k h p hp => h _ _ (Kp.nil.new hp) (.dct upd_same (hM.new k hp) rfl (fun i kv p e => by simp at e) (fun i kv p e => by simp at e))
theorem cw_d1 {x : Str} {i : Int} (hM : Oc M H0) : CW M K σ H0 (tDisp [(tC (.str x), tC (.int i))]) (.dict [(.str x, .int i)]) := fun H Q k h p hp => by
  refine r_pcons (r_C (r_C (r_pnil ⟨upd_same, [(Sum.inr x, .int i)], rfl, by simp, ?_⟩)))
  have e : mergeK [] [((Sum.inr x : Key), V.int i)] = [(Sum.inr x, .int i)] := rfl
  rw [e, upd_upd]
  refine h _ _ (Kp.nil.new hp) (.dct upd_same (hM.new k hp) rfl (fun j kv p e e' => ?_) (fun j kv p e e' => ?_))
  · match j, e, e' with
    | 0, e, e' => cases e; cases e'; rfl
  · match j, e, e' with
    | 0, e, e' => cases e; cases e'; exact .int i
end
theorem name_ok {x : Str} (h : isNameS x = true) : PyData.strOk x = true ∧ x.length ≤ 8 := by
  unfold isNameS at h
  simp only [Bool.and_eq_true, decide_eq_true_eq] at h
  obtain ⟨⟨⟨⟨_, h1⟩, _⟩, h2⟩, _⟩ := h
  refine ⟨?_, h1⟩
  unfold PyData.strOk
  rw [Array.all_eq_true_iff_forall_mem]
  intro c hc
  have q : ∀ c ∈ SGN.cps.toList, c < 1114112 := by decide +kernel
  exact decide_eq_true (q c (of_decide_eq_true (List.all_eq_true.mp h2 c (Array.mem_def.mp hc))))
theorem word_ok {x : Str} (h : isWordS x = true) : PyData.strOk x = true ∧ x.length ≤ 8 := by
  unfold isWordS at h
  simp only [Bool.and_eq_true, decide_eq_true_eq] at h
  obtain ⟨⟨⟨_, h1⟩, _⟩, h2⟩ := h
  refine ⟨?_, h1⟩
  unfold PyData.strOk
  rw [Array.all_eq_true_iff_forall_mem]
  intro c hc
  have q : ∀ c ∈ SGN.cps.toList, c < 1114112 := by decide +kernel
  exact decide_eq_true (q c (of_decide_eq_true (List.all_eq_true.mp h2 c (Array.mem_def.mp hc))))
theorem small_log {i : Int} (h1 : -1000 ≤ i) (h2 : i ≤ 1000) : i.natAbs.log2 < 200 := by
  by_cases h : i.natAbs = 0
  · rw [h]
    decide
  · exact Nat.lt_of_lt_of_le ((Nat.log2_lt (k := 10) h).mpr (by omega)) (by decide)
theorem Dok.int {i : Int} (h1 : -1000 ≤ i) (h2 : i ≤ 1000) : Dok (.int i) 1 0 := ⟨by rw [dsz]; omega, by rw [shb]; exact decide_eq_true (small_log h1 h2), by rw [PyData.depth]; omega⟩
theorem Dok.str {x : Str} {n : Nat} (h : PyData.strOk x = true ∧ x.length ≤ n) : Dok (.str x) (n + 1) 0 := ⟨by rw [dsz]; omega, by rw [shb]; exact h.1, by rw [PyData.depth]; omega⟩
theorem Dok.nil {k : Nat} : Dok (.tuple []) 1 (k + 1) := ⟨by simp [dsz, dszs], by simp [shb, shbs], by simp [PyData.depth, PyData.depthAll]⟩
/-- lists of data -/
structure Doks (ds : List PyData) (z k : Nat) : Prop where
  sz : dszs ds ≤ z
  sh : shbs ds = true
  dp : PyData.depthAll ds ≤ k
theorem Doks.nil {k : Nat} : Doks [] 0 k := ⟨by rw [dszs]; omega, by rw [shbs], by rw [PyData.depthAll]; omega⟩
theorem Doks.cons {d : PyData} {ds : List PyData} {z z' k k' : Nat} (a : Dok d z k') (b : Doks ds z' k) (h : k' ≤ k) : Doks (d :: ds) (z + z') k := by
  have := a.sz; have := b.sz; have := a.dp; have := b.dp
  exact ⟨by rw [dszs]; omega, by rw [shbs, a.sh, b.sh]; rfl, by rw [PyData.depthAll]; omega⟩
theorem Doks.tup {ds : List PyData} {z k : Nat} (h : Doks ds z k) : Dok (.tuple ds) (z + 1) (k + 1) := by
  have := h.sz; have := h.dp
  exact ⟨by rw [dsz]; omega, by rw [shb]; exact h.sh, by rw [PyData.depth]; omega⟩
theorem Dok.lst {ds : List PyData} {z k : Nat} (h : Dok (.tuple ds) z k) : Dok (.list ds) z k := by
  have h1 := h.sz; have h2 := h.dp; have h3 := h.sh
  rw [dsz] at h1
  rw [PyData.depth] at h2
  rw [shb] at h3
  exact ⟨by rw [dsz]; exact h1, by rw [shb]; exact h3, by rw [PyData.depth]; exact h2⟩
theorem lit_ok {x : Str} {n : Nat} (h : (PyData.strOk x && decide (x.length ≤ n)) = true) : PyData.strOk x = true ∧ x.length ≤ n := by
  rw [Bool.and_eq_true, decide_eq_true_eq] at h
  exact h
def eZ : Nat → Nat
  | 0 => 0
  | n + 1 => 2 * eZ n + 10
theorem Ex.vd.dok : ∀ {n : Nat} {e : Ex}, e.vd n → Dok e.d (eZ n) n
  | 0, _, h => h.elim
  | n + 1, .int i, h => (Dok.int (by have := h.1; omega) (by have := h.2; omega)).mono (by unfold eZ; omega) (by omega)
  | n + 1, .name x, h => (Dok.str (name_ok h)).mono (by unfold eZ; omega) (by omega)
  | n + 1, .bin o a b, h => by
    obtain ⟨hb, h⟩ := h
    have qb := Ex.vd.dok hb
    have key : ∀ {o : Str}, PyData.strOk o = true ∧ o.length ≤ 5 → Dok a.d (eZ n) n → Dok (Ex.bin o a b).d (eZ (n + 1)) (n + 1) := fun ho qa =>
      (Doks.tup (Doks.cons (Dok.str ho) (Doks.cons qa (Doks.cons qb (Doks.nil (k := n)) (Nat.le_refl _)) (Nat.le_refl _)) (Nat.zero_le _))).mono (by show _ ≤ 2 * eZ n + 10; omega) (by omega)
    rcases h with ⟨rfl, i, rfl, h1, h2⟩ | ⟨ho, ha⟩
    · refine key (lit_ok (by decide +kernel)) ((Dok.int (by omega) (by omega)).mono ?_ (by omega))
      cases n with
      | zero => exact hb.elim
      | succ n => unfold eZ; omega
    · refine key ?_ (Ex.vd.dok ha)
      rcases ho with rfl | rfl <;> exact lit_ok (by decide +kernel)
theorem Ts.vd.dok : ∀ {n : Nat} {t : Ts}, t.vd n → Dok t.d (5 * n + 160) (n + 4)
  | n + 1, .not t, h => by
    have q := Ts.vd.dok (n := n) (t := t) h
    exact (Doks.tup (Doks.cons (Dok.str (lit_ok (x := "not") (n := 3) (by decide +kernel))) (Doks.cons q (Doks.nil (k := n + 4)) (Nat.le_refl _)) (by omega))).mono (by omega) (by omega)
  | n, .given x, h => by
    have q : isNameS x = true := by cases n <;> exact h
    exact (Doks.tup (Doks.cons (Dok.str (lit_ok (x := "given") (n := 5) (by decide +kernel))) (Doks.cons (Dok.str (name_ok q)) (Doks.nil (k := 0)) (by omega)) (by omega))).mono (by omega) (by omega)
  | n, .rest e b r, h => by
    have q : e.vd 3 ∧ 2 ≤ b ∧ b ≤ 6 ∧ 0 ≤ r ∧ r ≤ b - 1 := by cases n <;> exact h
    obtain ⟨q, b0, b1, r0, r1⟩ := q
    have e3 : eZ 3 = 70 := rfl
    exact (Doks.tup (Doks.cons (Dok.str (lit_ok (x := "rest") (n := 5) (by decide +kernel))) (Doks.cons q.dok (Doks.cons (Dok.int (by omega) (by omega)) (Doks.cons (Dok.int (by omega) (by omega)) (Doks.nil (k := 3)) (by omega)) (by omega)) (by omega)) (by omega))).mono (by omega) (by omega)
  | n, .less a b, h => by
    have q : a.vd 3 ∧ b.vd 3 := by cases n <;> exact h
    have e3 : eZ 3 = 70 := rfl
    exact (Doks.tup (Doks.cons (Dok.str (lit_ok (x := "less") (n := 5) (by decide +kernel))) (Doks.cons q.1.dok (Doks.cons q.2.dok (Doks.nil (k := 3)) (by omega)) (by omega)) (by omega))).mono (by omega) (by omega)
theorem Pl.vd.dok {p : Pl} (h : p.vd) : Dok p.d 100 4 := by
  have e3 : eZ 3 = 70 := rfl
  cases p with
  | set x e => exact (Doks.tup (Doks.cons (Dok.str (lit_ok (x := "set") (n := 5) (by decide +kernel))) (Doks.cons (Dok.str (name_ok h.1)) (Doks.cons h.2.dok (Doks.nil (k := 3)) (by omega)) (by omega)) (by omega))).mono (by omega) (by omega)
  | unset x => exact (Doks.tup (Doks.cons (Dok.str (lit_ok (x := "unset") (n := 5) (by decide +kernel))) (Doks.cons (Dok.str (name_ok h)) (Doks.nil (k := 3)) (by omega)) (by omega))).mono (by omega) (by omega)
  | tell e => exact (Doks.tup (Doks.cons (Dok.str (lit_ok (x := "tell") (n := 5) (by decide +kernel))) (Doks.cons (Ex.vd.dok (n := 3) h) (Doks.nil (k := 3)) (by omega)) (by omega))).mono (by omega) (by omega)
  | say x => exact (Doks.tup (Doks.cons (Dok.str (lit_ok (x := "say") (n := 5) (by decide +kernel))) (Doks.cons (Dok.str (word_ok h)) (Doks.nil (k := 3)) (by omega)) (by omega))).mono (by omega) (by omega)
  | stop x => exact (Doks.tup (Doks.cons (Dok.str (lit_ok (x := "stop") (n := 5) (by decide +kernel))) (Doks.cons (Dok.str (word_ok h)) (Doks.nil (k := 3)) (by omega)) (by omega))).mono (by omega) (by omega)
theorem Sm.vd.doks : ∀ (n : Nat) (b : List Sm), VdB n b → Doks (Sm.ds b) (200 * Sm.sizes b) (2 * n + 6) := by
  intro n
  induction n with
  | zero =>
    intro b h
    have h : b = [] := h
    subst h
    rw [Sm.ds, Sm.sizes]
    exact Doks.nil
  | succ n ih =>
    intro b h
    induction b with
    | nil =>
      rw [Sm.ds, Sm.sizes]
      exact Doks.nil
    | cons s r ihr =>
      have hr := ihr fun z hz => h z (List.mem_cons_of_mem _ hz)
      have hs : Dok s.d (200 * s.size) (2 * (n + 1) + 6) := by
        have hv := h s (List.mem_cons_self ..)
        have hp := hv.parts
        cases s with
        | pl p =>
          have q : p.vd := by cases n <;> exact hv
          rw [Sm.d, Sm.size]
          exact q.dok.mono (by omega) (by omega)
        | ifs t y z =>
          have ht : t.vd 2 := by cases n <;> exact hv.1
          have q1 := ih y (hp y (by simp [Sm.parts]))
          have q2 := ih z (hp z (by simp [Sm.parts]))
          rw [Sm.d, Sm.size]
          exact (Doks.tup (Doks.cons (Dok.str (lit_ok (x := "if") (n := 2) (by decide +kernel))) (Doks.cons ht.dok (Doks.cons q1.tup (Doks.cons q2.tup (Doks.nil (k := 2 * n + 7)) (by omega)) (by omega)) (by omega)) (by omega))).mono (by omega) (by omega)
        | rep k b =>
          have hk : 0 ≤ k ∧ k ≤ 8 := by cases n <;> exact ⟨hv.1, hv.2.1⟩
          have q1 := ih b (hp b (by simp [Sm.parts]))
          rw [Sm.d, Sm.size]
          exact (Doks.tup (Doks.cons (Dok.str (lit_ok (x := "repeat") (n := 6) (by decide +kernel))) (Doks.cons (Dok.int (by omega) (by omega)) (Doks.cons q1.tup (Doks.nil (k := 2 * n + 7)) (by omega)) (by omega)) (by omega))).mono (by omega) (by omega)
      rw [Sm.ds, Sm.sizes]
      have q := Doks.cons hs hr (Nat.le_refl _)
      exact ⟨by have := q.sz; omega, q.sh, q.dp⟩
theorem PgV.dok {b : List Sm} (h : PgV b) : Dok (.tuple (Sm.ds b)) 4801 15 := by
  have q := (Sm.vd.doks 4 b h.vd).tup
  have := h.size
  exact q.mono (by omega) (by omega)
theorem Deck.oc {H : Hp} {d c : Addr} {n : Int} (D : Deck H d c n) : Oc [d, c] H := fun a m => by
  obtain ⟨xs, e⟩ := D.ls a m
  exact ⟨_, e⟩
theorem Oc.kp {M : List Addr} {H H1 : Hp} (h : Oc M H) (k : Kp [] H H1) : Oc M H1 := fun a m => by
  obtain ⟨o, e⟩ := h a m
  exact ⟨o, k.get e (by simp)⟩
theorem Oc.deck {M : List Addr} {H H1 : Hp} {d c : Addr} {n : Int} (h : Oc M H) (D : Deck H1 d c n) (k : Kp [d, c] H H1) : Oc M H1 := fun a m => by
  by_cases hm : a ∈ [d, c]
  · exact D.oc a hm
  · obtain ⟨o, e⟩ := h a m
    exact ⟨o, k.get e hm⟩
end Aw
namespace Aw
open PySem PySem.Spec L2
theorem NmV.dok {H : Hp} {a : Addr} {xs : List Str} (N : NmV H a xs) : ∀ x ∈ xs.map PyData.str, Dok x 9 0 := by
  intro x hx
  obtain ⟨y, hy, rfl⟩ := List.mem_map.mp hx
  exact Dok.str (name_ok (N.ok y hy))
end Aw
namespace Aw
open PySem PySem.Spec L2
structure NmsW (H : Hp) (a : Addr) (xs : List Str) : Prop where
  h : H a = some (.lst (xs.map V.str))
  ne : 1 ≤ xs.length
  ok : ∀ x ∈ xs, isNameS x = true
  len : xs.length ≤ 100
theorem NmsW.kp {M : List Addr} {H H1 : Hp} {a : Addr} {xs : List Str} (h : NmsW H a xs) (k : Kp M H H1) (n : a ∉ M) : NmsW H1 a xs := ⟨k.get h.h n, h.ne, h.ok, h.len⟩
theorem NmsW.item {H : Hp} {a : Addr} {xs : List Str} (h : NmsW H a xs) {i : Nat} {x : V} (e : (xs.map V.str)[i]? = some x) : ∃ z : Str, x = .str z ∧ isNameS z = true := by
  rw [List.getElem?_map] at e
  obtain ⟨z, hz, rfl⟩ := Option.map_eq_some_iff.mp e
  exact ⟨z, rfl, h.ok z (List.mem_of_getElem? hz)⟩
def tword (so : Int) : Str := if so = 2 then "rest" else if so = 3 then "less" else "given"
/-- what the statements take of what is left, done ti times -/
structure Lq (ti : Int) (x : List Sm) (b r s b' r' s' : Int) : Prop where
  w : ti * Sm.cnts "weight" x ≤ b - b'
  r : ti * Sm.cnts "rest" x ≤ r - r'
  l : ti * Sm.cnts "less" x ≤ s - s'
  b0 : 0 ≤ b'
  r0 : 0 ≤ r'
  s0 : 0 ≤ s'
theorem Lq.nil {ti b r s : Int} (h1 : 0 ≤ b) (h2 : 0 ≤ r) (h3 : 0 ≤ s) : Lq ti [] b r s b r s := by
  refine ⟨?_, ?_, ?_, h1, h2, h3⟩ <;> (rw [Sm.cnts, Int.mul_zero]; omega)
theorem Lq.app {ti : Int} {x y : List Sm} {b r s b1 r1 s1 b2 r2 s2 : Int} (h : Lq ti x b r s b1 r1 s1) (g : Lq ti y b1 r1 s1 b2 r2 s2) : Lq ti (x ++ y) b r s b2 r2 s2 := by
  have h1 := h.w; have h2 := h.r; have h3 := h.l; have g1 := g.w; have g2 := g.r; have g3 := g.l
  refine ⟨?_, ?_, ?_, g.b0, g.r0, g.s0⟩ <;> (rw [Sm.cnts_app, Int.mul_add]; omega)
theorem Lq.rep {ti k : Int} {y : List Sm} {b r s b1 r1 s1 : Int} (h : Lq (ti * k) y (b - ti) r s b1 r1 s1) : Lq ti [.rep k y] b r s b1 r1 s1 := by
  have h1 := h.w; have h2 := h.r; have h3 := h.l
  have e : ∀ so, ti * (Sm.cnts so y * k) = (ti * k) * Sm.cnts so y := fun so => by rw [Int.mul_comm (Sm.cnts so y) k, ← Int.mul_assoc]
  refine ⟨?_, ?_, ?_, h.b0, h.r0, h.s0⟩
  · rw [Sm.cnts_one, Sm.cnt, Int.mul_add, e]
    show ti * 1 + _ ≤ _
    omega
  · rw [Sm.cnts_one, Sm.cnt, Int.mul_add, e]
    show ti * 0 + _ ≤ _
    omega
  · rw [Sm.cnts_one, Sm.cnt, Int.mul_add, e]
    show ti * 0 + _ ≤ _
    omega
/-- the blocks of an if and its test; its own weight was taken before -/
theorem Lq.ifs {ti so : Int} {t : Ts} {y z : List Sm} {b r s r1 s1 b2 r2 s2 : Int} (ht : t.bare.word = tword so) (hso : so = 2 ∨ so = 3 ∨ so = 4) (hr : r1 = if so = 2 then r - ti else r) (hs : s1 = if so = 3 then s - ti else s)
    (h : Lq ti (y ++ z) (b - ti) r1 s1 b2 r2 s2) : Lq ti [.ifs t y z] b r s b2 r2 s2 := by
  have h1 := h.w; have h2 := h.r; have h3 := h.l
  rw [Sm.cnts_app] at h1 h2 h3
  have or_ : Sm.own "rest" (.ifs t y z) = if so = 2 then 1 else 0 := by
    unfold Sm.own tword at *
    rw [if_neg (by decide +kernel)]
    dsimp only
    rw [ht]
    rcases hso with rfl | rfl | rfl <;> decide +kernel
  have ol : Sm.own "less" (.ifs t y z) = if so = 3 then 1 else 0 := by
    unfold Sm.own tword at *
    rw [if_neg (by decide +kernel)]
    dsimp only
    rw [ht]
    rcases hso with rfl | rfl | rfl <;> decide +kernel
  refine ⟨?_, ?_, ?_, h.b0, h.r0, h.s0⟩
  · rw [Sm.cnts_one, Sm.cnt, Int.mul_add]
    show ti * 1 + _ ≤ _
    omega
  · rw [Sm.cnts_one, Sm.cnt, Int.mul_add, or_]
    rcases hso with rfl | rfl | rfl <;> simp at hr ⊢ <;> omega
  · rw [Sm.cnts_one, Sm.cnt, Int.mul_add, ol]
    rcases hso with rfl | rfl | rfl <;> simp at hs ⊢ <;> omega
end Aw
namespace Aw
open PySem PySem.Spec PyProof.Rows L2
section
variable {P : Program} {w : World} {K : PySem.W.Frag} {mg : Str → Option Value} {base : Heap} {CX : CXT}
/-- the def nm, reached by the name x -/
def DfA (K : PySem.W.Frag) (mg : Str → Option Value) (x nm : Str) (st : Stmt) (ps : List Str) : Prop :=
  ∃ (f : Addr) (fd : FuncData), Fun K nm nm st f fd ∧ mg x = some (.ref f) ∧ Binds K fd ps []
theorem DfA.has {x nm : Str} {st : Stmt} {ps N : List Str} {k : Nat} {sp : Sp} (d : DfA K mg x nm st ps)
    (S : FnScope N ps (defScope st)) (len : ∀ vs H Q E, sp vs H Q E → vs.length = ps.length)
    (hb : ∀ (f : Addr) (cdv : Value) (A : Around) (outer : List Env) (s : Shared) (H : Hp) (vs : List V) (Q : VK) (E : XK),
      RoomG k (A.deeper (envOfC nm (defScope st) s.heap.objs.size f cdv)) → sp vs H Q E →
      ∃ t, PSs (cxOf CX0 P w K mg base N nm (defScope st) f cdv A outer s H E).nox (defBody st) t ∧
        t { nx := fun _ H' => Q .non H', rt := Q } (start N vs) H) : Has P w K mg base CX0 x ps (k + 1) sp := by
  obtain ⟨f, fd, F, m, b⟩ := d
  obtain ⟨oc, od, kV, doc, pm, an, cdv, ct, osl, rfl, lk, hcd⟩ := F.ex
  refine ⟨f, _, ⟨F.kp, oc, od, osl, lk⟩, m, b, fnG_of lk hcd S len fun A outer s H vs Q E hr hsp => ?_⟩
  obtain ⟨t, h, q⟩ := hb f cdv A outer s H vs Q E hr hsp
  exact ⟨t, h.nox, q⟩
end
section
variable {X : Cx}
/-- what is never reached needs no rule -/
theorem ps_void {s : Stmt} : PS X s (fun _ _ _ => False) := ⟨fun _ _ _ _ _ _ h => h.elim⟩
end
end Aw
namespace Aw
open PySem PySem.Spec L2
/-- a text of these signs -/
def tx (l : List Nat) : Str := ⟨l.toArray⟩
def FIG : Str := "0123456789"
def isFig (c : Nat) : Bool := decide (c ∈ FIG.cps.toList)
/-- a word of at most so many signs -/
def isWordT (l : List Nat) (most : Int) : Bool := decide (1 ≤ (l.length : Int)) && decide ((l.length : Int) ≤ most) && l.all isSgn
def isNameT (l : List Nat) : Bool := isNameS (tx l)
/-- the figures of a number -/
def figs (l : List Nat) : List Nat := match l with
  | 45 :: r => r
  | l => l
/-- an integer of at most so many figures -/
def intOf (l : List Nat) (most : Int) : Option Int :=
  if (decide (1 ≤ ((figs l).length : Int)) && decide (((figs l).length : Int) ≤ most) && (figs l).all isFig) = true then
    (if (figs l).headD 0 = 48 ∧ l ≠ [48] then none else PySem.intText? (tx l)) else none
end Aw
namespace Aw
open PySem PySem.Spec L2
/-- the signs at which a word ends -/
def brk (c : Nat) : Bool := decide (c = 32) || (decide (c = 41) || decide (c = 40))
def wordL (l : List Nat) (at_ : Nat) : List Nat := (l.drop at_).takeWhile fun c => !brk c
def Ex.isI : Ex → Bool
  | .int _ => true
  | _ => false
def opAt : List Nat → Str
  | [32, 43, 32] => "plus"
  | [32, 45, 32] => "minus"
  | [32, 42, 32] => "times"
  | _ => ""
def leafAt (l : List Nat) (at_ : Nat) : Option (Ex × Nat) :=
  match intOf (wordL l at_) 20 with
  | some i => some (.int i, at_ + (wordL l at_).length)
  | none => if isNameT (wordL l at_) = true then some (.name (tx (wordL l at_)), at_ + (wordL l at_).length) else none
def sumAt (rec : Nat → Option (Ex × Nat)) (l : List Nat) (at_ : Nat) : Option (Ex × Nat) :=
  match rec (at_ + 1) with
  | none => none
  | some (a, e) =>
    if opAt ((l.drop e).take 3) = "" ∨ (opAt ((l.drop e).take 3) = "times" ∧ a.isI = false) then none else
    match rec (e + 3) with
    | none => none
    | some (b, e2) => if (l.drop e2).take 1 = [41] then some (.bin (opAt ((l.drop e).take 3)) a b, e2 + 1) else none
/-- an expression that begins at a place; so many may lie in one another -/
def exprAt (l : List Nat) : Nat → Nat → Option (Ex × Nat)
  | 0, _ => none
  | n + 1, at_ => if (l.drop at_).take 1 = [40] then sumAt (exprAt l n) l at_ else leafAt l at_
end Aw
namespace Aw
open PySem PySem.Spec L2
/-- the signs ahead of the first blank, and those behind it -/
def headL (l : List Nat) : List Nat := l.takeWhile fun c => !decide (c = 32)
def tailL (l : List Nat) : List Nat := (l.dropWhile fun c => !decide (c = 32)).drop 1
def exprOf (l : List Nat) : Option Ex := match exprAt l 20 0 with
  | some (e, k) => if k = l.length then some e else none
  | none => none
def setOf (l : List Nat) : Option Pl := if isNameT (headL l) = true then (exprOf (tailL l)).map fun e => Pl.set (tx (headL l)) e else none
def restT (l : List Nat) : Option Ts :=
  if tx (headL (tailL l)) = "of" then
    match intOf (headL l) 20, intOf (headL (tailL (tailL l))) 20, exprOf (tailL (tailL (tailL l))) with
    | some r, some b, some e => some (.rest e b r)
    | _, _, _ => none
  else none
def ptOf (l : List Nat) : Option Ts :=
  if l.take 4 = [115, 101, 116, 32] then (if isNameT (l.drop 4) = true then some (.given (tx (l.drop 4))) else none)
  else if l.take 5 = [114, 101, 115, 116, 32] then restT (l.drop 5)
  else match exprAt l 20 0 with
    | none => none
    | some (a, k) => if (l.drop k).take 3 = [32, 60, 32] then (exprOf (l.drop (k + 3))).map fun b => Ts.less a b else none
/-- the "not" ahead of a test, and what follows -/
def stripN : Nat → List Nat → Nat × List Nat
  | 0, l => (0, l)
  | f + 1, l => if l.take 4 = [110, 111, 116, 32] then ((stripN f (l.drop 4)).1 + 1, (stripN f (l.drop 4)).2) else (0, l)
def addN : Nat → Ts → Ts
  | 0, t => t
  | n + 1, t => .not (addN n t)
def testOf (l : List Nat) : Option Ts := match ptOf (stripN l.length l).2 with
  | none => none
  | some t => if (stripN l.length l).1 > 20 then none else some (addN (stripN l.length l).1 t)
/-- what a line tells -/
inductive Ln
  | pl (p : Pl)
  | ifh (t : Ts)
  | reph (k : Int)
def Ln.d : Ln → PyData
  | .pl p => p.d
  | .ifh t => .tuple [.str "if", t.d]
  | .reph k => .tuple [.str "repeat", .int k]
def stmtOf (l : List Nat) : Option Ln :=
  if tx (headL l) = "say" then (if isWordT (tailL l) 8 = true then some (.pl (.say (tx (tailL l)))) else none)
  else if tx (headL l) = "stop" then (if isWordT (tailL l) 8 = true then some (.pl (.stop (tx (tailL l)))) else none)
  else if tx (headL l) = "unset" then (if isNameT (tailL l) = true then some (.pl (.unset (tx (tailL l)))) else none)
  else if tx (headL l) = "set" then (setOf (tailL l)).map Ln.pl
  else if tx (headL l) = "tell" then (exprOf (tailL l)).map fun e => .pl (.tell e)
  else if tx (headL l) = "if" then (testOf (tailL l)).map Ln.ifh
  else if tx (headL l) = "repeat" then (intOf (tailL l) 20).map Ln.reph
  else none
end Aw
namespace Aw
open PySem PySem.Spec L2
def sg (z : Str) : List Nat := z.cps.toList
theorem sg_app (a b : Str) : sg (a ++ b) = sg a ++ sg b := by unfold sg; rw [Str.cps_append, Array.toList_append]
end Aw
namespace Aw
open PySem PySem.Spec L2
def Sm.ln : Sm → Ln
  | .pl p => .pl p
  | .ifs t _ _ => .ifh t
  | .rep k _ => .reph k
structure Pt where
  kind : Str
  head : List PyData
  rows : List (List PyData)
  over : Bool
def Pt.lacks (p : Pt) : Bool := !decide (p.kind = "program") && (p.rows.isEmpty && !p.over)
def Pt.blk (p : Pt) : PyData := .tuple (p.rows.map PyData.tuple)
def Pt.add (p : Pt) (r : List PyData) : Pt := { p with rows := p.rows ++ [r] }
/-- the block p ends within o -/
def endP (p o : Pt) : Pt :=
  if p.kind = "else" then { o with rows := o.rows.dropLast ++ [(o.rows.getLastD []).take 3 ++ [p.blk]] }
  else if p.kind = "if" then o.add (p.head ++ [p.blk, .tuple []])
  else o.add (p.head ++ [p.blk])
def closeN : Nat → Str → List Pt → Str × List Pt
  | n + 1, _, p :: o :: r => closeN n p.kind (endP p o :: r)
  | 0, k, R => (k, R)
  | _ + 1, k, R => (k, R)
def Ln.its : Ln → List PyData
  | .pl (.set x e) => [.str "set", .str x, e.d]
  | .pl (.unset x) => [.str "unset", .str x]
  | .pl (.tell e) => [.str "tell", e.d]
  | .pl (.say w) => [.str "say", .str w]
  | .pl (.stop w) => [.str "stop", .str w]
  | .ifh t => [.str "if", t.d]
  | .reph k => [.str "repeat", .int k]
/-- a statement is put at the end -/
def putP (x : Ln) : List Pt → List Pt
  | [] => []
  | q :: r => match x with
    | .pl _ => q.add x.its :: r
    | .ifh _ => ⟨"if", x.its, [], false⟩ :: q :: r
    | .reph _ => ⟨"repeat", x.its, [], false⟩ :: q :: r
/-- a line without its blanks, the blocks ended; k: the kind of the last that was -/
def stepP (t : List Nat) (k : Str) (lacks : Bool) : List Pt → Option (List Pt)
  | [] => none
  | q :: r =>
    if tx t = "else" ∧ k = "if" then some (⟨"else", [], [], false⟩ :: q :: r)
    else if tx t = "pass" then (if lacks = true ∧ q.kind ≠ "else" then some ({ q with over := true } :: r) else none)
    else if q.over = true then none
    else (stmtOf t).map fun x => putP x (q :: r)
def topLacks : List Pt → Bool
  | [] => false
  | q :: _ => q.lacks
def ind (k : Nat) : List Nat := List.replicate (2 * k) 32
theorem closeN_add : ∀ (a b : Nat) (k : Str) (R : List Pt), a + b + 1 ≤ R.length → closeN (a + b) k R = closeN b (closeN a k R).1 (closeN a k R).2
  | 0, b, k, R, _ => by rw [Nat.zero_add, closeN]
  | a + 1, b, k, p :: o :: r, h => by
    rw [show a + 1 + b = (a + b) + 1 by omega, closeN, closeN]
    exact closeN_add a b p.kind (endP p o :: r) (by simp only [List.length_cons] at h ⊢; omega)
  | a + 1, b, k, [], h => by simp at h
  | a + 1, b, k, [p], h => by simp at h
/-- the state R' is R once the blocks deeper than k are ended; kd: the kind of the last -/
structure At (k : Nat) (R' R : List Pt) (kd : Str) : Prop where
  len : k + 1 ≤ R'.length
  lk : topLacks R' = true → R'.length = k + 1
  cl : closeN (R'.length - 1 - k) "" R' = (kd, R)
theorem At.up {k : Nat} {R' R : List Pt} {p q : Pt} {kd : Str} (h : At (k + 1) R' (p :: q :: R) kd) (hl : topLacks R' = false) : At k R' (endP p q :: R) p.kind := by
  have hlen := h.len
  refine ⟨by omega, (fun z => by rw [hl] at z; cases z), ?_⟩
  rw [show R'.length - 1 - k = (R'.length - 1 - (k + 1)) + 1 by omega, closeN_add _ 1 _ _ (by omega), h.cl]
  rfl
def Sm.its : Sm → List PyData
  | .pl p => Ln.its (.pl p)
  | .ifs t y n => [.str "if", t.d, .tuple (Sm.ds y), .tuple (Sm.ds n)]
  | .rep k b => [.str "repeat", .int k, .tuple (Sm.ds b)]
def ahS (ah : Str) (k : Nat) : Prop := sg ah = ind k
theorem ahS.next {ah : Str} {k : Nat} (h : ahS ah k) : ahS (ah ++ "  ") (k + 1) := by
  unfold ahS at *
  rw [sg_app, h, show sg "  " = List.replicate 2 32 by decide +kernel]
  unfold ind
  rw [List.replicate_append_replicate]
  congr 1
end Aw
namespace Aw
open PySem PySem.Spec L2
/-- a part that stands at p, its rows at rl -/
def PtH (K : PySem.W.Frag) (C : Addr) (H : Hp) (p rl : Addr) (q : Pt) : Prop := ∃ (dx : Addr) (hv : V) (vs : List V),
  H p = some (.ins C dx [("kind", .str q.kind), ("head", hv), ("rows", .ref rl), ("is_over", .bl q.over)]) ∧ H rl = some (.lst vs) ∧ Dt K H hv (.tuple q.head) ∧ DtL K H vs (q.rows.map PyData.tuple)
theorem PtH.kp {K : PySem.W.Frag} {C p rl : Addr} {H H1 : Hp} {q : Pt} {M : List Addr} (h : PtH K C H p rl q) (k : Kp M H H1) (n1 : p ∉ M) (n2 : rl ∉ M) : PtH K C H1 p rl q := by
  obtain ⟨dx, hv, vs, a, b, c, d⟩ := h
  exact ⟨dx, hv, vs, k.get a n1, k.get b n2, c.kp k, d.kp k⟩
def Pts (K : PySem.W.Frag) (C : Addr) (H : Hp) : List (Addr × Addr) → List Pt → Prop
  | [], [] => True
  | a :: as, q :: R => PtH K C H a.1 a.2 q ∧ Pts K C H as R
  | _, _ => False
theorem Pts.kp {K : PySem.W.Frag} {C : Addr} {H H1 : Hp} {M : List Addr} (k : Kp M H H1) : ∀ {as : List (Addr × Addr)} {R : List Pt}, Pts K C H as R → (∀ a ∈ as, a.1 ∉ M ∧ a.2 ∉ M) → Pts K C H1 as R
  | [], [], _, _ => trivial
  | a :: as, q :: R, h, n => ⟨h.1.kp k (n a (List.mem_cons_self ..)).1 (n a (List.mem_cons_self ..)).2, Pts.kp k h.2 fun b hb => n b (List.mem_cons_of_mem _ hb)⟩
  | [], _ :: _, h, _ => h.elim
  | _ :: _, [], h, _ => h.elim
theorem Pts.len {K : PySem.W.Frag} {C : Addr} {H : Hp} : ∀ {as : List (Addr × Addr)} {R : List Pt}, Pts K C H as R → as.length = R.length
  | [], [], _ => rfl
  | a :: as, q :: R, h => by rw [List.length_cons, List.length_cons, Pts.len h.2]
  | [], _ :: _, h => h.elim
  | _ :: _, [], h => h.elim
def refs (as : List (Addr × Addr)) : List V := (as.map fun a => V.ref a.1).reverse
structure Rdr (K : PySem.W.Frag) (C CP sf l : Addr) (as : List (Addr × Addr)) (R : List Pt) (H : Hp) : Prop where
  obj : ∃ dx, H sf = some (.ins C dx [("blocks_open", .ref l)])
  lst : H l = some (.lst (refs as))
  pts : Pts K CP H as R
  nd1 : (sf :: as.map (·.1)).Nodup
  nd2 : (l :: as.map (·.2)).Nodup
def adrs (sf l : Addr) (as : List (Addr × Addr)) : List Addr := sf :: l :: (as.map (·.1) ++ as.map (·.2))
theorem adrs_iff {sf l b : Addr} {as : List (Addr × Addr)} : b ∈ adrs sf l as ↔ b = sf ∨ b = l ∨ ∃ a ∈ as, b = a.1 ∨ b = a.2 := by
  unfold adrs
  simp only [List.mem_cons, List.mem_append, List.mem_map]
  constructor
  · rintro (h | h | ⟨a, h, e⟩ | ⟨a, h, e⟩)
    · exact .inl h
    · exact .inr (.inl h)
    · exact .inr (.inr ⟨a, h, .inl e.symm⟩)
    · exact .inr (.inr ⟨a, h, .inr e.symm⟩)
  · rintro (h | h | ⟨a, h, e | e⟩)
    · exact .inl h
    · exact .inr (.inl h)
    · exact .inr (.inr (.inl ⟨a, h, e.symm⟩))
    · exact .inr (.inr (.inr ⟨a, h, e.symm⟩))
theorem Pts.mem {K : PySem.W.Frag} {C : Addr} {H : Hp} : ∀ {as : List (Addr × Addr)} {R : List Pt}, Pts K C H as R → ∀ a ∈ as, ∃ q, PtH K C H a.1 a.2 q
  | a :: as, q :: R, h, b, hb => by
    rcases List.mem_cons.mp hb with rfl | hb
    · exact ⟨q, h.1⟩
    · exact Pts.mem h.2 b hb
  | [], _, _, b, hb => by cases hb
section
variable {K : PySem.W.Frag} {C CP sf l : Addr} {as as1 as2 : List (Addr × Addr)} {R : List Pt} {H H1 H2 : Hp}
theorem Rdr.ms (h : Rdr K C CP sf l as R H) : Ms (adrs sf l as) H := by
  intro b hb
  rcases adrs_iff.mp hb with rfl | rfl | ⟨a, ha, e⟩
  · obtain ⟨dx, e⟩ := h.obj
    exact ⟨_, e, trivial⟩
  · exact ⟨_, h.lst, trivial⟩
  · obtain ⟨q, dx, hv, vs, z1, z2, _⟩ := h.pts.mem a ha
    rcases e with rfl | rfl
    · exact ⟨_, z1, trivial⟩
    · exact ⟨_, z2, trivial⟩
/-- behind a step of the reader -/
structure Nx (sf l : Addr) (as as1 : List (Addr × Addr)) (H H1 : Hp) : Prop where
  kp : Kp (adrs sf l as) H H1
  nw : ∀ b ∈ adrs sf l as1, b ∈ adrs sf l as ∨ H b = none
theorem Nx.trans (h : Nx sf l as as1 H H1) (g : Nx sf l as1 as2 H1 H2) : Nx sf l as as2 H H2 := by
  have key : ∀ b o, H b = some o → b ∉ adrs sf l as → b ∉ adrs sf l as1 := fun b o e n m => by
    rcases h.nw b m with z | z
    · exact n z
    · rw [z] at e; cases e
  refine ⟨fun b o e => ⟨(h.kp b o e).1, fun n => (g.kp b o ((h.kp b o e).2 n)).2 (key b o e n)⟩, fun b hb => ?_⟩
  by_cases hm : b ∈ adrs sf l as
  · exact .inl hm
  · refine .inr ?_
    rcases g.nw b hb with z | z
    · rcases h.nw b z with y | y
      · exact absurd y hm
      · exact y
    · cases e : H b with
      | none => rfl
      | some o => rw [(h.kp b o e).2 hm] at z; cases z
/-- other things are made -/
theorem Nx.new (h : Nx sf l as as1 H H1) (k : Kp [] H1 H2) : Nx sf l as as1 H H2 :=
  ⟨fun b o e => ⟨(h.kp b o e).1, fun n => k.get ((h.kp b o e).2 n) (by simp)⟩, h.nw⟩
theorem Rdr.kp0 (h : Rdr K C CP sf l as R H) (k : Kp [] H H1) : Rdr K C CP sf l as R H1 := by
  obtain ⟨dx, e⟩ := h.obj
  exact ⟨⟨dx, k.get e (by simp)⟩, k.get h.lst (by simp), h.pts.kp k fun a _ => ⟨by simp, by simp⟩, h.nd1, h.nd2⟩
end
/-- what is open is as it must be -/
def Wf : List Pt → Prop
  | [] => False
  | [p] => p.kind = "program"
  | p :: o :: r => p.kind ≠ "program" ∧ (p.kind = "else" → ∃ rs x, o.rows = rs ++ [x] ∧ x.length = 4) ∧ (p.kind = "if" → p.head.length = 2) ∧ Wf (o :: r)
theorem Wf.put {x : Ln} {R : List Pt} (h : Wf R) : Wf (putP x R) := by
  match R, h with
  | q :: r, h =>
    cases x with
    | pl p =>
      show Wf (q.add _ :: r)
      cases r with
      | nil => exact h
      | cons o r => exact h
    | ifh t => exact ⟨by show ("if" : Str) ≠ "program"; decide +kernel, fun z => absurd (show ("if" : Str) = "else" from z) (by decide +kernel), fun _ => rfl, h⟩
    | reph k => exact ⟨by show ("repeat" : Str) ≠ "program"; decide +kernel, fun z => absurd (show ("repeat" : Str) = "else" from z) (by decide +kernel), fun z => absurd (show ("repeat" : Str) = "if" from z) (by decide +kernel), h⟩
theorem Wf.step {t : List Nat} {k : Str} {b : Bool} {R R' : List Pt} (h : Wf R) (hk : k = "if" → ∃ q r rs x, R = q :: r ∧ q.rows = rs ++ [x] ∧ x.length = 4) (e : stepP t k b R = some R') : Wf R' := by
  match R, h with
  | q :: r, h =>
    unfold stepP at e
    dsimp only at e
    split at e
    · rename_i hc
      cases e
      obtain ⟨q1, r1, rs, x, e1, e2, e3⟩ := hk hc.2
      cases e1
      exact ⟨by show ("else" : Str) ≠ "program"; decide +kernel, fun _ => ⟨rs, x, e2, e3⟩, fun z => absurd (show ("else" : Str) = "if" from z) (by decide +kernel), h⟩
    · split at e
      · split at e
        · cases e
          cases r with
          | nil => exact h
          | cons o r => exact h
        · cases e
      · split at e
        · cases e
        · obtain ⟨x, _, rfl⟩ := Option.map_eq_some_iff.mp e
          exact h.put
section
variable {K : PySem.W.Frag} {C CP sf l : Addr} {as : List (Addr × Addr)} {R : List Pt} {H : Hp} {p rl po ro : Addr} {q o : Pt}
theorem Rdr.dx (h : Rdr K C CP sf l as R H) : (∀ a ∈ as, sf ≠ a.1 ∧ sf ≠ a.2 ∧ l ≠ a.1 ∧ l ≠ a.2) ∧ sf ≠ l := by
  obtain ⟨dx, e⟩ := h.obj
  have hl := h.lst
  refine ⟨fun a ha => ?_, ne_of e hl (by intro z; cases z)⟩
  obtain ⟨q, d1, hv, vs, z1, z2, _⟩ := h.pts.mem a ha
  have n1 := h.nd1
  have n2 := h.nd2
  rw [List.nodup_cons] at n1 n2
  exact ⟨fun z => n1.1 (List.mem_map.mpr ⟨a, ha, z.symm⟩), ne_of e z2 (by intro z; cases z), ne_of hl z1 (by intro z; cases z), fun z => n2.1 (List.mem_map.mpr ⟨a, ha, z.symm⟩)⟩
/-- the rows of the innermost part are written -/
theorem Rdr.rows {vs : List V} {rs : List (List PyData)} (h : Rdr K C CP sf l ((p, rl) :: as) (q :: R) H) (hv : DtL K H vs (rs.map PyData.tuple)) :
    Rdr K C CP sf l ((p, rl) :: as) ({ q with rows := rs } :: R) (upd H rl (.lst vs)) ∧ Nx sf l ((p, rl) :: as) ((p, rl) :: as) H (upd H rl (.lst vs)) := by
  obtain ⟨d1, d2⟩ := h.dx
  obtain ⟨dx, e⟩ := h.obj
  obtain ⟨⟨dp, hv0, vs0, z1, z2, z3, z4⟩, hP⟩ := h.pts
  have hl := h.lst
  have x1 := d1 (p, rl) (List.mem_cons_self ..)
  dsimp only at x1 z1 z2
  have k : Kp [rl] H (upd H rl (.lst vs)) := kpW2 z2 trivial
  have n2 := h.nd2
  have npr : p ≠ rl := ne_of z1 z2 (by intro z; cases z)
  rw [List.nodup_cons, List.map_cons, List.nodup_cons] at n2
  refine ⟨⟨⟨dx, k.get e (by simp [x1.2.1])⟩, k.get hl (by simp [x1.2.2.2]), ⟨⟨dp, hv0, vs, k.get z1 (by simp [npr]), upd_same, z3.kp k, hv.kp k⟩, hP.kp k fun a ha => ?_⟩, h.nd1, h.nd2⟩, ⟨(Kp.reflM h.ms).write (adrs_iff.mpr (.inr (.inr ⟨_, List.mem_cons_self .., .inr rfl⟩))), fun b hb => .inl hb⟩⟩
  obtain ⟨q', d', hv', vs', y1, y2, _⟩ := hP.mem a ha
  refine ⟨?_, ?_⟩
  · have := ne_of y1 z2 (by intro z; cases z)
    simp [this]
  · simp only [List.mem_singleton]
    intro z
    exact n2.2.1 (List.mem_map.mpr ⟨a, ha, z⟩)
/-- the innermost part is taken away -/
theorem Rdr.pop (h : Rdr K C CP sf l ((p, rl) :: as) (q :: R) H) : Rdr K C CP sf l as R (upd H l (.lst (refs as))) ∧ Nx sf l ((p, rl) :: as) as H (upd H l (.lst (refs as))) ∧ PtH K CP (upd H l (.lst (refs as))) p rl q := by
  obtain ⟨d1, d2⟩ := h.dx
  obtain ⟨dx, e⟩ := h.obj
  obtain ⟨z, hP⟩ := h.pts
  have hl := h.lst
  have k : Kp [l] H (upd H l (.lst (refs as))) := kpW2 hl trivial
  have n1 := h.nd1
  have n2 := h.nd2
  rw [List.map_cons, List.nodup_cons, List.nodup_cons] at n1 n2
  have x1 := d1 (p, rl) (List.mem_cons_self ..)
  refine ⟨⟨⟨dx, k.get e (by simp [d2])⟩, upd_same, hP.kp k fun a ha => ?_, ?_, ?_⟩, ⟨(Kp.reflM h.ms).write (adrs_iff.mpr (.inr (.inl rfl))), fun b hb => .inl ?_⟩, z.kp k (by simp [Ne.symm x1.2.2.1]) (by simp [Ne.symm x1.2.2.2])⟩
  · have := d1 a (List.mem_cons_of_mem _ ha)
    exact ⟨by simp [Ne.symm this.2.2.1], by simp [Ne.symm this.2.2.2]⟩
  · rw [List.nodup_cons]
    exact ⟨fun z => n1.1 (List.mem_cons_of_mem _ z), n1.2.2⟩
  · rw [List.nodup_cons]
    exact ⟨fun z => n2.1 (List.mem_cons_of_mem _ z), n2.2.2⟩
  · rcases adrs_iff.mp hb with z | z | ⟨a, ha, z⟩
    · exact adrs_iff.mpr (.inl z)
    · exact adrs_iff.mpr (.inr (.inl z))
    · exact adrs_iff.mpr (.inr (.inr ⟨a, List.mem_cons_of_mem _ ha, z⟩))
/-- a new part is put at the end -/
theorem Rdr.push {H1 : Hp} (h : Rdr K C CP sf l as R H) (k : Kp [] H H1) (hp : H p = none) (hr : H rl = none) (hq : PtH K CP H1 p rl q) :
    Rdr K C CP sf l ((p, rl) :: as) (q :: R) (upd H1 l (.lst (refs ((p, rl) :: as)))) ∧ Nx sf l as ((p, rl) :: as) H (upd H1 l (.lst (refs ((p, rl) :: as)))) := by
  have h1 := h.kp0 k
  obtain ⟨d1, d2⟩ := h1.dx
  obtain ⟨dx, e⟩ := h1.obj
  have hl := h1.lst
  have ms := h.ms
  have out : ∀ b, H b = none → b ∉ adrs sf l as := fun b e m => by
    obtain ⟨o, z, _⟩ := ms b m
    rw [e] at z
    cases z
  have k2 : Kp [l] H1 (upd H1 l (.lst (refs ((p, rl) :: as)))) := kpW2 hl trivial
  have op := out p hp
  have or_ := out rl hr
  rw [adrs_iff] at op or_
  refine ⟨⟨⟨dx, k2.get e (by simp [d2])⟩, upd_same, ⟨hq.kp k2 ?_ ?_, h1.pts.kp k2 fun a ha => ?_⟩, ?_, ?_⟩, ⟨fun b o e => ⟨((Kp.reflM ms) b o e).1, fun n => k2.get (k.get e (by simp)) ?_⟩, fun b hb => ?_⟩⟩
  · simp only [List.mem_singleton]
    exact fun z => op (.inr (.inl z))
  · simp only [List.mem_singleton]
    exact fun z => or_ (.inr (.inl z))
  · have := d1 a ha
    exact ⟨by simp [Ne.symm this.2.2.1], by simp [Ne.symm this.2.2.2]⟩
  · have n1 := h.nd1
    rw [List.nodup_cons] at n1
    rw [List.map_cons, List.nodup_cons, List.nodup_cons, List.mem_cons]
    refine ⟨fun z => ?_, fun z => ?_, n1.2⟩
    · rcases z with z | z
      · exact op (.inl z.symm)
      · exact n1.1 z
    · obtain ⟨a, ha, z⟩ := List.mem_map.mp z
      exact op (.inr (.inr ⟨a, ha, .inl z.symm⟩))
  · have n2 := h.nd2
    rw [List.nodup_cons] at n2
    rw [List.map_cons, List.nodup_cons, List.nodup_cons, List.mem_cons]
    refine ⟨fun z => ?_, fun z => ?_, n2.2⟩
    · rcases z with z | z
      · exact or_ (.inr (.inl z.symm))
      · exact n2.1 z
    · obtain ⟨a, ha, z⟩ := List.mem_map.mp z
      exact or_ (.inr (.inr ⟨a, ha, .inr z.symm⟩))
  · simp only [List.mem_singleton]
    intro z
    exact n (adrs_iff.mpr (.inr (.inl z)))
  · rcases adrs_iff.mp hb with z | z | ⟨a, ha, z⟩
    · exact .inl (adrs_iff.mpr (.inl z))
    · exact .inl (adrs_iff.mpr (.inr (.inl z)))
    · rcases List.mem_cons.mp ha with rfl | ha
      · rcases z with rfl | rfl
        · exact .inr hp
        · exact .inr hr
      · exact .inl (adrs_iff.mpr (.inr (.inr ⟨a, ha, z⟩)))
end
/-- not too many rows -/
def few (n : Nat) (R : List Pt) : Prop := ∀ q ∈ R, q.rows.length ≤ n ∧ q.head.length ≤ 2
theorem atI06 (x : V) (xs : List V) : atI (x :: xs) 0 = some x := by
  unfold atI ixN
  simp
theorem few.mono {m n : Nat} {R : List Pt} (h : few m R) (z : m ≤ n) : few n R := fun q hq => ⟨Nat.le_trans (h q hq).1 z, (h q hq).2⟩
/-- the reader and all that it has made behind the heap H0 -/
structure Rfr (K : PySem.W.Frag) (C CP sf l : Addr) (as : List (Addr × Addr)) (R : List Pt) (H0 H : Hp) : Prop where
  r : Rdr K C CP sf l as R H
  kp : Kp [] H0 H
  fr : ∀ b ∈ adrs sf l as, H0 b = none
theorem Rfr.step {K : PySem.W.Frag} {C CP sf l : Addr} {as as' : List (Addr × Addr)} {R R' : List Pt} {H0 H H1 : Hp} (h : Rfr K C CP sf l as R H0 H) (n : Nx sf l as as' H H1) (r : Rdr K C CP sf l as' R' H1) : Rfr K C CP sf l as' R' H0 H1 :=
  ⟨r, h.kp.outs (fun b hb => .inl (h.fr b hb)) n.kp, fun b hb => by
    rcases n.nw b hb with z | z
    · exact h.fr b z
    · exact h.kp.freeM Ms.nil z⟩
theorem Rfr.kp0 {K : PySem.W.Frag} {C CP sf l : Addr} {as : List (Addr × Addr)} {R : List Pt} {H0 H H1 : Hp} (h : Rfr K C CP sf l as R H0 H) (k : Kp [] H H1) : Rfr K C CP sf l as R H0 H1 := ⟨h.r.kp0 k, h.kp.trans k, h.fr⟩
end Aw
namespace Aw
open PySem PySem.Spec L2
mutual
/-- data of ints, texts, None and tuples -/
def noB : PyData → Bool
  | .none => true
  | .int _ => true
  | .str _ => true
  | .tuple ds => noBs ds
  | _ => false
def noBs : List PyData → Bool
  | [] => true
  | d :: r => noB d && noBs r
end
mutual
theorem eqv_eq : ∀ d e : PyData, noB d = true → noB e = true → (PyData.eqv d e = true ↔ d = e)
  | .none, e, h, g => by cases e <;> simp [PyData.eqv, noB] at g ⊢
  | .int i, e, h, g => by cases e <;> simp [PyData.eqv, noB] at g ⊢
  | .str x, e, h, g => by cases e <;> simp [PyData.eqv, noB] at g ⊢
  | .tuple ds, .tuple es, h, g => by
    rw [noB] at h g
    rw [PyData.eqv, eqvs_eq ds es h g]
    constructor
    · intro e; rw [e]
    · intro e; injection e
  | .tuple ds, .none, h, g => by simp [PyData.eqv]
  | .tuple ds, .int _, h, g => by simp [PyData.eqv]
  | .tuple ds, .str _, h, g => by simp [PyData.eqv]
  | .tuple ds, .bool _, h, g => by simp [noB] at g
  | .tuple ds, .list _, h, g => by simp [noB] at g
  | .tuple ds, .dict _, h, g => by simp [noB] at g
  | .bool _, _, h, _ => by simp [noB] at h
  | .list _, _, h, _ => by simp [noB] at h
  | .dict _, _, h, _ => by simp [noB] at h
theorem eqvs_eq : ∀ ds es : List PyData, noBs ds = true → noBs es = true → (PyData.eqvAll ds es = true ↔ ds = es)
  | [], [], _, _ => by simp [PyData.eqvAll]
  | [], _ :: _, _, _ => by simp [PyData.eqvAll]
  | _ :: _, [], _, _ => by simp [PyData.eqvAll]
  | d :: ds, e :: es, h, g => by
    rw [noBs, Bool.and_eq_true] at h g
    rw [PyData.eqvAll, Bool.and_eq_true, eqv_eq d e h.1 g.1, eqvs_eq ds es h.2 g.2]
    constructor
    · rintro ⟨rfl, rfl⟩; rfl
    · intro z
      injection z with z1 z2
      exact ⟨z1, z2⟩
end
theorem Ex.noB : ∀ e : Ex, Aw.noB e.d = true
  | .int i => by rw [Ex.d, Aw.noB]
  | .name x => by rw [Ex.d, Aw.noB]
  | .bin o a b => by
    have h1 := Ex.noB a
    have h2 := Ex.noB b
    rw [Ex.d, Aw.noB]
    simp [noBs, Aw.noB, h1, h2]
theorem Ts.noB : ∀ t : Ts, Aw.noB t.d = true
  | .not t => by
    have h := Ts.noB t
    rw [Ts.d, Aw.noB]
    simp [noBs, Aw.noB, h]
  | .given x => by rw [Ts.d, Aw.noB]; simp [noBs, Aw.noB]
  | .rest e b r => by
    have h := Ex.noB e
    rw [Ts.d, Aw.noB]
    simp [noBs, Aw.noB, h]
  | .less a b => by
    have h1 := Ex.noB a
    have h2 := Ex.noB b
    rw [Ts.d, Aw.noB]
    simp [noBs, Aw.noB, h1, h2]
theorem Pl.noB (p : Pl) : Aw.noB p.d = true := by
  cases p with
  | set x e => have h := Ex.noB e; rw [Pl.d, Aw.noB]; simp [noBs, Aw.noB, h]
  | unset x => rw [Pl.d, Aw.noB]; simp [noBs, Aw.noB]
  | tell e => have h := Ex.noB e; rw [Pl.d, Aw.noB]; simp [noBs, Aw.noB, h]
  | say x => rw [Pl.d, Aw.noB]; simp [noBs, Aw.noB]
  | stop x => rw [Pl.d, Aw.noB]; simp [noBs, Aw.noB]
mutual
theorem Sm.noB : ∀ s : Sm, Aw.noB s.d = true
  | .pl p => by rw [Sm.d]; exact p.noB
  | .ifs t y z => by
    have h1 := Ts.noB t
    have h2 := Sm.noBs y
    have h3 := Sm.noBs z
    rw [Sm.d, Aw.noB]
    simp [Aw.noBs, Aw.noB, h1, h2, h3]
  | .rep k b => by
    have h2 := Sm.noBs b
    rw [Sm.d, Aw.noB]
    simp [Aw.noBs, Aw.noB, h2]
theorem Sm.noBs : ∀ b : List Sm, Aw.noBs (Sm.ds b) = true
  | [] => by rw [Sm.ds, Aw.noBs]
  | s :: r => by
    have h1 := Sm.noB s
    have h2 := Sm.noBs r
    rw [Sm.ds, Aw.noBs, h1, h2]
    rfl
end
/-- a value is a valid program, but for the bounds -/
structure Vp (K : PySem.W.Frag) (H : Hp) (v : V) (b : List Sm) (m : Nat) : Prop where
  d : Dt K H v (.tuple (Sm.ds b))
  vd : ∀ s ∈ b, Sm.vd 3 s
  sz : Sm.sizes b ≤ m
theorem Vp.kp {K : PySem.W.Frag} {H H1 : Hp} {v : V} {b : List Sm} {m : Nat} {M : List Addr} (h : Vp K H v b m) (k : Kp M H H1) : Vp K H1 v b m := ⟨h.d.kp k, h.vd, h.sz⟩
theorem Vp.mono {K : PySem.W.Frag} {H : Hp} {v : V} {b : List Sm} {m n : Nat} (h : Vp K H v b m) (z : m ≤ n) : Vp K H v b n := ⟨h.d, h.vd, Nat.le_trans h.sz z⟩
theorem Vp.b4 {K : PySem.W.Frag} {H : Hp} {v : V} {b : List Sm} {m : Nat} (h : Vp K H v b m) : VdB 4 b := h.vd
theorem Vp.dok {K : PySem.W.Frag} {H : Hp} {v : V} {b : List Sm} {m : Nat} (h : Vp K H v b m) (hm : m ≤ 100) : Dok (.tuple (Sm.ds b)) 20001 15 := by
  have := (Sm.vd.doks 4 b h.b4).tup
  exact this.mono (by have := h.sz; omega) (by omega)
theorem Vp.pair {K : PySem.W.Frag} {H : Hp} {v u : V} {b : List Sm} {m : Nat} {p : Addr} (hv : Vp K H v b m) (hu : Vp K H u b m) (hm : m ≤ 100) (e : H p = some (.lst [v, u])) :
    Dw [] K H (.ref p) (.list [.tuple (Sm.ds b), .tuple (Sm.ds b)]) ∧ ShwD (.list [.tuple (Sm.ds b), .tuple (Sm.ds b)]) 20 (300 * 40010) := by
  have hd := hv.dok hm
  refine ⟨.lst e (by simp) rfl fun i x d h1 h2 => ?_, ?_⟩
  · match i, h1, h2 with
    | 0, h1, h2 => cases h1; cases h2; exact hv.d.dw
    | 1, h1, h2 => cases h1; cases h2; exact hu.d.dw
  · have z := (Doks.cons hd (Doks.cons hd Doks.nil (Nat.le_refl _)) (Nat.le_refl _)).tup.lst
    exact (z.mono (by omega) (by omega) : Dok (.list [.tuple (Sm.ds b), .tuple (Sm.ds b)]) 40010 20).shw
mutual
theorem lay_noB : ∀ d : PyData, shb d = true → noB d = true → d.canLay0 = true
  | .none, _, _ => by rw [PyData.canLay0]
  | .int i, _, _ => by rw [PyData.canLay0]
  | .str x, h, _ => by rw [shb] at h; rw [PyData.canLay0]; exact h
  | .tuple ds, h, g => by rw [shb] at h; rw [noB] at g; rw [PyData.canLay0]; exact lay_noBs ds h g
  | .bool _, _, g => by simp [noB] at g
  | .list _, _, g => by simp [noB] at g
  | .dict _, _, g => by simp [noB] at g
theorem lay_noBs : ∀ ds : List PyData, shbs ds = true → noBs ds = true → PyData.canLayAll0 ds = true
  | [], _, _ => by rw [PyData.canLayAll0]
  | d :: r, h, g => by
    rw [shbs, Bool.and_eq_true] at h
    rw [noBs, Bool.and_eq_true] at g
    rw [PyData.canLayAll0, lay_noB d h.1 g.1, lay_noBs r h.2 g.2]
    rfl
end
theorem Vp.shaped {K : PySem.W.Frag} {H : Hp} {v : V} {b : List Sm} {m : Nat} (h : Vp K H v b m) (hm : m ≤ 100) : SeqAt.shaped (.tuple (Sm.ds b)) = true := by
  have hd := h.dok hm
  unfold SeqAt.shaped
  rw [lay_noB _ hd.sh (by rw [noB]; exact Sm.noBs b), decide_eq_true (Nat.le_trans hd.dp (by omega))]
  rfl
/-- methods and makers where they stand -/
theorem dfm_mk6 {K : PySem.W.Frag} {C f : Addr} {m q : Str} {st : Stmt} {ps : List Str}
    {oc kV doc pm cdv ct : Value} {od an : Option Addr} {osl : Array (Option Value)}
    (a : PySem.W.findIn K (.ref C) m = some (some (.ref f)))
    (l : K.lookup f = some ⟨oc, od, .func (PySem.W.fnOf m q (defArgs st) (defBody st) (defScope st) .none kV doc pm an cdv ct), osl⟩)
    (c : PySem.W.codeIn K cdv q = true) (k : PySem.W.keepIn K (.ref f) = true) (i : PySem.W.isFn K (.ref f) = true)
    (b : ∀ (kV doc pm : Value) (an : Option Addr) (cdv ct : Value) (us : List Value), us.length = ps.length →
      bindArgs (PySem.W.fnOf m q (defArgs st) (defBody st) (defScope st) .none kV doc pm an cdv ct) ⟨us, []⟩ = pure (ps.zip us)) :
    DfM K C m q st ps := by
  have F := fun_mk (st := st) l c k
  exact ⟨f, _, F, ⟨a, i, k⟩, F.binds b⟩
theorem na_mk6 {K : PySem.W.Frag} {C : Addr} {f : Str} (h : PySem.W.findIn K (.ref C) f = some none) : NoAttr K C f := h
theorem HasC.of6 {P : Program} {w : World} {K : PySem.W.Frag} {mg : Str → Option Value} {base : Heap} {CX : CXT} {x : Str} {C : Addr} {ps : List Str} {k : Nat} {sp : Sp} (h : HasM P w K mg base CX C "__init__" ps k sp)
    (m1 : PySem.W.makesIn K C = true) (kc : PySem.W.keepIn K (.ref C) = true) (m : mg x = some (.ref C)) : HasC P w K mg base CX x C ps k sp := by
  obtain ⟨f, fd, _, M, b, F⟩ := h
  exact ⟨f, fd, ⟨m1, M.at_, M.fn, kc⟩, m, b, F⟩
end Aw
namespace Aw
open PySem PySem.Spec PyProof.Rows L2
/-- what a law's base has beyond: nobody looks on, no files -/
structure Seer (P : Program) (base : Heap) : Prop where
  s : base.NoSeer
  t : P.given.tree = none
/-- a def that is running and may divide by any number -/
def SeerX (X : Cx) : Prop := Seer X.prog X.base ∧ X.A.depth + Builtin.pylongFrames < recursionLimit ∧ ∃ env l, X.stack = env :: l ∧ env.scope.isGenerator = false ∧ env.scope.isCoroutine = false ∧ env.builtins = builtinsNs ∧ env.globals = mainGlobals
theorem SeerX.room {X : Cx} {pins : List (Addr × Obj)} {σ : List (Option V)} {H : Hp} {s : Shared} (S : SeerX X) (I : Inv X pins σ H s) : PylongRoom (model X.prog X.w) X.A s := by
  obtain ⟨⟨h1, h2⟩, h3, env, l, h4, h5, h6, h7, h8⟩ := S
  exact PylongRoom.of I.nolimit h3 (SeerAt.of (h1.keeps I.bk) h2 (by rw [I.ok.frames, h4]) h5 h6 h7 h8)
theorem op_fdivS {X : Cx} (S : SeerX X) : OpR X (binaryOp .FloorDiv) (rI (fun _ j => j ≠ 0) fun i j => .int (i.fdiv j)) := by
  intro pins s σ H x y v u Q I rx ry h
  obtain ⟨i, j, rfl, rfl, hc, q⟩ := h
  obtain ⟨t, rfl⟩ := rx
  obtain ⟨t', rfl⟩ := ry
  exact floordiv_int hc ⟨.int (i.fdiv j), H, I.tok _, ⟨_, rfl⟩, q⟩ (.inr (S.room I))
/-- products of any size up to the model's line -/
def CMulV (i j : Int) : Prop := i.natAbs.log2 + j.natAbs.log2 < 134000000
theorem CMulV.ok {i j : Int} (h : CMulV i j) : IntMulOk i j := by
  have b : ∀ x : Int, Builtin.Int.intBits x ≤ x.natAbs.log2 + 1 := fun x => by
    unfold Builtin.Int.intBits
    split <;> omega
  have h1 := b i
  have h2 := b j
  have h3 : i.natAbs.log2 + j.natAbs.log2 < 134000000 := h
  refine CMulX.ok ?_
  show (Builtin.Int.intBits i : Int) + (Builtin.Int.intBits j : Int) ≤ 134217728
  omega
theorem op_mulV {X : Cx} : OpR X (binaryOp .Mult) (rI CMulV fun i j => .int (i * j)) := opI fun _ _ _ _ _ _ _ hc q => mul_int q hc.ok
theorem SeerX.of {CX : CXT} {P : Program} {w : World} {K : PySem.W.Frag} {mg : Str → Option Value} {base : Heap} {N : List Str} {qual : Str} {scope : Scope} {f : Addr} {cdv : Value} {A : Around} {outer : List Env} {s : Shared} {H : Hp} {E : XK} {k : Nat}
    (S : Seer P base) (hr : RoomG k (A.deeper (envOfC qual scope s.heap.objs.size f cdv))) (hk : 32 ≤ k) (hg : scope.isGenerator = false) (hc : scope.isCoroutine = false) : SeerX (cxOf CX P w K mg base N qual scope f cdv A outer s H E) :=
  ⟨S, by
    have h1 := hr.r.dp
    have h2 : (A.deeper (envOfC qual scope s.heap.objs.size f cdv)).depth + 3 * 32 + 5 < recursionLimit := by omega
    exact Nat.lt_of_lt_of_le (Nat.lt_of_le_of_lt (Nat.le_of_lt_succ (show _ < (A.deeper (envOfC qual scope s.heap.objs.size f cdv)).depth + 101 + 1 by
      show (A.deeper (envOfC qual scope s.heap.objs.size f cdv)).depth + 100 < _
      omega)) h2) (Nat.le_refl _), _, _, rfl, hg, hc, rfl, rfl⟩
theorem withS {CX : CXT} {P : Program} {w : World} {K : PySem.W.Frag} {mg : Str → Option Value} {base : Heap} {N : List Str} {qual : Str} {scope : Scope} {f : Addr} {cdv : Value} {A : Around} {outer : List Env} {s : Shared} {H : Hp} {E : XK} {k : Nat} {body : List Stmt} {G : TS → Prop}
    (S : Seer P base) (hr : RoomG k (A.deeper (envOfC qual scope s.heap.objs.size f cdv))) (hk : 32 ≤ k) (hg : scope.isGenerator = false) (hc : scope.isCoroutine = false)
    (h : SeerX (cxOf CX P w K mg base N qual scope f cdv A outer s H E).nox → ∃ t, PSs (cxOf CX P w K mg base N qual scope f cdv A outer s H E).nox body t ∧ G t) : ∃ t, PSs (cxOf CX P w K mg base N qual scope f cdv A outer s H E).nox body t ∧ G t := h (show SeerX (cxOf CX P w K mg base N qual scope f cdv A outer s H E) from SeerX.of S hr hk hg hc)
theorem lawS_core {P : Program} {w : World} {K : PySem.W.Frag} {mg mb : Str → Option Value} {k : Nat} {fa a : Addr}
    {x : Str} {s : Shared} {vs : List Value} {ns : List Int} (KX : K.In s.heap) (hns : s.heap.Ns mainGlobals mg)
    (hb : s.heap.Ns builtinsNs mb) (hbb : ∀ x : Str, x ≠ "__name__" → mb x = bootBuiltins x)
    (hlim : s.heap.NoLimit) (hse : s.heap.NoSeer) (hg : s.gens = #[])
    (ha : s.heap.get? a = some { cls := .type "list", data := .seq vs.toArray }) (hl : ns.length ≤ 63)
    (hr : RoomG k callerA) (hfa : mg "law" = some (.ref fa))
    (F : ∀ base : Heap, K.In base → base.Ns mainGlobals mg → base.NoSeer → Has P w K mg base CX0 "law" [x] k (spLaw K))
    (H : Hp) (hO : Only H) (hS : SqL K H a (ns.map V.int)) (hok : HOk P w H s.heap) (hA : ∀ b, H b ≠ none → b = a)
    (hK : H a ≠ none → K.lookup a = none) :
    codeAny (model P w) callerA (.call (.ref fa) ⟨[.ref a], []⟩)
      (fun r s' => r = .ok (.ret (.bool true)) ∧ OldK s.heap s'.heap ∧ s'.os = s.os ∧ AllBare s'.gens) s := by
  have isA : ∀ {b : Addr} {u : HO}, H b = some u → b = a := fun {b u} q => hA b (by rw [q]; simp)
  have keepD : ∀ {b : Addr} {m : Str → Option Value}, s.heap.Ns b m → (hidT s.heap H).Ns b m := by
    rintro b m ⟨o, es, ep, e, d, r⟩
    refine ⟨o, es, ep, hidT_get e ?_, d, r⟩
    cases q : H b with
    | none => rfl
    | some u =>
      cases isA q
      rw [ha] at e
      cases e
      exact nomatch (show Data.seq vs.toArray _ = Data.dict es ep from d)
  have hNS : (hidT s.heap H).NoSeer := by
    obtain ⟨⟨mc, c1, c2⟩, ⟨mm, m1, m2⟩, ⟨mi, i1, i2⟩, ⟨mg2, bm, ob, b1, b2, b3, b4⟩⟩ := hse
    refine ⟨⟨mc, keepD c1, c2⟩, ⟨mm, keepD m1, m2⟩, ⟨mi, keepD i1, i2⟩, ⟨mg2, bm, ob, keepD b1, b2, hidT_get b3 ?_, b4⟩⟩
    cases q : H bm with
    | none => rfl
    | some u =>
      cases isA q
      rw [ha] at b3
      cases b3
      exact nomatch (show (Value.type "list") = Value.type "module" from b4.1)
  have hKb : K.In (hidT s.heap H) := by
    intro b o e
    refine hidT_get (KX b o e) ?_
    cases q : H b with
    | none => rfl
    | some u =>
      cases isA q
      rw [hK (by rw [q]; simp)] at e
      cases e
  have hM : Mod K mg (hidT s.heap H) := by
    obtain ⟨mc, h1, h2⟩ := hlim
    exact ⟨hKb, keepD hns, ⟨mb, keepD hb, hbb⟩, ⟨mc, keepD h1, h2⟩⟩
  have e0 : Env0 P w K mg (hidT s.heap H) callerA [] s H := by
    refine ⟨rfl, hM, fun b o e => of_hidT e, Nat.le_of_eq (hidT_size _ _), trivial, fun b hb => ?_, hok, .of_eq hg⟩
    exact absurd (show b ∈ ([] : List Addr) from hb) (by simp)
  obtain ⟨f, fd, kp, m, bd, FN⟩ := F _ hKb (keepD hns) hNS
  cases hfa.symm.trans m
  have bb := bd s [.ref a] KX rfl
  have hsp : spLaw K [.ref a] H (fun v _ => v = .bl true) (fun _ _ _ => False) := ⟨a, ns, rfl, hS, hl, fun _ => rfl⟩
  refine codeAny_mono (FN.run callerA [] s H ⟨[.ref a], []⟩ [.ref a] [.ref a] _ _ hr e0 bb (.cons rfl .nil) hsp) ?_
  intro r s' h
  match r, h with
  | .ok (.ret u), h =>
    obtain ⟨v, H', os, bare, un, hok', r', q⟩ := h
    cases (show v = .bl true from q)
    cases (show u = Value.bool true from r')
    refine ⟨rfl, OldK.of_keep fun b o e => ?_, os, bare⟩
    cases q : H b with
    | none => exact un.keep b o e q (fun z => absurd (show b ∈ ([] : List Addr) from z) (by simp)) (by simp)
    | some u =>
      rcases hO b with z | ⟨ob, xs, z⟩
      · rw [q] at z
        cases z
      · have e1 := (hok b _ z).1
        rw [e] at e1
        cases e1
        exact (hok' b _ (un.frzs b _ _ z)).1
theorem lawS {P : Program} {w : World} {K : PySem.W.Frag} {mg mb : Str → Option Value} {k : Nat} {fa a : Addr}
    {x : Str} {s : Shared} {vs : List Value} {ns : List Int} (KX : K.In s.heap) (hns : s.heap.Ns mainGlobals mg)
    (hb : s.heap.Ns builtinsNs mb) (hbb : ∀ x : Str, x ≠ "__name__" → mb x = bootBuiltins x)
    (hlim : s.heap.NoLimit) (hse : s.heap.NoSeer) (hg : s.gens = #[])
    (ha : s.heap.get? a = some { cls := .type "list", data := .seq vs.toArray }) (hi : IntsAre vs ns)
    (hl : ns.length ≤ 63) (hr : RoomG k callerA) (hfa : mg "law" = some (.ref fa))
    (F : ∀ base : Heap, K.In base → base.Ns mainGlobals mg → base.NoSeer → Has P w K mg base CX0 "law" [x] k (spLaw K)) :
    codeAny (model P w) callerA (.call (.ref fa) ⟨[.ref a], []⟩)
      (fun r s' => r = .ok (.ret (.bool true)) ∧ OldK s.heap s'.heap ∧ s'.os = s.os ∧ AllBare s'.gens) s := by
  have rv := vals_ints hi
  have h63 : (63 : Nat) ≤ sizeLine := by decide
  have lenV := hi.length
  have core := lawS_core KX hns hb hbb hlim hse hg ha hl hr hfa F
  cases hk : K.lookup a with
  | some o =>
    have e := KX a o hk
    rw [ha] at e
    cases e
    refine core (fun _ => none) (fun _ => .inl rfl) (.inr ⟨_, vs.toArray, _, hk, rfl, rfl, rfl, ?_, by simpa using rv⟩)
      (fun b u z => nomatch (show (none : Option HO) = some u from z)) (fun b z => absurd rfl z) fun z => absurd rfl z
    rw [List.size_toArray, lenV]
    exact Nat.le_trans hl h63
  | none =>
    refine core (upd (fun _ => none) a (.frz { cls := .type "list", data := .seq vs.toArray } (.lst (ns.map V.int))))
      (fun b => ?_) (.inl (.inr ⟨_, upd_same⟩)) (fun b u z => ?_) (fun b z => ?_) fun _ => hk
    · by_cases hb : b = a
      · subst hb
        exact .inr ⟨_, _, upd_same⟩
      · exact .inl (upd_ne hb)
    · by_cases hb : b = a
      · subst hb
        rw [upd_same] at z
        cases z
        exact ⟨ha, by rw [List.length_map]; exact Nat.le_trans hl h63, vs, _, rv, ha⟩
      · rw [upd_ne hb] at z
        cases z
    · exact Classical.byContradiction fun hb => z (upd_ne hb)
theorem walkS {l : PySem.W.OpenLaw} {k : Nat} {q : Program} {loose : List Str}
    {XP : (Str → Option Value) → Heap → Prop} {YP : World → Heap → Prop} {d : DefRec} {K : Params → PySem.W.Frag}
    {x : Str} (hn : l.most = some 63) (hdf : d.params.defaults = []) (hnm : d.name = "law") (hr : RoomG k callerA)
    (hY : ∀ (w : World) (h : Heap), YP w h → (K w.params).In h)
    (F : ∀ (w : World) (mg : Str → Option Value) (h : Heap), (K w.params).In h → h.Ns mainGlobals mg →
      ∀ base : Heap, (K w.params).In base → base.Ns mainGlobals mg → base.NoSeer →
        Has l.prog w (K w.params) mg base CX0 "law" [x] k (spLaw (K w.params)))
    (hq : importsNone q = true) :
    PySem.W.WalkO q loose XP YP l.row.toRowW d [] (fun f vs => PySem.call f vs) := by
  refine Att.attach_call hn hdf fun w s₀ s₁ mg mb fa o pm cd doc a vs ns G Y ho hd hcd hmg hobj hints hlen hg => ?_
  have KX := hY w _ Y
  rw [hnm] at hmg
  exact lawS KX G.T.g G.T.b G.T.builtins G.T.nolimit (G.T.seer hq) hg hobj hints hlen hr hmg (F w mg _ KX G.T.g)
end Aw
namespace Aw
open PySem PySem.Spec PyProof.Rows L2
def CDivX (_ j : Int) : Prop := j ≠ 0 ∧ j.natAbs.log2 < 134000000
theorem op_fdivX {X : Cx} (S : SeerX X) : OpR X (binaryOp .FloorDiv) (rI CDivX fun i j => .int (i.fdiv j)) := fun pins s σ H x y v u Q I rx ry ⟨i, j, e1, e2, hc, q⟩ => op_fdivS S pins s σ H x y v u Q I rx ry ⟨i, j, e1, e2, hc.1, q⟩
theorem cr_allL {X : Cx} {K : PySem.W.Frag} (h : X.K = K) (hc : X.calm = true) : CallR X (.builtin "all") (rAll K) := by
  subst h
  exact cr_all hc
def LcET (K : PySem.W.Frag) (g : TG) (tt : TT) (te : TE) (vs : List Nat) (σ : L2.St) (Q : VK) : List V → Hp → Prop := fun us H1 => ∃ a xs, us = [.ref a] ∧ SqT K H1 a xs ∧ LcTurns (IteT K a) g tt te vs σ Q H1
theorem r_lcET {K : PySem.W.Frag} {ts : TA} {g : TG} {tt : TT} {te : TE} {vs : List Nat} {σ : L2.St} {Q : VK} {H : Hp} (h : ts σ H (LcET K g tt te vs σ Q)) : tLc (iEnumT K ts) g tt te vs σ H Q := by
  refine cast ?_ h
  rfl
theorem r_LcET {K : PySem.W.Frag} {g : TG} {tt : TT} {te : TE} {vs : List Nat} {σ : L2.St} {Q : VK} {H : Hp} {a : Addr} {xs : List V} (s : SqT K H a xs)
    (h : ∀ p, H p = none → ∃ R : Nat → Hp → Prop, R 0 (upd H p (.lst [])) ∧ (∀ i H, R i H → SqT K H a xs) ∧
      (∀ (i : Nat) (x : V) (T : Addr) (H : Hp), xs[i]? = some x → R i H → H T = none → g (.ref T) (wipe σ vs) (upd H T (.tup [.int (i : Nat), x])) (LcTurn tt te vs σ p (R (i + 1)))) ∧ ∀ H, R xs.length H → Q (.ref p) H) :
    LcET K g tt te vs σ Q [.ref a] H := by
  refine ⟨a, xs, rfl, s, fun p hp => ?_⟩
  obtain ⟨R, h0, hl, hs, hd⟩ := h p hp
  refine ⟨fun i m H => m = xs.length - i ∧ i ≤ xs.length ∧ R i H, ⟨_, rfl, Nat.zero_le _, h0⟩, ?_⟩
  rintro i m H ⟨rfl, hi, p'⟩
  have sl := hl i H p'
  by_cases hlt : i < xs.length
  · refine .inr ⟨⟨xs, xs[i], sl, List.getElem?_eq_getElem hlt⟩, R (i + 1), fun H' q => ⟨xs.length - (i + 1), by omega, rfl, hlt, q⟩, fun v H' y => ?_⟩
    obtain ⟨T, x, rfl, hT, rfl, hx⟩ := y
    exact hs i x T H (hx xs sl) p' hT
  · obtain rfl : i = xs.length := by omega
    exact .inl ⟨⟨xs, sl, by omega⟩, hd H p'⟩
def vecD (r : Rw) : PyData := .tuple (r.map PyData.int)
theorem vecD_inj {r s : Rw} (h : vecD r = vecD s) : r = s := by
  unfold vecD at h
  injection h with h
  have q : ∀ a b : List Int, a.map PyData.int = b.map PyData.int → a = b := by
    intro a
    induction a with
    | nil => intro b e; cases b with | nil => rfl | cons _ _ => cases e
    | cons x t ih =>
      intro b e
      cases b with
      | nil => cases e
      | cons y u =>
        rw [List.map_cons, List.map_cons] at e
        injection e with e1 e2
        injection e1 with e1
        rw [e1, ih u e2]
  exact q r s h
def VcV (K : PySem.W.Frag) (H : Hp) (v : V) (r : Rw) : Prop := ∃ a, v = .ref a ∧ SqT K H a (r.map V.int)
structure RwV (K : PySem.W.Frag) (H : Hp) (vs : List V) (rs : List Rw) : Prop where
  len : vs.length = rs.length
  all : ∀ (i : Nat) (v : V) (r : Rw), vs[i]? = some v → rs[i]? = some r → VcV K H v r
section
variable {K : PySem.W.Frag} {H H1 : Hp} {M : List Addr} {v : V} {r : Rw} {vs us : List V} {rs ss : List Rw}
theorem VcV.kp (h : VcV K H v r) (k : Kp M H H1) : VcV K H1 v r := by
  obtain ⟨a, rfl, hT⟩ := h
  exact ⟨a, rfl, sqT_kp k hT⟩
theorem RwV.kp (h : RwV K H vs rs) (k : Kp M H H1) : RwV K H1 vs rs := ⟨h.len, fun i v r e e' => (h.all i v r e e').kp k⟩
theorem RwV.nil : RwV K H [] [] := ⟨rfl, fun i v r e => by simp at e⟩
theorem RwV.cons (h1 : VcV K H v r) (h : RwV K H vs rs) : RwV K H (v :: vs) (r :: rs) := ⟨by rw [List.length_cons, List.length_cons, h.len], fun i u s e e' => by
  cases i with
  | zero => cases e; cases e'; exact h1
  | succ i => exact h.all i u s (by simpa using e) (by simpa using e')⟩
theorem RwV.one (h1 : VcV K H v r) : RwV K H [v] [r] := RwV.cons h1 RwV.nil
theorem RwV.app (h : RwV K H vs rs) (g : RwV K H us ss) : RwV K H (vs ++ us) (rs ++ ss) := by
  refine ⟨by rw [List.length_append, List.length_append, h.len, g.len], fun i u s e e' => ?_⟩
  by_cases hi : i < vs.length
  · rw [List.getElem?_append_left hi] at e
    rw [List.getElem?_append_left (by rw [← h.len]; exact hi)] at e'
    exact h.all i u s e e'
  · rw [List.getElem?_append_right (by omega)] at e
    rw [List.getElem?_append_right (by rw [← h.len]; omega), ← h.len] at e'
    exact g.all _ u s e e'
theorem RwV.inv (h : RwV K H vs (r :: rs)) : ∃ v us, vs = v :: us ∧ VcV K H v r ∧ RwV K H us rs := by
  cases vs with
  | nil => have := h.len; simp at this
  | cons v us => exact ⟨v, us, rfl, h.all 0 v r rfl rfl, by have := h.len; simpa using this, fun i u s e e' => h.all (i + 1) u s (by simpa using e) (by simpa using e')⟩
theorem RwV.at' (h : RwV K H vs rs) {i : Nat} {v : V} (e : vs[i]? = some v) : ∃ r, rs[i]? = some r ∧ VcV K H v r := by
  have hi := (List.getElem?_eq_some_iff.mp e).1
  exact ⟨rs[i]'(by rw [← h.len]; exact hi), List.getElem?_eq_getElem _, h.all i v _ e (List.getElem?_eq_getElem _)⟩
theorem row_at {r : Rw} {i : Nat} (h : i < r.length) : atI (r.map V.int) ((i : Nat) : Int) = some (.int (at0 r i)) := by
  refine atI_nat ?_
  rw [List.getElem?_map, at0_lt h]
  rfl
theorem VcV.dt (h : VcV K H v r) : Dt K H v (vecD r) := by
  obtain ⟨a, rfl, hT⟩ := h
  refine .tup hT (by rw [List.length_map, List.length_map]) fun i v d e e' => ?_
  rw [List.getElem?_map] at e e'
  obtain ⟨x, hx, rfl⟩ := Option.map_eq_some_iff.mp e
  rw [hx] at e'
  cases e'
  exact .int x
theorem VcV.dw (h : VcV K H v r) : Dw [] K H v (vecD r) := h.dt.dw
theorem vecD_noB (r : Rw) : noBs (r.map PyData.int) = true := by
  induction r with
  | nil => rw [List.map_nil, noBs]
  | cons x t ih => rw [List.map_cons, noBs, ih, noB]; rfl
theorem vecD_eqv (r s : Rw) : PyData.eqv (vecD r) (vecD s) = decide (r = s) := by
  rw [Bool.eq_iff_iff, decide_eq_true_eq]
  unfold vecD
  rw [PyData.eqv, eqvs_eq _ _ (vecD_noB r) (vecD_noB s)]
  exact ⟨fun h => vecD_inj (congrArg PyData.tuple h), fun h => by rw [h]⟩
end
def leadsO (r : Rw) (i : Nat) : List Nat := (List.range i).filter fun j => decide (at0 r j ≠ 0)
theorem leadsO_len (r : Rw) (i : Nat) : (leadsO r i).length ≤ i := by
  unfold leadsO
  exact Nat.le_trans (List.length_filter_le _ _) (by rw [List.length_range]; exact Nat.le_refl _)
theorem at0_of {r : Rw} {i : Nat} {x : Int} (h : r[i]? = some x) : at0 r i = x := by
  unfold at0
  rw [List.getD_eq_getElem?_getD, h]
  rfl
theorem leadsO_yes {r : Rw} {i : Nat} {x : Int} (h : r[i]? = some x) (n : x ≠ 0) : leadsO r (i + 1) = leadsO r i ++ [i] := by
  unfold leadsO
  rw [List.range_succ, List.filter_append, List.filter_cons_of_pos (by rw [at0_of h]; exact decide_eq_true n)]
  rfl
theorem leadsO_no {r : Rw} {i : Nat} {x : Int} (h : r[i]? = some x) (n : x = 0) : leadsO r (i + 1) = leadsO r i := by
  unfold leadsO
  rw [List.range_succ, List.filter_append, List.filter_cons_of_neg (by rw [at0_of h, n]; decide), List.filter_nil, List.append_nil]
theorem leadsO_cons (x : Int) (r : Rw) (i : Nat) : leadsO (x :: r) (i + 1) = (if x ≠ 0 then [0] else []) ++ (leadsO r i).map (· + 1) := by
  unfold leadsO
  rw [List.range_succ_eq_map, List.filter_cons, List.filter_map]
  have e : at0 (x :: r) 0 = x := rfl
  rw [e]
  have e2 : ((fun j => decide (at0 (x :: r) j ≠ 0)) ∘ Nat.succ) = fun j => decide (at0 r j ≠ 0) := rfl
  rw [e2]
  by_cases c : x ≠ 0
  · rw [if_pos (decide_eq_true c), if_pos c]
    rfl
  · rw [if_neg (by simpa using c), if_neg c]
    rfl
theorem leadsO_all : ∀ r : Rw, (leadsO r r.length = [] ∧ leadO r = r.length) ∨ ∃ j t, leadsO r r.length = j :: t ∧ leadO r = j
  | [] => .inl ⟨rfl, rfl⟩
  | x :: r => by
    rw [List.length_cons, leadsO_cons]
    unfold leadO
    rw [List.findIdx_cons]
    by_cases c : x ≠ 0
    · rw [if_pos c, decide_eq_true c]
      exact .inr ⟨0, _, rfl, rfl⟩
    · rw [if_neg c, decide_eq_false c, List.nil_append]
      rcases leadsO_all r with ⟨h1, h2⟩ | ⟨j, t, h1, h2⟩
      · rw [h1]
        exact .inl ⟨rfl, by unfold leadO at h2; rw [cond_false, h2]⟩
      · rw [h1]
        exact .inr ⟨j + 1, _, rfl, by unfold leadO at h2; rw [cond_false, h2]⟩
def isI : PyData → Bool
  | .int _ => true
  | _ => false
def isVcD (d : PyData) (n : Int) : Bool := match d with
  | .tuple ds => decide ((ds.length : Int) = n) && ds.all isI
  | _ => false
def spIsI (K : PySem.W.Frag) : Sp := fun vs H Q _ => ∃ (v : V) (d : PyData), vs = [v] ∧ Dw [] K H v d ∧ Q (.bl (isI d)) H
def spIsVc (K : PySem.W.Frag) : Sp := fun vs H Q _ => ∃ (v : V) (d : PyData) (n : Int), vs = [v, .int n] ∧ Dw [] K H v d ∧ dsz d ≤ 1000000 ∧ ∀ H', Kp [] H H' → Q (.bl (isVcD d n)) H'
/-- products that can be made -/
def MulOk (r s : Rw) (t : Int) : Prop := ∀ y ∈ s, t.natAbs.log2 + y.natAbs.log2 < 134000000
def spVplus (K : PySem.W.Frag) : Sp := fun vs H Q _ => ∃ (v u : V) (r s : Rw) (t : Int), vs = [v, u, .int t] ∧ VcV K H v r ∧ VcV K H u s ∧ r.length < 1000 ∧ MulOk r s t ∧ ∀ (H' : Hp) (p : V), Kp [] H H' → VcV K H' p (vplus r s t) → Q p H'
def spTvec (K : PySem.W.Frag) : Sp := fun vs H Q _ => ∃ (v : V) (r : Rw) (t : Int), vs = [v, .int t] ∧ VcV K H v r ∧ r.length < 1000 ∧ MulOk r r t ∧ ∀ (H' : Hp) (p : V), Kp [] H H' → VcV K H' p (tvec r t) → Q p H'
def spLead (K : PySem.W.Frag) : Sp := fun vs H Q _ => ∃ (v : V) (r : Rw), vs = [v] ∧ VcV K H v r ∧ r.length < 1000 ∧ ∀ H', Kp [] H H' → Q (.int (leadO r : Nat)) H'
def spCleared (K : PySem.W.Frag) : Sp := fun vs H Q _ => ∃ (a : Addr) (us : List V) (rs : List Rw) (n i P : Nat), vs = [.ref a, .int (i : Nat)] ∧ H a = some (.lst us) ∧ RwV K H us rs ∧ rs.length < 1000 ∧ i < n ∧ n < 1000 ∧ P < 2 ^ capB ∧ SafeC n i P rs ∧
  ∀ (H' : Hp) (b : Addr) (ws : List V), H b = none → Kp [] H H' → H' b = some (.lst ws) → RwV K H' ws (cleared i rs) → Q (.ref b) H'
def spBasis (K : PySem.W.Frag) : Sp := fun vs H Q _ => ∃ (a : Addr) (us : List V) (rs : List Rw) (n : Nat), vs = [.int (n : Nat), .ref a] ∧ SqT K H a us ∧ RwV K H us rs ∧ rs.length < 1000 ∧ n < 1000 ∧ LnN n rs ∧ BasOk n n (ledR n rs) [] ∧
  ∀ (H' : Hp) (b : Addr) (ws : List V), Kp [] H H' → SqT K H' b ws → RwV K H' ws (basisF n rs) → Q (.ref b) H'
end Aw
namespace Aw
open PySem PySem.Spec PyProof.Rows L2
theorem stp_snoc (i : Nat) (l r : Rw) : ∀ (rs o f : List Rw), stp i l (rs ++ [r]) o f = if r = l then stp i l rs o f else if at0 (redR i r l) i = 0 then ((stp i l rs o f).1 ++ [redR i r l], (stp i l rs o f).2) else ((stp i l rs o f).1, (stp i l rs o f).2 ++ [redR i r l])
  | [], o, f => by
    rw [List.nil_append, stp]
    simp only [stp]
  | s :: rs, o, f => by
    rw [List.cons_append, stp, stp]
    split
    · exact stp_snoc i l r rs o f
    · split
      · exact stp_snoc i l r rs _ f
      · exact stp_snoc i l r rs o _
theorem dec_intL (x y : Int) : decide (V.int x = V.int y) = decide (x = y) := decide_eq_decide.mpr ⟨fun e => by injection e, fun e => by rw [e]⟩
theorem abs_nat (x : Int) : (if x < 0 then -x else x) = (x.natAbs : Int) := by split <;> omega
theorem least_head {i : Nat} {left : List Rw} {m : Nat} (hm : ∃ r ∈ left, (at0 r i).natAbs = m) (hl : ∀ r ∈ left, m ≤ (at0 r i).natAbs) : ∃ t, (left.filter fun r => decide ((at0 r i).natAbs = m)) = leastO i left :: t := by
  obtain ⟨r, hr, e⟩ := hm
  have hne : left ≠ [] := fun z => by rw [z] at hr; cases hr
  obtain ⟨h1, h2, h3⟩ := leastO_spec (i := i) hne
  have e2 : left.find? (fun r => decide ((at0 r i).natAbs = m)) = left.find? (isMin i left) := by
    have q : ∀ l : List Rw, (∀ s ∈ l, s ∈ left) → l.find? (fun r => decide ((at0 r i).natAbs = m)) = l.find? (isMin i left) := by
      intro l
      induction l with
      | nil => exact fun _ => rfl
      | cons s t ih =>
        intro hs
        have c : decide ((at0 s i).natAbs = m) = isMin i left s := by
          rw [Bool.eq_iff_iff, decide_eq_true_eq, isMin_iff]
          constructor
          · intro c u hu
            have := hl u hu
            omega
          · intro c
            have := c r hr
            have := hl s (hs s (List.mem_cons_self ..))
            omega
        rw [List.find?_cons, List.find?_cons, c, ih fun u hu => hs u (List.mem_cons_of_mem _ hu)]
    exact q left fun _ h => h
  rw [h1] at e2
  have q := List.head?_filter (p := fun r => decide ((at0 r i).natAbs = m)) (l := left)
  rw [e2] at q
  cases hf : left.filter (fun r => decide ((at0 r i).natAbs = m)) with
  | nil => rw [hf] at q; cases q
  | cons a t =>
    rw [hf] at q
    cases q
    exact ⟨t, rfl⟩
theorem vec_shaped (r : Rw) (_ : r.length ≤ 1000) : SeqAt.shaped (vecD r) = true := by
  refine (Cmp.tup (n := 0) fun d hd => ?_).shaped (by decide)
  obtain ⟨x, _, rfl⟩ := List.mem_map.mp hd
  exact Cmp.int
theorem log_lt {x : Int} {k : Nat} (h : x.natAbs < 2 ^ k) (hk : 0 < k) : x.natAbs.log2 < k := by
  by_cases c : x.natAbs = 0
  · rw [c]
    exact Nat.lt_of_le_of_lt (Nat.le_of_eq (by decide)) hk
  · exact (Nat.log2_lt c).mpr h
/-- a turn's product -/
theorem mul_ok {n i D G P : Nat} {left others : List Rw} (h : LI n i D G P left others) (hk : 1 < left.length) (hD : D ≤ G) (hG : G < 2 ^ capB) (hP : P < 2 ^ capB) {r : Rw} (hr : r ∈ left) (hi : i < n) : MulOk r (leastO i left) (0 - qOf i r (leastO i left)) ∧ at0 (leastO i left) i ≠ 0 ∧ (at0 (leastO i left) i).natAbs.log2 < 134000000 := by
  obtain ⟨_, hm, hl⟩ := leastO_spec (i := i) (ne_len hk)
  have hz := h.nz _ hm
  have hmD : meas i left ≤ D := by
    rcases h.ph with q | q
    · omega
    · exact q.1
  have em : meas i left = (at0 (leastO i left) i).natAbs := rfl
  refine ⟨fun y hy => ?_, hz, Nat.lt_of_lt_of_le (log_lt (k := capB) (by omega) cap_pos) cap_100⟩
  have q1 := h.b1 _ hm y hy
  have q2 := fd_le (a := at0 r i) hz
  have q3 := h.b1 r hr (at0 r i) (at0_mem (by rw [h.l1 r hr]; exact hi))
  have e1 : (0 - qOf i r (leastO i left)).natAbs = (qOf i r (leastO i left)).natAbs := by omega
  rw [e1]
  have q4 : (qOf i r (leastO i left)).natAbs ≤ P + G := by
    have h0 : 1 ≤ (at0 (leastO i left) i).natAbs := by omega
    have q5 := Nat.mul_le_mul_left (qOf i r (leastO i left)).natAbs h0
    unfold qOf at q5 ⊢
    omega
  have hp2 : 2 ^ (capB + 1) = 2 ^ capB * 2 := Nat.pow_succ ..
  have a1 : (qOf i r (leastO i left)).natAbs.log2 < (capB + 1) := log_lt (k := (capB + 1)) (by omega) (Nat.succ_pos _)
  have a2 : y.natAbs.log2 < capB := log_lt (k := capB) (by omega) cap_pos
  have cc := capB_eq
  omega
/-- some rows of a list -/
theorem lc_rows {K : PySem.W.Frag} {tt : TT} {te : TE} {ws : List Nat} {σ : L2.St} {H : Hp} {Q : VK} {j : Nat} {a : Addr} {us : List V} {rs : List Rw} (f : Rw → Bool) (h : H a = some (.lst us)) (hr : RwV K H us rs) (hz : rs.length ≤ 1000)
    (ht : ∀ (b : Addr) (r : Rw) (H' : Hp) (R : Bool → Hp → Prop), r ∈ rs → Kp [] H H' → SqT K H' b (r.map V.int) → (∀ H'', Kp [] H' H'' → R (f r) H'') → tt ((wipe σ ws).set j (some (.ref b))) H' R)
    (he : ∀ (v : V) (H' : Hp) (R : VK), R v H' → te ((wipe σ ws).set j (some v)) H' R)
    (hw : ∀ v : V, wipe ((wipe σ ws).set j (some v)) ws = wipe σ ws)
    (k : ∀ (q : Addr) (H' : Hp) (vs : List V), H q = none → Kp [] H H' → H' q = some (.lst vs) → RwV K H' vs (rs.filter f) → Q (.ref q) H') : LcL K (gName j) tt te ws σ Q (.ref a) H := by
  refine r_LcL (SqL.of h) fun q hq => ⟨fun i H' => Kp [] H H' ∧ ∃ vs, H' q = some (.lst vs) ∧ RwV K H' vs ((rs.take i).filter f), ⟨Kp.nil.new hq, [], upd_same, RwV.nil⟩, fun i H' ⟨z, _⟩ => SqL.of (z.get h (by simp)), ?_, ?_⟩
  · rintro i x H' hx ⟨k1, vs, hq1, hv⟩
    obtain ⟨r, hri, hxr⟩ := hr.at' hx
    obtain ⟨b, rfl, hb⟩ := hxr.kp k1
    have htk : rs.take (i + 1) = rs.take i ++ [r] := by rw [List.take_add_one, hri]; rfl
    refine r_name (r_LcTurn (hw _) (ht b r H' _ (List.mem_of_getElem? hri) k1 hb fun H'' k2 => ?_))
    have hq2 := k2.get hq1 (by simp)
    have k12 := k1.trans k2
    have hv2 := hv.kp k2
    have hb2 := sqT_kp k2 hb
    have hvl := hv.len
    cases hf : f r with
    | true =>
      rw [if_pos rfl]
      have kw : Kp [q] H'' (upd H'' q (.lst (vs ++ [.ref b]))) := kpW hq2
      refine he _ H'' _ (r_LcEnd hq2 ?_ ⟨k12.own hq, vs ++ [.ref b], upd_same, ?_⟩)
      · have q1 := List.length_filter_le f (rs.take i)
        rw [List.length_take] at q1
        rw [sizeLine_eq]
        omega
      · rw [htk, List.filter_append, List.filter_cons_of_pos (by exact hf), List.filter_nil]
        exact (hv2.kp kw).app (RwV.one ⟨b, rfl, sqT_kp kw hb2⟩)
    | false =>
      rw [if_neg (by decide)]
      refine ⟨k12, vs, hq2, ?_⟩
      rw [htk, List.filter_append, List.filter_cons_of_neg (by rw [hf]; decide), List.filter_nil, List.append_nil]
      exact hv2
  · rintro H' ⟨k1, vs, hq1, hv⟩
    rw [hr.len, List.take_length] at hv
    exact k q H' vs hq k1 hq1 hv
end Aw
namespace Aw
open PySem PySem.Spec PyProof.Rows L2
/-- some rows of a tuple -/
theorem lc_rowsT {K : PySem.W.Frag} {tt : TT} {te : TE} {ws : List Nat} {σ : L2.St} {H : Hp} {Q : VK} {j : Nat} {a : Addr} {us : List V} {rs : List Rw} (f : Rw → Bool) (h : SqT K H a us) (hr : RwV K H us rs) (hz : rs.length ≤ 1000)
    (ht : ∀ (b : Addr) (r : Rw) (H' : Hp) (R : Bool → Hp → Prop), r ∈ rs → Kp [] H H' → SqT K H' b (r.map V.int) → (∀ H'', Kp [] H' H'' → R (f r) H'') → tt ((wipe σ ws).set j (some (.ref b))) H' R)
    (he : ∀ (v : V) (H' : Hp) (R : VK), R v H' → te ((wipe σ ws).set j (some v)) H' R)
    (hw : ∀ v : V, wipe ((wipe σ ws).set j (some v)) ws = wipe σ ws)
    (k : ∀ (q : Addr) (H' : Hp) (vs : List V), H q = none → Kp [] H H' → H' q = some (.lst vs) → RwV K H' vs (rs.filter f) → Q (.ref q) H') : LcT K (gName j) tt te ws σ Q (.ref a) H := by
  refine r_LcT h fun q hq => ⟨fun i H' => Kp [] H H' ∧ ∃ vs, H' q = some (.lst vs) ∧ RwV K H' vs ((rs.take i).filter f), ⟨Kp.nil.new hq, [], upd_same, RwV.nil⟩, fun i H' ⟨z, _⟩ => sqT_kp z h, ?_, ?_⟩
  · rintro i x H' hx ⟨k1, vs, hq1, hv⟩
    obtain ⟨r, hri, hxr⟩ := hr.at' hx
    obtain ⟨b, rfl, hb⟩ := hxr.kp k1
    have htk : rs.take (i + 1) = rs.take i ++ [r] := by rw [List.take_add_one, hri]; rfl
    refine r_name (r_LcTurn (hw _) (ht b r H' _ (List.mem_of_getElem? hri) k1 hb fun H'' k2 => ?_))
    have hq2 := k2.get hq1 (by simp)
    have k12 := k1.trans k2
    have hv2 := hv.kp k2
    have hb2 := sqT_kp k2 hb
    have hvl := hv.len
    cases hf : f r with
    | true =>
      rw [if_pos rfl]
      have kw : Kp [q] H'' (upd H'' q (.lst (vs ++ [.ref b]))) := kpW hq2
      refine he _ H'' _ (r_LcEnd hq2 ?_ ⟨k12.own hq, vs ++ [.ref b], upd_same, ?_⟩)
      · have q1 := List.length_filter_le f (rs.take i)
        rw [List.length_take] at q1
        rw [sizeLine_eq]
        omega
      · rw [htk, List.filter_append, List.filter_cons_of_pos (by exact hf), List.filter_nil]
        exact (hv2.kp kw).app (RwV.one ⟨b, rfl, sqT_kp kw hb2⟩)
    | false =>
      rw [if_neg (by decide)]
      refine ⟨k12, vs, hq2, ?_⟩
      rw [htk, List.filter_append, List.filter_cons_of_neg (by rw [hf]; decide), List.filter_nil, List.append_nil]
      exact hv2
  · rintro H' ⟨k1, vs, hq1, hv⟩
    rw [hr.len, List.take_length] at hv
    exact k q H' vs hq k1 hq1 hv
theorem cutV_oneL {y : V} {r : List V} : cutV (y :: r) (some 1) none = r := by
  have e1 : HT.sIx (y :: r).length 0 (some 1) = 1 := by
    rw [show (1 : Int) = ((1 : Nat) : Int) from rfl, HT.sIx_nat]
    rw [List.length_cons]
    omega
  unfold cutV
  rw [HT.sIx_none, e1]
  simp
theorem mulOk_neg {r : Rw} {P : Nat} (hP : P < 2 ^ capB) (h : ∀ x ∈ r, x.natAbs ≤ P) : MulOk r r (-1) := fun y hy => by
  have q := h y hy
  have a2 : y.natAbs.log2 < capB := log_lt (k := capB) (by omega) cap_pos
  have cc := capB_eq
  have a1 : (-1 : Int).natAbs.log2 = 0 := by decide
  omega
theorem mulOk_red {n i P F : Nat} {r l : Rw} (hP : P < 2 ^ capB) (hF : F < 2 ^ capB) (hr : r.length = n) (hi : i < n) (hb : ∀ x ∈ r, x.natAbs ≤ F) (hl : ∀ x ∈ l, x.natAbs ≤ P) (hz : at0 l i ≠ 0) : MulOk r l (0 - qOf i r l) := fun y hy => by
  have q1 := hl y hy
  have q2 := fd_le (a := at0 r i) hz
  have q3 := hb (at0 r i) (at0_mem (by omega))
  have e1 : (0 - qOf i r l).natAbs = (qOf i r l).natAbs := by omega
  rw [e1]
  have q4 : (qOf i r l).natAbs ≤ F + 1 := by
    have h0 : 1 ≤ (at0 l i).natAbs := by omega
    unfold qOf
    rcases Nat.lt_or_ge (F + 1) ((at0 r i).fdiv (at0 l i)).natAbs with c | c
    · have q5 := Nat.mul_le_mul_right (at0 l i).natAbs c
      have q6 := Nat.mul_le_mul_left (F + 1) h0
      have e3 : (F + 1).succ * (at0 l i).natAbs = (F + 1) * (at0 l i).natAbs + (at0 l i).natAbs := Nat.succ_mul ..
      omega
    · exact c
  have hp2 : 2 ^ (capB + 1) = 2 ^ capB * 2 := Nat.pow_succ ..
  have a1 : (qOf i r l).natAbs.log2 < (capB + 1) := log_lt (k := (capB + 1)) (by omega) (Nat.succ_pos _)
  have a2 : y.natAbs.log2 < capB := log_lt (k := capB) (by omega) cap_pos
  have cc := capB_eq
  omega
theorem lead_lt (r : Rw) (n : Nat) : decide (((leadO r : Nat) : Int) < ((n : Nat) : Int)) = decide (leadO r < n) := decide_eq_decide.mpr (by omega)
end Aw
namespace Aw
namespace Zt
open PySem PySem.Spec PyProof.Rows L2 HT
section
variable {prog : Program} {w : World} {A : Around} {E : Value → Shared → Prop} {s : Shared}
theorem zipT_item_held {z TI TO T i1 i2 l1 l2 : Addr} {f : Bool} {oT : Obj} {k1 k2 : Nat} {xs ys : Array Value} {x y : Value} {Q : Value → Shared → Prop} (D : ZipApart z TI TO i1 i2 l1 l2)
    (hz : IsZipHeld s.heap z TI TO T f) (hT : s.heap.get? T = some oT) (hTI : IsPair s.heap TI (.ref i1) (.ref i2))
    (h1 : s.heap.IsTupleIter i1 l1 k1) (h2 : s.heap.IsTupleIter i2 l2 k2) (hl1 : s.heap.IsTuple l1 xs) (hl2 : s.heap.IsTuple l2 ys) (hx : xs[k1]? = some x) (hy : ys[k2]? = some y)
    (hQ : ∀ h', IsZipHeld h' z TI TO T true → h'.IsTupleIter i1 l1 (k1 + 1) → h'.IsTupleIter i2 l2 (k2 + 1) → IsPair h' s.heap.objs.size x y → h'.objs.size = s.heap.objs.size + 1 →
      (∀ c o, c ≠ z → c ≠ i1 → c ≠ i2 → s.heap.get? c = some o → h'.get? c = some o) → Q (.ref s.heap.objs.size) { s with heap := h' }) :
    wpAny (model prog w) A (Builtin.«zip.__next__» ⟨[.ref z], []⟩) (fun fin s' => ∃ v, fin = .done (.ret v) ∧ Q v s') E s := by
  show wpAny _ _ (field (.ref z) 2 >>= _) _ _ _
  refine wpAny_bind (wpAny_field hz rfl (x := .bool false) rfl ?_)
  show wpAny _ _ (field (.ref z) 3 >>= _) _ _ _
  refine wpAny_bind (wpAny_field hz rfl (x := .ref TI) rfl ?_)
  refine wpAny_bind (wpAny_seqItems hTI rfl ?_)
  show wpAny _ _ (Builtin.SmallTypes.ownedTupleIsFree (.ref z) >>= _) _ _ _
  refine wpAny_bind (wpAny_tupleHeld_zip hz hT fun ha hza hsa => ?_)
  simp only [Bool.false_eq_true, if_false]
  refine wpAny_bind ?_
  rw [← Array.forIn_toList]
  simp only [List.forIn_cons, List.forIn_nil]
  refine wpAny_bind (wpAny_bind (wpAny_holding ?_))
  show wpAny _ _ (Builtin.SmallTypes.nextOf (.ref i1) >>= _) _ _ _
  refine wpAny_bind (RZ.nextOf_tuple_item (s := { s with heap := ha }) (h1.extBut hsa.extBut D.i1z) (hl1.extBut hsa.extBut D.l1z) hx fun hb h1b hsb => wpAny_pure ?_)
  refine wpAny_pure ?_
  refine wpAny_bind (wpAny_bind (wpAny_holding ?_))
  show wpAny _ _ (Builtin.SmallTypes.nextOf (.ref i2) >>= _) _ _ _
  refine wpAny_bind (RZ.nextOf_tuple_item (s := { s with heap := hb }) ((h2.extBut hsa.extBut D.i2z).extBut hsb.extBut D.i12.symm) ((hl2.extBut hsa.extBut D.l2z).extBut hsb.extBut D.l2i1) hy fun hc h2c hsc => wpAny_pure ?_)
  refine wpAny_pure (wpAny_pure ?_)
  show wpAny _ _ (newTuple [x, y] >>= _) _ _ _
  refine wpAny_bind (wpAny_newTuple ?_)
  have hsz : hc.objs.size = s.heap.objs.size := by rw [hsc.1, hsb.1, hsa.1]
  have hzc : IsZipHeld hc z TI TO T true := hsc.extBut _ _ D.i2z.symm (hsb.extBut _ _ D.i1z.symm hza)
  have hk : ∀ c o, c ≠ z → c ≠ i1 → c ≠ i2 → s.heap.get? c = some o → hc.get? c = some o := fun c o c1 c2 c3 e => hsc.extBut _ _ c3 (hsb.extBut _ _ c2 (hsa.extBut _ _ c1 e))
  have h1c : hc.IsTupleIter i1 l1 (k1 + 1) := h1b.extBut hsc.extBut D.i12
  refine wpAny_pure ⟨_, rfl, ?_⟩
  show Q (.ref hc.objs.size) _
  have hp : IsPair (hc.push { cls := .type "tuple", data := .seq #[x, y] }) hc.objs.size x y := Heap.get?_push_size _ rfl
  have hz4 : (hc.push { cls := .type "tuple", data := .seq #[x, y] }).objs.size = hc.objs.size + 1 := Heap.size_push ..
  rw [hsz] at hp hz4 ⊢
  exact hQ _ (Heap.get?_push_of_some _ hzc) (h1c.at fun o e => Heap.get?_push_of_some _ e) (h2c.at fun o e => Heap.get?_push_of_some _ e) hp hz4 fun c o c1 c2 c3 e => Heap.get?_push_of_some _ (hk c o c1 c2 c3 e)
theorem zipT_end_held {z TI TO T i1 i2 l1 l2 : Addr} {f : Bool} {oT : Obj} {k1 k2 : Nat} {xs ys : Array Value} {Q : Fin → Shared → Prop} (hh : A.handled = none) (D : ZipApart z TI TO i1 i2 l1 l2)
    (hz : IsZipHeld s.heap z TI TO T f) (hT : s.heap.get? T = some oT) (hTI : IsPair s.heap TI (.ref i1) (.ref i2))
    (h1 : s.heap.IsTupleIter i1 l1 k1) (h2 : s.heap.IsTupleIter i2 l2 k2) (hl1 : s.heap.IsTuple l1 xs) (hl2 : s.heap.IsTuple l2 ys) (hend : xs[k1]? = none ∨ ys[k2]? = none)
    (hE : ∀ h' e, (∀ c o, c ≠ z → c ≠ i1 → c ≠ i2 → s.heap.get? c = some o → h'.get? c = some o) → (∃ o, h'.get? e = some o ∧ o.cls = .type "StopIteration") → E (.ref e) { s with heap := h' }) :
    wpAny (model prog w) A (Builtin.«zip.__next__» ⟨[.ref z], []⟩) Q E s := by
  show wpAny _ _ (field (.ref z) 2 >>= _) _ _ _
  refine wpAny_bind (wpAny_field hz rfl (x := .bool false) rfl ?_)
  show wpAny _ _ (field (.ref z) 3 >>= _) _ _ _
  refine wpAny_bind (wpAny_field hz rfl (x := .ref TI) rfl ?_)
  refine wpAny_bind (wpAny_seqItems hTI rfl ?_)
  show wpAny _ _ (Builtin.SmallTypes.ownedTupleIsFree (.ref z) >>= _) _ _ _
  refine wpAny_bind (wpAny_tupleHeld_zip hz hT fun ha hza hsa => ?_)
  simp only [Bool.false_eq_true, if_false]
  refine wpAny_bind ?_
  rw [← Array.forIn_toList]
  simp only [List.forIn_cons, List.forIn_nil]
  refine wpAny_bind (wpAny_bind (wpAny_holding ?_))
  show wpAny _ _ (Builtin.SmallTypes.nextOf (.ref i1) >>= _) _ _ _
  cases hx : xs[k1]? with
  | none =>
    refine wpAny_bind (RZ.nextOf_tuple_end (s := { s with heap := ha }) hh (h1.extBut hsa.extBut D.i1z) (hl1.extBut hsa.extBut D.l1z) hx fun hb e hsb he => ?_)
    exact hE hb e (fun c o c1 c2 _ x => hsb _ _ c2 (hsa.extBut _ _ c1 x)) he
  | some x =>
    have hy : ys[k2]? = none := by rcases hend with h | h; rw [hx] at h; cases h; exact h
    refine wpAny_bind (RZ.nextOf_tuple_item (s := { s with heap := ha }) (h1.extBut hsa.extBut D.i1z) (hl1.extBut hsa.extBut D.l1z) hx fun hb h1b hsb => wpAny_pure ?_)
    refine wpAny_pure ?_
    refine wpAny_bind (wpAny_bind (wpAny_holding ?_))
    show wpAny _ _ (Builtin.SmallTypes.nextOf (.ref i2) >>= _) _ _ _
    refine wpAny_bind (RZ.nextOf_tuple_end (s := { s with heap := hb }) hh ((h2.extBut hsa.extBut D.i2z).extBut hsb.extBut D.i12.symm) ((hl2.extBut hsa.extBut D.l2z).extBut hsb.extBut D.l2i1) hy fun hc e hsc he => ?_)
    exact hE hc e (fun c o c1 c2 c3 x => hsc _ _ c3 (hsb.extBut _ _ c2 (hsa.extBut _ _ c1 x))) he
theorem nextZ_item {z TI TO T i1 i2 l1 l2 : Addr} {f : Bool} {oT : Obj} {k1 k2 : Nat} {xs ys : Array Value} {x y : Value} {Q : Option Value → Shared → Prop} (D : ZipApart z TI TO i1 i2 l1 l2)
    (hz : IsZipHeld s.heap z TI TO T f) (hT : s.heap.get? T = some oT) (hTI : IsPair s.heap TI (.ref i1) (.ref i2))
    (h1 : s.heap.IsTupleIter i1 l1 k1) (h2 : s.heap.IsTupleIter i2 l2 k2) (hl1 : s.heap.IsTuple l1 xs) (hl2 : s.heap.IsTuple l2 ys) (hx : xs[k1]? = some x) (hy : ys[k2]? = some y)
    (hQ : ∀ h', IsZipHeld h' z TI TO T true → h'.IsTupleIter i1 l1 (k1 + 1) → h'.IsTupleIter i2 l2 (k2 + 1) → IsPair h' s.heap.objs.size x y → h'.objs.size = s.heap.objs.size + 1 →
      (∀ c o, c ≠ z → c ≠ i1 → c ≠ i2 → s.heap.get? c = some o → h'.get? c = some o) → Q (some (.ref s.heap.objs.size)) { s with heap := h' }) :
    wpAny (model prog w) A (pyNext (.ref z)) Q E s := by
  have hTy : s.TypeIs (.ref z) "zip" := ⟨_, hz, rfl⟩
  unfold pyNext
  exact wpAny_bind (wpAny_attempt (wpAny_callSpecial?_slot (name := Str.ofString "__next__") hTy F.slot_zip_next
    (wpAny_call_entry F.slot_zip_next hTy F.entry_zip_next
      (zipT_item_held D hz hT hTI h1 h2 hl1 hl2 hx hy fun h' a1 a3 a4 a5 a6 a7 => wpAny_pure (hQ h' a1 a3 a4 a5 a6 a7)) (F.args_zip_next_1 _))))
theorem nextZ_end {z TI TO T i1 i2 l1 l2 : Addr} {f : Bool} {oT : Obj} {k1 k2 : Nat} {xs ys : Array Value} {Q : Option Value → Shared → Prop} (hh : A.handled = none) (D : ZipApart z TI TO i1 i2 l1 l2)
    (hz : IsZipHeld s.heap z TI TO T f) (hT : s.heap.get? T = some oT) (hTI : IsPair s.heap TI (.ref i1) (.ref i2))
    (h1 : s.heap.IsTupleIter i1 l1 k1) (h2 : s.heap.IsTupleIter i2 l2 k2) (hl1 : s.heap.IsTuple l1 xs) (hl2 : s.heap.IsTuple l2 ys) (hend : xs[k1]? = none ∨ ys[k2]? = none)
    (hQ : ∀ h', (∀ c o, c ≠ z → c ≠ i1 → c ≠ i2 → s.heap.get? c = some o → h'.get? c = some o) → Q none { s with heap := h' }) : wpAny (model prog w) A (pyNext (.ref z)) Q E s := by
  have hTy : s.TypeIs (.ref z) "zip" := ⟨_, hz, rfl⟩
  unfold pyNext
  refine wpAny_bind (wpAny_attempt (wpAny_callSpecial?_slot (name := Str.ofString "__next__") hTy F.slot_zip_next
    (wpAny_call_entry F.slot_zip_next hTy F.entry_zip_next (zipT_end_held hh D hz hT hTI h1 h2 hl1 hl2 hend fun h' e hk he => ?_) (F.args_zip_next_1 _))))
  obtain ⟨o, ho, hc⟩ := he
  refine wpAny_bind (wpAny_isInstance (T := "StopIteration") (b := true) ⟨o, ho, hc⟩ isSubtype_stop ?_)
  exact wpAny_pure (hQ _ hk)
end
theorem zip_len0 : typeLookup (.type "zip") "__len__" = pure none := am_miss_of_fast (by decide +kernel)
theorem zip_hint0 : typeLookup (.type "zip") "__length_hint__" = pure none := am_miss_of_fast (by decide +kernel)
/-- a zip amid its run; I: the place of its first iterator -/
structure Zrun (h : Heap) (I l1 l2 : Nat) (xs ys : Array Value) (i : Nat) : Prop where
  pair : IsPair h (I + 2) (.ref I) (.ref (I + 1))
  it1 : h.IsTupleIter I l1 i
  it2 : h.IsTupleIter (I + 1) l2 i
  ls1 : h.IsTuple l1 xs
  ls2 : h.IsTuple l2 ys
  out : (i = 0 ∧ IsZip h (I + 4) (I + 2) (I + 3) .none ∧ ∃ a b, IsPair h (I + 3) a b) ∨ ∃ T f oT, IsZipHeld h (I + 4) (I + 2) (I + 3) T f ∧ h.get? T = some oT ∧ I + 5 < T
/-- the pairs that it gave -/
structure Zout (h : Heap) (I : Nat) (xs ys : Array Value) (as : List Addr) (i : Nat) : Prop where
  len : as.length = i
  rise : as.Pairwise (· < ·)
  low : ∀ a ∈ as, I + 5 < a
  pairs : ∀ (j : Nat) (a : Addr), as[j]? = some a → ∃ x y, xs[j]? = some x ∧ ys[j]? = some y ∧ IsPair h a x y
theorem Zout.at' {h h' : Heap} {I : Nat} {xs ys : Array Value} {as : List Addr} {i : Nat} (z : Zout h I xs ys as i) (k : ∀ (c : Nat) o, I + 5 < c → h.get? c = some o → h'.get? c = some o) : Zout h' I xs ys as i :=
  ⟨z.len, z.rise, z.low, fun j a e => let ⟨x, y, h1, h2, h3⟩ := z.pairs j a e; ⟨x, y, h1, h2, k _ _ (z.low a (List.mem_of_getElem? e)) h3⟩⟩
theorem Zout.snoc {h : Heap} {I : Nat} {a : Addr} {xs ys : Array Value} {as : List Addr} {i : Nat} {x y : Value} (z : Zout h I xs ys as i) (hb : ∀ b ∈ as, b < a) (ha : I + 5 < a) (e1 : xs[i]? = some x) (e2 : ys[i]? = some y) (e3 : IsPair h a x y) : Zout h I xs ys (as ++ [a]) (i + 1) := by
  refine ⟨by rw [List.length_append, z.len]; rfl, List.pairwise_append.mpr ⟨z.rise, List.pairwise_singleton _ _, fun b hbm c hc => by rw [List.mem_singleton.mp hc]; exact hb b hbm⟩, fun b hbm => ?_, fun j b e => ?_⟩
  · rcases List.mem_append.mp hbm with q | q
    · exact z.low b q
    · rw [List.mem_singleton.mp q]
      exact ha
  · rcases Nat.lt_or_ge j as.length with q | q
    · rw [List.getElem?_append_left q] at e
      exact z.pairs j b e
    · rw [List.getElem?_append_right q] at e
      have hj : j = i := by
        have := (List.getElem?_eq_some_iff.mp e).1
        rw [List.length_singleton] at this
        have := z.len
        omega
      have hz : j - as.length = 0 := by have := z.len; omega
      rw [hz] at e
      cases e
      rw [hj]
      exact ⟨x, y, e1, e2, e3⟩
section
variable {prog : Program} {w : World} {A : Around} {E : Value → Shared → Prop} {R : Result → Shared → Prop} {I l1 l2 : Nat} {xs ys : Array Value} {s : Shared}
theorem Zrun.at' {h h' : Heap} {i : Nat} (z : Zrun h I l1 l2 xs ys i) (b1 : l1 < I) (b2 : l2 < I) (k : ∀ (c : Nat) o, c ≠ I + 5 → h.get? c = some o → h'.get? c = some o) : Zrun h' I l1 l2 xs ys i := by
  have n : ∀ {c : Nat}, c < I + 5 → c ≠ I + 5 := fun q => Nat.ne_of_lt q
  refine ⟨k _ _ (n (by omega)) z.pair, z.it1.at fun o e => k _ o (n (by omega)) e, z.it2.at fun o e => k _ o (n (by omega)) e, z.ls1.at fun o e => k _ o (n (by omega)) e, z.ls2.at fun o e => k _ o (n (by omega)) e, ?_⟩
  rcases z.out with ⟨h0, h1, a, b, h2⟩ | ⟨T, f, oT, h1, h2, h3⟩
  · exact .inl ⟨h0, k _ _ (n (by omega)) h1, a, b, k _ _ (n (by omega)) h2⟩
  · exact .inr ⟨T, f, oT, k _ _ (n (by omega)) h1, k _ _ (Nat.ne_of_gt h3) h2, h3⟩
theorem Zrun.next {i : Nat} {Q : Option Value → Shared → Prop} (z : Zrun s.heap I l1 l2 xs ys i) (b1 : l1 < I) (b2 : l2 < I) (hsz : I + 5 < s.heap.objs.size) {x y : Value} (hx : xs[i]? = some x) (hy : ys[i]? = some y)
    (hQ : ∀ h', Zrun h' I l1 l2 xs ys (i + 1) → IsPair h' s.heap.objs.size x y → h'.objs.size = s.heap.objs.size + 1 → (∀ (c : Nat) o, (c < I ∨ I + 4 < c) → s.heap.get? c = some o → h'.get? c = some o) → Q (some (.ref s.heap.objs.size)) { s with heap := h' }) :
    wpAny (model prog w) A (pyNext (.ref (I + 4))) Q E s := by
  have D := PySem.W.ktu_apart I l1 l2 b1 b2
  have off : ∀ {c : Nat}, (c < I ∨ I + 4 < c) → c ≠ I + 4 ∧ c ≠ I + 3 ∧ c ≠ I ∧ c ≠ I + 1 := fun q => by omega
  rcases z.out with ⟨h0, h1, a, b, h2⟩ | ⟨T, f, oT, h1, h2, h3⟩
  · refine RZ.pyNext_zipT_item D h1 z.pair h2 z.it1 z.it2 z.ls1 z.ls2 hx hy fun h' g1 g2 g3 g4 g5 g6 gk => ?_
    have kk : ∀ (c : Nat) o, (c < I ∨ I + 4 < c) → s.heap.get? c = some o → h'.get? c = some o := fun c o q => let ⟨n1, n2, n3, n4⟩ := off q; gk c o n1 n2 n3 n4
    refine hQ h' ⟨gk _ _ D.TIz D.TITO D.TIi1 D.TIi2 z.pair, g3, g4, z.ls1.at fun o => kk _ o (.inl b1), z.ls2.at fun o => kk _ o (.inl b2), .inr ⟨_, false, _, g1, g5, hsz⟩⟩ g5 g6 kk
  · refine nextZ_item D h1 h2 z.pair z.it1 z.it2 z.ls1 z.ls2 hx hy fun h' g1 g3 g4 g5 g6 gk => ?_
    have kk : ∀ (c : Nat) o, (c < I ∨ I + 4 < c) → s.heap.get? c = some o → h'.get? c = some o := fun c o q => let ⟨n1, n2, n3, n4⟩ := off q; gk c o n1 n3 n4
    refine hQ h' ⟨gk _ _ D.TIz D.TIi1 D.TIi2 z.pair, g3, g4, z.ls1.at fun o => kk _ o (.inl b1), z.ls2.at fun o => kk _ o (.inl b2), .inr ⟨T, true, _, g1, kk _ _ (.inr (by omega)) h2, h3⟩⟩ g5 g6 kk
theorem Zrun.done {i : Nat} {Q : Option Value → Shared → Prop} (z : Zrun s.heap I l1 l2 xs ys i) (hh : A.handled = none) (b1 : l1 < I) (b2 : l2 < I) (hx : xs[i]? = none)
    (hQ : ∀ h', (∀ (c : Nat) o, (c < I ∨ I + 4 < c) → s.heap.get? c = some o → h'.get? c = some o) → Q none { s with heap := h' }) :
    wpAny (model prog w) A (pyNext (.ref (I + 4))) Q E s := by
  have D := PySem.W.ktu_apart I l1 l2 b1 b2
  have off : ∀ {c : Nat}, (c < I ∨ I + 4 < c) → c ≠ I + 4 ∧ c ≠ I + 3 ∧ c ≠ I ∧ c ≠ I + 1 := fun q => by omega
  rcases z.out with ⟨h0, h1, a, b, h2⟩ | ⟨T, f, oT, h1, h2, h3⟩
  · refine RZ.pyNext_zipT_end hh D h1 z.pair h2 z.it1 z.it2 z.ls1 z.ls2 (.inl hx) fun h' gk => hQ h' fun c o q => let ⟨n1, n2, n3, n4⟩ := off q; gk c o n1 n2 n3 n4
  · refine nextZ_end hh D h1 h2 z.pair z.it1 z.it2 z.ls1 z.ls2 (.inl hx) fun h' gk => hQ h' fun c o q => let ⟨n1, n2, n3, n4⟩ := off q; gk c o n1 n3 n4
/-- the list's loop over the zip -/
theorem zip_drain (b1 : l1 < I) (b2 : l2 < I) (hn : xs.size = ys.size) (hz : xs.size ≤ sizeLine) (hh : A.handled = none) (res : Value) :
    ∀ (k i : Nat) (s : Shared) (as : List Addr) (c : Nat), xs.size - i = k → i ≤ xs.size → Zrun s.heap I l1 l2 xs ys i → s.heap.get? (I + 5) = some { cls := .type "list", dict := none, data := .seq (as.map Value.ref).toArray c, slots := #[] } →
      Zout s.heap I xs ys as i → (∀ a ∈ as, a < s.heap.objs.size) →
      (∀ h' as' c', (∀ (b : Nat) o, b < I → s.heap.get? b = some o → h'.get? b = some o) → h'.get? (I + 5) = some { cls := .type "list", dict := none, data := .seq (as'.map Value.ref).toArray c', slots := #[] } → Zout h' I xs ys as' xs.size → R (.ok (.ret res)) { s with heap := h' }) →
      codeAny (model prog w) A (.builtin "list.extend.loop" ⟨[.ref (I + 5), .ref (I + 4), res], []⟩) R s := by
  intro k
  induction k with
  | zero =>
    intro i s as c hk hi zr hS zo hlt hR
    have ei : i = xs.size := by omega
    refine codeAny_builtin F.entry_extend_loop (Around.under_plainId F.plain_extend_loop _ ▸ ?_)
    show wpAny _ A.in1 (pyNext (.ref (I + 4)) >>= _) _ _ _
    refine wpAny_bind (zr.done (A := A.in1) hh b1 b2 (Array.getElem?_eq_none (by omega)) fun h' gk => wpAny_pure ?_)
    refine hR h' as c (fun b o q => gk b o (.inl q)) (gk _ _ (.inr (by omega)) hS) ?_
    rw [← ei]
    exact zo.at' fun b o q => gk b o (.inr (by omega))
  | succ k ih =>
    intro i s as c hk hi zr hS zo hlt hR
    have hix : i < xs.size := by omega
    have hiy : i < ys.size := by omega
    have hIs : I + 5 < s.heap.objs.size := Heap.lt_size hS
    refine codeAny_builtin F.entry_extend_loop (Around.under_plainId F.plain_extend_loop _ ▸ ?_)
    show wpAny _ A.in1 (pyNext (.ref (I + 4)) >>= _) _ _ _
    refine wpAny_bind (zr.next b1 b2 hIs (Array.getElem?_eq_getElem hix) (Array.getElem?_eq_getElem hiy) fun h' zr' hp hs' gk => ?_)
    have hS' := gk _ _ (.inr (by omega)) hS
    have zo' := (zo.at' fun b o q => gk b o (.inr (by omega))).snoc hlt hIs (Array.getElem?_eq_getElem hix) (Array.getElem?_eq_getElem hiy) hp
    show wpAny _ A.in1 (updateSeq (I + 5) (·.push (.ref s.heap.objs.size)) >>= _) _ _ _
    refine wpAny_bind (wpAny_updateSeq hS' rfl (wpAny_pure ⟨plainId_quiet F.plain_extend_loop _, ?_⟩) ?_ ?_)
    · have up : ∀ (b : Nat) o, b ≠ I + 5 → h'.get? b = some o → (h'.update (I + 5) (Obj.mapSeq (·.push (.ref s.heap.objs.size)))).get? b = some o := fun b o q e => (Heap.get?_update_other _ _ (Ne.symm q)).trans e
      have hS2 := Heap.get?_update_self (Obj.mapSeq (·.push (Value.ref s.heap.objs.size))) hS' rfl
      have hsz2 : (h'.update (I + 5) (Obj.mapSeq (·.push (.ref s.heap.objs.size)))).objs.size = s.heap.objs.size + 1 := by
        rw [← hs']
        exact (Heap.SameBut.update ..).1
      have e3 : (as.map Value.ref).toArray.push (.ref s.heap.objs.size) = ((as ++ [s.heap.objs.size]).map Value.ref).toArray := by
        rw [List.push_toArray, List.map_append]
        rfl
      refine ih (i + 1) _ (as ++ [s.heap.objs.size]) (if ((as.map Value.ref).toArray.push (.ref s.heap.objs.size)).size == (as.map Value.ref).toArray.size then c else c + 1) (by omega) hix (zr'.at' b1 b2 up) (hS2.trans ?_) (zo'.at' fun b o q => up b o (Nat.ne_of_gt q)) (fun a ha => ?_) fun h2 as2 c2 k2 e2 z2 => ?_
      · rw [← e3]
        rfl
      · show a < (h'.update (I + 5) (Obj.mapSeq (·.push (.ref s.heap.objs.size)))).objs.size
        rw [hsz2]
        rcases List.mem_append.mp ha with q | q
        · exact Nat.lt_succ_of_lt (hlt a q)
        · rw [List.mem_singleton.mp q]
          exact Nat.lt_succ_self _
      · exact hR h2 as2 c2 (fun b o q e => k2 b o q (up b o (by omega) (gk b o (.inl q) e))) e2 z2
    · rw [List.size_toArray, List.length_map, zo.len]
      omega
    · show ((as.map Value.ref).toArray.push _).size ≤ _
      rw [Array.size_push, List.size_toArray, List.length_map, zo.len]
      omega
/-- list(z) of a zip that has not begun -/
theorem zip_list {Q : Value → Shared → Prop} (b1 : l1 < I) (b2 : l2 < I) (hn : xs.size = ys.size) (hz : xs.size ≤ sizeLine) (hh : A.handled = none) (hI : s.heap.objs.size = I + 5) (zr : Zrun s.heap I l1 l2 xs ys 0) (zi : IsZip s.heap (I + 4) (I + 2) (I + 3) .none)
    (hQ : ∀ h' as c, (∀ (b : Nat) o, b < I → s.heap.get? b = some o → h'.get? b = some o) → h'.get? (I + 5) = some { cls := .type "list", dict := none, data := .seq (as.map Value.ref).toArray c, slots := #[] } → Zout h' I xs ys as xs.size → Q (.ref (I + 5)) { s with heap := h' }) :
    wpAny (model prog w) A (call (.type "list") [.ref (I + 4)]) Q E s := by
  refine callType_codes (Q₁ := fun o s1 => o = .ref (I + 5) ∧ s1 = { s with heap := s.heap.push { cls := .type "list", data := .seq #[] } }) F.called_list (F.typeCall_list_1 _) F.entry_list_init (code_list_new _ ⟨by rw [hI], rfl⟩) fun o s1 e => ?_
  obtain ⟨rfl, rfl⟩ := e
  have g0 : (s.heap.push { cls := .type "list", data := .seq #[] }).get? (I + 5) = some { cls := .type "list", data := .seq #[] } := by
    rw [← hI]
    exact Heap.get?_push_size _ rfl
  have k0 : ∀ (b : Nat) o, s.heap.get? b = some o → (s.heap.push { cls := .type "list", data := .seq #[] }).get? b = some o := fun b o e => Heap.get?_push_of_some _ e
  generalize s.heap.push { cls := .type "list", data := .seq #[] } = h0 at g0 k0
  refine ⟨⟨_, g0, rfl⟩, F.args_list_init_2 _ _, ?_⟩
  show wpAny _ A.in1.in1 (do let old ← Builtin.List.listItems (.ref (I + 5)); Builtin.List.listUpdate (.ref (I + 5)) (fun _ => #[]); letGo old.toList.reverse; Builtin.List.listExtendWith (.ref (I + 5)) (.ref (I + 4)) .none) _ _ _
  refine wpAny_bind ?_
  unfold Builtin.List.listItems
  refine wpAny_bind (wpAny_seqItems g0 rfl (wpAny_pure ?_))
  show wpAny _ _ (updateSeq (I + 5) (fun _ => #[]) >>= fun _ => letGo (#[] : Array Value).toList.reverse >>= fun _ => Builtin.List.listExtendWith (.ref (I + 5)) (.ref (I + 4)) .none) _ _ _
  refine wpAny_bind (wpAny_updateSeq g0 rfl (wpAny_bind (wpAny_letGo ?_)))
  have up : ∀ (h : Heap) (f : Obj → Obj) (b : Nat) o, b ≠ I + 5 → h.get? b = some o → (h.update (I + 5) f).get? b = some o := fun h f b o q e => (Heap.get?_update_other _ _ (Ne.symm q)).trans e
  have g1 := Heap.get?_update_self (Obj.mapSeq (fun _ => (#[] : Array Value))) g0 rfl
  have k1 := up h0 (Obj.mapSeq (fun _ => (#[] : Array Value)))
  generalize h0.update (I + 5) (Obj.mapSeq (fun _ => (#[] : Array Value))) = h1 at g1 k1
  have z1 : Zrun h1 I l1 l2 xs ys 0 := zr.at' b1 b2 fun c o q e => k1 c o q (k0 c o e)
  have y1 := k1 (I + 4) _ (by omega) (k0 (I + 4) _ zi)
  unfold Builtin.List.listExtendWith
  refine wpAny_bind (wpAny_typeOf (T := "zip") ⟨_, y1, rfl⟩ ?_)
  have n1 : Builtin.List.listSameRef (.ref (I + 5)) (.ref (I + 4)) = false := by simp [Builtin.List.listSameRef]
  rw [if_neg (by rw [n1]; decide)]
  refine wpAny_bind (wpAny_pyIter_zip y1 (wpAny_bind (wpAny_holding ?_)))
  unfold Builtin.List.listLengthHint
  refine wpAny_bind (wpAny_specialOf (T := "zip") ⟨_, y1, rfl⟩ zip_len0 ?_)
  show wpAny _ _ (specialOf (Value.ref (I + 4)) (Str.ofString "__length_hint__") >>= _) _ _ _
  refine wpAny_bind (wpAny_specialOf (T := "zip") ⟨_, y1, rfl⟩ zip_hint0 (wpAny_pure ?_))
  show wpAny _ _ (rule "list.extend.makes-room" >>= fun _ => Builtin.List.listTouch (.ref (I + 5)) >>= fun _ => again (.builtin "list.extend.loop" ⟨[.ref (I + 5), .ref (I + 4), .none], []⟩)) _ _ _
  refine wpAny_bind (wpAny_rule (wpAny_bind ?_))
  show wpAny _ _ (updateSeq (I + 5) (·.push .none) >>= fun _ => updateSeq (I + 5) (·.pop)) _ _ _
  refine wpAny_bind (wpAny_updateSeq g1 rfl ?_)
  have g2 := Heap.get?_update_self (Obj.mapSeq (·.push Value.none)) g1 rfl
  have k2 := up h1 (Obj.mapSeq (·.push Value.none))
  generalize h1.update (I + 5) (Obj.mapSeq (·.push Value.none)) = h2 at g2 k2
  refine wpAny_updateSeq (hz := by seq_fits) g2 rfl ?_
  have g3 := Heap.get?_update_self (Obj.mapSeq (·.pop)) g2 rfl
  have k3 := up h2 (Obj.mapSeq (·.pop))
  generalize h2.update (I + 5) (Obj.mapSeq (·.pop)) = h3 at g3 k3
  have z3 : Zrun h3 I l1 l2 xs ys 0 := z1.at' b1 b2 fun c o q e => k3 c o q (k2 c o q e)
  refine wpAny_pure ⟨plainId_quiet F.plain_extend_loop _, ?_⟩
  have g4 : h3.get? (I + 5) = some { cls := .type "list", dict := none, data := .seq (([] : List Addr).map Value.ref).toArray 2, slots := #[] } := g3.trans (by simp [Obj.mapSeq])
  refine zip_drain (A := A.in1) b1 b2 hn hz hh .none xs.size 0 { s with heap := h3 } [] 2 (by omega) (by omega) z3 g4 ⟨rfl, .nil, fun a ha => (List.not_mem_nil ha).elim, fun j a e => by cases e⟩ (fun a ha => (List.not_mem_nil ha).elim) fun h' as c kk e zo => ?_
  exact ⟨rfl, hQ h' as c (fun b o q e => kk b o q (k3 b o (by omega) (k2 b o (by omega) (k1 b o (by omega) (k0 b o e))))) e zo⟩
end
theorem tup_lt {h : Heap} {a : Addr} {xs : Array Value} (z : h.IsTuple a xs) : a < h.objs.size := by
  obtain ⟨o, e, _⟩ := z
  exact Heap.lt_size e
def rZipT (K : PySem.W.Frag) : List V → Hp → VK → Prop := fun vs H Q => ∃ (a b : Addr) (kvs : List (Key × V)), vs = [.ref a, .ref b] ∧ SqT K H a (kvs.map fun q => kV q.1) ∧ SqT K H b (kvs.map fun q => q.2) ∧
  ∀ (H' : Hp) (p : Addr) (ts : List Addr), (∀ b o, H b = some o → H' b = some o) → H p = none → (∀ t ∈ ts, H t = none) → p ∉ ts → H' p = some (.lst (ts.map V.ref)) → Paired (fun (t : Addr) (q : Key × V) => H' t = some (.tup [kV q.1, q.2])) ts kvs → Q (.ref p) H'
theorem laid_pairs {X : Cx} {pins : List (Addr × Obj)} {σ : L2.St} {H : Hp} {s : Shared} {h2 : Heap} {S c : Nat} {kvs : List (Key × V)} {as : List Addr} (I : Inv X pins σ H s) (hS : s.heap.objs.size ≤ S) (hz : kvs.length ≤ sizeLine) (hk : ∀ b o, s.heap.get? b = some o → h2.get? b = some o)
    (eS : h2.get? S = some { cls := .type "list", dict := none, data := .seq (as.map Value.ref).toArray c, slots := #[] }) (hl : as.length = kvs.length) (rise : as.Pairwise (· < ·)) (low : ∀ a ∈ as, S < a)
    (prs : ∀ (j : Nat) (a : Addr), as[j]? = some a → ∃ q x y, kvs[j]? = some q ∧ RelV (kV q.1) x ∧ RelV q.2 y ∧ IsPair h2 a x y) :
    ∃ H' : Hp, (∀ b o, H b = some o → H' b = some o) ∧ H S = none ∧ (∀ t ∈ as, H t = none) ∧ S ∉ as ∧ H' S = some (.lst (as.map V.ref)) ∧ Paired (fun (t : Addr) (q : Key × V) => H' t = some (.tup [kV q.1, q.2])) as kvs ∧ Inv X pins σ H' { s with heap := h2 } := by
  have lows : ∀ a ∈ as, s.heap.objs.size ≤ a := fun a ha => Nat.le_of_lt (Nat.lt_of_le_of_lt hS (low a ha))
  have no : S ∉ as := fun z => Nat.lt_irrefl _ (low S z)
  have nd : as.Nodup := rise.imp fun q => Nat.ne_of_lt q
  have f1 : ∀ t ∈ as, H t = none := fun t ht => I.hok.fresh (lows t ht)
  have f2 : H S = none := I.hok.fresh hS
  have at1 := LiI.putT_at as kvs (upd H S (.lst (as.map V.ref))) hl nd
  have at2 : LiI.putT (upd H S (.lst (as.map V.ref))) as kvs S = some (.lst (as.map V.ref)) := by rw [LiI.putT_off as kvs _ no, upd_same]
  have at3 : ∀ b, b ∉ as → b ≠ S → LiI.putT (upd H S (.lst (as.map V.ref))) as kvs b = H b := fun b n1 n2 => by rw [LiI.putT_off as kvs _ n1, upd_ne n2]
  generalize LiI.putT (upd H S (.lst (as.map V.ref))) as kvs = G at at1 at2 at3
  have old : ∀ b o, H b = some o → G b = some o := fun b o e => by
    refine (at3 b (fun z => ?_) fun z => ?_).trans e
    · rw [f1 b z] at e
      cases e
    · rw [z, f2] at e
      cases e
  have out : ∀ b o, s.heap.get? b = some o → b ∉ as ∧ b ≠ S := fun b o e => by
    have hb := Heap.lt_size e
    exact ⟨fun z => Nat.lt_irrefl _ (Nat.lt_of_lt_of_le hb (lows b z)), Nat.ne_of_lt (Nat.lt_of_lt_of_le hb hS)⟩
  refine ⟨G, old, f2, f1, no, at2, at1, ?_⟩
  refine I.call' (ch := []) rfl ⟨fun b o e _ _ _ => hk b o e, fun b o e _ _ _ => ⟨o.slots, hk b o e⟩, fun b o e n _ => ?_, fun b o e _ => ⟨o, hk b o e⟩, fun b _ e => old b _ e, fun b _ _ e => old b _ e, fun b _ e => ⟨#[], by rw [old b _ e]; simp⟩⟩ (fun b u e => ?_) I.bare fun b z => (List.not_mem_nil z).elim
  · rw [at3 b (out b o e).1 (out b o e).2]
    exact n
  · by_cases m : b ∈ as
    · obtain ⟨j, q, e1, e2, e3⟩ := LiI.paired_ix at1 m
      cases e3.symm.trans e
      obtain ⟨q', x, y, d1, d2, d3, d4⟩ := prs j b e1
      cases e2.symm.trans d1
      exact ⟨(by decide : 2 ≤ sizeLine), [x, y], .cons d2 (.cons d3 .nil), ⟨_, d4, rfl, _, rfl⟩⟩
    · by_cases m2 : b = S
      · subst m2
        cases at2.symm.trans e
        exact ⟨by rw [List.length_map, hl]; exact hz, as.map Value.ref, c, LiI.vals_refs as, eS⟩
      · rw [at3 b m m2] at e
        exact (I.hok b u e).stay (fun d o _ z => hk d o z) (fun d z => old d _ z) fun d us z => old d _ z
theorem vals_get : ∀ {vs : List V} {us : List Value}, Vals vs us → ∀ {j : Nat} {v : V} {u : Value}, vs[j]? = some v → us[j]? = some u → RelV v u
  | _, _, .nil, j, v, u, h, _ => by cases h
  | _, _, .cons r t, 0, v, u, h, h2 => by
    cases h
    cases h2
    exact r
  | _, _, .cons r t, j + 1, v, u, h, h2 => vals_get t h h2
theorem boot_list1 : bootBuiltins ("list" : Str) = some (.type "list") := by decide +kernel
theorem pe_listZipT {X : Cx} {e1 e2 : Expr} {t : TA} {p q pos pos2 : Pos} (hc : X.calm = true) (hg : Gl X "list") (hm : X.mg "list" = none) (hgz : Gl X "zip") (hmz : X.mg "zip" = none) (ha : PA X [e1, e2] t)
    (hs : starEach [.Call (.Name "zip" q) [e1, e2] [] pos2] X.env = (false, eval (.Call (.Name "zip" q) [e1, e2] [] pos2) X.env) :: starEach [] X.env := by rfl)
    (hs2 : starEach [e1, e2] X.env = (false, eval e1 X.env) :: starEach [e2] X.env := by rfl) (hpl : (backTo pos2 (starEach [e2] X.env)).any (·.1) = false := by rfl) :
    PE X (.Call (.Name "list" p) [.Call (.Name "zip" q) [e1, e2] [] pos2] [] pos) (tCB (rZipT X.K) t) := by
  refine ⟨fun pins s σ H Q I hq => ?_⟩
  refine wpAny_Call_Name_kw (ld_blt I hg hm boot_list1 (PyProof.Rows.callWith_type1 ?_ hs rfl))
  rw [hs]
  show wpAny _ _ (spliced ((false, eval (.Call (.Name "zip" q) [e1, e2] [] pos2) X.env) :: backTo pos (starEach [] X.env))) _ _ s
  refine Calls.spliced_cons (Call_ (ld_blt I hgz hmz PyProof.Rows.boot_zip (PyProof.Rows.callWith_type1 (thn (ha.run pos2 pins s σ H _ I hq) fun us s1 ⟨vs, H1, I1, r1, q1⟩ => ?_) hs2 hpl)))
  obtain ⟨a, b, kvs, rfl, ta, tb, cont⟩ := q1
  obtain ⟨u1, u2, rfl, ra, rb⟩ : ∃ u1 u2, us = [u1, u2] ∧ u1 = .ref a ∧ u2 = .ref b := by
    cases r1 with
    | cons r rr =>
      cases rr with
      | cons r' rr =>
        cases rr
        exact ⟨_, _, rfl, r, r'⟩
  subst ra rb
  obtain ⟨ia, va, pa, za⟩ := I1.tuple ta
  obtain ⟨ib, vb, pb, zb⟩ := I1.tuple tb
  have hpa : s1.heap.IsTuple a ia.toArray := pa
  have hpb : s1.heap.IsTuple b ib.toArray := pb
  have la := va.length
  have lb := vb.length
  rw [List.length_map] at la lb za
  refine RZ.call_zipT (show s1.heap.IsTuple a ia.toArray from pa) (show s1.heap.IsTuple b ib.toArray from pb) fun h1 g1 g2 g3 g4 g5 g6 gk => ?_
  have I2 : Inv X pins σ H1 { s1 with heap := h1 } := I1.kept (t' := s1.toks) gk
  refine Calls.spliced_nil ?_
  refine zip_list (s := { s1 with heap := h1 }) (I := s1.heap.objs.size) (xs := ia.toArray) (ys := ib.toArray) (tup_lt hpa) (tup_lt hpb) (by rw [List.size_toArray, List.size_toArray]; omega) (by rw [List.size_toArray]; omega) (I1.ok.hd hc) g6
    ⟨g2, g4, g5, hpa.at fun o e => gk _ _ e, hpb.at fun o e => gk _ _ e, .inl ⟨rfl, g1, _, _, g3⟩⟩ g1 fun h2 as c kk e zo => ?_
  have kk' : ∀ (b : Addr) o, s1.heap.get? b = some o → h2.get? b = some o := fun b o z => kk b o (Heap.lt_size z) (gk b o z)
  have I3 : Inv X pins σ H1 { s1 with heap := h2 } := I1.kept (t' := s1.toks) kk'
  have hlen : as.length = kvs.length := by
    have q := zo.len
    rw [List.size_toArray] at q
    omega
  have prs : ∀ (j : Nat) (a : Addr), as[j]? = some a → ∃ q x y, kvs[j]? = some q ∧ RelV (kV q.1) x ∧ RelV q.2 y ∧ IsPair h2 a x y := fun j a ea => by
    obtain ⟨x, y, ex, ey, ep⟩ := zo.pairs j a ea
    have hj : j < kvs.length := by
      rw [← hlen]
      exact (List.getElem?_eq_some_iff.mp ea).1
    exact ⟨kvs[j], x, y, List.getElem?_eq_getElem hj, vals_get va (by rw [List.getElem?_map, List.getElem?_eq_getElem hj]; rfl) (by rw [← List.getElem?_toArray]; exact ex), vals_get vb (by rw [List.getElem?_map, List.getElem?_eq_getElem hj]; rfl) (by rw [← List.getElem?_toArray]; exact ey), ep⟩
  obtain ⟨H2, j1, j2, j3, j4, j5, j6, J⟩ := laid_pairs (S := s1.heap.objs.size + 5) I1 (Nat.le_add_right _ _) za kk' e hlen zo.rise zo.low prs
  exact ⟨.ref _, H2, J, rfl, cont H2 _ as j1 j2 j3 j4 j5 j6⟩
end Zt
end Aw
namespace Aw
open PySem PySem.Spec L2
def smR (r : Rw) : Bool := r.all fun x => decide (x.natAbs ≤ 2 ^ 70)
def bigs (rs : List Rw) : List Rw := rs.filter fun r => !smR r
inductive Fits (n : Nat) (rs : List Rw) : Prop
  | nil (h : rs = [])
  | one (h : rs.length ≤ 1) (n5 : n ≤ 5) (b : BdN (2 ^ 167) rs)
  | many (n4 : n ≤ 4) (l : rs.length ≤ 6) (b : BdN (2 ^ 167) rs) (g : (bigs rs).length ≤ 1)
theorem map_vecD : ∀ {a b : List Rw}, a.map vecD = b.map vecD → a = b
  | [], [], _ => rfl
  | [], _ :: _, h => by cases h
  | _ :: _, [], h => by cases h
  | x :: a, y :: b, h => by
    rw [List.map_cons, List.map_cons] at h
    injection h with h1 h2
    rw [vecD_inj h1, map_vecD h2]
def rwsD (rs : List Rw) : PyData := .tuple (rs.map vecD)
theorem rwsD_inj {a b : List Rw} (h : rwsD a = rwsD b) : a = b := by
  unfold rwsD at h
  injection h with h
  exact map_vecD h
/-- vectors that are small enough, if they are vectors -/
def Gd (d : PyData) : Prop := ∀ (n : Nat) (rs : List Rw), d = rwsD rs → LnN n rs → Fits n rs
/-- a row that is small enough, if it is one -/
def Gx (d : PyData) : Prop := ∀ r : Rw, d = vecD r → r.length ≤ 5 ∧ ∀ y ∈ r, y.natAbs ≤ 2 ^ 167
def iB : PyData → Bool
  | .int i => decide (i.natAbs ≤ 2 ^ 167)
  | _ => true
def gxB : PyData → Bool
  | .tuple es => decide (es.length ≤ 5) && es.all iB
  | _ => true
def gdB : PyData → Bool
  | .tuple ds => decide (ds.length ≤ 1) && ds.all gxB
  | _ => true
theorem Gx.by {d : PyData} (h : gxB d = true) : Gx d := by
  rintro r rfl
  unfold vecD gxB at h
  rw [Bool.and_eq_true, decide_eq_true_eq, List.length_map, List.all_map] at h
  exact ⟨h.1, fun y hy => of_decide_eq_true (List.all_eq_true.mp h.2 y hy)⟩
theorem Gd.by {d : PyData} (h : gdB d = true) : Gd d := by
  rintro n rs rfl hl
  unfold rwsD gdB at h
  rw [Bool.and_eq_true, decide_eq_true_eq, List.length_map, List.all_map] at h
  have hx : ∀ r ∈ rs, r.length ≤ 5 ∧ ∀ y ∈ r, y.natAbs ≤ 2 ^ 167 := fun r hr => Gx.by (List.all_eq_true.mp h.2 r hr) r rfl
  cases rs with
  | nil => exact .nil rfl
  | cons r t =>
    refine .one h.1 ?_ fun s hs => (hx s hs).2
    have := (hx r (List.mem_cons_self ..)).1
    have := hl r (List.mem_cons_self ..)
    omega
theorem pow_70 : 2 ^ 70 ≤ 2 ^ 167 := by decide
theorem Gd.rows {m : Nat} {rs : List Rw} (hm : m ≤ 4) (hl : LnN m rs) (h6 : rs.length ≤ 6) (hb : BdN (2 ^ 70) rs) : Gd (rwsD rs) := by
  intro n ss e hn
  obtain rfl := rwsD_inj e
  cases rs with
  | nil => exact .nil rfl
  | cons r t =>
    have e1 := hl r (List.mem_cons_self ..)
    have e2 := hn r (List.mem_cons_self ..)
    refine .many (by omega) h6 (fun s hs x hx => Nat.le_trans (hb s hs x hx) pow_70) ?_
    have : bigs (r :: t) = [] := List.filter_eq_nil_iff.mpr fun s hs => by
      have q : smR s = true := List.all_eq_true.mpr fun x hx => decide_eq_true (hb s hs x hx)
      rw [q]
      decide
    rw [this]
    exact Nat.zero_le _
/-- one row is changed -/
theorem Gd.put {m j : Nat} {rs : List Rw} {x : PyData} (hm : m ≤ 4) (hl : LnN m rs) (h6 : rs.length ≤ 6) (hb : BdN (2 ^ 70) rs) (hj : j < rs.length) (hx : Gx x) : Gd (.tuple ((rs.take j).map vecD ++ [x] ++ (rs.drop (j + 1)).map vecD)) := by
  intro n ss e hn
  unfold rwsD at e
  injection e with e
  obtain ⟨ab, cd, rfl, e1, e3⟩ := List.map_eq_append_iff.mp e.symm
  obtain ⟨aa, bb, rfl, e1, e2⟩ := List.map_eq_append_iff.mp e1
  have i1 : aa = rs.take j := map_vecD e1
  have i3 : cd = rs.drop (j + 1) := map_vecD e3
  obtain ⟨r, rfl, e4⟩ : ∃ r, bb = [r] ∧ vecD r = x := by
    match bb, e2 with
    | [r], e2 =>
      rw [List.map_cons] at e2
      injection e2 with e2
      exact ⟨r, rfl, e2⟩
  subst i1 i3
  obtain ⟨r5, rb⟩ := hx r e4.symm
  have memr : ∀ s, s ∈ rs.take j ++ [r] ++ rs.drop (j + 1) → s ∈ rs ∨ s = r := fun s hs => by
    rcases List.mem_append.mp hs with hs | hs
    · rcases List.mem_append.mp hs with hs | hs
      · exact .inl (List.mem_of_mem_take hs)
      · exact .inr (List.mem_singleton.mp hs)
    · exact .inl (List.mem_of_mem_drop hs)
  have bd : BdN (2 ^ 167) (rs.take j ++ [r] ++ rs.drop (j + 1)) := fun s hs y hy => by
    rcases memr s hs with h | h
    · exact Nat.le_trans (hb s h y hy) pow_70
    · rw [h] at hy
      exact rb y hy
  have len : (rs.take j ++ [r] ++ rs.drop (j + 1)).length = rs.length := by
    rw [List.length_append, List.length_append, List.length_take, List.length_drop, List.length_singleton]
    omega
  have e2 := hn r (by simp)
  by_cases c : rs.length ≤ 1
  · exact .one (by omega) (by omega) bd
  · have n4 : n ≤ 4 := by
      by_cases hz : j = 0
      · have hs : rs[1]'(by omega) ∈ rs.drop (j + 1) := by
          subst hz
          exact List.mem_of_getElem? (i := 0) (by rw [List.getElem?_drop]; exact List.getElem?_eq_getElem _)
        have a1 := hn _ (List.mem_append_right _ hs)
        have a2 := hl _ (List.mem_of_mem_drop hs)
        omega
      · have hs : rs[0]'(by omega) ∈ rs.take j := List.mem_of_getElem? (i := 0) (by rw [List.getElem?_take_of_lt (by omega)]; exact List.getElem?_eq_getElem _)
        have a1 := hn _ (List.mem_append_left _ (List.mem_append_left _ hs))
        have a2 := hl _ (List.mem_of_mem_take hs)
        omega
    refine .many n4 (by omega) bd ?_
    have nb : ∀ l : List Rw, (∀ s ∈ l, s ∈ rs) → bigs l = [] := fun l hl => List.filter_eq_nil_iff.mpr fun s hs => by
      have q : smR s = true := List.all_eq_true.mpr fun x hx => decide_eq_true (hb s (hl s hs) x hx)
      rw [q]
      decide
    have b1 := nb (rs.take j) fun s => List.mem_of_mem_take
    have b2 := nb (rs.drop (j + 1)) fun s => List.mem_of_mem_drop
    unfold bigs at b1 b2 ⊢
    rw [List.filter_append, List.filter_append, b1, b2, List.nil_append, List.append_nil]
    exact List.length_filter_le _ [r]
end Aw
namespace Aw
open PySem PySem.Spec L2
/-- the class Lattice -/
structure LtT (K : PySem.W.Frag) (C : Addr) : Prop where
  cl : Cls K C
  nL : NoAttr K C "length"
  nB : NoAttr K C "basis"
/-- the base of the errors -/
structure RErr (mg : Str → Option Value) (K : PySem.W.Frag) (CR : Addr) : Prop where
  at_ : mg "ReadError" = some (.ref CR)
  rd : PySem.W.readsIn K CR (.type "type") = true
  sp : PySem.W.specialIn K (.ref CR) "__getattribute__" = some (some (.builtin "type.__getattribute__"))
  vV : PySem.W.findCls K (.ref CR) (.type "type") "__init__" = some (.val (.builtin "ValueError.__init__"))
/-- an error's class, its one field f -/
structure ErrCls (mg : Str → Option Value) (K : PySem.W.Frag) (x f q : Str) (st : Stmt) (ps : List Str) (C : Addr) : Prop where
  E : ErrC K mg x C
  nf : PySem.W.findIn K (.ref C) f = some none
  d : DfM K C "__init__" q st ps
  m : PySem.W.exmOne K (.ref C) (.ref C) = some true
def spItem : Sp := fun vs H Q _ => ∃ (d c : Addr) (n : Int), vs = [.ref d] ∧ Deck H d c n ∧ n + 2 < 10 ^ 12 ∧ ∀ (H' : Hp) (i : Int), i.natAbs ≤ 10 ^ 20 → Deck H' d c (n + 2) → Kp [d, c] H H' → Q (.int i) H'
theorem intsz : ∀ r : Rw, dszs (r.map PyData.int) = r.length
  | [] => by rw [List.map_nil, dszs]; rfl
  | x :: r => by rw [List.map_cons, dszs, intsz r, dsz, List.length_cons]; omega
theorem RwV.dwl {K : PySem.W.Frag} {H : Hp} {M : List Addr} {us : List V} {rs : List Rw} (h : RwV K H us rs) : DwL M K H us (rs.map vecD) := by
  refine ⟨by rw [h.len, List.length_map], fun i v d e e' => ?_⟩
  rw [List.getElem?_map] at e'
  obtain ⟨r, hr, rfl⟩ := Option.map_eq_some_iff.mp e'
  exact (h.all i v r e hr).dt.dw
end Aw
namespace Aw
open PySem PySem.Spec L2 PyProof.Rows
def qMin2 : List V → Hp → VK → Prop := fun xs H Q => ∃ i j, xs = [.int i, .int j] ∧ Q (.int (if j < i then j else i)) H
theorem c_min2 {X : Cx} (hc : X.calm = true) : CallR X (.builtin "min") qMin2 := call_min2 hc
theorem r_min2 {H : Hp} {Q : VK} {i j : Int} (h : Q (.int (if j < i then j else i)) H) : qMin2 [.int i, .int j] H Q := ⟨i, j, rfl, h⟩
section
variable {K : PySem.W.Frag} {H : Hp} {Q : VK}
theorem r_zipT {a b : Addr} {r s : Rw} (ha : SqT K H a (r.map V.int)) (hb : SqT K H b (s.map V.int)) (hl : r.length = s.length)
    (h : ∀ (H' : Hp) (p : Addr) (ts : List Addr), Kp [] H H' → H p = none → H' p = some (.lst (ts.map V.ref)) → ts.length = r.length → (∀ (i : Nat) (t : Addr) (x y : Int), ts[i]? = some t → r[i]? = some x → s[i]? = some y → H' t = some (.tup [.int x, .int y])) → Q (.ref p) H') :
    Zt.rZipT K [.ref a, .ref b] H Q := by
  have e1 : ((List.zip r s).map fun q => ((Sum.inl q.1 : Key), V.int q.2)).map (fun q => kV q.1) = r.map V.int := by
    rw [List.map_map]
    have : ((fun q : Key × V => kV q.1) ∘ fun q : Int × Int => ((Sum.inl q.1 : Key), V.int q.2)) = fun q => V.int q.1 := rfl
    rw [this]
    have e : (fun q : Int × Int => V.int q.1) = V.int ∘ Prod.fst := rfl
    rw [e, ← List.map_map, List.map_fst_zip (by omega)]
  have e2 : ((List.zip r s).map fun q => ((Sum.inl q.1 : Key), V.int q.2)).map (fun q => q.2) = s.map V.int := by
    rw [List.map_map]
    have : ((fun q : Key × V => q.2) ∘ fun q : Int × Int => ((Sum.inl q.1 : Key), V.int q.2)) = V.int ∘ Prod.snd := rfl
    rw [this, ← List.map_map, List.map_snd_zip (by omega)]
  refine ⟨a, b, (List.zip r s).map fun q => ((Sum.inl q.1 : Key), V.int q.2), rfl, by rw [e1]; exact ha, by rw [e2]; exact hb, fun H' p ts k hp ht np hp' pr => ?_⟩
  have kp : Kp [] H H' := fun b o e => ⟨fun m => (by cases m), fun _ => k b o e⟩
  refine h H' p ts kp hp hp' ?_ fun i t x y ei ex ey => ?_
  · have q := Paired.length pr
    rw [List.length_map, List.length_zip] at q
    omega
  · obtain ⟨q, eq, hq⟩ := LiI.paired_get pr ei
    have ez : (List.zip r s)[i]? = some (x, y) := List.getElem?_zip_eq_some.mpr ⟨ex, ey⟩
    rw [List.getElem?_map, ez] at eq
    cases eq
    exact hq
end
theorem DwL.ints {K : PySem.W.Frag} {H : Hp} {M : List Addr} : ∀ {xs : List V} {r : Rw}, DwL M K H xs (r.map PyData.int) → xs = r.map V.int
  | [], [], _ => rfl
  | [], _ :: _, h => by have := h.len; simp at this
  | _ :: _, [], h => by have := h.len; simp at this
  | x :: xs, i :: r, h => by
    have h0 := h.all 0 x (.int i) rfl rfl
    obtain rfl := h0.isInt
    have ht : DwL M K H xs (r.map PyData.int) := ⟨by have := h.len; simpa using this, fun j v d e e' => h.all (j + 1) v d (by simpa using e) (by simpa using e')⟩
    rw [List.map_cons, ← DwL.ints ht]
theorem Dw.vec {K : PySem.W.Frag} {H : Hp} {M : List Addr} {v : V} {r : Rw} (h : Dw M K H v (vecD r)) : VcV K H v r := by
  obtain ⟨a, xs, rfl, hT, hL⟩ := Dw.items (ds := r.map PyData.int) h
  rw [hL.ints] at hT
  exact ⟨a, rfl, hT⟩
theorem DwL.rows {K : PySem.W.Frag} {H : Hp} {M : List Addr} {xs : List V} {rs : List Rw} (h : DwL M K H xs (rs.map vecD)) : RwV K H xs rs :=
  ⟨by rw [h.len, List.length_map], fun i v r e e' => (h.all i v (vecD r) e (by rw [List.getElem?_map, e']; rfl)).vec⟩
/-- a pair of the law -/
def PrOk (K : PySem.W.Frag) (H : Hp) (x : V) : Prop := ∃ (t : Addr) (v u : V) (dl dv : PyData), x = .ref t ∧ SqT K H t [v, u] ∧ Dw [] K H v dl ∧ Dw [] K H u dv ∧ Dok dl 50 5 ∧ Dok dv 1000 10 ∧ Gd dv
theorem PrOk.kp {K : PySem.W.Frag} {H H1 : Hp} {x : V} (h : PrOk K H x) (k : Kp [] H H1) : PrOk K H1 x := by
  obtain ⟨t, v, u, dl, dv, e, hT, hv, hu, r⟩ := h
  exact ⟨t, v, u, dl, dv, e, sqT_kp k hT, hv.kp0 k, hu.kp0 k, r⟩
end Aw
namespace Aw
def zeroR (n : Nat) : Rw := List.replicate n 0
theorem zeroR_len (n : Nat) : (zeroR n).length = n := List.length_replicate ..
theorem zeroR_at (n i : Nat) : at0 (zeroR n) i = 0 := by
  unfold at0 zeroR
  rw [List.getD_eq_getElem?_getD, List.getElem?_replicate]
  split <;> rfl
theorem row_ext {r s : Rw} {n : Nat} (hr : r.length = n) (hs : s.length = n) (h : ∀ i, i < n → at0 r i = at0 s i) : r = s := by
  refine List.ext_getElem? fun i => ?_
  by_cases c : i < n
  · rw [at0_lt (by omega), at0_lt (by omega), h i c]
  · rw [List.getElem?_eq_none (by omega), List.getElem?_eq_none (by omega)]
/-- what rows span -/
def InS (n : Nat) : List Rw → Rw → Prop
  | [], v => v = zeroR n
  | b :: bs, v => ∃ (t : Int) (u : Rw), InS n bs u ∧ v = vplus u b t
section
variable {n : Nat} {rs ss : List Rw} {b u v : Rw} {t : Int}
theorem LnN.tail (h : LnN n (b :: rs)) : LnN n rs := fun r hr => h r (List.mem_cons_of_mem _ hr)
theorem LnN.head (h : LnN n (b :: rs)) : b.length = n := h b (List.mem_cons_self ..)
theorem LnN.app (h : LnN n rs) (g : LnN n ss) : LnN n (rs ++ ss) := fun r hr => by
  rcases List.mem_append.mp hr with hr | hr
  · exact h r hr
  · exact g r hr
theorem InS.len : ∀ {rs : List Rw} {v : Rw}, LnN n rs → InS n rs v → v.length = n
  | [], v, _, h => by rw [h]; exact zeroR_len n
  | b :: rs, v, hl, ⟨t, u, hu, e⟩ => by
    rw [e]
    exact vplus_len (InS.len hl.tail hu) hl.head
theorem vplus_zero (hu : u.length = n) (hb : b.length = n) : vplus u b 0 = u := row_ext (vplus_len hu hb) hu fun i hi => by rw [vplus_at hu hb hi]; omega
theorem InS.zero : ∀ {rs : List Rw}, LnN n rs → InS n rs (zeroR n)
  | [], _ => rfl
  | b :: rs, h => ⟨0, zeroR n, InS.zero h.tail, (vplus_zero (zeroR_len n) h.head).symm⟩
theorem InS.comb (t : Int) : ∀ {rs : List Rw} {u v : Rw}, LnN n rs → InS n rs u → InS n rs v → InS n rs (vplus u v t)
  | [], u, v, _, hu, hv => by
    rw [show u = zeroR n from hu, show v = zeroR n from hv]
    exact row_ext (vplus_len (zeroR_len n) (zeroR_len n)) (zeroR_len n) fun i hi => by rw [vplus_at (zeroR_len n) (zeroR_len n) hi, zeroR_at]; omega
  | b :: rs, u, v, hl, ⟨s, u', hu, eu⟩, ⟨s', v', hv, ev⟩ => by
    have lu := hu.len hl.tail
    have lv := hv.len hl.tail
    have lb := hl.head
    refine ⟨s + t * s', vplus u' v' t, InS.comb t hl.tail hu hv, ?_⟩
    rw [eu, ev]
    refine row_ext (vplus_len (vplus_len lu lb) (vplus_len lv lb)) (vplus_len (vplus_len lu lv) lb) fun i hi => ?_
    rw [vplus_at (vplus_len lu lb) (vplus_len lv lb) hi, vplus_at lu lb hi, vplus_at lv lb hi, vplus_at (vplus_len lu lv) lb hi, vplus_at lu lv hi, Int.mul_add, Int.add_mul, Int.mul_assoc]
    omega
theorem InS.wk (hl : LnN n (b :: rs)) (h : InS n rs v) : InS n (b :: rs) v := ⟨0, v, h, (vplus_zero (h.len hl.tail) hl.head).symm⟩
theorem InS.mem : ∀ {rs : List Rw} {b : Rw}, LnN n rs → b ∈ rs → InS n rs b
  | c :: rs, b, hl, h => by
    rcases List.mem_cons.mp h with rfl | h
    · refine ⟨1, zeroR n, InS.zero hl.tail, row_ext hl.head (vplus_len (zeroR_len n) hl.head) fun i hi => ?_⟩
      rw [vplus_at (zeroR_len n) hl.head hi, zeroR_at]
      omega
    · exact (InS.mem hl.tail h).wk hl
theorem InS.sub (hs : LnN n ss) : ∀ {rs : List Rw} {v : Rw}, (∀ b ∈ rs, InS n ss b) → InS n rs v → InS n ss v
  | [], v, _, h => by rw [show v = zeroR n from h]; exact InS.zero hs
  | b :: rs, v, hb, ⟨t, u, hu, e⟩ => by
    rw [e]
    exact InS.comb t hs (InS.sub hs (fun c hc => hb c (List.mem_cons_of_mem _ hc)) hu) (hb b (List.mem_cons_self ..))
/-- one span -/
def SameS (n : Nat) (rs ss : List Rw) : Prop := ∀ v, InS n rs v ↔ InS n ss v
theorem SameS.of (hr : LnN n rs) (hs : LnN n ss) (h1 : ∀ b ∈ rs, InS n ss b) (h2 : ∀ b ∈ ss, InS n rs b) : SameS n rs ss := fun v => ⟨InS.sub hs h1, InS.sub hr h2⟩
theorem SameS.trans {us : List Rw} (h : SameS n rs ss) (g : SameS n ss us) : SameS n rs us := fun v => (h v).trans (g v)
theorem SameS.symm (h : SameS n rs ss) : SameS n ss rs := fun v => (h v).symm
theorem SameS.perm (hr : LnN n rs) (h : ∀ b, b ∈ rs ↔ b ∈ ss) : SameS n rs ss :=
  have hs : LnN n ss := fun b hb => hr b ((h b).mpr hb)
  SameS.of hr hs (fun b hb => InS.mem hs ((h b).mp hb)) fun b hb => InS.mem hr ((h b).mpr hb)
/-- a column is zero -/
theorem InS.col {i : Nat} (hi : i < n) : ∀ {rs : List Rw} {v : Rw}, LnN n rs → (∀ b ∈ rs, at0 b i = 0) → InS n rs v → at0 v i = 0
  | [], v, _, _, h => by rw [show v = zeroR n from h, zeroR_at]
  | b :: rs, v, hl, hz, ⟨t, u, hu, e⟩ => by
    rw [e, vplus_at (hu.len hl.tail) hl.head hi, InS.col hi hl.tail (fun c hc => hz c (List.mem_cons_of_mem _ hc)) hu, hz b (List.mem_cons_self ..)]
    omega
end
/-- a basis in its form: the leads rise, the leads' numbers are above 0, the numbers above them are less -/
inductive Hnf (n : Nat) : List Nat → List Rw → Prop
  | nil : Hnf n [] []
  | cons (c : Nat) (cs : List Nat) (b : Rw) (bs : List Rw) (hb : b.length = n) (hc : c < n) (z : ∀ j, j < c → at0 b j = 0) (p : 0 < at0 b c) (r : ∀ d ∈ cs, c < d) (zz : ∀ s ∈ bs, ∀ j, j ≤ c → at0 s j = 0)
    (low : ∀ (k : Nat) (d : Nat) (s : Rw), cs[k]? = some d → bs[k]? = some s → 0 ≤ at0 b d ∧ at0 b d < at0 s d) (t : Hnf n cs bs) : Hnf n (c :: cs) (b :: bs)
section
variable {n : Nat} {cs ds : List Nat} {bs es : List Rw} {v : Rw}
theorem Hnf.ln : ∀ {cs : List Nat} {bs : List Rw}, Hnf n cs bs → LnN n bs
  | _, _, .nil => fun r h => by cases h
  | _, _, .cons c cs b bs hb hc z p r zz low t => fun s hs => by
    rcases List.mem_cons.mp hs with rfl | hs
    · exact hb
    · exact t.ln s hs
theorem Hnf.len : ∀ {cs : List Nat} {bs : List Rw}, Hnf n cs bs → cs.length = bs.length
  | _, _, .nil => rfl
  | _, _, .cons c cs b bs hb hc z p r zz low t => by rw [List.length_cons, List.length_cons, t.len]
theorem Hnf.lt : ∀ {cs : List Nat} {bs : List Rw}, Hnf n cs bs → ∀ c ∈ cs, c < n
  | _, _, .nil => fun c h => by cases h
  | _, _, .cons c cs b bs hb hc z p r zz low t => fun d hd => by
    rcases List.mem_cons.mp hd with rfl | hd
    · exact hc
    · exact t.lt d hd
/-- what is in the span and zero at the leads is zero -/
theorem Hnf.zero : ∀ {cs : List Nat} {bs : List Rw} {v : Rw}, Hnf n cs bs → InS n bs v → (∀ c ∈ cs, at0 v c = 0) → v = zeroR n
  | _, _, v, .nil, h, _ => h
  | _, _, v, .cons c cs b bs hb hc z p r zz low t, ⟨x, u, hu, e⟩, hz => by
    have lu := hu.len t.ln
    have u0 : at0 u c = 0 := InS.col hc t.ln (fun s hs => zz s hs c (Nat.le_refl _)) hu
    have v0 := hz c (List.mem_cons_self ..)
    rw [e, vplus_at lu hb hc, u0] at v0
    have x0 : x = 0 := by
      rcases Int.mul_eq_zero.mp (show x * at0 b c = 0 by omega) with h | h
      · exact h
      · omega
    subst x0
    rw [vplus_zero lu hb] at e
    subst e
    exact t.zero hu fun d hd => hz d (List.mem_cons_of_mem _ hd)
/-- at the first lead the number is a multiple -/
theorem Hnf.lead {c : Nat} {b : Rw} (h : Hnf n (c :: cs) (b :: bs)) (hv : InS n (b :: bs) v) : ∃ x, at0 v c = x * at0 b c ∧ (∀ j, j < c → at0 v j = 0) ∧ InS n bs (vplus v b (-x)) := by
  cases h with
  | cons _ _ _ _ hb hc z p r zz low t =>
    obtain ⟨x, u, hu, e⟩ := hv
    have lu := hu.len t.ln
    refine ⟨x, ?_, fun j hj => ?_, ?_⟩
    · rw [e, vplus_at lu hb hc, InS.col hc t.ln (fun s hs => zz s hs c (Nat.le_refl _)) hu]
      omega
    · rw [e, vplus_at lu hb (by omega), InS.col (by omega) t.ln (fun s hs => zz s hs j (by omega)) hu, z j hj]
      omega
    · have e2 : vplus v b (-x) = u := by
        refine row_ext (vplus_len (by rw [e]; exact vplus_len lu hb) hb) lu fun i hi => ?_
        rw [vplus_at (by rw [e]; exact vplus_len lu hb) hb hi, e, vplus_at lu hb hi, Int.neg_mul]
        omega
      rw [e2]
      exact hu
/-- one number that divides, less than it: zero -/
theorem small_mul {x p d : Int} (e : d = x * p) (h1 : -p < d) (h2 : d < p) : d = 0 := by
  by_cases hx : x = 0
  · rw [e, hx, Int.zero_mul]
  · exfalso
    have hp : 0 < p := by omega
    rcases Int.lt_or_gt_of_ne hx with h | h
    · have : x * p ≤ -1 * p := Int.mul_le_mul_of_nonneg_right (by omega) (by omega)
      omega
    · have : 1 * p ≤ x * p := Int.mul_le_mul_of_nonneg_right (by omega) (by omega)
      omega
/-- a row that is in the span, zero up to c, less than the leads: zero -/
theorem Hnf.small : ∀ {cs : List Nat} {bs : List Rw} {v : Rw}, Hnf n cs bs → InS n bs v → (∀ (k d : Nat) (s : Rw), cs[k]? = some d → bs[k]? = some s → -at0 s d < at0 v d ∧ at0 v d < at0 s d) → v = zeroR n
  | _, _, v, .nil, h, _ => h
  | _, _, v, .cons c cs b bs hb hc z p r zz low t, hv, hs => by
    have hh : Hnf n (c :: cs) (b :: bs) := .cons c cs b bs hb hc z p r zz low t
    obtain ⟨x, e, _, hu⟩ := hh.lead hv
    obtain ⟨s1, s2⟩ := hs 0 c b rfl rfl
    have e0 := small_mul e s1 s2
    have x0 : x = 0 := by
      rw [e0] at e
      rcases Int.mul_eq_zero.mp e.symm with h | h
      · exact h
      · omega
    subst x0
    have lv := hv.len hh.ln
    rw [Int.neg_zero, vplus_zero lv hb] at hu
    exact t.small hu fun k d s h1 h2 => hs (k + 1) d s (by simpa using h1) (by simpa using h2)
end
end Aw
namespace Aw
section
variable {n : Nat} {cs ds : List Nat} {bs es : List Rw} {b u v : Rw}
theorem Hnf.wkS {c : Nat} (h : Hnf n (c :: cs) (b :: bs)) : InS n bs v → InS n (b :: bs) v := InS.wk h.ln
theorem Hnf.tl {c : Nat} (h : Hnf n (c :: cs) (b :: bs)) : Hnf n cs bs := by
  cases h with
  | cons _ _ _ _ _ _ _ _ _ _ _ t => exact t
theorem Hnf.hd {c : Nat} (h : Hnf n (c :: cs) (b :: bs)) : b.length = n ∧ c < n ∧ 0 < at0 b c ∧ (∀ j, j < c → at0 b j = 0) ∧ (∀ s ∈ bs, ∀ j, j ≤ c → at0 s j = 0) ∧
    ∀ (k : Nat) (d : Nat) (s : Rw), cs[k]? = some d → bs[k]? = some s → 0 ≤ at0 b d ∧ at0 b d < at0 s d := by
  cases h with
  | cons _ _ _ _ hb hc z p r zz low t => exact ⟨hb, hc, p, z, zz, low⟩
theorem Hnf.tail_iff {c : Nat} (h : Hnf n (c :: cs) (b :: bs)) : InS n bs v ↔ InS n (b :: bs) v ∧ at0 v c = 0 := by
  obtain ⟨hb, hc, p, z, zz, low⟩ := h.hd
  constructor
  · exact fun hv => ⟨h.wkS hv, InS.col hc h.tl.ln (fun s hs => zz s hs c (Nat.le_refl _)) hv⟩
  · rintro ⟨hv, v0⟩
    obtain ⟨x, e, _, hu⟩ := h.lead hv
    have x0 : x = 0 := by
      rcases Int.mul_eq_zero.mp (show x * at0 b c = 0 by omega) with h | h
      · exact h
      · omega
    subst x0
    rw [Int.neg_zero, vplus_zero (hv.len h.ln) hb] at hu
    exact hu
theorem pos_mul_eq {a b x y : Int} (ha : 0 < a) (hb : 0 < b) (h1 : a = x * b) (h2 : b = y * a) : a = b := by
  have hx : 1 ≤ x := by
    by_cases h : 0 < x
    · omega
    · have := Int.mul_nonneg (show 0 ≤ -x by omega) (show 0 ≤ b by omega)
      rw [Int.neg_mul] at this
      omega
  have hy : 1 ≤ y := by
    by_cases h : 0 < y
    · omega
    · have := Int.mul_nonneg (show 0 ≤ -y by omega) (show 0 ≤ a by omega)
      rw [Int.neg_mul] at this
      omega
  have q1 : 1 * b ≤ x * b := Int.mul_le_mul_of_nonneg_right hx (by omega)
  have q2 : 1 * a ≤ y * a := Int.mul_le_mul_of_nonneg_right hy (by omega)
  omega
/-- there is one alone -/
theorem Hnf.uniq : ∀ {cs ds : List Nat} {bs es : List Rw}, Hnf n cs bs → Hnf n ds es → SameS n bs es → cs = ds ∧ bs = es
  | [], [], _, _, .nil, .nil, _ => ⟨rfl, rfl⟩
  | [], d :: ds, _, e :: es, .nil, h, s => by
    exfalso
    obtain ⟨he, hd, p, _, _, _⟩ := h.hd
    have q : InS n [] e := (s e).mpr (InS.mem h.ln (List.mem_cons_self ..))
    rw [show e = zeroR n from q, zeroR_at] at p
    omega
  | c :: cs, [], b :: bs, _, h, .nil, s => by
    exfalso
    obtain ⟨he, hd, p, _, _, _⟩ := h.hd
    have q : InS n [] b := (s b).mp (InS.mem h.ln (List.mem_cons_self ..))
    rw [show b = zeroR n from q, zeroR_at] at p
    omega
  | c :: cs, d :: ds, b :: bs, e :: es, h, g, s => by
    obtain ⟨hb, hc, pb, zb, zzb, lowb⟩ := h.hd
    obtain ⟨he, hd, pe, ze, zze, lowe⟩ := g.hd
    have mb : InS n (e :: es) b := (s b).mp (InS.mem h.ln (List.mem_cons_self ..))
    have me : InS n (b :: bs) e := (s e).mpr (InS.mem g.ln (List.mem_cons_self ..))
    obtain ⟨x, ex, zx, _⟩ := g.lead mb
    obtain ⟨y, ey, zy, _⟩ := h.lead me
    have hcd : c = d := by
      rcases Nat.lt_trichotomy c d with q | q | q
      · have := zx c q
        omega
      · exact q
      · have := zy d q
        omega
    subst hcd
    have epiv := pos_mul_eq pb pe ex ey
    have st : SameS n bs es := fun v => by rw [h.tail_iff, g.tail_iff, s v]
    obtain ⟨e1, e2⟩ := Hnf.uniq h.tl g.tl st
    subst e1 e2
    refine ⟨rfl, ?_⟩
    have ww : InS n (b :: bs) (vplus b e (-1)) := InS.comb (-1) h.ln (InS.mem h.ln (List.mem_cons_self ..)) me
    have wa : ∀ i, i < n → at0 (vplus b e (-1)) i = at0 b i - at0 e i := fun i hi => by rw [vplus_at hb he hi]; omega
    have wt : InS n bs (vplus b e (-1)) := h.tail_iff.mpr ⟨ww, by rw [wa c hc, epiv]; omega⟩
    have w0 := h.tl.small wt fun k d s h1 h2 => by
      obtain ⟨a1, a2⟩ := lowb k d s h1 h2
      obtain ⟨a3, a4⟩ := lowe k d s h1 h2
      rw [wa d (h.tl.lt d (List.mem_of_getElem? h1))]
      omega
    have ebe : b = e := row_ext hb he fun i hi => by
      have := wa i hi
      rw [w0, zeroR_at] at this
      omega
    rw [ebe]
theorem InS.red {i : Nat} {r l : Rw} {rs : List Rw} (hl : LnN n rs) (hr : InS n rs r) (h2 : InS n rs l) : InS n rs (redR i r l) := InS.comb _ hl hr h2
theorem red_back {i : Nat} {r l : Rw} (hr : r.length = n) (hl : l.length = n) : r = vplus (redR i r l) l (qOf i r l) := by
  refine row_ext hr (vplus_len (redR_len hr hl) hl) fun j hj => ?_
  have e : at0 (redR i r l) j = at0 r j + (0 - qOf i r l) * at0 l j := vplus_at hr hl hj
  rw [vplus_at (redR_len hr hl) hl hj, e, Int.sub_mul]
  omega
theorem stp_same {i : Nat} {l : Rw} {left others : List Rw} (h1 : LnN n left) (h2 : LnN n others) (hm : l ∈ left) :
    LnN n (stp i l left others [l]).2 ∧ LnN n (stp i l left others [l]).1 ∧ SameS n (left ++ others) ((stp i l left others [l]).2 ++ (stp i l left others [l]).1) := by
  rw [stp_eq]
  have hl := h1 l hm
  have red : ∀ (p : Rw → Bool), LnN n ((left.filter p).map fun r => redR i r l) := fun p r hr => by
    obtain ⟨s, hs, rfl⟩ := List.mem_map.mp hr
    exact redR_len (h1 s (List.mem_filter.mp hs).1) hl
  have n1 : LnN n ([l] ++ (left.filter fun r => decide (r ≠ l ∧ at0 (redR i r l) i ≠ 0)).map fun r => redR i r l) := LnN.app (fun r hr => by rw [List.mem_singleton.mp hr]; exact hl) (red _)
  have n2 : LnN n (others ++ (left.filter fun r => decide (r ≠ l ∧ at0 (redR i r l) i = 0)).map fun r => redR i r l) := LnN.app h2 (red _)
  refine ⟨n1, n2, SameS.of (h1.app h2) (n1.app n2) (fun b hb => ?_) (fun b hb => ?_)⟩
  · have hlS : InS n (([l] ++ (left.filter fun r => decide (r ≠ l ∧ at0 (redR i r l) i ≠ 0)).map fun r => redR i r l) ++ (others ++ (left.filter fun r => decide (r ≠ l ∧ at0 (redR i r l) i = 0)).map fun r => redR i r l)) l := InS.mem (n1.app n2) (by simp)
    rcases List.mem_append.mp hb with hb | hb
    · by_cases e : b = l
      · rw [e]
        exact hlS
      · rw [red_back (i := i) (h1 b hb) hl]
        refine InS.comb _ (n1.app n2) (InS.mem (n1.app n2) ?_) hlS
        by_cases z : at0 (redR i b l) i = 0
        · exact List.mem_append_right _ (List.mem_append_right _ (List.mem_map.mpr ⟨b, List.mem_filter.mpr ⟨hb, decide_eq_true ⟨e, z⟩⟩, rfl⟩))
        · exact List.mem_append_left _ (List.mem_append_right _ (List.mem_map.mpr ⟨b, List.mem_filter.mpr ⟨hb, decide_eq_true ⟨e, z⟩⟩, rfl⟩))
    · exact InS.mem (n1.app n2) (List.mem_append_right _ (List.mem_append_left _ hb))
  · have hlS : InS n (left ++ others) l := InS.mem (h1.app h2) (List.mem_append_left _ hm)
    have rr : ∀ (p : Rw → Bool), b ∈ ((left.filter p).map fun r => redR i r l) → InS n (left ++ others) b := fun p hp => by
      obtain ⟨s, hs, rfl⟩ := List.mem_map.mp hp
      exact InS.red (h1.app h2) (InS.mem (h1.app h2) (List.mem_append_left _ (List.mem_filter.mp hs).1)) hlS
    rcases List.mem_append.mp hb with hb | hb
    · rcases List.mem_append.mp hb with hb | hb
      · rw [List.mem_singleton.mp hb]
        exact hlS
      · exact rr _ hb
    · rcases List.mem_append.mp hb with hb | hb
      · exact InS.mem (h1.app h2) (List.mem_append_right _ hb)
      · exact rr _ hb
theorem clr_same {i : Nat} : ∀ (k : Nat) {left others : List Rw}, LnN n left → LnN n others → SameS n (left ++ others) (clrF k i left others)
  | 0, left, others, h1, h2 => fun v => Iff.rfl
  | k + 1, left, others, h1, h2 => by
    by_cases c : left.length ≤ 1
    · rw [clrF, if_pos c]
      exact fun v => Iff.rfl
    · rw [clrF, if_neg c]
      obtain ⟨_, hm, _⟩ := leastO_spec (i := i) (ne_len (show 1 < left.length by omega))
      obtain ⟨a1, a2, a3⟩ := stp_same (i := i) h1 h2 hm
      exact a3.trans (clr_same k a1 a2)
theorem cleared_same {i : Nat} {rows : List Rw} (h : LnN n rows) : SameS n rows (cleared i rows) := by
  have h1 : LnN n (lefts i rows) := fun r hr => h r (List.mem_filter.mp hr).1
  have h2 : LnN n (zeros i rows) := fun r hr => h r (List.mem_filter.mp hr).1
  refine SameS.trans (SameS.perm h fun b => ?_) (clr_same _ h1 h2)
  unfold lefts zeros
  rw [List.mem_append, List.mem_filter, List.mem_filter, decide_eq_true_eq, decide_eq_true_eq]
  constructor
  · intro hb
    by_cases c : at0 b i = 0
    · exact .inr ⟨hb, c⟩
    · exact .inl ⟨hb, c⟩
  · rintro (hb | hb) <;> exact hb.1
end
theorem lead_zero {r : Rw} {j : Nat} (h : j < leadO r) : at0 r j = 0 := by
  unfold leadO at h
  have hj : j < r.length := Nat.lt_of_lt_of_le h List.findIdx_le_length
  have q := List.not_of_lt_findIdx h
  have e := at0_lt hj
  rw [List.getElem?_eq_getElem hj] at e
  cases e2 : r[j] with
  | ofNat m =>
    rw [e2] at q e
    have e3 := Option.some.inj e
    rw [← e3]
    simpa using q
  | negSucc m =>
    rw [e2] at q
    simp at q
theorem lead_ne {r : Rw} (h : leadO r < r.length) : at0 r (leadO r) ≠ 0 := by
  have q := List.findIdx_getElem (p := fun x : Int => decide (x ≠ 0)) (xs := r) (w := h)
  have e := at0_lt h
  rw [List.getElem?_eq_getElem h] at e
  have e3 := Option.some.inj e
  rw [← e3]
  exact of_decide_eq_true q
theorem lead_out {r : Rw} {n : Nat} (hr : r.length = n) (h : ¬leadO r < n) : r = zeroR n := row_ext hr (zeroR_len n) fun i hi => by
  rw [lead_zero (by omega), zeroR_at]
theorem led_same {n : Nat} {rs : List Rw} (h : LnN n rs) : SameS n rs (ledR n rs) := by
  have h2 : LnN n (ledR n rs) := fun r hr => h r (List.mem_filter.mp hr).1
  refine SameS.of h h2 (fun b hb => ?_) fun b hb => InS.mem h (List.mem_filter.mp hb).1
  by_cases c : leadO b < n
  · exact InS.mem h2 (List.mem_filter.mpr ⟨hb, decide_eq_true c⟩)
  · rw [lead_out (h b hb) c]
    exact InS.zero h2
end Aw
namespace Aw
section
variable {n : Nat} {cs ds : List Nat} {bs es : List Rw} {b f u v : Rw}
theorem red_col {i j : Nat} {r l : Rw} (hr : r.length = n) (hl : l.length = n) (hj : j < n) (h : at0 l j = 0) : at0 (redR i r l) j = at0 r j := by
  unfold redR
  rw [vplus_at hr hl hj, h]
  omega
theorem red_low {i : Nat} {r l : Rw} (hr : r.length = n) (hl : l.length = n) (hi : i < n) (p : 0 < at0 l i) : 0 ≤ at0 (redR i r l) i ∧ at0 (redR i r l) i < at0 l i := by
  rw [redR_at hr hl hi]
  exact (fd_spec (a := at0 r i) (b := at0 l i) (by omega)).1 p
/-- one more row -/
theorem Hnf.snoc {i : Nat} (hf : f.length = n) (hi : i < n) (hz : ∀ j, j < i → at0 f j = 0) (p : 0 < at0 f i) : ∀ {cs : List Nat} {bs : List Rw}, Hnf n cs bs → (∀ c ∈ cs, c < i) → Hnf n (cs ++ [i]) (bs.map (fun r => redR i r f) ++ [f])
  | _, _, .nil, _ => .cons i [] f [] hf hi hz p (fun d h => by cases h) (fun s h => by cases h) (fun k d s h => by simp at h) .nil
  | _, _, .cons c cs b bs hb hc z pc r zz low t, hlt => by
    have hci := hlt c (List.mem_cons_self ..)
    have ht := Hnf.snoc hf hi hz p t fun d hd => hlt d (List.mem_cons_of_mem _ hd)
    have same : ∀ {s : Rw}, s.length = n → ∀ j, j < i → at0 (redR i s f) j = at0 s j := fun hs j hj => red_col hs hf (by omega) (hz j hj)
    have hl := t.len
    rw [List.map_cons, List.cons_append, List.cons_append]
    refine .cons c (cs ++ [i]) (redR i b f) _ (redR_len hb hf) hc (fun j hj => by rw [same hb j (by omega)]; exact z j hj) (by rw [same hb c hci]; exact pc) (fun d hd => ?_) (fun s hs j hj => ?_) (fun k d s h1 h2 => ?_) ht
    · rcases List.mem_append.mp hd with hd | hd
      · exact r d hd
      · rw [List.mem_singleton.mp hd]
        exact hci
    · rcases List.mem_append.mp hs with hs | hs
      · obtain ⟨s', hs', rfl⟩ := List.mem_map.mp hs
        rw [same (t.ln s' hs') j (by omega)]
        exact zz s' hs' j hj
      · rw [List.mem_singleton.mp hs]
        exact hz j (by omega)
    · by_cases hk : k < cs.length
      · rw [List.getElem?_append_left hk] at h1
        rw [List.getElem?_append_left (by rw [List.length_map]; omega), List.getElem?_map] at h2
        obtain ⟨s', hs', rfl⟩ := Option.map_eq_some_iff.mp h2
        have hd := hlt d (List.mem_cons_of_mem _ (List.mem_of_getElem? h1))
        rw [same hb d hd, same (t.ln s' (List.mem_of_getElem? hs')) d hd]
        exact low k d s' h1 hs'
      · rw [List.getElem?_append_right (by omega)] at h1
        rw [List.getElem?_append_right (by rw [List.length_map]; omega), List.length_map] at h2
        have k0 : k - cs.length = 0 := by
          have := (List.getElem?_eq_some_iff.mp h1).1
          rw [List.length_singleton] at this
          omega
        have k1 : k - bs.length = 0 := by omega
        rw [k0] at h1
        rw [k1] at h2
        cases h1
        cases h2
        exact red_low hb hf hi p
/-- the sign of a row -/
theorem posR_back {i : Nat} {r : Rw} (hr : r.length = n) (hi : i < n) : (posR i r).length = n ∧ (∀ j, j < n → at0 r j = 0 → at0 (posR i r) j = 0) ∧ (at0 r i ≠ 0 → 0 < at0 (posR i r) i) ∧ ∃ x : Int, (∀ j, j < n → at0 (posR i r) j = x * at0 r j) ∧ x * x = 1 := by
  have ta : ∀ j, j < n → at0 (tvec r (-1)) j = -at0 r j := fun j hj => by
    have h1 := at0_lt (r := r) (i := j) (by omega)
    have h2 := at0_lt (r := tvec r (-1)) (i := j) (by rw [tvec_len]; omega)
    unfold tvec at h2
    rw [List.getElem?_map, h1] at h2
    have h3 := Option.some.inj h2
    rw [show at0 (tvec r (-1)) j = -1 * at0 r j from h3.symm]
    omega
  unfold posR
  by_cases c : at0 r i < 0
  · rw [if_pos c]
    refine ⟨by rw [tvec_len, hr], fun j hj h => by rw [ta j hj, h]; rfl, fun _ => by rw [ta i hi]; omega, -1, fun j hj => by rw [ta j hj]; omega, rfl⟩
  · rw [if_neg c]
    exact ⟨hr, fun j hj h => h, fun h => by omega, 1, fun j hj => by omega, rfl⟩
theorem InS.scale (x : Int) {rs : List Rw} (hl : LnN n rs) (h : InS n rs v) (hu : u.length = n) (e : ∀ j, j < n → at0 u j = x * at0 v j) : InS n rs u := by
  have q := InS.comb x hl (InS.zero hl) h
  have lv := h.len hl
  have : vplus (zeroR n) v x = u := row_ext (vplus_len (zeroR_len n) lv) hu fun j hj => by
    rw [vplus_at (zeroR_len n) lv hj, zeroR_at, e j hj]
    omega
  rw [← this]
  exact q
/-- between the columns -/
structure BIn (n i : Nat) (vs rows found : List Rw) : Prop where
  ln : LnN n rows
  z : ∀ r ∈ rows, ∀ j, j < i → at0 r j = 0
  ld : ∀ r ∈ rows, leadO r < n
  h : ∃ cs, Hnf n cs found ∧ ∀ c ∈ cs, c < i
  s : SameS n vs (rows ++ found)
theorem same_left {rs rs' ss : List Rw} (h1 : LnN n rs) (h2 : LnN n rs') (h3 : LnN n ss) (h : SameS n rs rs') : SameS n (rs ++ ss) (rs' ++ ss) := by
  have wk1 : ∀ v, InS n rs' v → InS n (rs' ++ ss) v := fun v hv => InS.sub (h2.app h3) (fun b hb => InS.mem (h2.app h3) (List.mem_append_left _ hb)) hv
  have wk2 : ∀ v, InS n rs v → InS n (rs ++ ss) v := fun v hv => InS.sub (h1.app h3) (fun b hb => InS.mem (h1.app h3) (List.mem_append_left _ hb)) hv
  refine SameS.of (h1.app h3) (h2.app h3) (fun b hb => ?_) (fun b hb => ?_)
  · rcases List.mem_append.mp hb with hb | hb
    · exact wk1 b ((h b).mp (InS.mem h1 hb))
    · exact InS.mem (h2.app h3) (List.mem_append_right _ hb)
  · rcases List.mem_append.mp hb with hb | hb
    · exact wk2 b ((h b).mpr (InS.mem h2 hb))
    · exact InS.mem (h1.app h3) (List.mem_append_right _ hb)
theorem BIn.next {i P F : Nat} {vs rows found : List Rw} (h : BIn n i vs rows found) (hS : SafeS n i P F rows found) : BIn n (i + 1) vs (basStep n i rows found).1 (basStep n i rows found).2 := by
  have hi := hS.lt
  obtain ⟨D, G, hL, hD, hG⟩ := hS.c
  obtain ⟨l', o', e, hl, h2⟩ := clr_out hi hD (meas i (lefts i rows)) _ _ hL (.inr (Nat.le_refl _))
  have e : cleared i rows = l' ++ o' := e
  obtain ⟨cs, hH, hcs⟩ := h.h
  have lnc : LnN n (cleared i rows) := by rw [e]; exact h2.l1.app h2.l2
  have lnd : LnN n (ledR n (cleared i rows)) := fun r hr => lnc r (List.mem_filter.mp hr).1
  have sm : SameS n vs (ledR n (cleared i rows) ++ found) := h.s.trans (same_left h.ln lnd hH.ln ((cleared_same h.ln).trans (led_same lnc)))
  have zc : ∀ r ∈ cleared i rows, ∀ j, j < i → at0 r j = 0 := fun r hr j hj => InS.col (by omega) h.ln (fun s hs => h.z s hs j hj) ((cleared_same h.ln r).mpr (InS.mem lnc hr))
  have zd : ∀ r ∈ ledR n (cleared i rows), ∀ j, j < i → at0 r j = 0 := fun r hr => zc r (List.mem_filter.mp hr).1
  have ldd : ∀ r ∈ ledR n (cleared i rows), leadO r < n := fun r hr => of_decide_eq_true (List.mem_filter.mp hr).2
  -- all but the first are zero at the column
  have tz : ∀ g rest, ledR n (cleared i rows) = g :: rest → (∀ r ∈ rest, at0 r i = 0) := by
    intro g rest eg r hr
    rw [e] at eg
    match l', hl with
    | [], _ => exact h2.zz r ((List.mem_filter.mp (by rw [List.nil_append] at eg; unfold ledR at eg; rw [eg]; exact List.mem_cons_of_mem _ hr)).1)
    | [x], _ =>
      rw [List.singleton_append] at eg
      unfold ledR at eg
      rw [List.filter_cons] at eg
      split at eg
      · injection eg with e1 e2
        rw [← e2] at hr
        exact h2.zz r (List.mem_filter.mp hr).1
      · exact h2.zz r (List.mem_filter.mp (by rw [eg]; exact List.mem_cons_of_mem _ hr)).1
  unfold basStep
  cases e2 : ledR n (cleared i rows) with
  | nil =>
    rw [e2] at sm
    exact ⟨fun r hr => (by cases hr), fun r hr => (by cases hr), fun r hr => (by cases hr), ⟨cs, hH, fun c hc => by have := hcs c hc; omega⟩, sm⟩
  | cons g rest =>
    have hz := tz g rest e2
    rw [e2] at sm lnd zd ldd
    dsimp only
    by_cases c : at0 g i = 0
    · rw [if_pos c]
      refine ⟨lnd, fun r hr j hj => ?_, ldd, ⟨cs, hH, fun c hc => by have := hcs c hc; omega⟩, sm⟩
      by_cases hji : j < i
      · exact zd r hr j hji
      · obtain rfl : j = i := by omega
        rcases List.mem_cons.mp hr with rfl | hr
        · exact c
        · exact hz r hr
    · rw [if_neg c]
      have hg := lnd.head
      obtain ⟨p1, p2, p3, x, p4, p5⟩ := posR_back (i := i) hg hi
      have zp : ∀ j, j < i → at0 (posR i g) j = 0 := fun j hj => p2 j (by omega) (zd g (List.mem_cons_self ..) j hj)
      have hsn := hH.snoc p1 hi zp (p3 c) hcs
      refine ⟨lnd.tail, fun r hr j hj => ?_, fun r hr => ldd r (List.mem_cons_of_mem _ hr), ⟨_, hsn, fun d hd => ?_⟩, ?_⟩
      · by_cases hji : j < i
        · exact zd r (List.mem_cons_of_mem _ hr) j hji
        · obtain rfl : j = i := by omega
          exact hz r hr
      · rcases List.mem_append.mp hd with hd | hd
        · have := hcs d hd
          omega
        · rw [List.mem_singleton.mp hd]
          omega
      · refine sm.trans ?_
        have l2 := lnd.tail.app hsn.ln
        have hpm : InS n (rest ++ (found.map (fun r => redR i r (posR i g)) ++ [posR i g])) (posR i g) := InS.mem l2 (by simp)
        have l1 := lnd.app hH.ln
        have hgm : InS n (g :: rest ++ found) g := InS.mem l1 (by simp)
        have hpg : InS n (g :: rest ++ found) (posR i g) := InS.scale x l1 hgm p1 p4
        refine SameS.of l1 l2 (fun b hb => ?_) (fun b hb => ?_)
        · rcases List.mem_append.mp hb with hb | hb
          · rcases List.mem_cons.mp hb with rfl | hb
            · exact InS.scale x l2 hpm hg fun j hj => by rw [p4 j hj, ← Int.mul_assoc, p5, Int.one_mul]
            · exact InS.mem l2 (List.mem_append_left _ hb)
          · rw [red_back (i := i) (hH.ln b hb) p1]
            exact InS.comb _ l2 (InS.mem l2 (List.mem_append_right _ (List.mem_append_left _ (List.mem_map.mpr ⟨b, hb, rfl⟩)))) hpm
        · rcases List.mem_append.mp hb with hb | hb
          · exact InS.mem l1 (List.mem_append_left _ (List.mem_cons_of_mem _ hb))
          · rcases List.mem_append.mp hb with hb | hb
            · obtain ⟨s, hs, rfl⟩ := List.mem_map.mp hb
              exact InS.red l1 (InS.mem l1 (List.mem_append_right _ hs)) hpg
            · rw [List.mem_singleton.mp hb]
              exact hpg
theorem basF_hnf {vs : List Rw} : ∀ (k : Nat) {rows found : List Rw}, k ≤ n → BIn n (n - k) vs rows found → BasOk n k rows found → ∃ cs, Hnf n cs (basF n k rows found) ∧ SameS n vs (basF n k rows found)
  | 0, rows, found, _, h, _ => by
    obtain ⟨cs, hH, _⟩ := h.h
    have r0 : rows = [] := by
      cases rows with
      | nil => rfl
      | cons r t =>
        exfalso
        have l := h.ld r (List.mem_cons_self ..)
        have hr := h.ln r (List.mem_cons_self ..)
        have z := h.z r (List.mem_cons_self ..) (leadO r) (by omega)
        exact lead_ne (by omega) z
    have s := h.s
    rw [r0, List.nil_append] at s
    exact ⟨cs, hH, s⟩
  | k + 1, rows, found, hk, h, hb => by
    obtain ⟨⟨P, F, hS⟩, hb2⟩ := hb
    have q := h.next hS
    rw [show n - (k + 1) + 1 = n - k by omega] at q
    exact basF_hnf k (by omega) q hb2
/-- the program's basis -/
theorem basis_hnf {vs : List Rw} (hl : LnN n vs) (hb : BasOk n n (ledR n vs) []) : ∃ cs, Hnf n cs (basisF n vs) ∧ SameS n vs (basisF n vs) := by
  refine basF_hnf n (Nat.le_refl _) ⟨fun r hr => hl r (List.mem_filter.mp hr).1, fun r hr j hj => by omega, fun r hr => of_decide_eq_true (List.mem_filter.mp hr).2, ⟨[], .nil, fun c h => by cases h⟩, ?_⟩ hb
  rw [List.append_nil]
  exact led_same hl
end
end Aw
namespace Aw
def cross (c : Nat) (p r : Rw) : Rw := vplus (tvec r (at0 p c)) p (-(at0 r c))
section
variable {n : Nat} {cs ds : List Nat} {bs es vs rs : List Rw} {b f p r u v w : Rw}
theorem tvec_at {r : Rw} {t : Int} {j : Nat} (h : r.length = n) (hj : j < n) : at0 (tvec r t) j = t * at0 r j := by
  have h1 := at0_lt (r := r) (i := j) (by omega)
  have h2 := at0_lt (r := tvec r t) (i := j) (by rw [tvec_len]; omega)
  unfold tvec at h2
  rw [List.getElem?_map, h1] at h2
  exact (Option.some.inj h2).symm
theorem cross_len {c : Nat} (hp : p.length = n) (hr : r.length = n) : (cross c p r).length = n := vplus_len (by rw [tvec_len, hr]) hp
theorem cross_at {c j : Nat} (hp : p.length = n) (hr : r.length = n) (hj : j < n) : at0 (cross c p r) j = at0 p c * at0 r j - at0 r c * at0 p j := by
  unfold cross
  rw [vplus_at (by rw [tvec_len, hr]) hp hj, tvec_at hr hj, Int.neg_mul]
  omega
theorem InS.sc (t : Int) (hl : LnN n rs) (h : InS n rs v) : InS n rs (tvec v t) := InS.scale t hl h (by rw [tvec_len, h.len hl]) fun j hj => tvec_at (h.len hl) hj
theorem InS.cr {c : Nat} (hl : LnN n rs) (hp : InS n rs p) (hr : InS n rs r) : InS n rs (cross c p r) := InS.comb _ hl (InS.sc _ hl hr) hp
theorem InS.map {c : Nat} (hp : p.length = n) (hc : c < n) : ∀ {rs : List Rw} {w : Rw}, LnN n rs → InS n rs w → InS n (rs.map (cross c p)) (cross c p w)
  | [], w, _, h => by
    rw [show w = zeroR n from h]
    refine row_ext (cross_len hp (zeroR_len n)) (zeroR_len n) fun j hj => ?_
    rw [cross_at hp (zeroR_len n) hj, zeroR_at, zeroR_at]
    omega
  | b :: rs, w, hl, ⟨t, u, hu, e⟩ => by
    have lu := hu.len hl.tail
    have lb := hl.head
    refine ⟨t, cross c p u, InS.map hp hc hl.tail hu, ?_⟩
    rw [e]
    refine row_ext (cross_len hp (vplus_len lu lb)) (vplus_len (cross_len hp lu) (cross_len hp lb)) fun j hj => ?_
    rw [cross_at hp (vplus_len lu lb) hj, vplus_at (cross_len hp lu) (cross_len hp lb) hj, cross_at hp lu hj, cross_at hp lb hj, vplus_at lu lb hj, vplus_at lu lb hc, Int.mul_add, Int.add_mul, Int.mul_sub, ← Int.mul_assoc, ← Int.mul_assoc, ← Int.mul_assoc, Int.mul_comm t (at0 p c)]
    omega
def crW (E : Nat) : Nat → Nat
  | 0 => E
  | k + 1 => 2 * (crW E k * crW E k)
theorem crW_pos {E : Nat} (h : 1 ≤ E) : ∀ k, 1 ≤ crW E k
  | 0 => h
  | k + 1 => by
    have := crW_pos h k
    have q := Nat.mul_le_mul this this
    rw [crW]
    omega
theorem crW_step {E : Nat} (h : 1 ≤ E) (k : Nat) : crW E k ≤ crW E (k + 1) := by
  have := crW_pos h k
  have q := Nat.mul_le_mul_left (crW E k) this
  rw [crW]
  omega
theorem at_bd {W : Nat} {r : Rw} (h : ∀ x ∈ r, x.natAbs ≤ W) (j : Nat) : (at0 r j).natAbs ≤ W := by
  by_cases c : j < r.length
  · exact h _ (at0_mem c)
  · unfold at0
    rw [List.getD_eq_getElem?_getD, List.getElem?_eq_none (by omega)]
    exact Nat.zero_le _
theorem elim_cols {E : Nat} (hE : 1 ≤ E) (hl : LnN n vs) (hb : BdN E vs) : ∀ S : List Nat, (∀ c ∈ S, c < n) → ∃ rows : List Rw, LnN n rows ∧ (∀ r ∈ rows, InS n vs r ∧ (∀ c ∈ S, at0 r c = 0) ∧ ∀ j, (at0 r j).natAbs ≤ crW E S.length) ∧
    ∀ v, InS n vs v → (∀ c ∈ S, at0 v c = 0) → ∃ (m : Int) (w : Rw), m ≠ 0 ∧ InS n rows w ∧ ∀ j, j < n → at0 w j = m * at0 v j
  | [], _ => ⟨vs, hl, fun r hr => ⟨InS.mem hl hr, fun c h => (by cases h), fun j => at_bd (hb r hr) j⟩, fun v hv _ => ⟨1, v, by decide, hv, fun j hj => by omega⟩⟩
  | c :: S, hS => by
    obtain ⟨rows, h1, h2, h3⟩ := elim_cols hE hl hb S fun d hd => hS d (List.mem_cons_of_mem _ hd)
    have hc := hS c (List.mem_cons_self ..)
    by_cases hz : ∀ r ∈ rows, at0 r c = 0
    · refine ⟨rows, h1, fun r hr => ?_, fun v hv hz2 => h3 v hv fun d hd => hz2 d (List.mem_cons_of_mem _ hd)⟩
      obtain ⟨a, b, d⟩ := h2 r hr
      refine ⟨a, fun e he => ?_, fun j => Nat.le_trans (d j) (crW_step hE S.length)⟩
      rcases List.mem_cons.mp he with rfl | he
      · exact hz r hr
      · exact b e he
    · obtain ⟨p, hp, hpc⟩ : ∃ p ∈ rows, at0 p c ≠ 0 := Classical.byContradiction fun q => hz fun r hr => Classical.byContradiction fun x => q ⟨r, hr, x⟩
      obtain ⟨pa, pb, pd⟩ := h2 p hp
      have lp := h1 p hp
      refine ⟨rows.map (cross c p), fun r hr => ?_, fun r hr => ?_, fun v hv hz2 => ?_⟩
      · obtain ⟨s, hs, rfl⟩ := List.mem_map.mp hr
        exact cross_len lp (h1 s hs)
      · obtain ⟨s, hs, rfl⟩ := List.mem_map.mp hr
        obtain ⟨sa, sb, sd⟩ := h2 s hs
        have ls := h1 s hs
        refine ⟨InS.cr hl pa sa, fun d hd => ?_, fun j => ?_⟩
        · rw [cross_at lp ls (hS d hd)]
          rcases List.mem_cons.mp hd with rfl | hd
          · rw [Int.mul_comm]
            omega
          · rw [sb d hd, pb d hd]
            omega
        · by_cases hj : j < n
          · rw [cross_at lp ls hj]
            have q1 := Nat.mul_le_mul (pd c) (sd j)
            have q2 := Nat.mul_le_mul (sd c) (pd j)
            rw [← Int.natAbs_mul] at q1 q2
            rw [List.length_cons, crW]
            omega
          · unfold at0
            rw [List.getD_eq_getElem?_getD, List.getElem?_eq_none (by rw [cross_len lp ls]; omega)]
            exact Nat.zero_le _
      · obtain ⟨m, w, m0, hw, ew⟩ := h3 v hv fun d hd => hz2 d (List.mem_cons_of_mem _ hd)
        have lw := hw.len h1
        refine ⟨at0 p c * m, cross c p w, fun z => ?_, InS.map lp hc h1 hw, fun j hj => ?_⟩
        · rcases Int.mul_eq_zero.mp z with z | z
          · exact hpc z
          · exact m0 z
        · rw [cross_at lp lw hj, ew c hc, hz2 c (List.mem_cons_self ..), ew j hj, Int.mul_zero, Int.zero_mul, Int.mul_assoc]
          omega
theorem Hnf.clear {full : List Rw} (hf : LnN n full) : ∀ {cs : List Nat} {bs : List Rw} {w : Rw}, Hnf n cs bs → (∀ s ∈ bs, InS n full s) → InS n full w → ∃ (m : Int) (v : Rw), m ≠ 0 ∧ InS n full v ∧ (∀ c ∈ cs, at0 v c = 0) ∧ ∀ j, j < n → (∀ s ∈ bs, at0 s j = 0) → at0 v j = m * at0 w j
  | _, _, w, .nil, _, hw => ⟨1, w, by decide, hw, fun c h => (by cases h), fun j hj _ => by omega⟩
  | _, _, w, .cons c cs b bs hb hc z p r zz low t, hs, hw => by
    have lw := hw.len hf
    obtain ⟨m, v, m0, hv, hz, he⟩ := Hnf.clear hf t (fun s h => hs s (List.mem_cons_of_mem _ h)) (InS.cr (c := c) hf (hs b (List.mem_cons_self ..)) hw)
    refine ⟨m * at0 b c, v, fun q => ?_, hv, fun d hd => ?_, fun j hj hz2 => ?_⟩
    · rcases Int.mul_eq_zero.mp q with q | q
      · exact m0 q
      · omega
    · rcases List.mem_cons.mp hd with rfl | hd
      · rw [he d hc fun s h => zz s h d (Nat.le_refl _), cross_at hb lw hc, Int.mul_comm (at0 b d)]
        have : at0 w d * at0 b d - at0 w d * at0 b d = 0 := by omega
        rw [this, Int.mul_zero]
      · exact hz d hd
    · rw [he j hj fun s h => hz2 s (List.mem_cons_of_mem _ h), cross_at hb lw hj, hz2 b (List.mem_cons_self ..), Int.mul_zero, Int.sub_zero, Int.mul_assoc]
theorem Hnf.one : ∀ {cs : List Nat} {bs : List Rw} {k c : Nat}, Hnf n cs bs → cs[k]? = some c → ∃ v, InS n bs v ∧ at0 v c ≠ 0 ∧ ∀ d ∈ cs, d ≠ c → at0 v d = 0
  | _, _, k, c, .nil, h => by simp at h
  | _, _, 0, c', .cons c cs b bs hb hc z p r zz low t, h => by
    obtain rfl : c = c' := by injection h
    have hh : Hnf n (c :: cs) (b :: bs) := .cons c cs b bs hb hc z p r zz low t
    obtain ⟨m, v, m0, hv, hz, he⟩ := Hnf.clear hh.ln t (fun s h => InS.mem hh.ln (List.mem_cons_of_mem _ h)) (InS.mem hh.ln (List.mem_cons_self ..))
    refine ⟨v, hv, ?_, fun d hd hne => ?_⟩
    · rw [he c hc fun s h => zz s h c (Nat.le_refl _)]
      intro q
      rcases Int.mul_eq_zero.mp q with q | q
      · exact m0 q
      · omega
    · rcases List.mem_cons.mp hd with rfl | hd
      · exact absurd rfl hne
      · exact hz d hd
  | _, _, k + 1, c', .cons c cs b bs hb hc z p r zz low t, h => by
    have hh : Hnf n (c :: cs) (b :: bs) := .cons c cs b bs hb hc z p r zz low t
    have h : cs[k]? = some c' := by simpa using h
    obtain ⟨v, hv, hv0, hvz⟩ := Hnf.one t h
    refine ⟨v, hh.wkS hv, hv0, fun d hd hne => ?_⟩
    rcases List.mem_cons.mp hd with rfl | hd
    · exact InS.col hc t.ln (fun s h => zz s h d (Nat.le_refl _)) hv
    · exact hvz d hd hne
/-- such a vector's number is a multiple of the lead's -/
theorem Hnf.mult : ∀ {cs : List Nat} {bs : List Rw} {v : Rw} {k c : Nat} {s : Rw}, Hnf n cs bs → InS n bs v → cs[k]? = some c → bs[k]? = some s → (∀ d ∈ cs, d < c → at0 v d = 0) → ∃ x, at0 v c = x * at0 s c
  | _, _, v, k, c, s, .nil, _, h, _, _ => by simp at h
  | _, _, v, 0, c', s, .cons c cs b bs hb hc z p r zz low t, hv, h, hs, _ => by
    obtain rfl : c = c' := by injection h
    obtain rfl : b = s := by injection hs
    obtain ⟨x, e, _⟩ := (Hnf.cons c cs b bs hb hc z p r zz low t).lead hv
    exact ⟨x, e⟩
  | _, _, v, k + 1, c', s, .cons c cs b bs hb hc z p r zz low t, hv, h, hs, hz => by
    have h : cs[k]? = some c' := by simpa using h
    have hh : Hnf n (c :: cs) (b :: bs) := .cons c cs b bs hb hc z p r zz low t
    have v0 := hz c (List.mem_cons_self ..) (r c' (List.mem_of_getElem? h))
    exact Hnf.mult t (hh.tail_iff.mpr ⟨hv, v0⟩) h (by simpa using hs) fun d hd hlt => hz d (List.mem_cons_of_mem _ hd) hlt
/-- at a lead the basis' numbers are 0 up to the lead's -/
theorem Hnf.colb : ∀ {cs : List Nat} {bs : List Rw} {k c : Nat} {s : Rw}, Hnf n cs bs → cs[k]? = some c → bs[k]? = some s → 0 < at0 s c ∧ ∀ b ∈ bs, 0 ≤ at0 b c ∧ at0 b c ≤ at0 s c
  | _, _, k, c, s, .nil, h, _ => by simp at h
  | _, _, 0, c', s, .cons c cs b bs hb hc z p r zz low t, h, hs => by
    obtain rfl : c = c' := by injection h
    obtain rfl : b = s := by injection hs
    refine ⟨p, fun e he => ?_⟩
    rcases List.mem_cons.mp he with rfl | he
    · omega
    · rw [zz e he c (Nat.le_refl _)]
      omega
  | _, _, k + 1, c', s, .cons c cs b bs hb hc z p r zz low t, h, hs => by
    have h : cs[k]? = some c' := by simpa using h
    have hs : bs[k]? = some s := by simpa using hs
    obtain ⟨q1, q2⟩ := Hnf.colb t h hs
    refine ⟨q1, fun e he => ?_⟩
    rcases List.mem_cons.mp he with rfl | he
    · have := low k c' s h hs
      omega
    · exact q2 e he
end
end Aw
namespace Aw
section
variable {n : Nat} {cs ds : List Nat} {bs es vs rs full : List Rw} {b f p r u v w : Rw}
theorem crW_mono {E : Nat} (h : 1 ≤ E) {i j : Nat} (q : i ≤ j) : crW E i ≤ crW E j := by
  induction q with
  | refl => exact Nat.le_refl _
  | step _ ih => exact Nat.le_trans ih (crW_step h _)
theorem sum_bd {W : Nat} (hf : LnN n full) (us : Nat → Rw) : ∀ (L : List Nat) (w : Rw), L.Nodup → (∀ c ∈ L, c < n ∧ InS n full (us c) ∧ 0 < at0 (us c) c ∧ (∀ d ∈ L, d ≠ c → at0 (us c) d = 0) ∧ ∀ j, (at0 (us c) j).natAbs ≤ W) → InS n full w →
    (∀ c ∈ L, (at0 w c).natAbs ≤ (at0 (us c) c).natAbs) → ∃ (M : Int) (w' : Rw), 0 < M ∧ InS n full w' ∧ (∀ c ∈ L, at0 w' c = 0) ∧ (∀ j, j < n → (∀ d ∈ L, at0 (us d) j = 0) → at0 w' j = M * at0 w j) ∧ ∀ j, j < n → (M * at0 w j - at0 w' j).natAbs ≤ M.natAbs * (L.length * W)
  | [], w, _, _, hw, _ => ⟨1, w, by decide, hw, fun c h => (by cases h), fun j hj _ => by omega, fun j hj => by
      rw [Int.one_mul, Int.sub_self]
      exact Nat.zero_le _⟩
  | c :: L, w, hnd, hu, hw, hc => by
    obtain ⟨hcL, hnd2⟩ := List.nodup_cons.mp hnd
    obtain ⟨M, w', hM, hw', hz, he, hbd⟩ := sum_bd hf us L w hnd2 (fun d hd => by
      obtain ⟨a1, a2, a3, a4, a5⟩ := hu d (List.mem_cons_of_mem _ hd)
      exact ⟨a1, a2, a3, fun e he => a4 e (List.mem_cons_of_mem _ he), a5⟩) hw fun d hd => hc d (List.mem_cons_of_mem _ hd)
    obtain ⟨cn, uS, uN, uz, ub⟩ := hu c (List.mem_cons_self ..)
    have lu := uS.len hf
    have lw := hw'.len hf
    have ewc : at0 w' c = M * at0 w c := he c cn fun d hd => (hu d (List.mem_cons_of_mem _ hd)).2.2.2.1 c (List.mem_cons_self ..) fun q => hcL (q ▸ hd)
    refine ⟨at0 (us c) c * M, cross c (us c) w', Int.mul_pos uN hM, InS.cr hf uS hw', fun d hd => ?_, fun j hj hz2 => ?_, fun j hj => ?_⟩
    · rcases List.mem_cons.mp hd with e | hd2
      · rw [e, cross_at lu lw cn, Int.mul_comm]
        omega
      · have hne : d ≠ c := fun q => hcL (q ▸ hd2)
        rw [cross_at lu lw (hu d hd).1, hz d hd2, uz d hd hne]
        omega
    · rw [cross_at lu lw hj, hz2 c (List.mem_cons_self ..), Int.mul_zero, Int.sub_zero, he j hj fun d hd => hz2 d (List.mem_cons_of_mem _ hd), Int.mul_assoc]
    · rw [cross_at lu lw hj]
      have e1 : at0 (us c) c * M * at0 w j - (at0 (us c) c * at0 w' j - at0 w' c * at0 (us c) j) = at0 (us c) c * (M * at0 w j - at0 w' j) + at0 w' c * at0 (us c) j := by
        rw [Int.mul_sub, Int.mul_assoc]
        omega
      rw [e1]
      have q1 := Int.natAbs_add_le (at0 (us c) c * (M * at0 w j - at0 w' j)) (at0 w' c * at0 (us c) j)
      rw [Int.natAbs_mul, Int.natAbs_mul, ewc, Int.natAbs_mul] at q1
      have q2 := Nat.mul_le_mul_left (at0 (us c) c).natAbs (hbd j hj)
      have q3 : M.natAbs * (at0 w c).natAbs * (at0 (us c) j).natAbs ≤ M.natAbs * (at0 (us c) c).natAbs * W := Nat.mul_le_mul (Nat.mul_le_mul_left _ (hc c (List.mem_cons_self ..))) (ub j)
      have e2 : (at0 (us c) c * M).natAbs * ((c :: L).length * W) = (at0 (us c) c).natAbs * (M.natAbs * (L.length * W)) + M.natAbs * (at0 (us c) c).natAbs * W := by
        rw [Int.natAbs_mul, List.length_cons, Nat.add_mul, Nat.one_mul, Nat.mul_add, Nat.mul_assoc, Nat.mul_comm M.natAbs (at0 (us c) c).natAbs]
      rw [e2, ewc]
      rw [ewc] at e1
      have q4 : (at0 (us c) c * (M * at0 w j - at0 w' j) + M * at0 w c * at0 (us c) j).natAbs ≤ (at0 (us c) c).natAbs * (M * at0 w j - at0 w' j).natAbs + M.natAbs * (at0 w c).natAbs * (at0 (us c) j).natAbs := q1
      omega
theorem Hnf.nodup : ∀ {cs : List Nat} {bs : List Rw}, Hnf n cs bs → cs.Nodup
  | _, _, .nil => List.nodup_nil
  | _, _, .cons c cs b bs hb hc z p r zz low t => List.nodup_cons.mpr ⟨fun h => by have := r c h; omega, t.nodup⟩
theorem basis_bd {E : Nat} (hE : 1 ≤ E) (hl : LnN n vs) (hb : BdN E vs) (h : Hnf n cs bs) (s : SameS n vs bs) : BdN (cs.length * crW E (cs.length - 1)) bs := by
  have hex : ∀ c : Nat, ∃ u : Rw, c ∈ cs → InS n vs u ∧ 0 < at0 u c ∧ (∀ d ∈ cs, d ≠ c → at0 u d = 0) ∧ (∀ j, (at0 u j).natAbs ≤ crW E (cs.length - 1)) ∧ ∀ e ∈ bs, (at0 e c).natAbs ≤ (at0 u c).natAbs := by
    intro c
    by_cases hc : c ∈ cs
    · obtain ⟨k, hk⟩ := List.mem_iff_getElem?.mp hc
      obtain ⟨piv, hpiv⟩ : ∃ piv, bs[k]? = some piv := ⟨bs[k]'(by rw [← h.len]; exact (List.getElem?_eq_some_iff.mp hk).1), List.getElem?_eq_getElem _⟩
      have hcn := h.lt c hc
      obtain ⟨v, hv, hv0, hvz⟩ := h.one hk
      obtain ⟨rows, r1, r2, r3⟩ := elim_cols hE hl hb (cs.filter fun d => decide (d ≠ c)) fun d hd => h.lt d (List.mem_filter.mp hd).1
      have sl : (cs.filter fun d => decide (d ≠ c)).length ≤ cs.length - 1 := by
        have q := List.length_filter_lt_length_iff_exists (p := fun d => decide (d ≠ c)) (l := cs) |>.mpr ⟨c, hc, by simp⟩
        omega
      obtain ⟨m, w, m0, hw, ew⟩ := r3 v ((s v).mpr hv) fun d hd => by
        obtain ⟨d1, d2⟩ := List.mem_filter.mp hd
        exact hvz d d1 (of_decide_eq_true d2)
      obtain ⟨u, hu, hu0⟩ : ∃ u ∈ rows, at0 u c ≠ 0 := Classical.byContradiction fun q => by
        have z := InS.col hcn r1 (fun b hb => Classical.byContradiction fun x => q ⟨b, hb, x⟩) hw
        rw [ew c hcn] at z
        rcases Int.mul_eq_zero.mp z with z | z
        · exact m0 z
        · exact hv0 z
      obtain ⟨uS, uz, ub⟩ := r2 u hu
      have lu := r1 u hu
      have uz2 : ∀ d ∈ cs, d ≠ c → at0 u d = 0 := fun d hd hne => uz d (List.mem_filter.mpr ⟨hd, decide_eq_true hne⟩)
      have ub2 : ∀ j, (at0 u j).natAbs ≤ crW E (cs.length - 1) := fun j => Nat.le_trans (ub j) (crW_mono hE sl)
      obtain ⟨x, ex⟩ := h.mult ((s u).mp uS) hk hpiv fun d hd hlt => uz2 d hd (by omega)
      obtain ⟨pp, pe⟩ := h.colb hk hpiv
      have hx : x ≠ 0 := fun q => hu0 (by rw [ex, q, Int.zero_mul])
      have ple : (at0 piv c).natAbs ≤ (at0 u c).natAbs := by
        rw [ex, Int.natAbs_mul]
        exact Nat.le_mul_of_pos_left _ (by omega)
      have ele : ∀ e ∈ bs, (at0 e c).natAbs ≤ (at0 u c).natAbs := fun e he => by
        have := pe e he
        omega
      by_cases sg : 0 < at0 u c
      · exact ⟨u, fun _ => ⟨uS, sg, uz2, ub2, ele⟩⟩
      · have ta : ∀ j, j < n → at0 (tvec u (-1)) j = -1 * at0 u j := fun j hj => tvec_at lu hj
        refine ⟨tvec u (-1), fun _ => ⟨InS.sc _ hl uS, by rw [ta c hcn]; omega, fun d hd hne => by rw [ta d (h.lt d hd), uz2 d hd hne]; rfl, fun j => ?_, fun e he => by
          have := ele e he
          rw [ta c hcn]
          omega⟩⟩
        by_cases hj : j < n
        · have := ub2 j
          rw [ta j hj]
          omega
        · unfold at0
          rw [List.getD_eq_getElem?_getD, List.getElem?_eq_none (by rw [tvec_len]; omega)]
          exact Nat.zero_le _
    · exact ⟨[], fun z => absurd z hc⟩
  obtain ⟨us, hus⟩ := Classical.axiomOfChoice hex
  intro e he x hx
  obtain ⟨j, hj⟩ := List.mem_iff_getElem?.mp hx
  have le := h.ln e he
  have hjn : j < n := by
    have := (List.getElem?_eq_some_iff.mp hj).1
    omega
  have ex : at0 e j = x := by
    have := at0_lt (r := e) (i := j) (by omega)
    rw [hj] at this
    exact (Option.some.inj this).symm
  obtain ⟨M, w', hM, hw', hz, _, hbd⟩ := sum_bd (W := crW E (cs.length - 1)) hl us cs e h.nodup (fun c hc => by
    obtain ⟨a1, a2, a3, a4, _⟩ := hus c hc
    exact ⟨h.lt c hc, a1, a2, a3, a4⟩) ((s e).mpr (InS.mem h.ln he)) fun c hc => (hus c hc).2.2.2.2 e he
  have w0 := h.zero ((s w').mp hw') hz
  have q := hbd j hjn
  rw [w0, zeroR_at, Int.sub_zero, Int.natAbs_mul, ex] at q
  exact Nat.le_of_mul_le_mul_left q (by omega)
end
end Aw
namespace Aw
section
variable {n : Nat} {cs ds : List Nat} {bs es vs rs ws : List Rw} {b f p r u v w : Rw}
theorem cross_self {c : Nat} (hp : p.length = n) : cross c p p = zeroR n := row_ext (cross_len hp hp) (zeroR_len n) fun j hj => by
  rw [cross_at hp hp hj, zeroR_at]
  omega
theorem InS.drop0 : ∀ {rs : List Rw} {v : Rw}, LnN n (zeroR n :: rs) → InS n (zeroR n :: rs) v → InS n rs v
  | rs, v, hl, ⟨t, u, hu, e⟩ => by
    have lu := hu.len hl.tail
    have : vplus u (zeroR n) t = u := row_ext (vplus_len lu (zeroR_len n)) lu fun j hj => by
      rw [vplus_at lu (zeroR_len n) hj, zeroR_at]
      omega
    rw [e, this]
    exact hu
/-- each has a multiple in the span of r rows: no more than r -/
theorem Hnf.rank : ∀ {cs : List Nat} {bs : List Rw} {ws : List Rw}, Hnf n cs bs → LnN n ws → (∀ s ∈ bs, ∃ m : Int, m ≠ 0 ∧ InS n ws (tvec s m)) → bs.length ≤ ws.length
  | _, _, ws, .nil, _, _ => Nat.zero_le _
  | _, _, ws, .cons c cs b bs hb hc z p r zz low t, hl, hm => by
    obtain ⟨m, m0, hbm⟩ := hm b (List.mem_cons_self ..)
    obtain ⟨q, hq, hqc⟩ : ∃ q ∈ ws, at0 q c ≠ 0 := Classical.byContradiction fun x => by
      have z := InS.col hc hl (fun s hs => Classical.byContradiction fun y => x ⟨s, hs, y⟩) hbm
      rw [tvec_at hb hc] at z
      rcases Int.mul_eq_zero.mp z with z | z
      · exact m0 z
      · omega
    obtain ⟨w1, w2, rfl⟩ := List.append_of_mem hq
    have lq := hl q hq
    have l2 : LnN n (q :: (w1 ++ w2)) := fun s hs => hl s (by
      rcases List.mem_cons.mp hs with rfl | hs
      · simp
      · rcases List.mem_append.mp hs with hs | hs <;> simp [hs])
    have same : SameS n (w1 ++ q :: w2) (q :: (w1 ++ w2)) := SameS.perm hl fun s => by
      simp only [List.mem_append, List.mem_cons]
      constructor
      · rintro (h | h | h)
        · exact .inr (.inl h)
        · exact .inl h
        · exact .inr (.inr h)
      · rintro (h | h | h)
        · exact .inr (.inl h)
        · exact .inl h
        · exact .inr (.inr h)
    have l3 : LnN n ((w1 ++ w2).map (cross c q)) := fun s hs => by
      obtain ⟨x, hx, rfl⟩ := List.mem_map.mp hs
      exact cross_len lq (l2 x (List.mem_cons_of_mem _ hx))
    have ih := Hnf.rank (ws := (w1 ++ w2).map (cross c q)) t l3 fun s hs => by
      obtain ⟨m, m0, hsm⟩ := hm s (List.mem_cons_of_mem _ hs)
      have ls := t.ln s hs
      have h1 := InS.map (c := c) lq hc l2 ((same _).mp hsm)
      rw [List.map_cons, cross_self lq] at h1
      have h2 := InS.drop0 (fun x hx => by
        rcases List.mem_cons.mp hx with rfl | hx
        · exact zeroR_len n
        · exact l3 x hx) h1
      refine ⟨at0 q c * m, fun z => ?_, ?_⟩
      · rcases Int.mul_eq_zero.mp z with z | z
        · exact hqc z
        · exact m0 z
      · have e : cross c q (tvec s m) = tvec s (at0 q c * m) := by
          have lt : (tvec s m).length = n := by rw [tvec_len, ls]
          refine row_ext (cross_len lq lt) (by rw [tvec_len, ls]) fun j hj => ?_
          rw [cross_at lq lt hj, tvec_at ls hj, tvec_at ls hj, tvec_at ls hc, zz s hs c (Nat.le_refl _), Int.mul_zero, Int.zero_mul, Int.sub_zero, Int.mul_assoc]
        rw [← e]
        exact h2
    rw [List.length_map, List.length_append] at ih
    rw [List.length_cons, List.length_append, List.length_cons]
    omega
theorem Hnf.rank' (h : Hnf n cs bs) (hl : LnN n ws) (hs : ∀ s ∈ bs, InS n ws s) : bs.length ≤ ws.length := h.rank hl fun s hm => ⟨1, by decide, by
  have e : tvec s 1 = s := row_ext (by rw [tvec_len, h.ln s hm]) (h.ln s hm) fun j hj => by
    rw [tvec_at (h.ln s hm) hj]
    omega
  rw [e]
  exact hs s hm⟩
/-- as many rows found as there can be: none is left -/
theorem BIn.full {i : Nat} {rows found : List Rw} (h : BIn n i vs rows found) (hv : ∀ s, InS n vs s → InS n ws s) (hl : LnN n vs) (hw : LnN n ws) (hf : ws.length ≤ found.length) : rows = [] := by
  obtain ⟨cs, hH, hcs⟩ := h.h
  cases rows with
  | nil => rfl
  | cons g t =>
    exfalso
    have hg := h.ln g (List.mem_cons_self ..)
    have hld := h.ld g (List.mem_cons_self ..)
    have hne := lead_ne (r := g) (by omega)
    have hil : i ≤ leadO g := by
      rcases Nat.lt_or_ge (leadO g) i with q | q
      · exact absurd (h.z g (List.mem_cons_self ..) _ q) hne
      · exact q
    obtain ⟨p1, p2, p3, x, p4, p5⟩ := posR_back (i := leadO g) hg hld
    have hsn := hH.snoc p1 hld (fun j hj => p2 j (by omega) (lead_zero hj)) (p3 hne) (fun c hc => by have := hcs c hc; omega)
    have l1 := h.ln.app hH.ln
    have inw : ∀ s, InS n (g :: t ++ found) s → InS n ws s := fun s hs => hv s ((h.s s).mpr hs)
    have hpg : InS n (g :: t ++ found) (posR (leadO g) g) := InS.scale x l1 (InS.mem l1 (by simp)) p1 p4
    have q := hsn.rank' hw fun s hs => by
      rcases List.mem_append.mp hs with hs | hs
      · obtain ⟨s', hs', rfl⟩ := List.mem_map.mp hs
        exact inw _ (InS.red l1 (InS.mem l1 (List.mem_append_right _ hs')) hpg)
      · rw [List.mem_singleton.mp hs]
        exact inw _ hpg
    rw [List.length_append, List.length_map, List.length_singleton] at q
    omega
theorem cleared_one {i : Nat} {rows : List Rw} (h : (lefts i rows).length ≤ 1) : cleared i rows = lefts i rows ++ zeros i rows := clr_done (n := 0) h _
/-- a column with one row at most to clear: no number grows but in what is found -/
theorem Stg.one {k e f i : Nat} {rows found : List Rw} (h : Stg n k e f rows found) (hi : i < n) (hf : found.length ≤ i) (hk : k ≤ 900) (hn : n ≤ 900) (he : e < capB) (hc : (lefts i rows).length ≤ 1) (hF : f < capB) :
    SafeS n i (2 ^ e) (2 ^ f) rows found ∧ Stg n k e (f + e + 2) (basStep n i rows found).1 (basStep n i rows found).2 := by
  have cc := capB_eq
  have hsub : ∀ r ∈ lefts i rows, r ∈ rows ∧ at0 r i ≠ 0 := fun r hr => by
    obtain ⟨a, b⟩ := List.mem_filter.mp hr
    exact ⟨a, of_decide_eq_true b⟩
  have hzub : ∀ r ∈ zeros i rows, r ∈ rows ∧ at0 r i = 0 := fun r hr => by
    obtain ⟨a, b⟩ := List.mem_filter.mp hr
    exact ⟨a, of_decide_eq_true b⟩
  have colE : ColN i (2 ^ e) (lefts i rows) := fun r hr => h.b1 r (hsub r hr).1 _ (at0_mem (by rw [h.l1 r (hsub r hr).1]; exact hi))
  have hsc : SafeC n i (2 ^ e) rows := ⟨2 ^ e, 2 ^ e, ⟨fun r hr => h.l1 r (hsub r hr).1, fun r hr => h.l1 r (hzub r hr).1, fun r hr => (hsub r hr).2, fun r hr => (hzub r hr).2, fun r hr x hx => h.b1 r (hsub r hr).1 x hx, fun r hr x hx => h.b1 r (hzub r hr).1 x hx, .inl hc, fun _ => colE⟩,
    Nat.le_refl _, Nat.pow_lt_pow_right (by decide) he⟩
  obtain ⟨o1, o2, o3, o4⟩ := hsc.out hi
  have hcl := cleared_len i rows
  have hlr : ∀ r ∈ ledR n (cleared i rows), r ∈ cleared i rows := fun r hr => (List.mem_filter.mp hr).1
  have hll2 : (ledR n (cleared i rows)).length ≤ (cleared i rows).length := List.length_filter_le _ _
  have hr := h.r
  refine ⟨⟨hi, hsc, h.l2, h.b2, by omega, by omega, Nat.pow_lt_pow_right (by decide) (by omega), Nat.pow_lt_pow_right (by decide) (by omega)⟩, ?_⟩
  unfold basStep
  have hff : 2 ^ f ≤ 2 ^ (f + e + 2) := Nat.pow_le_pow_right (by decide) (by omega)
  cases e2 : ledR n (cleared i rows) with
  | nil => exact ⟨fun r hr => (by cases hr), h.l2, fun r hr => (by cases hr), fun r hr x hx => Nat.le_trans (h.b2 r hr x hx) hff, Nat.zero_le _, h.f⟩
  | cons g rest =>
    rw [e2] at hlr hll2
    rw [List.length_cons] at hll2
    dsimp only
    by_cases c : at0 g i = 0
    · rw [if_pos c]
      exact ⟨fun r hr => o1 r (hlr r hr), h.l2, fun r hr => o2 r (hlr r hr), fun r hr x hx => Nat.le_trans (h.b2 r hr x hx) hff, by rw [List.length_cons]; omega, h.f⟩
    · rw [if_neg c]
      have hg := hlr g (List.mem_cons_self ..)
      obtain ⟨p1, p2, p3, p4⟩ := posR_facts (o1 g hg) (o2 g hg) hi c
      refine ⟨fun r hr => o1 r (hlr r (List.mem_cons_of_mem _ hr)), fun r hr => ?_, fun r hr => o2 r (hlr r (List.mem_cons_of_mem _ hr)), fun r hr x hx => ?_, by show rest.length ≤ k; omega, ?_⟩
      · rcases List.mem_append.mp hr with hr | hr
        · obtain ⟨s, hs, rfl⟩ := List.mem_map.mp hr
          exact redR_len (h.l2 s hs) p1
        · rw [List.mem_singleton.mp hr]
          exact p1
      · rcases List.mem_append.mp hr with hr | hr
        · obtain ⟨s, hs, rfl⟩ := List.mem_map.mp hr
          have q := redR_bd (h.l2 s hs) hi (h.b2 s hs) p2 (show at0 (posR i g) i ≠ 0 by omega) x hx
          refine Nat.le_trans q ?_
          have h1 : 1 ≤ 2 ^ f := Nat.one_le_two_pow
          have h2 : 1 ≤ 2 ^ e := Nat.one_le_two_pow
          have h3 : (2 ^ f + 1) * 2 ^ e ≤ 2 * (2 ^ f * 2 ^ e) := by
            rw [← Nat.mul_assoc]
            exact Nat.mul_le_mul_right _ (by omega)
          have h4 : 2 ^ f ≤ 2 ^ f * 2 ^ e := Nat.le_mul_of_pos_right _ (by omega)
          rw [Nat.pow_add 2 (f + e) 2, Nat.pow_add 2 f]
          have e4 : (2 : Nat) ^ 2 = 4 := rfl
          omega
        · rw [List.mem_singleton.mp hr] at hx
          exact Nat.le_trans (p2 x hx) (Nat.pow_le_pow_right (by decide) (by omega))
      · show (found.map (fun r => redR i r (posR i g)) ++ [posR i g]).length ≤ n
        rw [List.length_append, List.length_map, List.length_singleton]
        omega
theorem bs_len (i : Nat) (rows found : List Rw) : found.length ≤ (basStep n i rows found).2.length ∧ (basStep n i rows found).2.length ≤ found.length + 1 := by
  unfold basStep
  cases ledR n (cleared i rows) with
  | nil => exact ⟨Nat.le_refl _, Nat.le_succ _⟩
  | cons g rest =>
    dsimp only
    split
    · exact ⟨Nat.le_refl _, Nat.le_succ _⟩
    · dsimp only
      rw [List.length_append, List.length_map, List.length_singleton]
      omega
theorem clr_head {i D G P : Nat} (hi : i < n) (hD : D ≤ G) : ∀ (k : Nat) (left others : List Rw), LI n i D G P left others → left ≠ [] → ∃ g t, clrF k i left others = g :: t ∧ at0 g i ≠ 0
  | 0, left, others, h, hne => by
    cases left with
    | nil => exact absurd rfl hne
    | cons g t => exact ⟨g, t ++ others, rfl, h.nz g (List.mem_cons_self ..)⟩
  | k + 1, left, others, h, hne => by
    by_cases c : left.length ≤ 1
    · rw [clrF, if_pos c]
      cases left with
      | nil => exact absurd rfl hne
      | cons g t => exact ⟨g, t ++ others, rfl, h.nz g (List.mem_cons_self ..)⟩
    · rw [clrF, if_neg c]
      obtain ⟨h2, _⟩ := h.step hi (by omega) hD
      refine clr_head hi hD k _ _ h2 fun z => ?_
      rw [stp_eq] at z
      simp at z
/-- more than one row to clear: one row more is found -/
theorem bs_more {i P F : Nat} {rows found : List Rw} (hS : SafeS n i P F rows found) (hne : lefts i rows ≠ []) : (basStep n i rows found).2.length = found.length + 1 := by
  obtain ⟨D, G, hL, hD, hG⟩ := hS.c
  obtain ⟨g, t, e, hg⟩ := clr_head hS.lt hD (meas i (lefts i rows)) _ _ hL hne
  have e : cleared i rows = g :: t := e
  have hld : leadO g < n := by
    have := hS.lt
    rcases Nat.lt_or_ge i (leadO g) with q | q
    · exact absurd (lead_zero q) hg
    · omega
  have e2 : ledR n (cleared i rows) = g :: ledR n t := by
    rw [e]
    unfold ledR
    rw [List.filter_cons_of_pos (by exact decide_eq_true hld)]
  unfold basStep
  rw [e2]
  dsimp only
  rw [if_neg hg]
  dsimp only
  rw [List.length_append, List.length_map, List.length_singleton]
theorem bas_done : ∀ (k f : Nat) (found : List Rw), k ≤ n → n ≤ 900 → LnN n found → BdN (2 ^ f) found → found.length ≤ n → f < capB → BasOk n k [] found
  | 0, _, _, _, _, _, _, _, _ => trivial
  | k + 1, f, found, hk, hn, hl, hb, hf, hF => by
    have e : basStep n (n - (k + 1)) [] found = ([], found) := by
      have c : cleared (n - (k + 1)) [] = [] := clr_done (n := n) (Nat.zero_le _) _
      unfold basStep
      rw [c]
      rfl
    refine ⟨⟨1, 2 ^ f, by omega, ⟨0, 0, ⟨fun r h => (by cases h), fun r h => (by cases h), fun r h => (by cases h), fun r h => (by cases h), fun r h => (by cases h), fun r h => (by cases h), .inl (Nat.zero_le _), fun _ r h => (by cases h)⟩, Nat.le_refl _, Nat.pow_pos (by decide)⟩, hl, hb, by decide, by omega, Nat.one_lt_two_pow (Nat.ne_of_gt cap_pos), Nat.pow_lt_pow_right (by decide) hF⟩, ?_⟩
    rw [e]
    exact bas_done k f found (by omega) hn hl hb hf hF
/-- all columns can be cleared: five at most are found -/
theorem bas_rank (hn : n ≤ 30) (hl : LnN n vs) (hw : LnN n ws) (hr : ws.length ≤ 5) (hv : ∀ s, InS n vs s → InS n ws s) : ∀ (k e f : Nat) (rows found : List Rw), k ≤ n → BIn n (n - k) vs rows found → Stg n 7 e f rows found → found.length ≤ n - k → found.length ≤ 5 →
    (found.length ≤ 4 → 2 * e + 3 ≤ 150 * 3 ^ found.length) → f ≤ 6100 * (n - k) + 18300 * found.length → BasOk n k rows found
  | 0, _, _, _, _, _, _, _, _, _, _, _ => trivial
  | k + 1, e, f, rows, found, hk, hB, s, hf, h5, he, hg => by
    have cc := capB_eq
    by_cases hfull : ws.length ≤ found.length
    · have := hB.full hv hl hw hfull
      subst this
      exact bas_done (k + 1) f found hk (by omega) s.l2 s.b2 s.f (by omega)
    · have h4 : found.length ≤ 4 := by omega
      have he := he h4
      have hp : 3 ^ found.length ≤ 3 ^ 4 := Nat.pow_le_pow_right (by decide) h4
      have hi : n - (k + 1) < n := by omega
      have e1 : n - (k + 1) + 1 = n - k := by omega
      obtain ⟨g1, g2⟩ := bs_len (n := n) (n - (k + 1)) rows found
      by_cases c : (lefts (n - (k + 1)) rows).length ≤ 1
      · have q := s.one hi hf (by omega) (by omega) (by omega) c (by omega)
        have b := hB.next q.1
        rw [e1] at b
        refine ⟨⟨_, _, q.1⟩, bas_rank hn hl hw hr hv k _ _ _ _ (by omega) b q.2 (by omega) (by omega) (fun h => Nat.le_trans he (Nat.mul_le_mul_left _ (Nat.pow_le_pow_right (by decide) g1))) (by omega)⟩
      · have q := s.next (d := e) hi hf (by omega) (by omega) (by omega) (by omega) (fun h => by
          obtain ⟨_, hm, _⟩ := leastO_spec (i := n - (k + 1)) (ne_len h)
          have hm2 := (List.mem_filter.mp hm).1
          exact s.b1 _ hm2 _ (at0_mem (by rw [s.l1 _ hm2]; exact hi))) (by omega) (by omega)
        have m := bs_more q.1 (ne_len (by omega))
        have b := hB.next q.1
        rw [e1] at b
        refine ⟨⟨_, _, q.1⟩, bas_rank hn hl hw hr hv k _ _ _ _ (by omega) b q.2.1 (by omega) (by omega) (fun h => ?_) (by omega)⟩
        rw [m, Nat.pow_succ]
        omega
/-- what k38 asks: at most seven vectors, spanned by five, numbers up to 2^73 -/
theorem bas_five (hn : n ≤ 30) (hl : LnN n vs) (h6 : vs.length ≤ 7) (hb : BdN (2 ^ 73) vs) (hw : LnN n ws) (hr : ws.length ≤ 5) (hv : ∀ s, InS n vs s → InS n ws s) : BasOk n n (ledR n vs) [] := by
  refine bas_rank hn hl hw hr hv n 73 0 _ [] (Nat.le_refl _) ⟨fun r hr => hl r (List.mem_filter.mp hr).1, fun r hr j hj => by omega, fun r hr => of_decide_eq_true (List.mem_filter.mp hr).2, ⟨[], .nil, fun c h => by cases h⟩, ?_⟩
    ⟨fun r hr => hl r (List.mem_filter.mp hr).1, fun r h => (by cases h), fun r hr => hb r (List.mem_filter.mp hr).1, fun r h => (by cases h), Nat.le_trans (List.length_filter_le _ _) h6, Nat.zero_le _⟩ (Nat.zero_le _) (by decide) (fun _ => by decide) (by omega)
  rw [List.append_nil]
  exact led_same hl
end
end Aw
namespace Aw
/-- rows[at], v = v, less(rows[at], v, rows[at][at] // v[at]) while v[at] != 0 -/
def swp (i : Nat) : Nat → Rw → Rw → Rw × Rw
  | 0, r, v => (r, v)
  | k + 1, r, v => if at0 v i = 0 then (r, v) else swp i k v (redR i r v)
section
variable {n : Nat} {r v : Rw}
theorem swp_spec {i : Nat} (hi : i < n) : ∀ (k : Nat) (r v : Rw), r.length = n → v.length = n → (at0 v i).natAbs ≤ k → at0 r i ≠ 0 →
    (swp i k r v).1.length = n ∧ (swp i k r v).2.length = n ∧ at0 (swp i k r v).2 i = 0 ∧ at0 (swp i k r v).1 i ≠ 0 ∧
    (∀ j, j < n → at0 r j = 0 → at0 v j = 0 → at0 (swp i k r v).1 j = 0 ∧ at0 (swp i k r v).2 j = 0) ∧
    (∀ full, LnN n full → InS n full r → InS n full v → InS n full (swp i k r v).1 ∧ InS n full (swp i k r v).2) ∧
    ∀ full, LnN n full → InS n full (swp i k r v).1 → InS n full (swp i k r v).2 → InS n full r ∧ InS n full v
  | 0, r, v, hr, hv, hk, hz => ⟨hr, hv, by show at0 v i = 0; omega, hz, fun j _ a b => ⟨a, b⟩, fun full _ a b => ⟨a, b⟩, fun full _ a b => ⟨a, b⟩⟩
  | k + 1, r, v, hr, hv, hk, hz => by
    by_cases c : at0 v i = 0
    · rw [swp, if_pos c]
      exact ⟨hr, hv, c, hz, fun j _ a b => ⟨a, b⟩, fun full _ a b => ⟨a, b⟩, fun full _ a b => ⟨a, b⟩⟩
    · rw [swp, if_neg c]
      have lr := redR_len (i := i) hr hv
      have hlt := (red_facts hi hr hv c).1
      obtain ⟨a1, a2, a3, a4, a5, a6, a7⟩ := swp_spec hi k v (redR i r v) hv lr (by omega) c
      refine ⟨a1, a2, a3, a4, fun j hj z1 z2 => a5 j hj z2 (by rw [red_col hr hv hj z2, z1]), fun full hl h1 h2 => a6 full hl h2 (InS.red hl h1 h2), fun full hl h1 h2 => ?_⟩
      obtain ⟨b1, b2⟩ := a7 full hl h1 h2
      refine ⟨?_, b1⟩
      rw [red_back (i := i) hr hv]
      exact InS.comb _ hl b2 b1
/-- how large: of one sign -/
theorem swp_bd1 {i : Nat} (hi : i < n) {S : Nat} : ∀ (k : Nat) (r v : Rw) (A B : Nat), r.length = n → v.length = n → (∀ x ∈ r, x.natAbs ≤ A) → (∀ x ∈ v, x.natAbs ≤ B) → A ≤ S → B ≤ S → (at0 v i = 0 ∨ oneS (at0 r i) (at0 v i)) →
    (at0 r i).natAbs * B + (at0 v i).natAbs * A ≤ S → (∀ x ∈ (swp i k r v).1, x.natAbs ≤ S) ∧ ∀ x ∈ (swp i k r v).2, x.natAbs ≤ S
  | 0, r, v, A, B, hr, hv, hA, hB, hAS, hBS, hs, hS => ⟨fun x hx => Nat.le_trans (hA x hx) hAS, fun x hx => Nat.le_trans (hB x hx) hBS⟩
  | k + 1, r, v, A, B, hr, hv, hA, hB, hAS, hBS, hs, hS => by
    by_cases c : at0 v i = 0
    · rw [swp, if_pos c]
      exact ⟨fun x hx => Nat.le_trans (hA x hx) hAS, fun x hx => Nat.le_trans (hB x hx) hBS⟩
    · rw [swp, if_neg c]
      have ho : oneS (at0 r i) (at0 v i) := by
        rcases hs with z | z
        · exact absurd z c
        · exact z
      have q1 := fd_same ho
      obtain ⟨f1, f2⟩ := red_facts hi hr hv c
      have ev := redR_at (i := i) hr hv hi
      have e1 : (0 - qOf i r v).natAbs = (qOf i r v).natAbs := by omega
      have hbd : ∀ x ∈ redR i r v, x.natAbs ≤ A + (qOf i r v).natAbs * B := fun x hx => by
        have := vplus_bd hA hB x hx
        rw [e1] at this
        exact this
      have key : (at0 v i).natAbs * (A + (qOf i r v).natAbs * B) + (at0 (redR i r v) i).natAbs * B ≤ S := by
        have e2 : (at0 v i).natAbs * (A + (qOf i r v).natAbs * B) + (at0 (redR i r v) i).natAbs * B = ((qOf i r v).natAbs * (at0 v i).natAbs + (at0 (redR i r v) i).natAbs) * B + (at0 v i).natAbs * A := by
          rw [Nat.mul_add, Nat.add_mul, ← Nat.mul_assoc, Nat.mul_comm (at0 v i).natAbs (qOf i r v).natAbs]
          omega
        rw [e2]
        have e3 : (qOf i r v).natAbs * (at0 v i).natAbs + (at0 (redR i r v) i).natAbs = (at0 r i).natAbs := by
          rw [ev]
          exact q1
        rw [e3]
        exact hS
      refine swp_bd1 hi k v (redR i r v) B (A + (qOf i r v).natAbs * B) hv (redR_len hr hv) hB hbd hBS ?_ ?_ key
      · have := Nat.mul_le_mul_right (A + (qOf i r v).natAbs * B) (show 1 ≤ (at0 v i).natAbs by omega)
        omega
      · by_cases z : at0 (redR i r v) i = 0
        · exact .inl z
        · exact .inr (f2 z)
/-- how large -/
theorem swp_bd {i : Nat} (hi : i < n) (k : Nat) (r v : Rw) (A B S : Nat) (hr : r.length = n) (hv : v.length = n) (hA : ∀ x ∈ r, x.natAbs ≤ A) (hB : ∀ x ∈ v, x.natAbs ≤ B) (hAS : A ≤ S) (hBS : B ≤ S)
    (hS : (at0 v i).natAbs * A + ((at0 r i).natAbs + 2 * (at0 v i).natAbs) * B ≤ S) : (∀ x ∈ (swp i k r v).1, x.natAbs ≤ S) ∧ ∀ x ∈ (swp i k r v).2, x.natAbs ≤ S := by
  cases k with
  | zero => exact ⟨fun x hx => Nat.le_trans (hA x hx) hAS, fun x hx => Nat.le_trans (hB x hx) hBS⟩
  | succ k =>
    by_cases c : at0 v i = 0
    · rw [swp, if_pos c]
      exact ⟨fun x hx => Nat.le_trans (hA x hx) hAS, fun x hx => Nat.le_trans (hB x hx) hBS⟩
    · rw [swp, if_neg c]
      obtain ⟨f1, f2⟩ := red_facts hi hr hv c
      have q2 := fd_le (a := at0 r i) c
      have e1 : (0 - qOf i r v).natAbs = (qOf i r v).natAbs := by omega
      have hbd : ∀ x ∈ redR i r v, x.natAbs ≤ A + (qOf i r v).natAbs * B := fun x hx => by
        have := vplus_bd hA hB x hx
        rw [e1] at this
        exact this
      have key : (at0 v i).natAbs * (A + (qOf i r v).natAbs * B) + (at0 (redR i r v) i).natAbs * B ≤ S := by
        have e2 : (at0 v i).natAbs * (A + (qOf i r v).natAbs * B) + (at0 (redR i r v) i).natAbs * B = ((qOf i r v).natAbs * (at0 v i).natAbs + (at0 (redR i r v) i).natAbs) * B + (at0 v i).natAbs * A := by
          rw [Nat.mul_add, Nat.add_mul, ← Nat.mul_assoc, Nat.mul_comm (at0 v i).natAbs (qOf i r v).natAbs]
          omega
        rw [e2]
        have q3 : (qOf i r v).natAbs * (at0 v i).natAbs + (at0 (redR i r v) i).natAbs ≤ (at0 r i).natAbs + 2 * (at0 v i).natAbs := by
          unfold qOf
          omega
        have q4 := Nat.mul_le_mul_right B q3
        omega
      refine swp_bd1 hi k v (redR i r v) B (A + (qOf i r v).natAbs * B) hv (redR_len hr hv) hB hbd hBS ?_ ?_ key
      · have := Nat.mul_le_mul_right (A + (qOf i r v).natAbs * B) (show 1 ≤ (at0 v i).natAbs by omega)
        omega
      · by_cases z : at0 (redR i r v) i = 0
        · exact .inl z
        · exact .inr (f2 z)
/-- in bits -/
theorem swp_bits {i a b : Nat} (hi : i < n) (k : Nat) (r v : Rw) (hr : r.length = n) (hv : v.length = n) (hA : ∀ x ∈ r, x.natAbs ≤ 2 ^ a) (hB : ∀ x ∈ v, x.natAbs ≤ 2 ^ b) :
    (∀ x ∈ (swp i k r v).1, x.natAbs ≤ 2 ^ (max a b + b + 2)) ∧ ∀ x ∈ (swp i k r v).2, x.natAbs ≤ 2 ^ (max a b + b + 2) := by
  have pa : 2 ^ a ≤ 2 ^ max a b := Nat.pow_le_pow_right (by decide) (Nat.le_max_left ..)
  have pb : 2 ^ b ≤ 2 ^ max a b := Nat.pow_le_pow_right (by decide) (Nat.le_max_right ..)
  have h1 : 2 ^ a ≤ 2 ^ (max a b + b + 2) := Nat.pow_le_pow_right (by decide) (by omega)
  have h2 : 2 ^ b ≤ 2 ^ (max a b + b + 2) := Nat.pow_le_pow_right (by decide) (by omega)
  refine swp_bd hi k r v (2 ^ a) (2 ^ b) _ hr hv hA hB h1 h2 ?_
  have va := hB _ (at0_mem (r := v) (i := i) (by omega))
  have ra := hA _ (at0_mem (r := r) (i := i) (by omega))
  have q1 := Nat.mul_le_mul va pa
  have q2 : ((at0 r i).natAbs + 2 * (at0 v i).natAbs) * 2 ^ b ≤ 3 * 2 ^ max a b * 2 ^ b := Nat.mul_le_mul_right _ (by omega)
  have e : 2 ^ (max a b + b + 2) = 4 * (2 ^ max a b * 2 ^ b) := by
    rw [Nat.pow_add, Nat.pow_add, Nat.mul_comm _ (2 ^ 2)]
  have e2 : 2 ^ b * 2 ^ max a b = 2 ^ max a b * 2 ^ b := Nat.mul_comm ..
  have e3 : 3 * 2 ^ max a b * 2 ^ b = 3 * (2 ^ max a b * 2 ^ b) := Nat.mul_assoc ..
  omega
end
end Aw
namespace Aw
abbrev Rf := Nat → Option Rw
def setR (R : Rf) (i : Nat) (r : Rw) : Rf := fun j => if j = i then some r else R j
/-- a vector is put in: k columns left -/
def lput (n : Nat) : Nat → Rf → Rw → Rf
  | 0, R, _ => R
  | k + 1, R, v => if at0 v (n - (k + 1)) = 0 then lput n k R v else match R (n - (k + 1)) with
    | none => setR R (n - (k + 1)) (posR (n - (k + 1)) v)
    | some r => lput n k (setR R (n - (k + 1)) (posR (n - (k + 1)) (swp (n - (k + 1)) (at0 v (n - (k + 1))).natAbs r v).1)) (swp (n - (k + 1)) (at0 v (n - (k + 1))).natAbs r v).2
def lputs (n : Nat) : List Rw → Rf → Rf
  | [], R => R
  | v :: vs, R => lputs n vs (lput n n R v)
def leadsR (n : Nat) (R : Rf) : List Nat := (List.range n).filter fun i => (R i).isSome
/-- a row is reduced by later ones -/
def redL (R : Rf) (cs : List Nat) (row : Rw) : Rw := cs.foldl (fun row l => redR l row ((R l).getD [])) row
def finR (R : Rf) : List Nat → List Rw
  | [] => []
  | c :: cs => redL R cs ((R c).getD []) :: finR R cs
def lbasis (n : Nat) (vs : List Rw) : List Rw := finR (lputs n vs fun _ => none) (leadsR n (lputs n vs fun _ => none))
structure EcR (n : Nat) (R : Rf) : Prop where
  at' : ∀ i r, R i = some r → i < n ∧ r.length = n ∧ (∀ j, j < i → at0 r j = 0) ∧ 0 < at0 r i
def ClR (n : Nat) (full : List Rw) (R : Rf) : Prop := ∀ i r, R i = some r → InS n full r
section
variable {n : Nat} {R : Rf} {v r : Rw} {vs full : List Rw}
theorem EcR.set {i : Nat} (h : EcR n R) (hi : i < n) (hr : r.length = n) (hz : ∀ j, j < i → at0 r j = 0) (p : 0 < at0 r i) : EcR n (setR R i r) := ⟨fun j s e => by
  unfold setR at e
  by_cases c : j = i
  · rw [if_pos c] at e
    cases e
    rw [c]
    exact ⟨hi, hr, hz, p⟩
  · rw [if_neg c] at e
    exact h.at' j s e⟩
theorem ClR.set {i : Nat} (h : ClR n full R) (hr : InS n full r) : ClR n full (setR R i r) := fun j s e => by
  unfold setR at e
  by_cases c : j = i
  · rw [if_pos c] at e
    cases e
    exact hr
  · rw [if_neg c] at e
    exact h j s e
theorem ClR.get {i : Nat} (h : ClR n full (setR R i r)) : InS n full r := h i r (by unfold setR; rw [if_pos rfl])
theorem ClR.off {i j : Nat} {s : Rw} (h : ClR n full (setR R i r)) (hj : j ≠ i) (e : R j = some s) : InS n full s := h j s (by unfold setR; rw [if_neg hj]; exact e)
theorem pos_iff {i : Nat} (hl : LnN n full) (hr : r.length = n) (hi : i < n) : InS n full (posR i r) ↔ InS n full r := by
  obtain ⟨p1, p2, p3, x, p4, p5⟩ := posR_back (i := i) hr hi
  exact ⟨fun h => InS.scale x hl h hr fun j hj => by rw [p4 j hj, ← Int.mul_assoc, p5, Int.one_mul], fun h => InS.scale x hl h p1 p4⟩
theorem lput_spec : ∀ (k : Nat) (R : Rf) (v : Rw), k ≤ n → EcR n R → v.length = n → (∀ j, j < n - k → at0 v j = 0) → EcR n (lput n k R v) ∧
    (∀ full, LnN n full → ClR n full R → InS n full v → ClR n full (lput n k R v)) ∧ ∀ full, LnN n full → ClR n full (lput n k R v) → ClR n full R ∧ InS n full v
  | 0, R, v, _, h, hv, hz => ⟨h, fun full _ a _ => a, fun full hl a => ⟨a, by
      have e : v = zeroR n := row_ext hv (zeroR_len n) fun i hi => by rw [hz i (by omega), zeroR_at]
      rw [e]
      exact InS.zero hl⟩⟩
  | k + 1, R, v, hk, h, hv, hz => by
    have hi : n - (k + 1) < n := by omega
    have e1 : n - (k + 1) + 1 = n - k := by omega
    unfold lput
    by_cases c : at0 v (n - (k + 1)) = 0
    · rw [if_pos c]
      exact lput_spec k R v (by omega) h hv fun j hj => by
        by_cases q : j < n - (k + 1)
        · exact hz j q
        · obtain rfl : j = n - (k + 1) := by omega
          exact c
    · rw [if_neg c]
      generalize hI : n - (k + 1) = i at hi e1 c hz ⊢
      obtain ⟨p1, p2, p3, x, p4, p5⟩ := posR_back (i := i) hv hi
      cases hR : R i with
      | none =>
        dsimp only
        refine ⟨h.set hi p1 (fun j hj => p2 j (by omega) (hz j hj)) (p3 c), fun full hl a b => a.set ((pos_iff hl hv hi).mpr b), fun full hl a => ⟨fun j s e => ?_, (pos_iff hl hv hi).mp a.get⟩⟩
        refine a.off (fun q => ?_) e
        rw [q, hR] at e
        cases e
      | some r =>
        dsimp only
        obtain ⟨_, hr, hrz, hrp⟩ := h.at' i r hR
        obtain ⟨s1, s2, s3, s4, s5, s6, s7⟩ := swp_spec hi (at0 v i).natAbs r v hr hv (Nat.le_refl _) (by omega)
        obtain ⟨q1, q2, q3, y, q4, q5⟩ := posR_back (i := i) s1 hi
        have h2 : EcR n (setR R i (posR i (swp i (at0 v i).natAbs r v).1)) := h.set hi q1 (fun j hj => q2 j (by omega) (s5 j (by omega) (hrz j hj) (hz j hj)).1) (q3 s4)
        obtain ⟨t1, t2, t3⟩ := lput_spec k _ _ (by omega) h2 s2 fun j hj => by
          by_cases q : j < i
          · exact (s5 j (by omega) (hrz j q) (hz j q)).2
          · obtain rfl : j = i := by omega
            exact s3
        refine ⟨t1, fun full hl a b => ?_, fun full hl a => ?_⟩
        · obtain ⟨u1, u2⟩ := s6 full hl (a i r hR) b
          exact t2 full hl (a.set ((pos_iff hl s1 hi).mpr u1)) u2
        · obtain ⟨u1, u2⟩ := t3 full hl a
          obtain ⟨w1, w2⟩ := s7 full hl ((pos_iff hl s1 hi).mp u1.get) u2
          refine ⟨fun j s e => ?_, w2⟩
          by_cases q : j = i
          · rw [q, hR] at e
            cases e
            exact w1
          · exact u1.off q e
theorem lputs_spec : ∀ (vs : List Rw) (R : Rf), LnN n vs → EcR n R → EcR n (lputs n vs R) ∧
    (∀ full, LnN n full → ClR n full R → (∀ v ∈ vs, InS n full v) → ClR n full (lputs n vs R)) ∧ ∀ full, LnN n full → ClR n full (lputs n vs R) → ClR n full R ∧ ∀ v ∈ vs, InS n full v
  | [], R, _, h => ⟨h, fun full _ a _ => a, fun full _ a => ⟨a, fun v hv => by cases hv⟩⟩
  | v :: vs, R, hl, h => by
    obtain ⟨a1, a2, a3⟩ := lput_spec n R v (Nat.le_refl _) h hl.head fun j hj => by omega
    obtain ⟨b1, b2, b3⟩ := lputs_spec vs (lput n n R v) hl.tail a1
    refine ⟨b1, fun full hf c d => b2 full hf (a2 full hf c (d v (List.mem_cons_self ..))) fun u hu => d u (List.mem_cons_of_mem _ hu), fun full hf c => ?_⟩
    obtain ⟨d1, d2⟩ := b3 full hf c
    obtain ⟨e1, e2⟩ := a3 full hf d1
    refine ⟨e1, fun u hu => ?_⟩
    rcases List.mem_cons.mp hu with rfl | hu
    · exact e2
    · exact d2 u hu
theorem redL_cons {c : Nat} {cs : List Nat} {row : Rw} : redL R (c :: cs) row = redL R cs (redR c row ((R c).getD [])) := rfl
theorem redL_len (h : EcR n R) : ∀ (cs : List Nat) (row : Rw), (∀ c ∈ cs, (R c).isSome = true) → row.length = n → (redL R cs row).length = n
  | [], row, _, hr => hr
  | c :: cs, row, hc, hr => by
    obtain ⟨s, hs⟩ := Option.isSome_iff_exists.mp (hc c (List.mem_cons_self ..))
    obtain ⟨_, hl, _, _⟩ := h.at' c s hs
    rw [redL_cons, hs, Option.getD_some]
    exact redL_len h cs _ (fun d hd => hc d (List.mem_cons_of_mem _ hd)) (redR_len hr hl)
theorem redL_at (h : EcR n R) {j : Nat} (hj : j < n) : ∀ (cs : List Nat) (row : Rw), (∀ c ∈ cs, (R c).isSome = true ∧ j < c) → row.length = n → at0 (redL R cs row) j = at0 row j
  | [], row, _, hr => rfl
  | c :: cs, row, hc, hr => by
    obtain ⟨q1, q2⟩ := hc c (List.mem_cons_self ..)
    obtain ⟨s, hs⟩ := Option.isSome_iff_exists.mp q1
    obtain ⟨_, hl, hz, _⟩ := h.at' c s hs
    rw [redL_cons, hs, Option.getD_some]
    rw [redL_at h hj cs _ (fun d hd => hc d (List.mem_cons_of_mem _ hd)) (redR_len hr hl)]
    exact red_col hr hl hj (hz j q2)
theorem redL_low (h : EcR n R) : ∀ (cs : List Nat) (row : Rw), cs.Pairwise (· < ·) → (∀ c ∈ cs, (R c).isSome = true) → row.length = n → ∀ c ∈ cs, 0 ≤ at0 (redL R cs row) c ∧ at0 (redL R cs row) c < at0 ((R c).getD []) c
  | [], row, _, _, hr => fun c hc => by cases hc
  | c :: cs, row, hp, hc, hr => fun d hd => by
    obtain ⟨hp1, hp2⟩ := List.pairwise_cons.mp hp
    obtain ⟨s, hs⟩ := Option.isSome_iff_exists.mp (hc c (List.mem_cons_self ..))
    obtain ⟨hcn, hl, hz, hpos⟩ := h.at' c s hs
    have hc2 : ∀ d ∈ cs, (R d).isSome = true := fun d hd => hc d (List.mem_cons_of_mem _ hd)
    rw [redL_cons, hs, Option.getD_some]
    rcases List.mem_cons.mp hd with e | hd
    · rw [e, hs, Option.getD_some]
      rw [redL_at h hcn cs _ (fun x hx => ⟨hc2 x hx, hp1 x hx⟩) (redR_len hr hl)]
      exact red_low hr hl hcn hpos
    · exact redL_low h cs _ hp2 hc2 (redR_len hr hl) d hd
theorem redL_iff (h : EcR n R) (hf : LnN n full) : ∀ (cs : List Nat) (row : Rw), (∀ c ∈ cs, ∃ s, R c = some s ∧ InS n full s) → row.length = n → (InS n full (redL R cs row) ↔ InS n full row)
  | [], row, _, _ => Iff.rfl
  | c :: cs, row, hc, hr => by
    obtain ⟨s, hs, hin⟩ := hc c (List.mem_cons_self ..)
    obtain ⟨_, hl, _, _⟩ := h.at' c s hs
    rw [redL_cons, hs, Option.getD_some]
    rw [redL_iff h hf cs _ (fun d hd => hc d (List.mem_cons_of_mem _ hd)) (redR_len hr hl)]
    constructor
    · intro q
      rw [red_back (i := c) hr hl]
      exact InS.comb _ hf q hin
    · exact fun q => InS.red hf q hin
theorem fin_hnf (h : EcR n R) : ∀ (cs : List Nat), cs.Pairwise (· < ·) → (∀ c ∈ cs, (R c).isSome = true) → Hnf n cs (finR R cs) ∧ ∀ (k c : Nat) (s : Rw), cs[k]? = some c → (finR R cs)[k]? = some s → at0 s c = at0 ((R c).getD []) c
  | [], _, _ => ⟨.nil, fun k c s e => by simp at e⟩
  | c :: cs, hp, hc => by
    obtain ⟨hp1, hp2⟩ := List.pairwise_cons.mp hp
    obtain ⟨s, hs⟩ := Option.isSome_iff_exists.mp (hc c (List.mem_cons_self ..))
    obtain ⟨hcn, hl, hz, hpos⟩ := h.at' c s hs
    have hc2 : ∀ d ∈ cs, (R d).isSome = true := fun d hd => hc d (List.mem_cons_of_mem _ hd)
    obtain ⟨ih, iv⟩ := fin_hnf h cs hp2 hc2
    have es : (R c).getD [] = s := by rw [hs]; rfl
    have up : ∀ j, j ≤ c → at0 (redL R cs s) j = at0 s j := fun j hj => redL_at h (by omega) cs s (fun x hx => ⟨hc2 x hx, by have := hp1 x hx; omega⟩) hl
    have zz : ∀ (ds : List Nat), (∀ d ∈ ds, c < d ∧ (R d).isSome = true) → ds.Pairwise (· < ·) → ∀ t ∈ finR R ds, ∀ j, j ≤ c → at0 t j = 0 := by
      intro ds
      induction ds with
      | nil => exact fun _ _ t ht => by cases ht
      | cons d ds ihd =>
        intro hd hpd t ht j hj
        obtain ⟨hd1, hd2⟩ := hd d (List.mem_cons_self ..)
        obtain ⟨hq1, hq2⟩ := List.pairwise_cons.mp hpd
        obtain ⟨s2, hs2⟩ := Option.isSome_iff_exists.mp hd2
        obtain ⟨hdn, hl2, hz2, _⟩ := h.at' d s2 hs2
        rcases List.mem_cons.mp ht with e | ht
        · rw [e, hs2]
          show at0 (redL R ds s2) j = 0
          rw [redL_at h (by omega) ds s2 (fun x hx => ⟨(hd x (List.mem_cons_of_mem _ hx)).2, by have := hq1 x hx; omega⟩) hl2]
          exact hz2 j (by omega)
        · exact ihd (fun x hx => hd x (List.mem_cons_of_mem _ hx)) hq2 t ht j hj
    unfold finR
    rw [es]
    refine ⟨.cons c cs _ _ (redL_len h cs s hc2 hl) hcn (fun j hj => by rw [up j (by omega)]; exact hz j hj) (by rw [up c (Nat.le_refl _)]; exact hpos) (fun d hd => hp1 d hd) (fun t ht j hj => zz cs (fun d hd => ⟨hp1 d hd, hc2 d hd⟩) hp2 t ht j hj)
      (fun k d t e1 e2 => ?_) ih, fun k d t e1 e2 => ?_⟩
    · rw [iv k d t e1 e2]
      exact redL_low h cs s hp2 hc2 hl d (List.mem_of_getElem? e1)
    · cases k with
      | zero =>
        cases e1
        cases e2
        rw [up c (Nat.le_refl _), es]
      | succ k => exact iv k d t (by simpa using e1) (by simpa using e2)
theorem fin_iff (h : EcR n R) (hf : LnN n full) : ∀ (cs : List Nat), (∀ c ∈ cs, (R c).isSome = true) → ((∀ s ∈ finR R cs, InS n full s) ↔ ∀ c ∈ cs, ∀ s, R c = some s → InS n full s)
  | [], _ => ⟨fun _ c hc => (by cases hc), fun _ s hs => (by cases hs)⟩
  | c :: cs, hc => by
    have hc2 : ∀ d ∈ cs, (R d).isSome = true := fun d hd => hc d (List.mem_cons_of_mem _ hd)
    have ih := fin_iff h hf cs hc2
    obtain ⟨s, hs⟩ := Option.isSome_iff_exists.mp (hc c (List.mem_cons_self ..))
    obtain ⟨hcn, hl, hz, hpos⟩ := h.at' c s hs
    have es : (R c).getD [] = s := by rw [hs]; rfl
    have tail : (∀ d ∈ cs, ∀ s, R d = some s → InS n full s) → ∀ d ∈ cs, ∃ s, R d = some s ∧ InS n full s := fun q d hd => by
      obtain ⟨s, hs⟩ := Option.isSome_iff_exists.mp (hc2 d hd)
      exact ⟨s, hs, q d hd s hs⟩
    unfold finR
    rw [es]
    constructor
    · intro q
      have q1 := ih.mp fun s hs => q s (List.mem_cons_of_mem _ hs)
      have q2 := (redL_iff h hf cs s (tail q1) hl).mp (q _ (List.mem_cons_self ..))
      intro d hd t ht
      rcases List.mem_cons.mp hd with e | hd
      · rw [e, hs] at ht
        cases ht
        exact q2
      · exact q1 d hd t ht
    · intro q
      have q1 : ∀ d ∈ cs, ∀ s, R d = some s → InS n full s := fun d hd => q d (List.mem_cons_of_mem _ hd)
      intro t ht
      rcases List.mem_cons.mp ht with e | ht
      · rw [e]
        exact (redL_iff h hf cs s (tail q1) hl).mpr (q c (List.mem_cons_self ..) s hs)
      · exact ih.mpr q1 t ht
/-- the laws' basis -/
theorem lbasis_hnf (hl : LnN n vs) : ∃ cs, Hnf n cs (lbasis n vs) ∧ SameS n vs (lbasis n vs) := by
  obtain ⟨h1, h2, h3⟩ := lputs_spec (n := n) vs (fun _ => none) hl ⟨fun i r e => by cases e⟩
  unfold lbasis
  generalize lputs n vs (fun _ => none) = R at h1 h2 h3
  have hp : (leadsR n R).Pairwise (· < ·) := List.Pairwise.filter _ List.pairwise_lt_range
  have hs : ∀ c ∈ leadsR n R, (R c).isSome = true := fun c hc => (List.mem_filter.mp hc).2
  obtain ⟨hh, _⟩ := fin_hnf h1 _ hp hs
  have all : ∀ c s, R c = some s → c ∈ leadsR n R := fun c s e => List.mem_filter.mpr ⟨List.mem_range.mpr (h1.at' c s e).1, by rw [e]; rfl⟩
  have e0 : ∀ full, ClR n full (fun _ => none) := fun full i r e => by cases e
  refine ⟨_, hh, SameS.of hl hh.ln (fun b hb => ?_) (fun b hb => ?_)⟩
  · have q := (fin_iff h1 hh.ln _ hs).mp fun s hs => InS.mem hh.ln hs
    have c : ClR n (finR R (leadsR n R)) R := fun i r e => q i (all i r e) r e
    exact (h3 _ hh.ln c).2 b hb
  · have c := h2 vs hl (e0 vs) fun v hv => InS.mem hl hv
    exact (fin_iff h1 hl _ hs).mpr (fun i hi s e => c i s e) b hb
/-- the program's basis and the laws' are one -/
theorem lbasis_eq (hl : LnN n vs) (hb : BasOk n n (ledR n vs) []) : basisF n vs = lbasis n vs := by
  obtain ⟨cs, h1, s1⟩ := basis_hnf hl hb
  obtain ⟨ds, h2, s2⟩ := lbasis_hnf hl
  exact (h1.uniq h2 (s1.symm.trans s2)).2
end
end Aw
namespace Aw
def BdB (b : Nat) (r : Rw) : Prop := ∀ x ∈ r, x.natAbs ≤ 2 ^ b
/-- all turns of a vector's putting in can be done -/
def PutOk (n : Nat) : Nat → Rf → Rw → Prop
  | 0, _, _ => True
  | k + 1, R, v => if at0 v (n - (k + 1)) = 0 then PutOk n k R v else match R (n - (k + 1)) with
    | none => ∃ S, S < capB ∧ BdB S v
    | some r => ((at0 v (n - (k + 1))).natAbs < 2 ^ capB ∧ ∃ S, S < capB ∧ ∀ m, BdB S (swp (n - (k + 1)) m r v).1 ∧ BdB S (swp (n - (k + 1)) m r v).2) ∧
        PutOk n k (setR R (n - (k + 1)) (posR (n - (k + 1)) (swp (n - (k + 1)) (at0 v (n - (k + 1))).natAbs r v).1)) (swp (n - (k + 1)) (at0 v (n - (k + 1))).natAbs r v).2
def cntR (R : Rf) (i : Nat) : Nat := ((List.range i).filter fun j => (R j).isSome).length
section
variable {n : Nat} {R : Rf} {v r : Rw}
theorem BdB.mono {a b : Nat} (h : BdB a r) (q : a ≤ b) : BdB b r := fun x hx => Nat.le_trans (h x hx) (Nat.pow_le_pow_right (by decide) q)
theorem cnt_succ (R : Rf) (i : Nat) : cntR R (i + 1) = cntR R i + if (R i).isSome then 1 else 0 := by
  unfold cntR
  rw [List.range_succ, List.filter_append, List.length_append]
  congr 1
  by_cases c : (R i).isSome = true
  · rw [List.filter_cons_of_pos (p := fun j => (R j).isSome) (by exact c), if_pos c]
    rfl
  · rw [List.filter_cons_of_neg (p := fun j => (R j).isSome) (by exact c), if_neg c]
    rfl
theorem cnt_mono (R : Rf) {i j : Nat} (h : i ≤ j) : cntR R i ≤ cntR R j := by
  induction h with
  | refl => exact Nat.le_refl _
  | step _ ih =>
    rw [cnt_succ]
    omega
theorem cnt_set_low {i : Nat} : ∀ j, j ≤ i → cntR (setR R i r) j = cntR R j
  | 0, _ => rfl
  | j + 1, h => by
    rw [cnt_succ, cnt_succ, cnt_set_low j (by omega)]
    have : setR R i r j = R j := by unfold setR; rw [if_neg (by omega)]
    rw [this]
theorem cnt_set_old {i : Nat} {s : Rw} (h : R i = some s) : ∀ j, cntR (setR R i r) j = cntR R j
  | 0 => rfl
  | j + 1 => by
    rw [cnt_succ, cnt_succ, cnt_set_old h j]
    by_cases c : j = i
    · have : (setR R i r j).isSome = (R j).isSome := by unfold setR; rw [if_pos c, c, h]; rfl
      rw [this]
    · have : setR R i r j = R j := by unfold setR; rw [if_neg c]
      rw [this]
theorem cnt_set_new {i : Nat} (h : R i = none) : ∀ j, i < j → cntR (setR R i r) j = cntR R j + 1
  | j + 1, hj => by
    rw [cnt_succ, cnt_succ]
    by_cases c : j = i
    · subst c
      rw [cnt_set_low j (Nat.le_refl _)]
      have e1 : (setR R j r j).isSome = true := by unfold setR; rw [if_pos rfl]; rfl
      have e2 : (R j).isSome = false := by rw [h]; rfl
      rw [e1, e2]
      rfl
    · rw [cnt_set_new h j (by omega)]
      have : setR R i r j = R j := by unfold setR; rw [if_neg c]
      rw [this]
      omega
theorem posR_bits {i b : Nat} (h : BdB b r) : BdB b (posR i r) := by
  unfold posR
  split
  · intro x hx
    obtain ⟨y, hy, rfl⟩ := List.mem_map.mp hx
    have := h y hy
    omega
  · exact h
theorem lput_bits (T V U : Nat → Nat) (m : Nat) (hV : ∀ j, j < m → max (T j) (V j) + V j + 2 ≤ V (j + 1)) (hU1 : ∀ j, j < m → V (j + 1) ≤ U j) (hU2 : ∀ j, j ≤ m → V j ≤ U j) (hU3 : ∀ j, j < m → T j ≤ U (j + 1)) (hcap : ∀ j, j ≤ m → V j < capB) : ∀ (k : Nat) (R : Rf) (v : Rw), k ≤ n → EcR n R → v.length = n → (∀ j, j < n - k → at0 v j = 0) → cntR R n ≤ m →
    (∀ j r, R j = some r → j < n - k → BdB (U (cntR R j)) r) → (∀ j r, R j = some r → n - k ≤ j → BdB (T (cntR R j)) r) → BdB (V (cntR R (n - k))) v →
    (∀ j r, R j = some r → n - k ≤ j → V (cntR R j) < capB ∧ V (cntR R j + 1) < capB) → PutOk n k R v ∧ ∀ j r, lput n k R v j = some r → BdB (U (cntR (lput n k R v) j)) r
  | 0, R, v, _, h, hv, hvz, hm, h1, h2, h3, h4 => ⟨trivial, fun j r e => h1 j r e (by have := (h.at' j r e).1; omega)⟩
  | k + 1, R, v, hk, h, hv, hvz, hm, h1, h2, h3, h4 => by
    have hi : n - (k + 1) < n := by omega
    have e1 : n - k = n - (k + 1) + 1 := by omega
    unfold PutOk lput
    generalize n - (k + 1) = i at *
    have hVT : ∀ j, j < m → T j ≤ V (j + 1) := fun j hj => by have := hV j hj; omega
    have hVV : ∀ j, j < m → V j ≤ V (j + 1) := fun j hj => by have := hV j hj; omega
    have hTU : ∀ j, j < m → T j ≤ U j := fun j hj => Nat.le_trans (hVT j hj) (hU1 j hj)
    have clt : ∀ j r, R j = some r → cntR R j < m := fun j r e => by
      have hj := (h.at' j r e).1
      have c1 := cnt_succ R j
      rw [e] at c1
      have c2 := cnt_mono R (show j + 1 ≤ n by omega)
      have c3 : cntR R (j + 1) = cntR R j + 1 := c1
      omega
    have cle : cntR R i ≤ m := Nat.le_trans (cnt_mono R (show i ≤ n by omega)) hm
    by_cases c : at0 v i = 0
    · rw [if_pos c, if_pos c]
      refine lput_bits T V U m hV hU1 hU2 hU3 hcap k R v (by omega) h hv (fun j hj => by
        by_cases q : j < i
        · exact hvz j q
        · obtain rfl : j = i := by omega
          exact c) hm (fun j r e hj => ?_) (fun j r e hj => h2 j r e (by omega)) ?_ fun j r e hj => h4 j r e (by omega)
      · by_cases q : j < i
        · exact h1 j r e q
        · obtain rfl : j = i := by omega
          exact (h2 j r e (Nat.le_refl _)).mono (hTU _ (clt j r e))
      · rw [e1, cnt_succ]
        refine h3.mono ?_
        cases hR : R i with
        | some s => exact hVV _ (clt i s hR)
        | none => exact Nat.le_refl _
    · rw [if_neg c, if_neg c]
      cases hR : R i with
      | none =>
        dsimp only
        refine ⟨⟨_, hcap _ cle, h3⟩, fun j r e => ?_⟩
        by_cases q : j = i
        · unfold setR at e
          rw [if_pos q] at e
          cases e
          rw [q, cnt_set_low i (Nat.le_refl _)]
          exact posR_bits (h3.mono (hU2 _ cle))
        · have e' := e
          unfold setR at e'
          rw [if_neg q] at e'
          rcases Nat.lt_or_gt_of_ne q with z | z
          · rw [cnt_set_low j (by omega)]
            exact h1 j r e' z
          · rw [cnt_set_new hR j z]
            exact (h2 j r e' (by omega)).mono (hU3 _ (clt j r e'))
      | some s =>
        dsimp only
        obtain ⟨_, hs, _, hsp⟩ := h.at' i s hR
        obtain ⟨g1, g2⟩ := h4 i s hR (Nat.le_refl _)
        have bs := h2 i s hR (Nat.le_refl _)
        have cm := clt i s hR
        have sb : ∀ x, BdB (V (cntR R i + 1)) (swp i x s v).1 ∧ BdB (V (cntR R i + 1)) (swp i x s v).2 := fun x => by
          obtain ⟨a1, a2⟩ := swp_bits hi x s v hs hv bs h3
          exact ⟨BdB.mono (b := V (cntR R i + 1)) a1 (hV _ cm), BdB.mono (b := V (cntR R i + 1)) a2 (hV _ cm)⟩
        obtain ⟨s1, s2, s3, s4, s5, s6, s7⟩ := swp_spec hi (at0 v i).natAbs s v hs hv (Nat.le_refl _) (by omega)
        obtain ⟨q1, q2, q3, y, q4, q5⟩ := posR_back (i := i) s1 hi
        obtain ⟨_, _, hrz, _⟩ := h.at' i s hR
        have vlt : (at0 v i).natAbs < 2 ^ capB := Nat.lt_of_le_of_lt (h3 _ (at0_mem (by omega))) (Nat.pow_lt_pow_right (by decide) g1)
        have hz : ∀ j, (setR R i (posR i (swp i (at0 v i).natAbs s v).1)) j = if j = i then some (posR i (swp i (at0 v i).natAbs s v).1) else R j := fun j => rfl
        have co := cnt_set_old (r := posR i (swp i (at0 v i).natAbs s v).1) hR
        obtain ⟨t1, t2⟩ := lput_bits T V U m hV hU1 hU2 hU3 hcap k (setR R i (posR i (swp i (at0 v i).natAbs s v).1)) (swp i (at0 v i).natAbs s v).2 (by omega) (h.set hi q1 (fun j hj => q2 j (by omega) (s5 j (by omega) (hrz j hj) (hvz j (by omega))).1) (q3 s4)) s2
          (fun j hj => by
            by_cases q : j < i
            · exact (s5 j (by omega) (hrz j q) (hvz j q)).2
            · obtain rfl : j = i := by omega
              exact s3)
          (by rw [co]; exact hm)
          (fun j r e hj => by
            rw [co]
            rw [hz] at e
            by_cases q : j = i
            · rw [if_pos q] at e
              cases e
              rw [q]
              exact posR_bits ((sb _).1.mono (hU1 _ cm))
            · rw [if_neg q] at e
              exact h1 j r e (by omega))
          (fun j r e hj => by
            rw [co]
            rw [hz, if_neg (by omega)] at e
            exact h2 j r e (by omega))
          (by
            rw [e1, co, cnt_succ, hR]
            exact (sb _).2)
          (fun j r e hj => by
            rw [co]
            rw [hz, if_neg (by omega)] at e
            exact h4 j r e (by omega))
        exact ⟨⟨⟨vlt, _, g2, sb⟩, t1⟩, t2⟩
end
end Aw
namespace Aw
/-- the vector's bits by the rows passed; prev: the rows' bits before -/
def vRow (prev : Nat → Nat) : Nat → Nat
  | 0 => 160
  | j + 1 => max (prev j) (vRow prev j) + vRow prev j + 2
/-- the rows' bits when t vectors are put in -/
def vT : Nat → Nat → Nat
  | 0 => fun _ => 0
  | t + 1 => fun j => if j < t then vRow (vT t) (j + 1) else vRow (vT t) t
theorem vT_caps : ∀ t, t < 7 → ∀ c, c < t → vRow (vT t) c < capB ∧ vRow (vT t) (c + 1) < capB := by
  have h : (List.range 7).all (fun t => (List.range t).all fun c => decide (vRow (vT t) c < 66000000) && decide (vRow (vT t) (c + 1) < 66000000)) = true := by decide +kernel
  intro t ht c hc
  have q := List.all_eq_true.mp (List.all_eq_true.mp h t (List.mem_range.mpr ht)) c (List.mem_range.mpr hc)
  rw [Bool.and_eq_true, decide_eq_true_eq, decide_eq_true_eq] at q
  exact ⟨capB_lt q.1, capB_lt q.2⟩
theorem vT_cap : ∀ t, t < 7 → ∀ c, c ≤ t → vRow (vT t) c < capB := by
  have h : (List.range 7).all (fun t => (List.range (t + 1)).all fun c => decide (vRow (vT t) c < 66000000)) = true := by decide +kernel
  intro t ht c hc
  exact capB_lt (of_decide_eq_true (List.all_eq_true.mp (List.all_eq_true.mp h t (List.mem_range.mpr ht)) c (List.mem_range.mpr (by omega))))
def PutsOk (n : Nat) : List Rw → Rf → Prop
  | [], _ => True
  | v :: vs, R => PutOk n n R v ∧ PutsOk n vs (lput n n R v)
section
variable {n : Nat} {R : Rf} {v r : Rw}
theorem cnt_set_le {i : Nat} (j : Nat) : cntR (setR R i r) j ≤ cntR R j + 1 := by
  cases hR : R i with
  | some s =>
    rw [cnt_set_old hR]
    omega
  | none =>
    rcases Nat.lt_or_ge i j with q | q
    · rw [cnt_set_new hR j q]
      exact Nat.le_refl _
    · rw [cnt_set_low j q]
      omega
theorem lput_cnt (j : Nat) : ∀ (k : Nat) (R : Rf) (v : Rw), cntR (lput n k R v) j ≤ cntR R j + 1
  | 0, R, v => by
    show cntR R j ≤ _
    omega
  | k + 1, R, v => by
    unfold lput
    split
    · exact lput_cnt j k R v
    · split
      · exact cnt_set_le j
      · rename_i s hs
        have q := lput_cnt j k (setR R (n - (k + 1)) (posR (n - (k + 1)) (swp (n - (k + 1)) (at0 v (n - (k + 1))).natAbs s v).1)) (swp (n - (k + 1)) (at0 v (n - (k + 1))).natAbs s v).2
        rw [cnt_set_old hs] at q
        exact q
theorem puts_go : ∀ (vs : List Rw) (t : Nat) (R : Rf), t + vs.length ≤ 7 → LnN n vs → EcR n R → cntR R n ≤ t → (∀ j r, R j = some r → BdB (vT t (cntR R j)) r) → (∀ v ∈ vs, BdB 160 v) → PutsOk n vs R ∧ ∀ j r, lputs n vs R j = some r → BdB (vT (t + vs.length) (cntR (lputs n vs R) j)) r
  | [], t, R, ht, hl, hE, hc, hb, hv => ⟨trivial, hb⟩
  | v :: vs, t, R, ht, hl, hE, hc, hb, hv => by
    rw [List.length_cons] at ht
    have vv : ∀ j, vRow (vT t) j ≤ vRow (vT t) (j + 1) := fun j => by
      show _ ≤ max (vT t j) (vRow (vT t) j) + vRow (vT t) j + 2
      omega
    have vt : ∀ j, vT t j ≤ vRow (vT t) (j + 1) := fun j => by
      show _ ≤ max (vT t j) (vRow (vT t) j) + vRow (vT t) j + 2
      omega
    have q := lput_bits (vT t) (vRow (vT t)) (vT (t + 1)) t (fun j _ => Nat.le_refl _) (fun j hj => by
        show _ ≤ (if j < t then vRow (vT t) (j + 1) else vRow (vT t) t)
        rw [if_pos hj]
        exact Nat.le_refl _) (fun j hj => by
        show _ ≤ (if j < t then vRow (vT t) (j + 1) else vRow (vT t) t)
        split
        · exact vv j
        · obtain rfl : j = t := by omega
          exact Nat.le_refl _) (fun j hj => by
        show _ ≤ (if j + 1 < t then vRow (vT t) (j + 1 + 1) else vRow (vT t) t)
        split
        · exact Nat.le_trans (vt j) (vv _)
        · obtain rfl : t = j + 1 := by omega
          exact vt j) (fun j hj => vT_cap t (by omega) j hj) n R v (Nat.le_refl _) hE hl.head (fun j hj => by omega) hc (fun j r e hj => by omega) (fun j r e _ => hb j r e) (by
      rw [Nat.sub_self]
      exact hv v (List.mem_cons_self ..)) (fun j r e _ => by
        have hj := (hE.at' j r e).1
        have c1 := cnt_succ R j
        rw [e] at c1
        have c2 := cnt_mono R (show j + 1 ≤ n by omega)
        have c3 : cntR R (j + 1) = cntR R j + 1 := c1
        exact vT_caps t (by omega) _ (by omega))
    have sp := lput_spec n R v (Nat.le_refl _) hE hl.head fun j hj => by omega
    have c4 := lput_cnt (n := n) n n R v
    obtain ⟨a1, a2⟩ := puts_go vs (t + 1) (lput n n R v) (by omega) hl.tail sp.1 (by omega) q.2 fun u hu => hv u (List.mem_cons_of_mem _ hu)
    refine ⟨⟨q.1, a1⟩, fun j r e => ?_⟩
    have := a2 j r e
    rw [List.length_cons, show t + (vs.length + 1) = t + 1 + vs.length by omega]
    exact this
/-- all vectors can be put in -/
theorem puts_ok {vs : List Rw} (h6 : vs.length ≤ 7) (hl : LnN n vs) (hb : ∀ v ∈ vs, BdB 160 v) : PutsOk n vs (fun _ => none) ∧ ∀ j r, lputs n vs (fun _ => none) j = some r → BdB (vT vs.length (cntR (lputs n vs fun _ => none) j)) r := by
  have c0 : cntR (fun _ => none) n ≤ 0 := by
    unfold cntR
    have : (List.range n).filter (fun j => ((fun _ => none : Rf) j).isSome) = [] := List.filter_eq_nil_iff.mpr fun a _ => by simp
    rw [this]
    exact Nat.le_refl _
  have q := puts_go vs 0 (fun _ => none) (by omega) hl ⟨fun i r e => by cases e⟩ c0 (fun j r e => by cases e) hb
  rw [Nat.zero_add] at q
  exact q
end
end Aw
namespace Aw
theorem crW_pow (b : Nat) : ∀ k, crW (2 ^ b) k = 2 ^ ((b + 1) * 2 ^ k - 1)
  | 0 => by rw [crW, Nat.pow_zero, Nat.mul_one, Nat.add_sub_cancel]
  | k + 1 => by
    have h1 : 1 ≤ (b + 1) * 2 ^ k := Nat.mul_pos (by omega) (Nat.pow_pos (by decide))
    have e : (b + 1) * 2 ^ (k + 1) = 2 * ((b + 1) * 2 ^ k) := by rw [Nat.pow_succ, ← Nat.mul_assoc, Nat.mul_comm]
    rw [crW, crW_pow b k, ← Nat.pow_add, ← Nat.pow_succ', e]
    congr 1
    omega
/-- a few small vectors: five span them -/
structure Few (n : Nat) (vs : List Rw) : Prop where
  n30 : n ≤ 30
  ln : LnN n vs
  len : vs.length ≤ 7
  bd : BdN (2 ^ 73) vs
  rank : ∃ ws, LnN n ws ∧ ws.length ≤ 5 ∧ ∀ s, InS n vs s → InS n ws s
section
variable {n : Nat} {vs us : List Rw}
theorem Few.ok (h : Few n vs) : BasOk n n (ledR n vs) [] := by
  obtain ⟨ws, hw, hr, hs⟩ := h.rank
  exact bas_five h.n30 h.ln h.len h.bd hw hr hs
theorem Few.eq (h : Few n vs) : basisF n vs = lbasis n vs := lbasis_eq h.ln h.ok
theorem Few.hnf (h : Few n vs) : ∃ cs, Hnf n cs (lbasis n vs) ∧ SameS n vs (lbasis n vs) := lbasis_hnf h.ln
theorem Few.bd' (h : Few n vs) : BdN (2 ^ 1200) (lbasis n vs) ∧ (lbasis n vs).length ≤ 5 := by
  obtain ⟨cs, hh, hs⟩ := h.hnf
  obtain ⟨ws, hw, hr, hv⟩ := h.rank
  have q : (lbasis n vs).length ≤ ws.length := hh.rank' hw fun s hm => hv s ((hs s).mpr (InS.mem hh.ln hm))
  have hl := hh.len
  have e1 : 1 ≤ 2 ^ 73 := Nat.one_le_two_pow
  have b := basis_bd e1 h.ln h.bd hh hs
  refine ⟨fun r hr x hx => Nat.le_trans (b r hr x hx) ?_, by omega⟩
  have q2 := crW_mono e1 (show cs.length - 1 ≤ 4 by omega)
  rw [crW_pow 73 4] at q2
  have q3 := Nat.mul_le_mul (show cs.length ≤ 8 by omega) q2
  refine Nat.le_trans q3 ?_
  rw [show (8 : Nat) = 2 ^ 3 from rfl, ← Nat.pow_add]
  exact Nat.pow_le_pow_right (by decide) (by decide)
/-- vectors that span the same have one basis -/
theorem Few.one (h : Few n vs) (g : Few n us) (s : SameS n vs us) : basisF n us = lbasis n vs := by
  obtain ⟨cs, h1, s1⟩ := h.hnf
  obtain ⟨ds, h2, s2⟩ := basis_hnf g.ln g.ok
  exact (h2.uniq h1 (s2.symm.trans (s.symm.trans s1))).2
theorem Few.of5 (h30 : n ≤ 30) (hl : LnN n vs) (h5 : vs.length ≤ 5) (hb : BdN (2 ^ 73) vs) : Few n vs := ⟨h30, hl, by omega, hb, vs, hl, h5, fun s hs => hs⟩
/-- five and a combination of two of them -/
theorem Few.of6 {a b : Rw} {t x : Int} (h30 : n ≤ 30) (hl : LnN n vs) (h5 : vs.length ≤ 5) (hb : BdN (2 ^ 73) vs) (ha : a ∈ vs) (hbm : b ∈ vs) {c : Rw} (hc : c.length = n) (ec : ∀ j, j < n → at0 c j = t * at0 a j + x * at0 b j) (hcb : ∀ y ∈ c, y.natAbs ≤ 2 ^ 73) : Few n (vs ++ [c]) := by
  have cin : InS n vs c := by
    have q := InS.comb x hl (InS.sc t hl (InS.mem hl ha)) (InS.mem hl hbm)
    have e : vplus (tvec a t) b x = c := row_ext (vplus_len (by rw [tvec_len, hl a ha]) (hl b hbm)) hc fun j hj => by
      rw [vplus_at (by rw [tvec_len, hl a ha]) (hl b hbm) hj, tvec_at (hl a ha) hj, ec j hj]
    rw [← e]
    exact q
  have l6 : LnN n (vs ++ [c]) := hl.app fun r hr => by rw [List.mem_singleton.mp hr]; exact hc
  refine ⟨h30, l6, by rw [List.length_append, List.length_singleton]; omega, fun r hr => ?_, vs, hl, h5, fun s hs => InS.sub hl (fun r hr => ?_) hs⟩
  · rcases List.mem_append.mp hr with hr | hr
    · exact hb r hr
    · rw [List.mem_singleton.mp hr]
      exact hcb
  · rcases List.mem_append.mp hr with hr | hr
    · exact InS.mem hl hr
    · rw [List.mem_singleton.mp hr]
      exact cin
end
end Aw
namespace Aw
open PySem PySem.Spec L2 PyProof.Rows
/-- the rows by their leads: a dict -/
structure RfV (H : Hp) (dd : Addr) (n : Nat) (R : Rf) : Prop where
  ex : ∃ kvs : List (Key × V), H dd = some (.dK kvs) ∧ kvs.length ≤ cntR R n ∧ ∀ i : Nat, match R i with
    | none => valV kvs (Sum.inl (i : Int)) = none
    | some r => ∃ a, valV kvs (Sum.inl (i : Int)) = some (.ref a) ∧ H a = some (.lst (r.map V.int))
theorem RfV.kp {H H1 : Hp} {dd n : Nat} {R : Rf} {M : List Addr} (h : RfV H dd n R) (k : Kp M H H1) (hd : dd ∉ M) (hM : ∀ b ∈ M, ∀ xs, H b ≠ some (.lst xs)) : RfV H1 dd n R := by
  obtain ⟨kvs, h1, h2, h3⟩ := h.ex
  refine ⟨kvs, k.get h1 hd, h2, fun i => ?_⟩
  have q := h3 i
  cases hR : R i with
  | none =>
    rw [hR] at q
    exact q
  | some r =>
    rw [hR] at q
    obtain ⟨a, e1, e2⟩ := q
    exact ⟨a, e1, k.get e2 fun hm => hM a hm _ e2⟩
theorem RfV.kp0 {H H1 : Hp} {dd n : Nat} {R : Rf} (h : RfV H dd n R) (k : Kp [] H H1) : RfV H1 dd n R := h.kp k (by simp) fun b hb => by cases hb
theorem cntR_le (R : Rf) (n : Nat) : cntR R n ≤ n := by
  unfold cntR
  exact Nat.le_trans (List.length_filter_le _ _) (by rw [List.length_range]; exact Nat.le_refl _)
/-- a row is stored -/
theorem RfV.set {H H1 : Hp} {dd n i : Nat} {R : Rf} {a : Addr} {r : Rw} {kvs : List (Key × V)} (h1 : H dd = some (.dK kvs)) (h2 : kvs.length ≤ cntR R n) (h3 : ∀ i : Nat, match R i with
    | none => valV kvs (Sum.inl (i : Int)) = none
    | some r => ∃ a, valV kvs (Sum.inl (i : Int)) = some (.ref a) ∧ H a = some (.lst (r.map V.int))) (hi : i < n) (ha : H a = some (.lst (r.map V.int))) :
    RfV (upd H dd (.dK (putK kvs (Sum.inl (i : Int)) (.ref a)))) dd n (setR R i r) := by
  have off : ∀ b xs, H b = some (.lst xs) → b ≠ dd := fun b xs e z => by
    rw [z, h1] at e
    cases e
  refine ⟨_, upd_same, ?_, fun j => ?_⟩
  · cases hR : R i with
    | none =>
      have q := h3 i
      rw [hR] at q
      rw [putK_new _ q, List.length_append, List.length_singleton, cnt_set_new hR n hi]
      omega
    | some s =>
      have q := h3 i
      rw [hR] at q
      obtain ⟨b, e, _⟩ := q
      rw [cnt_set_old hR]
      have e2 := valV_any (Sum.inl (i : Int)) kvs
      rw [e] at e2
      unfold putK
      rw [if_pos (by exact e2), List.length_map]
      exact h2
  · unfold setR
    rw [valV_put]
    by_cases c : j = i
    · rw [if_pos c, if_pos (by rw [c])]
      exact ⟨a, rfl, by rw [upd_ne (off a _ ha)]; exact ha⟩
    · have c2 : ¬(Sum.inl (j : Int) : Key) = Sum.inl (i : Int) := fun z => c (by injection z with z; omega)
      rw [if_neg c, if_neg c2]
      have q := h3 j
      cases hR : R j with
      | none =>
        rw [hR] at q
        exact q
      | some s =>
        rw [hR] at q
        obtain ⟨b, e1, e2⟩ := q
        exact ⟨b, e1, by rw [upd_ne (off b _ e2)]; exact e2⟩
end Aw
namespace Aw
theorem vT_max : ∀ t, t ≤ 7 → ∀ j, vT t j ≤ 149686 := by
  have h : (List.range 7).all (fun t => (List.range (t + 1)).all fun c => decide (vRow (vT t) c ≤ 149686)) = true := by decide +kernel
  have g : ∀ t, t < 7 → ∀ c, c ≤ t → vRow (vT t) c ≤ 149686 := fun t ht c hc => of_decide_eq_true (List.all_eq_true.mp (List.all_eq_true.mp h t (List.mem_range.mpr ht)) c (List.mem_range.mpr (by omega)))
  intro t ht j
  cases t with
  | zero => exact Nat.zero_le _
  | succ t =>
    show (if j < t then vRow (vT t) (j + 1) else vRow (vT t) t) ≤ _
    split
    · exact g t (by omega) _ (by omega)
    · exact g t (by omega) _ (Nat.le_refl _)
theorem finR_len (R : Rf) : ∀ cs : List Nat, (finR R cs).length = cs.length
  | [] => rfl
  | c :: cs => by rw [finR, List.length_cons, List.length_cons, finR_len R cs]
/-- rows that can be reduced -/
structure BasR (n : Nat) (R : Rf) (b l : Nat) : Prop where
  ec : EcR n R
  bits : ∀ c r, R c = some r → BdB b r
  len : (leadsR n R).length ≤ l
  cap : b + (b + 2) * l < capB
  l60 : l ≤ 60
section
variable {n : Nat} {vs : List Rw} {R : Rf}
/-- vectors can be put in, their basis is known to be small -/
theorem basR_of (hln : LnN n vs) (h6 : vs.length ≤ 7) (hb : ∀ v ∈ vs, BdB 160 v) (b2 : (lbasis n vs).length ≤ 5) : BasR n (lputs n vs fun _ => none) 149686 5 := by
  obtain ⟨hp, hbits⟩ := puts_ok h6 hln hb
  obtain ⟨h1, _⟩ := lputs_spec (n := n) vs (fun _ => none) hln ⟨fun i r e => by cases e⟩
  have el : lbasis n vs = finR (lputs n vs fun _ => none) (leadsR n (lputs n vs fun _ => none)) := rfl
  rw [el] at b2
  rw [finR_len] at b2
  exact ⟨h1, fun c r e => (hbits c r e).mono (vT_max _ h6 _), b2, capB_lt (by decide), by decide⟩
theorem Few.b160 (h : Few n vs) : ∀ v ∈ vs, BdB 160 v := fun v hv x hx => Nat.le_trans (h.bd v hv x hx) (Nat.pow_le_pow_right (by decide) (by decide))
theorem Few.rows (h : Few n vs) : BasR n (lputs n vs fun _ => none) 149686 5 := basR_of h.ln h.len h.b160 h.bd'.2
end
end Aw
namespace Aw
open PySem PySem.Spec PyProof.Rows L2
theorem special_fn {prog : Program} {w : World} {K : PySem.W.Frag} {A : Around} {E : Value → Shared → Prop} {s : Shared} {a C f : Addr} {o : Obj} {name : Str} {args : List Value} {Q : Option Value → Shared → Prop} (X : K.In s.heap) (ho : s.heap.get? a = some o) (hoc : o.cls = .ref C)
    (hf : PySem.W.findIn K (.ref C) name = some (some (.ref f))) (ht : PySem.W.typeIn K (.ref f) = some (.type "function"))
    (hc : wpAny (model prog w) A (call (.ref f) (.ref a :: args)) (fun v s' => Q (some v) s') E s) : wpAny (model prog w) A (callSpecial? (.ref a) name args) Q E s := by
  unfold callSpecial? specialOf
  refine wpAny_bind (wpAny_bind (wpAny_typeOf_ref ho ?_))
  rw [hoc]
  refine (PySem.W.looks_findIn X hf).here ?_
  refine wpAny_holding (wpAny_bind ((PySem.W.bind_fn X (.ref a) ht).here ?_))
  exact wpAny_bind (wpAny_mono hc (fun v s' h => wpAny_pure h) fun _ _ z => z)
end Aw
namespace Aw
open PySem PySem.Spec L2 PyProof.Rows
theorem c_tupK {X : Cx} {K : PySem.W.Frag} (h : X.K = K) : CallR X (.type "tuple") (qTup K) := by
  subst h
  exact c_tup
theorem RfV.nil {H : Hp} {p n : Nat} (h : H p = some (.dK [])) : RfV H p n (fun _ => none) := ⟨[], h, Nat.zero_le _, fun i => rfl⟩
theorem PutsOk.at {n : Nat} {v : Rw} : ∀ {vs us : List Rw} {R : Rf}, PutsOk n (vs ++ v :: us) R → PutOk n n (lputs n vs R) v
  | [], _, _, h => h.1
  | _ :: vs, _, _, h => PutsOk.at (vs := vs) h.2
theorem RfV.get {H : Hp} {dd n : Nat} {R : Rf} {c : Nat} {r : Rw} (h : RfV H dd n R) (e : R c = some r) : ∃ (kvs : List (Key × V)) (a : Addr), H dd = some (.dK kvs) ∧ valV kvs (Sum.inl (c : Int)) = some (.ref a) ∧ H a = some (.lst (r.map V.int)) := by
  obtain ⟨kvs, h1, _, h3⟩ := h.ex
  have q := h3 c
  rw [e] at q
  obtain ⟨a, q1, q2⟩ := q
  exact ⟨kvs, a, h1, q1, q2⟩
theorem RfV.has {H : Hp} {dd n : Nat} {R : Rf} (h : RfV H dd n R) : ∃ (kvs : List (Key × V)), H dd = some (.dK kvs) ∧ ∀ c : Nat, (valV kvs (Sum.inl (c : Int))).isSome = (R c).isSome := by
  obtain ⟨kvs, h1, _, h3⟩ := h.ex
  refine ⟨kvs, h1, fun c => ?_⟩
  have q := h3 c
  cases e : R c with
  | none =>
    rw [e] at q
    have q : valV kvs (Sum.inl (c : Int)) = none := q
    rw [q]
    rfl
  | some r =>
    rw [e] at q
    obtain ⟨a, q1, _⟩ := q
    rw [q1]
    rfl
theorem RfV.put {H : Hp} {dd n i : Nat} {R : Rf} {a : Addr} {r : Rw} (h : RfV H dd n R) (hi : i < n) (ha : H a = some (.lst (r.map V.int))) : ∃ kvs : List (Key × V), H dd = some (.dK kvs) ∧ kvs.length ≤ n ∧ RfV (upd H dd (.dK (putK kvs (Sum.inl (i : Int)) (.ref a)))) dd n (setR R i r) := by
  obtain ⟨kvs, h1, h2, h3⟩ := h.ex
  exact ⟨kvs, h1, Nat.le_trans h2 (cntR_le R n), RfV.set (H1 := H) h1 h2 h3 hi ha⟩
end Aw
namespace Aw
open PySem PySem.Spec L2 PyProof.Rows
section
variable {n i : Nat} {rs ss : List Rw} {r c a b : Rw}
/-- one row is put for another one -/
theorem SameS.put (hl : LnN n rs) (hr : rs[i]? = some r) (hc : c.length = n) (h1 : InS n rs c) (h2 : InS n (rs.set i c) r) : SameS n rs (rs.set i c) := by
  have hi := (List.getElem?_eq_some_iff.mp hr).1
  have ls : LnN n (rs.set i c) := fun s hs => by
    rcases List.mem_or_eq_of_mem_set hs with h | h
    · exact hl s h
    · rw [h]; exact hc
  refine SameS.of hl ls (fun s hs => ?_) (fun s hs => ?_)
  · obtain ⟨j, hj⟩ := List.mem_iff_getElem?.mp hs
    by_cases e : j = i
    · rw [e, hr] at hj
      cases hj
      exact h2
    · exact InS.mem ls (List.mem_of_getElem? (i := j) (by rw [List.getElem?_set_ne (Ne.symm e)]; exact hj))
  · rcases List.mem_or_eq_of_mem_set hs with h | h
    · exact InS.mem hl h
    · rw [h]; exact h1
theorem LnN.put (hl : LnN n rs) (hc : c.length = n) : LnN n (rs.set i c) := fun s hs => by
  rcases List.mem_or_eq_of_mem_set hs with h | h
  · exact hl s h
  · rw [h]; exact hc
theorem BdN.put {E : Nat} (hl : BdN E rs) (hc : ∀ x ∈ c, x.natAbs ≤ E) : BdN E (rs.set i c) := fun s hs => by
  rcases List.mem_or_eq_of_mem_set hs with h | h
  · exact hl s h
  · rw [h]; exact hc
theorem BdN.mono {E F : Nat} (h : BdN E rs) (q : E ≤ F) : BdN F rs := fun s hs x hx => Nat.le_trans (h s hs x hx) q
theorem Few.same (h : Few n rs) (hl : LnN n ss) (h7 : ss.length ≤ 7) (hb : BdN (2 ^ 73) ss) (s : SameS n rs ss) : Few n ss := by
  obtain ⟨ws, w1, w2, w3⟩ := h.rank
  exact ⟨h.n30, hl, h7, hb, ws, w1, w2, fun v hv => w3 v ((s v).mpr hv)⟩
end
theorem RwV.dwT {K : PySem.W.Frag} {H : Hp} {M : List Addr} {a : Addr} {us : List V} {rs : List Rw} (hT : SqT K H a us) (h : RwV K H us rs) : Dw M K H (.ref a) (rwsD rs) := Dw.tup hT (RwV.dwl (M := M) h).len (RwV.dwl (M := M) h).all
def spVec6 (K : PySem.W.Frag) : Sp := fun vs H Q _ => ∃ (d c : Addr) (n : Int) (m : Nat), vs = [.ref d, .int (m : Nat)] ∧ Deck H d c n ∧ n + 2 * m < 10 ^ 12 ∧ m ≤ 40 ∧
  ∀ (H' : Hp) (v : V) (r : Rw), VcV K H' v r → r.length = m → (∀ x ∈ r, x.natAbs ≤ 10 ^ 20) → Deck H' d c (n + 2 * m) → Kp [d, c] H H' → Q v H'
def spVecs6 (K : PySem.W.Frag) : Sp := fun vs H Q _ => ∃ (d c : Addr) (n : Int) (m : Nat), vs = [.ref d, .int (m : Nat)] ∧ Deck H d c n ∧ n + 200 < 10 ^ 12 ∧ m ≤ 8 ∧
  ∀ (H' : Hp) (a : Addr) (us : List V) (rs : List Rw) (n' : Int), SqT K H' a us → RwV K H' us rs → Few m rs → rs.length ≤ 6 → BdN (5 * 10 ^ 20) rs → Deck H' d c n' → n ≤ n' → n' ≤ n + 200 → Kp [d, c] H H' → Q (.ref a) H'
/-- a lattice in the heap -/
def LtV (K : PySem.W.Frag) (C : Addr) (H : Hp) (a : Addr) (n : Nat) (bs : List Rw) : Prop := ∃ (dx b : Addr) (ws : List V), H a = some (.ins C dx [("length", .int (n : Nat)), ("basis", .ref b)]) ∧ SqT K H b ws ∧ RwV K H ws bs
theorem LtV.kp {K : PySem.W.Frag} {C : Addr} {H H1 : Hp} {M : List Addr} {a : Addr} {n : Nat} {bs : List Rw} (h : LtV K C H a n bs) (k : Kp M H H1) (hM : a ∉ M) : LtV K C H1 a n bs := by
  obtain ⟨dx, b, ws, h1, h2, h3⟩ := h
  exact ⟨dx, b, ws, k.get h1 hM, sqT_kp k h2, h3.kp k⟩
/-- a lattice is made of right vectors -/
def spLatB (K : PySem.W.Frag) (C : Addr) : Sp := fun vs H Q _ => ∃ (a dx u : Addr) (us : List V) (rs : List Rw) (n : Nat), vs = [.ref a, .int (n : Nat), .ref u] ∧ H a = some (.ins C dx []) ∧ SqT K H u us ∧ RwV K H us rs ∧ LnN n rs ∧ n ≤ 30 ∧ rs.length < 1000 ∧ BasOk n n (ledR n rs) [] ∧
  ∀ H', Kp [a] H H' → LtV K C H' a n (basisF n rs) → Q .non H'
/-- Lattice(n, vectors) -/
theorem r_lat {K : PySem.W.Frag} {C : Addr} {E : XK} {H : Hp} {R : Addr → Hp → Prop} {u : Addr} {us : List V} {rs : List Rw} {n : Nat} (hT : SqT K H u us) (hR : RwV K H us rs) (hl : LnN n rs) (hn : n ≤ 30) (hz : rs.length < 1000) (hb : BasOk n n (ledR n rs) [])
    (k : ∀ H' x, H x = none → Kp [] H H' → LtV K C H' x n (basisF n rs) → R x H') : ∀ x dx, H x = none → H dx = none → dx ≠ x → spLatB K C (.ref x :: ([.int (n : Nat), .ref u] ++ [])) (upd (upd H dx (.own x)) x (.ins C dx [])) (fun v H2 => v = .non ∧ R x H2) E := by
  intro x dx hx hdx hne
  have k2 : Kp [] H (upd (upd H dx (.own x)) x (.ins C dx [])) := (Kp.nil.new hdx).new (by rw [upd_ne (Ne.symm hne)]; exact hx)
  refine ⟨x, dx, u, us, rs, n, rfl, upd_same, sqT_kp k2 hT, hR.kp k2, hl, hn, hz, hb, fun H' k3 hL => ⟨rfl, k H' x hx (k2.own1 hx k3) hL⟩⟩
theorem isVc_yes {r : Rw} {n : Nat} (h : r.length = n) : isVcD (vecD r) (n : Nat) = true := by
  unfold vecD isVcD
  dsimp only
  rw [Bool.and_eq_true, decide_eq_true_eq, List.length_map, h]
  refine ⟨rfl, List.all_eq_true.mpr fun d hd => ?_⟩
  obtain ⟨x, _, rfl⟩ := List.mem_map.mp hd
  rfl
theorem vec_sz (r : Rw) : dsz (vecD r) = r.length + 1 := by
  unfold vecD
  rw [dsz, intsz]
  omega
end Aw
namespace Aw
open PySem PySem.Spec L2 PyProof.Rows
section
variable {K : PySem.W.Frag} {H : Hp} {us : List V} {rs : List Rw} {v : V} {r : Rw} {i : Nat}
theorem RwV.set (h : RwV K H us rs) (hv : VcV K H v r) : RwV K H (us.set i v) (rs.set i r) := by
  refine ⟨by rw [List.length_set, List.length_set, h.len], fun j u s e e' => ?_⟩
  by_cases c : j = i
  · subst c
    have hj := (List.getElem?_eq_some_iff.mp e).1
    rw [List.length_set] at hj
    rw [List.getElem?_set_self hj] at e
    rw [List.getElem?_set_self (by rw [← h.len]; exact hj)] at e'
    cases e
    cases e'
    exact hv
  · rw [List.getElem?_set_ne (Ne.symm c)] at e e'
    exact h.all j u s e e'
end
end Aw
namespace Aw
open PySem PySem.Spec PyProof.Rows L2
theorem passC {X : Cx} {E : XK} (tk : Takes X (fun cls d _ H => E cls d H)) : Passes (L2.CX X.prog X.w) X E := fun pins σ H s e s' I c => passAt tk σ pins H s e s' I c
def SqX (K : PySem.W.Frag) (l : Bool) (H : Hp) (b : Addr) (ys : List V) : Prop := if l = true then SqL K H b ys else SqT K H b ys
theorem SqX.kp {K : PySem.W.Frag} {l : Bool} {H H1 : Hp} {b : Addr} {ys : List V} (h : SqX K l H b ys) (k : Kp [] H H1) : SqX K l H1 b ys := by
  cases l with
  | true => exact sqL_kp k (by simp) (show SqL K H b ys from h)
  | false => exact sqT_kp k (show SqT K H b ys from h)
end Aw
namespace Aw
def restF : List Rw → Rw → Rw
  | [], v => v
  | b :: bs, v => restF bs (redR (leadO b) v b)
def wayF : List Rw → Rw → List Int
  | [], _ => []
  | b :: bs, v => qOf (leadO b) v b :: wayF bs (redR (leadO b) v b)
section
variable {n : Nat} {cs : List Nat} {bs : List Rw} {b v : Rw}
theorem wayF_len : ∀ (bs : List Rw) (v : Rw), (wayF bs v).length = bs.length
  | [], _ => rfl
  | b :: bs, v => by rw [wayF, List.length_cons, List.length_cons, wayF_len bs]
theorem restF_snoc (b : Rw) : ∀ (bs : List Rw) (v : Rw), restF (bs ++ [b]) v = redR (leadO b) (restF bs v) b
  | [], _ => rfl
  | c :: bs, v => by rw [List.cons_append, restF, restF_snoc b bs, restF]
theorem wayF_snoc (b : Rw) : ∀ (bs : List Rw) (v : Rw), wayF (bs ++ [b]) v = wayF bs v ++ [qOf (leadO b) (restF bs v) b]
  | [], _ => rfl
  | c :: bs, v => by rw [List.cons_append, wayF, wayF_snoc b bs, wayF, restF, List.cons_append]
theorem restF_len : ∀ (bs : List Rw) (v : Rw), LnN n bs → v.length = n → (restF bs v).length = n
  | [], _, _, h => h
  | b :: bs, v, hl, h => restF_len bs _ hl.tail (redR_len h hl.head)
theorem leadO_of {c : Nat} (hc : c < b.length) (hz : ∀ j, j < c → at0 b j = 0) (hp : at0 b c ≠ 0) : leadO b = c := by
  unfold leadO
  rw [List.findIdx_eq hc]
  refine ⟨?_, fun j hj => ?_⟩
  · have e := at0_lt hc
    rw [List.getElem?_eq_getElem hc] at e
    rw [Option.some.inj e]
    exact decide_eq_true hp
  · have e := at0_lt (r := b) (i := j) (by omega)
    rw [List.getElem?_eq_getElem (by omega)] at e
    rw [Option.some.inj e, hz j hj]
    rfl
/-- all items are 0: the lead is the length -/
theorem leadO_all {r : Rw} : leadO r = r.length ↔ ∀ x ∈ r, x = 0 := by
  unfold leadO
  rw [List.findIdx_eq_length]
  exact ⟨fun h x hx => by simpa using h x hx, fun h x hx => by simpa using h x hx⟩
theorem Hnf.leads : ∀ {cs : List Nat} {bs : List Rw}, Hnf n cs bs → ∀ b ∈ bs, leadO b < n ∧ 0 < at0 b (leadO b)
  | _, _, .nil => fun b h => by cases h
  | _, _, .cons c cs b bs hb hc z p r zz low t => fun s hs => by
    rcases List.mem_cons.mp hs with e | hs
    · rw [e, leadO_of (by omega) z (by omega)]
      exact ⟨hc, p⟩
    · exact t.leads s hs
/-- how large the rest and the multiples get -/
theorem rest_bd {B V : Nat} (hB : 1 ≤ B) : ∀ {cs : List Nat} {bs : List Rw} (v : Rw) (q : Nat), Hnf n cs bs → BdN B bs → v.length = n → (∀ (k d : Nat) (s : Rw), cs[k]? = some d → bs[k]? = some s → (at0 v d).natAbs ≤ V + q * (at0 s d).natAbs) → (∀ x ∈ v, x.natAbs ≤ V + q * B) →
    (∀ x ∈ wayF bs v, x.natAbs ≤ 2 ^ bs.length * (q + V + 1)) ∧ ∀ x ∈ restF bs v, x.natAbs ≤ V + 2 ^ bs.length * (q + V + 1) * B
  | _, _, v, q, .nil, hb, hv, h1, h2 => ⟨(fun x hx => by cases hx), fun x hx => by
      have a := h2 x hx
      have b := Nat.mul_le_mul_right B (show q ≤ 2 ^ ([] : List Rw).length * (q + V + 1) by rw [List.length_nil, Nat.pow_zero, Nat.one_mul]; omega)
      omega⟩
  | _, _, v, q, .cons c cs b bs hl hc z p r zz low t, hb, hv, h1, h2 => by
    have el := leadO_of (by omega) z (by omega)
    have hq0 := h1 0 c b rfl rfl
    have hle := fd_le (a := at0 v c) (b := at0 b c) (by omega)
    have hp1 : 1 ≤ (at0 b c).natAbs := by omega
    have hq : (qOf c v b).natAbs ≤ V + q + 1 := by
      unfold qOf
      rcases Nat.lt_or_ge (V + q + 1) ((at0 v c).fdiv (at0 b c)).natAbs with w | w
      · have a1 := Nat.mul_le_mul_right (at0 b c).natAbs w
        have a2 : (V + q + 1).succ * (at0 b c).natAbs = V * (at0 b c).natAbs + q * (at0 b c).natAbs + 2 * (at0 b c).natAbs := by
          rw [show (V + q + 1).succ = V + q + 2 from rfl, Nat.add_mul, Nat.add_mul]
        have a3 := Nat.mul_le_mul_left V hp1
        omega
      · exact w
    have e1 : (0 - qOf c v b).natAbs = (qOf c v b).natAbs := by omega
    have hbb := hb b (List.mem_cons_self ..)
    have ih := rest_bd (V := V) hB (redR c v b) (q + (qOf c v b).natAbs) t (fun s hs => hb s (List.mem_cons_of_mem _ hs)) (redR_len hv hl) (fun k d s e e' => ?_) (fun x hx => ?_)
    · rw [wayF, restF, el, List.length_cons, Nat.pow_succ]
      have m : 2 ^ bs.length * (q + (qOf c v b).natAbs + V + 1) ≤ 2 ^ bs.length * 2 * (q + V + 1) := by
        rw [Nat.mul_assoc]
        exact Nat.mul_le_mul_left _ (by omega)
      have one : 1 ≤ 2 ^ bs.length := Nat.one_le_two_pow
      refine ⟨fun x hx => ?_, fun x hx => ?_⟩
      · rcases List.mem_cons.mp hx with e | hx
        · rw [e]
          have := Nat.mul_le_mul_right (q + V + 1) (show 1 ≤ 2 ^ bs.length * 2 by omega)
          omega
        · exact Nat.le_trans (ih.1 x hx) m
      · have a := ih.2 x hx
        have := Nat.mul_le_mul_right B m
        omega
    · have hd : d < n := by
        obtain ⟨hs, _⟩ := List.getElem?_eq_some_iff.mp e
        have := t.len
        have hm := List.mem_of_getElem? e'
        have gg := low k d s e e'
        rcases Nat.lt_or_ge d n with w | w
        · exact w
        · have ls := t.ln s hm
          have z0 : at0 s d = 0 := by
            unfold at0
            rw [List.getD_eq_getElem?_getD, List.getElem?_eq_none (by omega)]
            rfl
          omega
      unfold redR
      rw [vplus_at hv hl hd]
      have g := low k d s e e'
      have a := h1 (k + 1) d s (by simpa using e) (by simpa using e')
      have m1 : ((0 - qOf c v b) * at0 b d).natAbs = (qOf c v b).natAbs * (at0 b d).natAbs := by rw [Int.natAbs_mul, e1]
      have m2 := Nat.mul_le_mul_left (qOf c v b).natAbs (show (at0 b d).natAbs ≤ (at0 s d).natAbs by omega)
      rw [Nat.add_mul]
      omega
    · have a := vplus_bd h2 hbb x hx
      rw [e1] at a
      rw [Nat.add_mul]
      omega
/-- a vector that can be reduced by a basis -/
structure RsOk (n : Nat) (bs : List Rw) (v : Rw) : Prop where
  ln : LnN n bs
  n30 : n ≤ 40
  len : bs.length ≤ 40
  lv : v.length = n
  ld : ∀ b ∈ bs, leadO b < n ∧ at0 b (leadO b) ≠ 0 ∧ (at0 b (leadO b)).natAbs < 2 ^ capB
  bd : ∀ b ∈ bs, ∀ x ∈ b, x.natAbs < 2 ^ capB
  wd : ∀ x ∈ wayF bs v, x.natAbs < 2 ^ capB
/-- by the basis of few small vectors -/
theorem Few.rest {vs : List Rw} (h : Few n vs) {V : Nat} (hV : V ≤ 2 ^ 600) (hv : v.length = n) (hb : ∀ x ∈ v, x.natAbs ≤ V) : RsOk n (lbasis n vs) v ∧ (∀ x ∈ wayF (lbasis n vs) v, x.natAbs ≤ 2 ^ 606) ∧ ∀ x ∈ restF (lbasis n vs) v, x.natAbs ≤ 2 ^ 1807 := by
  obtain ⟨b1, b2⟩ := h.bd'
  obtain ⟨cs, hh, _⟩ := h.hnf
  have h30 := h.n30
  generalize lbasis n vs = bs at b1 b2 hh
  have at' : ∀ (d : Nat), (at0 v d).natAbs ≤ V := fun d => by
    by_cases c : d < v.length
    · exact hb _ (at0_mem c)
    · unfold at0
      rw [List.getD_eq_getElem?_getD, List.getElem?_eq_none (by omega)]
      exact Nat.zero_le _
  obtain ⟨r1, r2⟩ := rest_bd (V := V) (B := 2 ^ 1200) Nat.one_le_two_pow v 0 hh b1 hv (fun k d s _ _ => by rw [Nat.zero_mul]; exact at' d) (fun x hx => by rw [Nat.zero_mul]; exact hb x hx)
  have p5 : 2 ^ bs.length ≤ 2 ^ 5 := Nat.pow_le_pow_right (by decide) b2
  have w1 : 2 ^ bs.length * (0 + V + 1) ≤ 2 ^ 606 := Nat.le_trans (Nat.mul_le_mul p5 (Nat.add_le_add_right (Nat.add_le_add_left hV 0) 1)) (by decide +kernel)
  have w : ∀ x ∈ wayF bs v, x.natAbs ≤ 2 ^ 606 := fun x hx => Nat.le_trans (r1 x hx) w1
  refine ⟨⟨hh.ln, by omega, by omega, hv, fun b hm => ?_, fun b hm x hx => Nat.lt_of_le_of_lt (b1 b hm x hx) (pow_cap (by decide)), fun x hx => Nat.lt_of_le_of_lt (w x hx) (pow_cap (by decide))⟩, w, fun x hx => ?_⟩
  · obtain ⟨q1, q2⟩ := hh.leads b hm
    exact ⟨q1, by omega, Nat.lt_of_le_of_lt (b1 b hm _ (at0_mem (by rw [hh.ln b hm]; exact q1))) (pow_cap (by decide))⟩
  · refine Nat.le_trans (r2 x hx) (Nat.le_trans (Nat.add_le_add hV (Nat.mul_le_mul_right _ w1)) ?_)
    decide +kernel
end
end Aw
namespace Aw
open PySem PySem.Spec PyProof.Rows L2
def spRestBy (K : PySem.W.Frag) : Sp := fun vs H Q _ => ∃ (b : Addr) (u : V) (ws : List V) (bs : List Rw) (n : Nat) (r : Rw), vs = [.ref b, u] ∧ SqT K H b ws ∧ RwV K H ws bs ∧ VcV K H u r ∧ RsOk n bs r ∧
  ∀ (H' : Hp) (p : Addr) (x y : V), Kp [] H H' → SqT K H' p [x, y] → VcV K H' x (restF bs r) → Dt K H' y (.tuple ((wayF bs r).map PyData.int)) → Q (.ref p) H'
theorem RsOk.mul {n : Nat} {bs : List Rw} {r b : Rw} {i : Nat} (h : RsOk n bs r) (e : bs[i]? = some b) : MulOk (restF (bs.take i) r) b (qOf (leadO b) (restF (bs.take i) r) b) ∧ (restF (bs.take i) r).length = n ∧ b.length = n ∧ leadO b < n ∧ at0 b (leadO b) ≠ 0 ∧ (at0 b (leadO b)).natAbs.log2 < 134000000 := by
  have hm := List.mem_of_getElem? e
  obtain ⟨l1, l2, l3⟩ := h.ld b hm
  refine ⟨fun y hy => ?_, restF_len _ _ (fun s hs => h.ln s (List.mem_of_mem_take hs)) h.lv, h.ln b hm, l1, l2, Nat.lt_of_lt_of_le (log_lt l3 cap_pos) cap_100⟩
  have q1 := h.bd b hm y hy
  have q2 : qOf (leadO b) (restF (bs.take i) r) b ∈ wayF bs r := by
    have q := wayF_snoc b (bs.take i) r
    rw [show bs.take i ++ [b] = bs.take (i + 1) by rw [List.take_add_one, e]; rfl] at q
    have : ∀ (as cs : List Rw) (v : Rw), ∀ x ∈ wayF as v, x ∈ wayF (as ++ cs) v := by
      intro as cs
      induction as with
      | nil => intro v x hx; cases hx
      | cons a t ih =>
        intro v x hx
        rw [List.cons_append, wayF]
        rcases List.mem_cons.mp hx with z | z
        · rw [z]
          exact List.mem_cons_self ..
        · exact List.mem_cons_of_mem _ (ih _ x z)
    have z := this (bs.take (i + 1)) (bs.drop (i + 1)) r (qOf (leadO b) (restF (bs.take i) r) b) (by rw [q]; exact List.mem_append_right _ (List.mem_singleton.mpr rfl))
    rw [List.take_append_drop] at z
    exact z
  have q3 := h.wd _ q2
  have a1 := log_lt q1 cap_pos
  have a2 := log_lt q3 cap_pos
  have cc := capB_eq
  omega
end Aw
namespace Aw
open PySem PySem.Spec PyProof.Rows L2
theorem passQ {X : Cx} : Passes (L2.CX X.prog X.w) X E0 := fun _ _ _ _ _ _ _ h => by
  obtain ⟨_, _, _, _, _, _, _, _, _, _, _, _, z⟩ := h
  exact z.elim
/-- [0] * m -/
theorem opZ {H : Hp} {Q : VK} {l : Addr} {m : Nat} (h : H l = some (.lst [.int 0])) (hm : m ≤ 1000) (q : ∀ p, H p = none → Q (.ref p) (upd H p (.lst ((zeroR m).map V.int)))) : rRep (.ref l) (.int (m : Nat)) H Q := by
  refine r_rep h (by omega) (by omega) (by simp) fun p hp => ?_
  have e : (List.replicate ((m : Nat) : Int).toNat [V.int 0]).flatten = (zeroR m).map V.int := by
    rw [Int.toNat_natCast]
    unfold zeroR
    rw [List.map_replicate]
    exact List.flatten_replicate_singleton
  rw [e]
  exact q p hp
end Aw
namespace Aw
open PySem PySem.Spec PyProof.Rows L2
theorem typ_looks {X : Cx} {pins : List (Addr × Obj)} {σ : L2.St} {H : Hp} {s : Shared} {x : V} {u t : Value} (I : Inv X pins σ H s) (rx : RelV x u) (ty : TyX X.K H x t) : PySem.W.Looks (model X.prog X.w) s.heap (typeOf u) t := by
  obtain ⟨P, Z, p, _⟩ := kit_of I rx ty
  exact Z.ty _ _ I.kIn p
section
variable {X : Cx} {k : Nat} {C : Addr} {ps : List Str} {sp : Sp}
theorem sub_int {K : PySem.W.Frag} : PySem.W.subIn K (.type "int") (.ref C) = some false := by
  have e : fastBuiltinMro "int" = some [.type "int", .type "object"] := by decide +kernel
  show (fastBuiltinMro "int").map (·.contains (.ref C)) = some false
  rw [e]
  rfl
def rMulO (C : Addr) (sp : Sp) : R2 := fun x y H Q => ∃ (p dx : Addr) (fs : List (Str × V)) (i : Int), x = .ref p ∧ y = .int i ∧ H p = some (.ins C dx fs) ∧ sp [.ref p, .int i] H (fun v H' => ∃ r, v = .ref r ∧ Q (.ref r) H') E0
theorem op_mulO (F : HasM X.prog X.w X.K X.mg X.base CX0 C "__mul__" ps k sp) (hc : PySem.W.selfFirst X.K C = true) (hm0 : PySem.W.findIn X.K (.ref C) "__rmul__" = some none) (hr : RoomG k X.A) : OpR X (binaryOp .Mult) (rMulO C sp) := by
  intro pins s σ H x y v u Q I rx ry h
  obtain ⟨p, dx, fs, i, rfl, rfl, ea, hsp⟩ := h
  obtain rfl : v = Value.ref p := rx
  obtain ⟨t, rfl⟩ : ∃ t, u = Value.int i t := ry
  obtain ⟨f, fd, ⟨oc, od, osl, lk⟩, M, hbd, F⟩ := F
  obtain ⟨mA, O, _⟩ := ins_get I.hok ea
  obtain ⟨cd, hcd, hm⟩ := PySem.W.any_some hc
  obtain ⟨rest, hm⟩ : ∃ rest, cd.mro = .ref C :: rest := by
    cases q : cd.mro with
    | nil => rw [q] at hm; cases hm
    | cons a r => rw [q] at hm; exact ⟨r, by rw [List.head?_cons] at hm; cases (beq_iff_eq.mp hm); rfl⟩
  have e1 : fillsNumberSlot (.type "int") "mul" = pure true := by kernel_rfl
  have e2 : typeLookup (.type "int") (dunderR "mul") = pure (some (.builtin "int.__rmul__")) := by kernel_rfl
  have ed : PySem.dunder "mul" = ("__mul__" : Str) := by rfl
  have er : PySem.dunderR "mul" = ("__rmul__" : Str) := by rfl
  have hat : PySem.W.findIn X.K (.ref C) (PySem.dunder "mul") = some (some (.ref f)) := by rw [ed]; exact M.at_
  unfold binaryOp
  refine wpAny_holding (wpAny_bind ?_)
  unfold binaryOp1
  refine wpAny_bind (wpAny_typeOf_ref O.obj (wpAny_bind (wpAny_typeOf (show s.TypeIs (.int i t) "int" from rfl) (wpAny_bind ((PySem.W.fills_K I.kIn hcd hm hat).here ?_)))))
  have nn : ((Value.ref C) == Value.type "int") = false := by simp
  rw [nn, if_neg (by decide)]
  refine wpAny_bind (wpAny_of_eq e1 ?_)
  dsimp only
  rw [if_pos (show (true && true) = true from rfl)]
  refine wpAny_bind ((PySem.W.looks_subIn I.kIn sub_int).here ?_)
  simp only [Bool.false_eq_true, if_false, Bool.not_false, Bool.and_self, if_true]
  have num : PySem.W.Looks (model X.prog X.w) s.heap (numberSlotInPython (.ref C) "mul") true := by
    intro A Q E s' kp q
    unfold numberSlotInPython
    refine wpAny_bind (PySem.W.looks_findIn I.kIn hat A _ E s' kp ?_)
    refine wpAny_bind (m := calledByName _ _ _) (wpAny_pure ?_)
    refine wpAny_bind (PySem.W.looks_findIn I.kIn (show PySem.W.findIn X.K (.ref C) (dunderR "mul") = some none by rw [er]; exact hm0) A _ E s' kp ?_)
    refine wpAny_bind (m := calledByName _ _ _) (wpAny_pure ?_)
    exact wpAny_pure q
  refine wpAny_bind (num.here ?_)
  rw [if_pos rfl]
  refine wpAny_bind (wpAny_of_eq (rfl : numberSlotInPython (.type "int") "mul" = pure false) ?_)
  rw [if_pos (show (!false) = true from rfl)]
  refine wpAny_bind (wpAny_of_eq e2 ?_)
  refine wpAny_bind (m := tryMethod (.ref p) _ _) ?_
  unfold tryMethod
  refine wpAny_bind (special_fn I.kIn O.obj rfl hat (beq_iff_eq.mp M.fn) (wpAny_mono (runG (vs := [.ref p, .int i]) (us := [.ref p, .int i t]) F hr hbd pass0 I (.cons rfl (.cons ⟨t, rfl⟩ .nil)) hsp) (fun w s' z => ?_) fun _ _ z => z))
  obtain ⟨v', H', J, rv, r, rfl, q⟩ := z
  obtain rfl : w = Value.ref r := rv
  refine wpAny_pure ?_
  dsimp only
  exact wpAny_pure (wpAny_pure ⟨.ref r, H', J, rfl, q⟩)
def rEqO (K : PySem.W.Frag) (C : Addr) (sp : Sp) : R2 := fun x y H Q => ∃ (p dx : Addr) (fs : List (Str × V)) (t : Value), x = .ref p ∧ H p = some (.ins C dx fs) ∧ TyX K H y t ∧ PySem.W.notFirst K C t = true ∧ sp [.ref p, y] H (fun v H' => ∃ b, v = .bl b ∧ Q (.bl b) H') E0
theorem op_eqO (F : HasM X.prog X.w X.K X.mg X.base CX0 C "__eq__" ps k sp) (hr : RoomG k X.A) : OpR X (compareOp .Eq) (rEqO X.K C sp) := by
  intro pins s σ H x y v u Q I rx ry h
  obtain ⟨p, dx, fs, t, rfl, ea, ty, nf, hsp⟩ := h
  obtain rfl : v = Value.ref p := rx
  obtain ⟨f, fd, ⟨oc, od, osl, lk⟩, M, hbd, F⟩ := F
  obtain ⟨mA, O, hns, _⟩ := ins_get I.hok ea
  obtain ⟨m, fr⟩ := I.fr
  obtain ⟨od2, hod, _⟩ := lookIn_ns O.ns
  have J : PySem.W.InstAt s.heap p _ C (some od2) := ⟨O.obj, rfl, rfl, hod⟩
  refine PySem.W.cmp_ofEq (PySem.W.cmp_K (Nat.lt_of_succ_lt hr.hu) fr I.mod.kin J (typ_looks I ry ty) nf M.at_ M.fn (wpAny_mono (runG (vs := [.ref p, y]) (us := [.ref p, u]) F hr hbd pass0 I (.cons rfl (.cons ry .nil)) hsp) (fun w s' z => ?_) fun _ _ z => z))
  obtain ⟨v', H', J, rv, b, rfl, q⟩ := z
  obtain rfl : w = Value.bool b := rv
  exact ⟨.bl b, H', J, rfl, q⟩
end
end Aw
namespace Aw
/-- all vectors, some times -/
def timesR (x : Int) (rs : List Rw) : List Rw := rs.map fun r => tvec r x
section
variable {n : Nat} {rs ss vs us bs : List Rw} {cs : List Nat} {r v : Rw} {x : Int}
theorem timesR_ln (h : LnN n rs) : LnN n (timesR x rs) := fun r hr => by
  obtain ⟨s, hs, rfl⟩ := List.mem_map.mp hr
  rw [tvec_len, h s hs]
theorem timesR_len : (timesR x rs).length = rs.length := List.length_map ..
theorem timesR_bd {E : Nat} (h : BdN E rs) : BdN (x.natAbs * E) (timesR x rs) := fun r hr y hy => by
  obtain ⟨s, hs, rfl⟩ := List.mem_map.mp hr
  obtain ⟨z, hz, rfl⟩ := List.mem_map.mp hy
  rw [Int.natAbs_mul]
  exact Nat.mul_le_mul_left _ (h s hs z hz)
theorem InS.times : ∀ {rs : List Rw} {v : Rw}, LnN n rs → InS n rs v → InS n (timesR x rs) (tvec v x)
  | [], v, _, h => by
    rw [show v = zeroR n from h]
    show tvec (zeroR n) x = zeroR n
    exact row_ext (by rw [tvec_len, zeroR_len]) (zeroR_len n) fun j hj => by rw [tvec_at (zeroR_len n) hj, zeroR_at, Int.mul_zero]
  | b :: rs, v, hl, ⟨t, u, hu, e⟩ => by
    have lb := hl.head
    have lu := hu.len hl.tail
    refine ⟨t, tvec u x, InS.times hl.tail hu, ?_⟩
    rw [e]
    refine row_ext (by rw [tvec_len, vplus_len lu lb]) (vplus_len (by rw [tvec_len, lu]) (by rw [tvec_len, lb])) fun j hj => ?_
    rw [tvec_at (vplus_len lu lb) hj, vplus_at lu lb hj, vplus_at (by rw [tvec_len, lu]) (by rw [tvec_len, lb]) hj, tvec_at lu hj, tvec_at lb hj, Int.mul_add, Int.mul_left_comm]
theorem SameS.times (hr : LnN n rs) (hs : LnN n ss) (h : SameS n rs ss) : SameS n (timesR x rs) (timesR x ss) := by
  refine SameS.of (timesR_ln hr) (timesR_ln hs) (fun b hb => ?_) (fun b hb => ?_)
  · obtain ⟨s, hs', rfl⟩ := List.mem_map.mp hb
    exact InS.times hs ((h s).mp (InS.mem hr hs'))
  · obtain ⟨s, hs', rfl⟩ := List.mem_map.mp hb
    exact InS.times hr ((h s).mpr (InS.mem hs hs'))
/-- the sign does not matter -/
theorem SameS.abs (hr : LnN n rs) : SameS n (timesR x rs) (timesR (x.natAbs : Int) rs) := by
  have key : ∀ a b : Int, (a = b ∨ a = -b) → ∀ c ∈ timesR a rs, InS n (timesR b rs) c := fun a b hab c hc => by
    obtain ⟨s, hs, rfl⟩ := List.mem_map.mp hc
    have hm : InS n (timesR b rs) (tvec s b) := InS.mem (timesR_ln hr) (List.mem_map.mpr ⟨s, hs, rfl⟩)
    rcases hab with e | e
    · rw [e]
      exact hm
    · refine InS.scale (-1) (timesR_ln hr) hm (by rw [tvec_len, hr s hs]) fun j hj => ?_
      rw [tvec_at (hr s hs) hj, tvec_at (hr s hs) hj, e]
      rw [Int.neg_mul, Int.neg_mul, Int.one_mul]
  refine SameS.of (timesR_ln hr) (timesR_ln hr) (key _ _ ?_) (key _ _ ?_)
  · omega
  · omega
theorem Hnf.times (hx : 0 < x) : ∀ {cs : List Nat} {bs : List Rw}, Hnf n cs bs → Hnf n cs (timesR x bs)
  | _, _, .nil => .nil
  | _, _, .cons c cs b bs hb hc z p r zz low t => by
    refine .cons c cs (tvec b x) (timesR x bs) (by rw [tvec_len, hb]) hc (fun j hj => ?_) ?_ r (fun s hs j hj => ?_) (fun k d s e1 e2 => ?_) (Hnf.times hx t)
    · rw [tvec_at hb (by omega), z j hj, Int.mul_zero]
    · rw [tvec_at hb hc]
      exact Int.mul_pos hx p
    · obtain ⟨s', hs', rfl⟩ := List.mem_map.mp hs
      rw [tvec_at (t.ln s' hs') (by omega), zz s' hs' j hj, Int.mul_zero]
    · unfold timesR at e2
      rw [List.getElem?_map] at e2
      obtain ⟨s', hs', rfl⟩ := Option.map_eq_some_iff.mp e2
      obtain ⟨a1, a2⟩ := low k d s' e1 hs'
      have hd := t.lt d (List.mem_of_getElem? e1)
      rw [tvec_at hb hd, tvec_at (t.ln s' (List.mem_of_getElem? hs')) hd]
      exact ⟨Int.mul_nonneg (by omega) a1, Int.mul_lt_mul_of_pos_left a2 hx⟩
/-- rows one below another -/
def Ech (n i : Nat) (rows : List Rw) : Prop := rows.Pairwise (fun a b => leadO a < leadO b) ∧ ∀ r ∈ rows, r.length = n ∧ i ≤ leadO r ∧ leadO r < n
theorem Ech.step {i : Nat} (h : Ech n i rs) (hi : i < n) : (lefts i rs).length ≤ 1 ∧ cleared i rs = rs ∧ ledR n rs = rs := by
  obtain ⟨hp, hr⟩ := h
  have led : ledR n rs = rs := List.filter_eq_self.mpr fun r hm => decide_eq_true (hr r hm).2.2
  have far : ∀ t : List Rw, (∀ r ∈ t, r.length = n ∧ i < leadO r) → lefts i t = [] ∧ zeros i t = t := fun t ht => by
    refine ⟨List.filter_eq_nil_iff.mpr fun r hm => ?_, List.filter_eq_self.mpr fun r hm => ?_⟩
    · have := lead_zero (ht r hm).2
      simp [this]
    · exact decide_eq_true (lead_zero (ht r hm).2)
  have key : (lefts i rs).length ≤ 1 ∧ lefts i rs ++ zeros i rs = rs := by
    cases rs with
    | nil => exact ⟨Nat.zero_le _, rfl⟩
    | cons a t =>
      have ha := hr a (List.mem_cons_self ..)
      have tail : ∀ r ∈ t, r.length = n ∧ leadO a < leadO r := fun r hm => ⟨(hr r (List.mem_cons_of_mem _ hm)).1, (List.pairwise_cons.mp hp).1 r hm⟩
      by_cases c : leadO a = i
      · obtain ⟨f1, f2⟩ := far t fun r hm => ⟨(tail r hm).1, by have := (tail r hm).2; omega⟩
        have ne : at0 a i ≠ 0 := by
          rw [← c]
          exact lead_ne (by omega)
        have e1 : lefts i (a :: t) = [a] := by
          unfold lefts at f1 ⊢
          rw [List.filter_cons_of_pos (by exact decide_eq_true ne), f1]
        have e2 : zeros i (a :: t) = t := by
          unfold zeros at f2 ⊢
          rw [List.filter_cons_of_neg (by simp [ne]), f2]
        rw [e1, e2]
        exact ⟨Nat.le_refl _, rfl⟩
      · obtain ⟨f1, f2⟩ := far (a :: t) fun r hm => by
          rcases List.mem_cons.mp hm with rfl | hm
          · exact ⟨ha.1, by omega⟩
          · have := (tail r hm).2
            exact ⟨(tail r hm).1, by omega⟩
        rw [f1, f2]
        exact ⟨Nat.zero_le _, rfl⟩
  exact ⟨key.1, (cleared_one key.1).trans key.2, led⟩
/-- rows one below another can be cleared -/
theorem bas_tri (hn : n ≤ 30) : ∀ (k e f : Nat) (rows found : List Rw), k ≤ n → e ≤ 1000000 → Ech n (n - k) rows → Stg n 40 e f rows found → found.length ≤ n - k → f ≤ (e + 2) * (n - k) → BasOk n k rows found
  | 0, _, _, _, _, _, _, _, _, _, _ => trivial
  | k + 1, e, f, rows, found, hk, he, hE, s, hf, hg => by
    have cc := capB_eq
    have hi : n - (k + 1) < n := by omega
    have e1 : n - (k + 1) + 1 = n - k := by omega
    obtain ⟨c1, c2, c3⟩ := hE.step hi
    have fl : (e + 2) * (n - (k + 1)) ≤ 1000002 * 30 := Nat.mul_le_mul (by omega) (by omega)
    have q := s.one hi hf (by omega) (by omega) (by omega) c1 (by omega)
    obtain ⟨g1, g2⟩ := bs_len (n := n) (n - (k + 1)) rows found
    refine ⟨⟨_, _, q.1⟩, bas_tri hn k e _ _ _ (by omega) he ?_ q.2 (by omega) ?_⟩
    · rw [← e1]
      unfold basStep
      rw [c2, c3]
      cases rows with
      | nil => exact ⟨List.Pairwise.nil, fun r hr => by cases hr⟩
      | cons g t =>
        have hp := List.pairwise_cons.mp hE.1
        have hg := hE.2 g (List.mem_cons_self ..)
        dsimp only
        by_cases c : at0 g (n - (k + 1)) = 0
        · rw [if_pos c]
          refine ⟨hE.1, fun r hr => ?_⟩
          have hr' := hE.2 r hr
          refine ⟨hr'.1, ?_, hr'.2.2⟩
          have gl : n - (k + 1) ≠ leadO g := fun z => lead_ne (r := g) (by omega) (by rw [← z]; exact c)
          rcases List.mem_cons.mp hr with rfl | hm
          · omega
          · have := hp.1 r hm
            omega
        · rw [if_neg c]
          refine ⟨hp.2, fun r hr => ?_⟩
          have hr' := hE.2 r (List.mem_cons_of_mem _ hr)
          have := hp.1 r hr
          exact ⟨hr'.1, by omega, hr'.2.2⟩
    · have e3 : (e + 2) * (n - k) = (e + 2) * (n - (k + 1)) + (e + 2) := by rw [← e1, Nat.mul_succ]
      omega
theorem Hnf.ech : ∀ {cs : List Nat} {bs : List Rw}, Hnf n cs bs → Ech n 0 bs
  | _, _, .nil => ⟨List.Pairwise.nil, fun r hr => by cases hr⟩
  | _, _, .cons c cs b bs hb hc z p r zz low t => by
    obtain ⟨a1, a2⟩ := t.ech
    have el := leadO_of (b := b) (c := c) (by omega) z (by omega)
    refine ⟨List.pairwise_cons.mpr ⟨fun s hs => ?_, a1⟩, fun s hs => ?_⟩
    · rw [el]
      rcases Nat.lt_or_ge c (leadO s) with q | q
      · exact q
      · have hs' := a2 s hs
        exact absurd (zz s hs _ q) (lead_ne (by omega))
    · rcases List.mem_cons.mp hs with rfl | hs
      · exact ⟨hb, Nat.zero_le _, by omega⟩
      · exact a2 s hs
theorem tvec_lead (hr : r.length = n) (hx : x ≠ 0) : leadO (tvec r x) = leadO r := by
  by_cases c : leadO r < n
  · refine leadO_of (by rw [tvec_len, hr]; exact c) (fun j hj => ?_) ?_
    · rw [tvec_at hr (by omega), lead_zero hj, Int.mul_zero]
    · rw [tvec_at hr c]
      exact Int.mul_ne_zero hx (lead_ne (by omega))
  · have e := lead_out hr c
    have z : tvec r x = r := by
      rw [e]
      exact row_ext (by rw [tvec_len, zeroR_len]) (zeroR_len n) fun j hj => by rw [tvec_at (zeroR_len n) hj, zeroR_at, Int.mul_zero]
    rw [z]
theorem Ech.times {i : Nat} (h : Ech n i rs) (hx : x ≠ 0) : Ech n i (timesR x rs) := by
  obtain ⟨a, b⟩ := h
  refine ⟨?_, fun r hr => ?_⟩
  · unfold timesR
    rw [List.pairwise_map]
    exact List.Pairwise.imp_of_mem (fun {c d} hc hd q => by rw [tvec_lead (b c hc).1 hx, tvec_lead (b d hd).1 hx]; exact q) a
  · obtain ⟨s, hs, rfl⟩ := List.mem_map.mp hr
    obtain ⟨q1, q2, q3⟩ := b s hs
    rw [tvec_len, tvec_lead q1 hx]
    exact ⟨q1, q2, q3⟩
/-- what is reduced may be a basis' row -/
theorem Few.restW (h : Few n vs) (hv : v.length = n) (hb : ∀ y ∈ v, y.natAbs ≤ 2 ^ 1300) : RsOk n (lbasis n vs) v := by
  obtain ⟨b1, b2⟩ := h.bd'
  obtain ⟨cs, hh, _⟩ := h.hnf
  have h30 := h.n30
  generalize lbasis n vs = bs at b1 b2 hh
  have at' : ∀ (d : Nat), (at0 v d).natAbs ≤ 2 ^ 1300 := fun d => by
    by_cases c : d < v.length
    · exact hb _ (at0_mem c)
    · unfold at0
      rw [List.getD_eq_getElem?_getD, List.getElem?_eq_none (by omega)]
      exact Nat.zero_le _
  obtain ⟨r1, r2⟩ := rest_bd (V := 2 ^ 1300) (B := 2 ^ 1200) Nat.one_le_two_pow v 0 hh b1 hv (fun k d s _ _ => by rw [Nat.zero_mul]; exact at' d) (fun y hy => by rw [Nat.zero_mul]; exact hb y hy)
  have p5 : 2 ^ bs.length ≤ 2 ^ 5 := Nat.pow_le_pow_right (by decide) b2
  have w1 : 2 ^ bs.length * (0 + 2 ^ 1300 + 1) ≤ 2 ^ 1307 := Nat.le_trans (Nat.mul_le_mul_right _ p5) (by decide +kernel)
  have w : ∀ y ∈ wayF bs v, y.natAbs ≤ 2 ^ 1307 := fun y hy => Nat.le_trans (r1 y hy) w1
  refine ⟨hh.ln, by omega, by omega, hv, fun b hm => ?_, fun b hm y hy => Nat.lt_of_le_of_lt (b1 b hm y hy) (pow_cap (by decide)), fun y hy => Nat.lt_of_le_of_lt (w y hy) (pow_cap (by decide))⟩
  obtain ⟨q1, q2⟩ := hh.leads b hm
  exact ⟨q1, by omega, Nat.lt_of_le_of_lt (b1 b hm _ (at0_mem (by rw [hh.ln b hm]; exact q1))) (pow_cap (by decide))⟩
end
end Aw
namespace Aw
open PySem PySem.Spec PyProof.Rows L2
/-- all of the one lattice are in the other -/
def withB (n : Nat) (cs bs : List Rw) : Bool := bs.all fun r => decide (leadO (restF cs r) = n)
def spSameL (K : PySem.W.Frag) (C CO : Addr) : Sp := fun vs H Q E => ∃ (a b : Addr) (n m : Nat) (bs cs : List Rw), vs = [.ref a, .ref b] ∧ LtV K C H a n bs ∧ LtV K C H b m cs ∧
  if m = n then ∀ H', Kp [] H H' → Q .non H' else Lv H E CO "length" (.int (m : Nat))
def spWithin (K : PySem.W.Frag) (C CO : Addr) : Sp := fun vs H Q E => ∃ (a b : Addr) (n m : Nat) (bs cs : List Rw), vs = [.ref a, .ref b] ∧ LtV K C H a n bs ∧ LtV K C H b m cs ∧ bs.length < 1000 ∧
  if m = n then (∀ r ∈ bs, RsOk n cs r) ∧ ∀ H', Kp [] H H' → Q (.bl (withB n cs bs)) H' else Lv H E CO "length" (.int (m : Nat))
def spMulL (K : PySem.W.Frag) (C : Addr) : Sp := fun vs H Q _ => ∃ (a : Addr) (x : Int) (n : Nat) (bs : List Rw), vs = [.ref a, .int x] ∧ LtV K C H a n bs ∧ LnN n bs ∧ n ≤ 30 ∧ bs.length < 1000 ∧ x.natAbs ≤ 2 ^ 85 ∧ BdN (2 ^ 1200) bs ∧ BasOk n n (ledR n (timesR x bs)) [] ∧
  ∀ (H' : Hp) (r : Addr), H r = none → Kp [] H H' → LtV K C H' r n (basisF n (timesR x bs)) → Q (.ref r) H'
/-- what a lattice is compared with -/
def EqA (K : PySem.W.Frag) (C : Addr) (H : Hp) (y : V) (n : Nat) (bs : List Rw) (b : Bool) : Prop :=
  (∃ (p : Addr) (m : Nat) (cs : List Rw), y = .ref p ∧ LtV K C H p m cs ∧ b = decide (n = m ∧ bs = cs)) ∨ ∃ (M : List Addr) (d : PyData), Dw M K H y d ∧ b = false
def spEqL (K : PySem.W.Frag) (C : Addr) : Sp := fun vs H Q _ => ∃ (a : Addr) (y : V) (n : Nat) (bs : List Rw) (b : Bool), vs = [.ref a, y] ∧ LtV K C H a n bs ∧ EqA K C H y n bs b ∧ ∀ H', Kp [] H H' → Q (.bl b) H'
theorem RwV.dtT {K : PySem.W.Frag} {H : Hp} {a : Addr} {us : List V} {rs : List Rw} (hT : SqT K H a us) (h : RwV K H us rs) : Dt K H (.ref a) (rwsD rs) := by
  refine .tup hT (by rw [List.length_map, h.len]) fun i v d e e' => ?_
  rw [List.getElem?_map] at e'
  obtain ⟨r, hr, rfl⟩ := Option.map_eq_some_iff.mp e'
  exact (h.all i v r e hr).dt
theorem rws_noB (rs : List Rw) : noBs (rs.map vecD) = true := by
  induction rs with
  | nil => rw [List.map_nil, noBs]
  | cons r t ih =>
    rw [List.map_cons, noBs, ih]
    unfold vecD
    rw [noB, vecD_noB]
    rfl
theorem rws_inj : ∀ {bs cs : List Rw}, bs.map vecD = cs.map vecD → bs = cs
  | [], [], _ => rfl
  | [], _ :: _, h => by cases h
  | _ :: _, [], h => by cases h
  | b :: bs, c :: cs, h => by
    rw [List.map_cons, List.map_cons] at h
    injection h with h1 h2
    rw [vecD_inj h1, rws_inj h2]
theorem rws_eqv (bs cs : List Rw) : PyData.eqv (rwsD bs) (rwsD cs) = decide (bs = cs) := by
  rw [Bool.eq_iff_iff, decide_eq_true_eq]
  unfold rwsD
  rw [PyData.eqv, eqvs_eq _ _ (rws_noB bs) (rws_noB cs)]
  exact ⟨rws_inj, fun h => by rw [h]⟩
theorem rws_shaped (rs : List Rw) : SeqAt.shaped (rwsD rs) = true := by
  refine (Cmp.tup (n := 1) fun d hd => ?_).shaped (by decide)
  obtain ⟨r, _, rfl⟩ := List.mem_map.mp hd
  refine Cmp.tup (n := 0) fun d hd => ?_
  obtain ⟨x, _, rfl⟩ := List.mem_map.mp hd
  exact Cmp.int
theorem r_rwsEq {K : PySem.W.Frag} {H : Hp} {Q : VK} {a b : Addr} {us ws : List V} {bs cs : List Rw} (h1 : SqT K H a us) (h2 : RwV K H us bs) (h3 : SqT K H b ws) (h4 : RwV K H ws cs) (q : Q (.bl (decide (bs = cs))) H) : rEqD K (.ref a) (.ref b) H Q :=
  ⟨_, _, (RwV.dtT h1 h2).dp, (RwV.dtT h3 h4).dp, rws_shaped _, rws_shaped _, by rw [rws_eqv]; exact q⟩
/-- the facts of the class that comparings ask -/
structure LtE (K : PySem.W.Frag) (C : Addr) : Prop where
  sf : PySem.W.selfFirst K C = true
  rm : PySem.W.findIn K (.ref C) "__rmul__" = some none
  ne : PySem.W.findIn K (.ref C) "__ne__" = some (some (.builtin "object.__ne__"))
  ob : PySem.W.mroIn K C (.type "object") = some true
  cd : PySem.W.findIn K (.ref C) "__class__" = some (some (.builtin "object.__class__"))
  cg : PySem.W.specialIn K (.builtin "object.__class__") "__get__" = some (some (.builtin "getset_descriptor.__get__"))
  ct : PySem.W.takesIn K (.builtin "object.__class__") = some true
  k0 : PySem.W.kitOne K (.ref C) (.ref C) = some true
  k1 : PySem.W.kitOne K (.type "NoneType") (.ref C) = some false
  k2 : PySem.W.kitOne K (.type "bool") (.ref C) = some false
  k3 : PySem.W.kitOne K (.type "int") (.ref C) = some false
  k4 : PySem.W.kitOne K (.type "str") (.ref C) = some false
  k5 : PySem.W.kitOne K (.type "tuple") (.ref C) = some false
  k6 : PySem.W.kitOne K (.type "list") (.ref C) = some false
  k7 : PySem.W.kitOne K (.type "dict") (.ref C) = some false
section
variable {K : PySem.W.Frag} {C : Addr} {H : Hp} {a : Addr} {n : Nat} {bs : List Rw} {M : List Addr} {y : V} {d : PyData}
theorem LtE.kit (h : LtE K C) (d : PyData) : PySem.W.kitOne K (.type (tyD d)) (.ref C) = some false := by
  cases d with
  | none => exact h.k1
  | bool _ => exact h.k2
  | int _ => exact h.k3
  | str _ => exact h.k4
  | tuple _ => exact h.k5
  | list _ => exact h.k6
  | dict _ => exact h.k7
theorem LtE.nf (d : PyData) : PySem.W.notFirst K C (.type (tyD d)) = true := by
  have key : ∀ t ∈ ["NoneType", "bool", "int", "str", "tuple", "list", "dict"], PySem.W.subIn K (.type t) (.ref C) = some false := fun t ht => by
    have e : ∃ l, fastBuiltinMro t = some l ∧ (l.all fun v => match v with | .type _ => true | _ => false) = true := by
      have := (show (["NoneType", "bool", "int", "str", "tuple", "list", "dict"].all fun t => match fastBuiltinMro t with | Option.some l => (l.all fun v => match v with | .type _ => true | _ => false) | Option.none => false) = true by decide +kernel)
      have q := List.all_eq_true.mp this t ht
      split at q
      · rename_i l e
        exact ⟨l, e, q⟩
      · cases q
    obtain ⟨l, e, q⟩ := e
    show (fastBuiltinMro t).map (·.contains (.ref C)) = some false
    rw [e]
    show some (l.contains (.ref C)) = some false
    congr 1
    refine Bool.eq_false_iff.mpr fun z => ?_
    have hm := List.contains_iff_mem.mp z
    have := List.all_eq_true.mp q _ hm
    cases this
  unfold PySem.W.notFirst
  rw [key _ (by cases d <;> simp [tyD])]
  simp
theorem LtE.self : PySem.W.notFirst K C (.ref C) = true := by
  unfold PySem.W.notFirst
  simp
theorem LtV.ty (h : LtV K C H a n bs) (T : LtT K C) (E : LtE K C) : TyX K H (.ref a) (.ref C) := by
  obtain ⟨dx, b, ws, hI, _⟩ := h
  exact .base (.ins hI T.cl E.cd E.cg E.ct E.ob)
end
end Aw
namespace Aw
open PySem PySem.Spec PyProof.Rows L2
/-- vectors from the span of few small ones -/
theorem Few.subs {n : Nat} {rs ss : List Rw} (h : Few n rs) (hl : LnN n ss) (h7 : ss.length ≤ 7) (hb : BdN (2 ^ 73) ss) (hs : ∀ s ∈ ss, InS n rs s) : Few n ss := by
  obtain ⟨ws, w1, w2, w3⟩ := h.rank
  exact ⟨h.n30, hl, h7, hb, ws, w1, w2, fun v hv => w3 v (InS.sub h.ln hs hv)⟩
theorem Few.times {n : Nat} {rs : List Rw} {x : Int} (h : Few n rs) (hb : BdN (5 * 10 ^ 20) rs) (hx : x.natAbs ≤ 7) : Few n (timesR x rs) := by
  refine h.subs (timesR_ln h.ln) (by rw [timesR_len]; exact h.len) (fun r hr y hy => Nat.le_trans (timesR_bd hb r hr y hy) (Nat.le_trans (Nat.mul_le_mul_right _ hx) (by decide))) fun s hs => ?_
  obtain ⟨r, hr, rfl⟩ := List.mem_map.mp hs
  exact InS.sc _ h.ln (InS.mem h.ln hr)
theorem Few.nil {n : Nat} (h : n ≤ 30) : Few n [] := Few.of5 h (fun r hr => by cases hr) (Nat.zero_le _) fun r hr => by cases hr
/-- a tuple of few small vectors -/
def FewV (K : PySem.W.Frag) (H : Hp) (n : Nat) (v : V) : Prop := ∃ (b : Addr) (us : List V) (rs : List Rw), v = .ref b ∧ SqT K H b us ∧ RwV K H us rs ∧ Few n rs
theorem FewV.kp {K : PySem.W.Frag} {H H1 : Hp} {M : List Addr} {n : Nat} {v : V} (h : FewV K H n v) (k : Kp M H H1) : FewV K H1 n v := by
  obtain ⟨b, us, rs, e, h1, h2, h3⟩ := h
  exact ⟨b, us, rs, e, sqT_kp k h1, h2.kp k, h3⟩
theorem r_slOne {K : PySem.W.Frag} {H : Hp} {Q : VK} {a : Addr} {xs : List V} (h : SqT K H a xs) (q : ∀ (H' : Hp) (b : Addr), Kp [] H H' → SqT K H' b xs.tail → Q (.ref b) H') : rSlA K (.ref a) (some 1) none H Q := by
  refine ⟨a, xs, rfl, h, fun c => ?_, fun c p hp => ?_⟩
  · cases xs with
    | nil => exact q H a Kp.nil h
    | cons y r =>
      have e1 : HT.sIx (y :: r).length 0 (some 1) = 1 := by
        rw [show (1 : Int) = ((1 : Nat) : Int) from rfl, HT.sIx_nat]
        rw [List.length_cons]
        omega
      have := c.1
      omega
  · cases xs with
    | nil => exact absurd ⟨by rfl, by rfl⟩ c
    | cons y r =>
      rw [cutV_oneL]
      exact q _ p (Kp.nil.new hp) (SqT.of upd_same)
theorem r_catN {K : PySem.W.Frag} {H : Hp} {Q : VK} {a b : Addr} {xs ys : List V} (h : SqT K H a xs) (g : SqT K H b ys) (hz : xs.length + ys.length ≤ sizeLine) (q : ∀ (H' : Hp) (p : Addr), Kp [] H H' → SqT K H' p (xs ++ ys) → Q (.ref p) H') : rCatA K (.ref a) (.ref b) H Q := by
  refine ⟨a, b, xs, ys, rfl, rfl, h, g, hz, fun e => ?_, fun e1 e2 => ?_, fun e1 e2 p hp => q _ p (Kp.nil.new hp) (SqT.of upd_same)⟩
  · subst e
    exact q H b Kp.nil g
  · subst e2
    exact q H a Kp.nil (by rw [List.append_nil]; exact h)
theorem RwV.tail {K : PySem.W.Frag} {H : Hp} {us : List V} {rs : List Rw} (h : RwV K H us rs) : RwV K H us.tail rs.tail := by
  cases rs with
  | nil =>
    have := h.len
    rw [List.length_nil] at this
    obtain rfl := List.length_eq_zero_iff.mp this
    exact h
  | cons r t =>
    obtain ⟨v, u, rfl, _, h2⟩ := h.inv
    exact h2
section
variable {K : PySem.W.Frag} {C : Addr} {sp : Sp} {H : Hp} {Q : VK} {a : Addr} {y : V} {n : Nat} {bs : List Rw} {b : Bool}
theorem EqA.ty (h : EqA K C H y n bs b) (T : LtT K C) (E : LtE K C) : ∃ t, TyX K H y t ∧ PySem.W.notFirst K C t = true := by
  rcases h with ⟨p, m, cs, rfl, hM, _⟩ | ⟨M, d, hd, _⟩
  · exact ⟨_, hM.ty T E, LtE.self⟩
  · exact ⟨_, hd.ty, LtE.nf d⟩
theorem EqA.kp {H1 : Hp} (h : EqA K C H y n bs b) (k : Kp [] H H1) : EqA K C H1 y n bs b := by
  rcases h with ⟨p, m, cs, rfl, hM, e⟩ | ⟨M, d, hd, e⟩
  · exact .inl ⟨p, m, cs, rfl, hM.kp k (by simp), e⟩
  · exact .inr ⟨M, d, hd.kp0 k, e⟩
/-- o == v -/
theorem r_eqL (T : LtT K C) (E : LtE K C) (hL : LtV K C H a n bs) (hy : EqA K C H y n bs b) (k : ∀ H', Kp [] H H' → Q (.bl b) H') : rEqO K C (spEqL K C) (.ref a) y H Q := by
  obtain ⟨dx, p, ws, hI, _⟩ := id hL
  obtain ⟨t, ht, nf⟩ := hy.ty T E
  exact ⟨a, dx, _, t, rfl, hI, ht, nf, a, y, n, bs, b, rfl, hL, hy, fun H' k' => ⟨_, rfl, k H' k'⟩⟩
end
end Aw
namespace Aw
theorem pigeon : ∀ (b a : Nat) (f : Nat → Nat), b < a → (∀ i, i < a → f i < b) → ∃ i j, i < j ∧ j < a ∧ f i = f j
  | 0, a, f, h, hf => absurd (hf 0 (by omega)) (by omega)
  | b + 1, a, f, h, hf => by
    obtain ⟨m, rfl⟩ : ∃ m, a = m + 1 := ⟨a - 1, by omega⟩
    by_cases c : ∃ i, i < m ∧ f i = f m
    · obtain ⟨i, hi, e⟩ := c
      exact ⟨i, m, hi, by omega, e⟩
    · have hne : ∀ i, i < m → f i ≠ f m := fun i hi e => c ⟨i, hi, e⟩
      obtain ⟨i, j, hij, hj, e⟩ := pigeon b m (fun i => if f m < f i then f i - 1 else f i) (by omega) (fun i hi => by
        have h1 := hf i (by omega)
        have h2 := hf m (by omega)
        have h3 := hne i hi
        split <;> omega)
      refine ⟨i, j, hij, by omega, ?_⟩
      have h1 := hne i (by omega)
      have h2 := hne j hj
      split at e <;> split at e <;> omega
def digs (B : Nat) : Nat → Nat → List Int
  | 0, _ => []
  | N + 1, i => ((i % B : Nat) : Int) :: digs B N (i / B)
theorem digs_len (B : Nat) : ∀ (N i : Nat), (digs B N i).length = N
  | 0, _ => rfl
  | N + 1, i => by rw [digs, List.length_cons, digs_len B N]
theorem digs_bd {B : Nat} (hB : 1 ≤ B) : ∀ (N i : Nat), ∀ x ∈ digs B N i, 0 ≤ x ∧ x ≤ ((B - 1 : Nat) : Int)
  | N + 1, i, x, hx => by
    rw [digs] at hx
    rcases List.mem_cons.mp hx with rfl | hx
    · have := Nat.mod_lt i (show 0 < B by omega)
      omega
    · exact digs_bd hB N _ x hx
theorem digs_inj {B : Nat} (hB : 1 ≤ B) : ∀ (N i j : Nat), i < B ^ N → j < B ^ N → digs B N i = digs B N j → i = j
  | 0, i, j, hi, hj, _ => by
    rw [Nat.pow_zero] at hi hj
    omega
  | N + 1, i, j, hi, hj, e => by
    rw [digs, digs] at e
    injection e with e1 e2
    have hB0 : 0 < B := by omega
    have q := digs_inj hB N (i / B) (j / B) ((Nat.div_lt_iff_lt_mul hB0).mpr (by rw [← Nat.pow_succ]; exact hi)) ((Nat.div_lt_iff_lt_mul hB0).mpr (by rw [← Nat.pow_succ]; exact hj)) e2
    have h1 := Nat.div_add_mod i B
    have h2 := Nat.div_add_mod j B
    rw [q] at h1
    omega
def dotI : List Int → List Int → Int
  | x :: xs, y :: ys => x * y + dotI xs ys
  | _, _ => 0
theorem dotI_bd {X E : Nat} : ∀ {xs ys : List Int}, (∀ x ∈ xs, x.natAbs ≤ X) → (∀ y ∈ ys, y.natAbs ≤ E) → (dotI xs ys).natAbs ≤ xs.length * (X * E)
  | [], ys, _, _ => by
    rw [dotI]
    · exact Nat.zero_le _
    · exact fun _ _ _ _ h => by cases h
  | x :: xs, [], _, _ => by
    rw [dotI]
    · exact Nat.zero_le _
    · exact fun _ _ _ _ _ h => by cases h
  | x :: xs, y :: ys, hx, hy => by
    have ih := dotI_bd (fun z hz => hx z (List.mem_cons_of_mem _ hz)) (fun z hz => hy z (List.mem_cons_of_mem _ hz))
    have h1 := hx x (List.mem_cons_self ..)
    have h2 := hy y (List.mem_cons_self ..)
    have h3 := Nat.mul_le_mul h1 h2
    rw [dotI, List.length_cons, Nat.succ_mul]
    have h4 := Int.natAbs_add_le (x * y) (dotI xs ys)
    rw [Int.natAbs_mul] at h4
    omega
def subL : List Int → List Int → List Int
  | x :: xs, y :: ys => (x - y) :: subL xs ys
  | _, _ => []
theorem subL_len : ∀ {xs ys : List Int}, xs.length = ys.length → (subL xs ys).length = xs.length
  | [], [], _ => rfl
  | x :: xs, y :: ys, h => by
    rw [subL, List.length_cons, List.length_cons, subL_len (by simpa using h)]
theorem subL_dot : ∀ {xs ys zs : List Int}, xs.length = ys.length → dotI (subL xs ys) zs = dotI xs zs - dotI ys zs
  | [], [], zs, _ => by
    rw [subL]
    · cases zs <;> simp [dotI]
    · exact fun _ _ _ _ h => by cases h
  | x :: xs, y :: ys, [], h => by simp [subL, dotI]
  | x :: xs, y :: ys, z :: zs, h => by
    rw [subL, dotI, dotI, dotI, subL_dot (by simpa using h), Int.sub_mul]
    omega
theorem subL_zero : ∀ {xs ys : List Int}, xs.length = ys.length → (∀ z ∈ subL xs ys, z = 0) → xs = ys
  | [], [], _, _ => rfl
  | x :: xs, y :: ys, h, hz => by
    rw [subL] at hz
    have h1 := hz _ (List.mem_cons_self ..)
    rw [subL_zero (by simpa using h) fun z hm => hz z (List.mem_cons_of_mem _ hm), show x = y by omega]
theorem subL_bd {X : Nat} : ∀ {xs ys : List Int}, (∀ x ∈ xs, 0 ≤ x ∧ x ≤ (X : Int)) → (∀ y ∈ ys, 0 ≤ y ∧ y ≤ (X : Int)) → ∀ z ∈ subL xs ys, z.natAbs ≤ X
  | [], ys, _, _, z, hz => by
    rw [subL] at hz
    · cases hz
    · exact fun _ _ _ _ h => by cases h
  | x :: xs, [], _, _, z, hz => by
    rw [subL] at hz
    · cases hz
    · exact fun _ _ _ _ _ h => by cases h
  | x :: xs, y :: ys, hx, hy, z, hz => by
    rw [subL] at hz
    rcases List.mem_cons.mp hz with rfl | hz
    · have h1 := hx x (List.mem_cons_self ..)
      have h2 := hy y (List.mem_cons_self ..)
      omega
    · exact subL_bd (fun a ha => hx a (List.mem_cons_of_mem _ ha)) (fun a ha => hy a (List.mem_cons_of_mem _ ha)) z hz
def codeF (S O : Nat) (xs : List Int) : List (List Int) → Nat
  | [] => 0
  | c :: cs => (dotI xs c + O).toNat + S * codeF S O xs cs
theorem codeF_lt {S O : Nat} {xs : List Int} : ∀ {cs : List (List Int)}, (∀ c ∈ cs, 0 ≤ dotI xs c + O ∧ dotI xs c + O < S) → codeF S O xs cs < S ^ cs.length
  | [], _ => by
    rw [codeF, List.length_nil, Nat.pow_zero]
    exact Nat.one_pos
  | c :: cs, h => by
    have ih := codeF_lt (S := S) (O := O) (xs := xs) (cs := cs) fun d hd => h d (List.mem_cons_of_mem _ hd)
    have h1 := h c (List.mem_cons_self ..)
    rw [codeF, List.length_cons, Nat.pow_succ]
    have h2 : (dotI xs c + O).toNat < S := by omega
    have h3 : S * (codeF S O xs cs + 1) ≤ S * S ^ cs.length := Nat.mul_le_mul_left _ ih
    rw [Nat.mul_add, Nat.mul_one] at h3
    rw [Nat.mul_comm (S ^ cs.length)]
    omega
theorem codeF_inj {S O : Nat} {xs ys : List Int} : ∀ {cs : List (List Int)}, (∀ c ∈ cs, 0 ≤ dotI xs c + O ∧ dotI xs c + O < S) → (∀ c ∈ cs, 0 ≤ dotI ys c + O ∧ dotI ys c + O < S) → codeF S O xs cs = codeF S O ys cs → ∀ c ∈ cs, dotI xs c = dotI ys c
  | [], _, _, _ => fun c hc => by cases hc
  | c :: cs, h, g, e => by
    have h1 := h c (List.mem_cons_self ..)
    have g1 := g c (List.mem_cons_self ..)
    rw [codeF, codeF] at e
    have m1 : ((dotI xs c + O).toNat + S * codeF S O xs cs) % S = (dotI xs c + O).toNat := by
      rw [Nat.add_mul_mod_self_left, Nat.mod_eq_of_lt (by omega)]
    have m2 : ((dotI ys c + O).toNat + S * codeF S O ys cs) % S = (dotI ys c + O).toNat := by
      rw [Nat.add_mul_mod_self_left, Nat.mod_eq_of_lt (by omega)]
    have e1 : (dotI xs c + O).toNat = (dotI ys c + O).toNat := by rw [← m1, ← m2, e]
    have e2 : codeF S O xs cs = codeF S O ys cs := by
      have : S * codeF S O xs cs = S * codeF S O ys cs := by omega
      exact Nat.eq_of_mul_eq_mul_left (by omega) this
    intro d hd
    rcases List.mem_cons.mp hd with rfl | hd
    · omega
    · exact codeF_inj (fun d hd => h d (List.mem_cons_of_mem _ hd)) (fun d hd => g d (List.mem_cons_of_mem _ hd)) e2 d hd
/-- more unknowns than equations: a small answer that is not 0 -/
theorem siegel {N E : Nat} {cs : List (List Int)} (hE : 1 ≤ E) (hN : cs.length < N) (hb : ∀ c ∈ cs, ∀ y ∈ c, y.natAbs ≤ E) :
    ∃ xs : List Int, xs.length = N ∧ (∃ x ∈ xs, x ≠ 0) ∧ (∀ x ∈ xs, x.natAbs ≤ (2 * N * E) ^ cs.length) ∧ ∀ c ∈ cs, dotI xs c = 0 := by
  obtain ⟨A, eA⟩ : ∃ A, A = 2 * N * E := ⟨_, rfl⟩
  have hA : 1 ≤ A := by
    rw [eA, Nat.mul_assoc]
    exact Nat.le_trans (Nat.mul_pos (by omega) hE) (Nat.le_mul_of_pos_left _ (by decide))
  obtain ⟨B, eB⟩ : ∃ B, B = A ^ cs.length + 1 := ⟨_, rfl⟩
  have hB : 1 ≤ B := by omega
  obtain ⟨O, eO⟩ : ∃ O, O = N * ((B - 1) * E) := ⟨_, rfl⟩
  have eS : A * (B - 1) = 2 * O := by
    rw [eA, eO, Nat.mul_assoc, Nat.mul_assoc, Nat.mul_comm E]
  have rng : ∀ i, ∀ c ∈ cs, 0 ≤ dotI (digs B N i) c + (O : Nat) ∧ dotI (digs B N i) c + (O : Nat) < ((2 * O + 1 : Nat) : Int) := fun i c hc => by
    have q := dotI_bd (X := B - 1) (E := E) (xs := digs B N i) (ys := c) (fun x hx => by
      have := digs_bd hB N i x hx
      omega) (hb c hc)
    rw [digs_len, ← eO] at q
    omega
  have hlt : (2 * O + 1) ^ cs.length < B ^ N := by
    have h1 : 2 * O + 1 ≤ A * B := by
      rw [← eS]
      have : A * B = A * (B - 1) + A := by
        rw [← Nat.mul_succ, show (B - 1).succ = B by omega]
      omega
    have h2 := Nat.pow_le_pow_left h1 cs.length
    rw [Nat.mul_pow] at h2
    have h3 : A ^ cs.length * B ^ cs.length < B * B ^ cs.length := Nat.mul_lt_mul_of_pos_right (by omega) (Nat.pow_pos (by omega))
    have h4 : B * B ^ cs.length ≤ B ^ N := by
      rw [Nat.mul_comm, ← Nat.pow_succ]
      exact Nat.pow_le_pow_right (by omega) hN
    omega
  obtain ⟨i, j, hij, hj, e⟩ := pigeon _ _ (fun i => codeF (2 * O + 1) O (digs B N i) cs) hlt fun i _ => codeF_lt (rng i)
  have hl : (digs B N i).length = (digs B N j).length := by rw [digs_len, digs_len]
  refine ⟨subL (digs B N i) (digs B N j), by rw [subL_len hl, digs_len], ?_, fun x hx => ?_, fun c hc => ?_⟩
  · refine Classical.byContradiction fun q => ?_
    have z := subL_zero hl fun z hz => Classical.byContradiction fun nz => q ⟨z, hz, nz⟩
    have := digs_inj hB N i j (by omega) hj z
    omega
  · have := subL_bd (X := B - 1) (digs_bd hB N i) (digs_bd hB N j) x hx
    rw [← eA]
    omega
  · rw [subL_dot hl, codeF_inj (rng i) (rng j) e c hc]
    omega
end Aw
namespace Aw
/-- a whole combination -/
def combR (n : Nat) : List Int → List Rw → Rw
  | x :: xs, v :: vs => vplus (combR n xs vs) v x
  | _, _ => zeroR n
/-- no combination but the one of noughts is 0 -/
def Ind (n : Nat) (ws : List Rw) : Prop := ∀ xs : List Int, xs.length = ws.length → combR n xs ws = zeroR n → ∀ x ∈ xs, x = 0
section
variable {n : Nat} {cs : List Nat} {bs ws vs : List Rw} {v w : Rw}
theorem comb_len : ∀ {xs : List Int} {vs : List Rw}, LnN n vs → (combR n xs vs).length = n
  | [], vs, _ => by
    rw [combR]
    · exact zeroR_len n
    · exact fun _ _ _ _ h => by cases h
  | x :: xs, [], _ => by
    rw [combR]
    · exact zeroR_len n
    · exact fun _ _ _ _ _ h => by cases h
  | x :: xs, v :: vs, h => by
    rw [combR]
    exact vplus_len (comb_len h.tail) h.head
theorem comb_in : ∀ {xs : List Int} {vs : List Rw}, xs.length = vs.length → InS n vs (combR n xs vs)
  | [], [], _ => by
    show combR n [] [] = zeroR n
    rw [combR]
    exact fun _ _ _ _ h => by cases h
  | x :: xs, v :: vs, h => ⟨x, combR n xs vs, comb_in (by simpa using h), by rw [combR]⟩
theorem comb_at {j : Nat} (hj : j < n) : ∀ {xs : List Int} {vs : List Rw}, LnN n vs → at0 (combR n xs vs) j = dotI xs (vs.map fun v => at0 v j)
  | [], vs, _ => by
    rw [combR, dotI]
    · exact zeroR_at n j
    · exact fun _ _ _ _ h => by cases h
    · exact fun _ _ _ _ h => by cases h
  | x :: xs, [], _ => by
    rw [combR, List.map_nil, dotI]
    · exact zeroR_at n j
    · exact fun _ _ _ _ _ h => by cases h
    · exact fun _ _ _ _ _ h => by cases h
  | x :: xs, v :: vs, h => by
    rw [combR, List.map_cons, dotI, vplus_at (comb_len h.tail) h.head hj, comb_at hj h.tail]
    omega
/-- some of the rows are independent and have multiples of all -/
theorem sub_ind : ∀ {vs : List Rw}, LnN n vs → ∃ ws : List Rw, (∀ w ∈ ws, w ∈ vs) ∧ Ind n ws ∧ ws.length ≤ vs.length ∧ ∀ v ∈ vs, ∃ t : Int, t ≠ 0 ∧ InS n ws (tvec v t)
  | [], _ => ⟨[], fun w h => h, (fun xs hx _ x hm => by
      obtain rfl := List.length_eq_zero_iff.mp hx
      cases hm), Nat.le_refl _, fun v h => (by cases h)⟩
  | v :: vs, hl => by
    obtain ⟨ws, h1, h2, h4, h3⟩ := sub_ind hl.tail
    have lw : LnN n ws := fun w hw => hl.tail w (h1 w hw)
    have lv := hl.head
    by_cases c : ∃ t : Int, t ≠ 0 ∧ InS n ws (tvec v t)
    · refine ⟨ws, fun w hw => List.mem_cons_of_mem _ (h1 w hw), h2, Nat.le_succ_of_le h4, fun u hu => ?_⟩
      rcases List.mem_cons.mp hu with rfl | hu
      · exact c
      · exact h3 u hu
    · refine ⟨v :: ws, fun w hw => ?_, fun xs hx hz => ?_, by rw [List.length_cons, List.length_cons]; omega, fun u hu => ?_⟩
      · rcases List.mem_cons.mp hw with rfl | hw
        · exact List.mem_cons_self ..
        · exact List.mem_cons_of_mem _ (h1 w hw)
      · cases xs with
        | nil => intro x hm; cases hm
        | cons x xs =>
          have hx' : xs.length = ws.length := by simpa using hx
          rw [combR] at hz
          have hin := comb_in (n := n) hx'
          have lc : (combR n xs ws).length = n := comb_len lw
          have x0 : x = 0 := Classical.byContradiction fun hx0 => c ⟨-x, by omega, by
            have e : tvec v (-x) = combR n xs ws := row_ext (by rw [tvec_len, lv]) lc fun j hj => by
              have q : at0 (vplus (combR n xs ws) v x) j = at0 (zeroR n) j := congrArg (fun r => at0 r j) hz
              rw [vplus_at lc lv hj, zeroR_at] at q
              rw [tvec_at lv hj, Int.neg_mul]
              omega
            rw [e]
            exact hin⟩
          rw [x0, vplus_zero lc lv] at hz
          intro y hy
          rcases List.mem_cons.mp hy with rfl | hy
          · exact x0
          · exact h2 xs hx' hz y hy
      · rcases List.mem_cons.mp hu with rfl | hu
        · exact ⟨1, by decide, InS.sc _ (fun w hw => by
            rcases List.mem_cons.mp hw with rfl | hw
            · exact lv
            · exact lw w hw) (InS.mem (fun w hw => by
            rcases List.mem_cons.mp hw with rfl | hw
            · exact lv
            · exact lw w hw) (List.mem_cons_self ..))⟩
        · obtain ⟨t, t0, ht⟩ := h3 u hu
          exact ⟨t, t0, InS.wk (fun w hw => by
            rcases List.mem_cons.mp hw with rfl | hw
            · exact lv
            · exact lw w hw) ht⟩
/-- multiples of what the rows span -/
theorem span_mult (hw : LnN n ws) : ∀ {vs : List Rw} {v : Rw}, LnN n vs → (∀ u ∈ vs, ∃ t : Int, t ≠ 0 ∧ InS n ws (tvec u t)) → InS n vs v → ∃ t : Int, t ≠ 0 ∧ InS n ws (tvec v t)
  | [], v, _, _, h => ⟨1, by decide, by
    have e : tvec v 1 = zeroR n := by
      rw [show v = zeroR n from h]
      exact row_ext (by rw [tvec_len, zeroR_len]) (zeroR_len n) fun j hj => by rw [tvec_at (zeroR_len n) hj, zeroR_at, Int.mul_zero]
    rw [e]
    exact InS.zero hw⟩
  | b :: vs, v, hl, hm, ⟨t, u, hu, e⟩ => by
    obtain ⟨x, x0, hx⟩ := span_mult hw hl.tail (fun z hz => hm z (List.mem_cons_of_mem _ hz)) hu
    obtain ⟨y, y0, hy⟩ := hm b (List.mem_cons_self ..)
    have lu := hu.len hl.tail
    have lb := hl.head
    refine ⟨x * y, fun z => ?_, ?_⟩
    · rcases Int.mul_eq_zero.mp z with z | z
      · exact x0 z
      · exact y0 z
    · have q := InS.comb (t * x) hw (InS.sc y hw hx) hy
      have e2 : vplus (tvec (tvec u x) y) (tvec b y) (t * x) = tvec v (x * y) := by
        rw [e]
        refine row_ext (vplus_len (by rw [tvec_len, tvec_len, lu]) (by rw [tvec_len, lb])) (by rw [tvec_len, vplus_len lu lb]) fun j hj => ?_
        rw [vplus_at (by rw [tvec_len, tvec_len, lu]) (by rw [tvec_len, lb]) hj, tvec_at (by rw [tvec_len, lu]) hj, tvec_at lu hj, tvec_at lb hj, tvec_at (vplus_len lu lb) hj, vplus_at lu lb hj, Int.mul_add]
        congr 1
        · rw [← Int.mul_assoc, Int.mul_comm y x]
        · rw [Int.mul_assoc, Int.mul_assoc, Int.mul_left_comm t, Int.mul_left_comm t]
      rw [← e2]
      exact q
/-- numbers of a basis, by vectors with one lead alone -/
theorem hnf_bdW {W : Nat} (hl : LnN n vs) (h : Hnf n cs bs) (s : SameS n vs bs) (hu : ∀ c ∈ cs, ∃ u : Rw, InS n vs u ∧ at0 u c ≠ 0 ∧ (∀ d ∈ cs, d ≠ c → at0 u d = 0) ∧ ∀ j, (at0 u j).natAbs ≤ W) : BdN (cs.length * W) bs := by
  have hex : ∀ c : Nat, ∃ u : Rw, c ∈ cs → InS n vs u ∧ 0 < at0 u c ∧ (∀ d ∈ cs, d ≠ c → at0 u d = 0) ∧ (∀ j, (at0 u j).natAbs ≤ W) ∧ ∀ e ∈ bs, (at0 e c).natAbs ≤ (at0 u c).natAbs := by
    intro c
    by_cases hc : c ∈ cs
    · obtain ⟨k, hk⟩ := List.mem_iff_getElem?.mp hc
      obtain ⟨piv, hpiv⟩ : ∃ piv, bs[k]? = some piv := ⟨bs[k]'(by rw [← h.len]; exact (List.getElem?_eq_some_iff.mp hk).1), List.getElem?_eq_getElem _⟩
      have hcn := h.lt c hc
      obtain ⟨u, uS, hu0, uz2, ub2⟩ := hu c hc
      have lu := uS.len hl
      obtain ⟨x, ex⟩ := h.mult ((s u).mp uS) hk hpiv fun d hd hlt => uz2 d hd (by omega)
      obtain ⟨pp, pe⟩ := h.colb hk hpiv
      have hx : x ≠ 0 := fun q => hu0 (by rw [ex, q, Int.zero_mul])
      have ple : (at0 piv c).natAbs ≤ (at0 u c).natAbs := by
        rw [ex, Int.natAbs_mul]
        exact Nat.le_mul_of_pos_left _ (by omega)
      have ele : ∀ e ∈ bs, (at0 e c).natAbs ≤ (at0 u c).natAbs := fun e he => by
        have := pe e he
        omega
      by_cases sg : 0 < at0 u c
      · exact ⟨u, fun _ => ⟨uS, sg, uz2, ub2, ele⟩⟩
      · have ta : ∀ j, j < n → at0 (tvec u (-1)) j = -1 * at0 u j := fun j hj => tvec_at lu hj
        refine ⟨tvec u (-1), fun _ => ⟨InS.sc _ hl uS, by rw [ta c hcn]; omega, fun d hd hne => by rw [ta d (h.lt d hd), uz2 d hd hne]; rfl, fun j => ?_, fun e he => by
          have := ele e he
          rw [ta c hcn]
          omega⟩⟩
        by_cases hj : j < n
        · have := ub2 j
          rw [ta j hj]
          omega
        · unfold at0
          rw [List.getD_eq_getElem?_getD, List.getElem?_eq_none (by rw [tvec_len]; omega)]
          exact Nat.zero_le _
    · exact ⟨[], fun z => absurd z hc⟩
  obtain ⟨us, hus⟩ := Classical.axiomOfChoice hex
  intro e he x hx
  obtain ⟨j, hj⟩ := List.mem_iff_getElem?.mp hx
  have le := h.ln e he
  have hjn : j < n := by
    have := (List.getElem?_eq_some_iff.mp hj).1
    omega
  have ex : at0 e j = x := by
    have := at0_lt (r := e) (i := j) (by omega)
    rw [hj] at this
    exact (Option.some.inj this).symm
  obtain ⟨M, w', hM, hw', hz, _, hbd⟩ := sum_bd (W := W) hl us cs e h.nodup (fun c hc => by
    obtain ⟨a1, a2, a3, a4, _⟩ := hus c hc
    exact ⟨h.lt c hc, a1, a2, a3, a4⟩) ((s e).mpr (InS.mem h.ln he)) fun c hc => (hus c hc).2.2.2.2 e he
  have w0 := h.zero ((s w').mp hw') hz
  have q := hbd j hjn
  rw [w0, zeroR_at, Int.sub_zero, Int.natAbs_mul, ex] at q
  exact Nat.le_of_mul_le_mul_left q (by omega)
theorem at0_out {r : Rw} {j : Nat} (h : r.length ≤ j) : at0 r j = 0 := by
  unfold at0
  rw [List.getD_eq_getElem?_getD, List.getElem?_eq_none h]
  rfl
/-- numbers of a basis, by the numbers of what spans it -/
theorem hnf_small {E N : Nat} (hE : 1 ≤ E) (hl : LnN n vs) (hb : BdN E vs) (hN : vs.length ≤ N) (h : Hnf n cs bs) (s : SameS n vs bs) : BdN (cs.length * (2 * N * E) ^ cs.length) bs := by
  obtain ⟨ws, w1, w2, w4, w3⟩ := sub_ind hl
  have lw : LnN n ws := fun w hw => hl w (w1 w hw)
  have bw : BdN E ws := fun w hw => hb w (w1 w hw)
  have rk : bs.length ≤ ws.length := h.rank lw fun b hm => span_mult lw hl w3 ((s b).mpr (InS.mem h.ln hm))
  have hlen := h.len
  refine hnf_bdW hl h s fun c hc => ?_
  have hsub : (cs.filter fun d => decide (d ≠ c)).length < cs.length := List.length_filter_lt_length_iff_exists.mpr ⟨c, hc, by simp⟩
  have hdl : ((cs.filter fun d => decide (d ≠ c)).map fun d => ws.map fun w => at0 w d).length = (cs.filter fun d => decide (d ≠ c)).length := List.length_map ..
  obtain ⟨xs, x1, x2, x3, x4⟩ := siegel (N := ws.length) (E := E) (cs := (cs.filter fun d => decide (d ≠ c)).map fun d => ws.map fun w => at0 w d) hE (by omega) fun col hcol y hy => by
    obtain ⟨d, hd, rfl⟩ := List.mem_map.mp hcol
    obtain ⟨w, hw, rfl⟩ := List.mem_map.mp hy
    exact bw w hw _ (at0_mem (by rw [lw w hw]; exact h.lt d (List.mem_filter.mp hd).1))
  have hin : InS n ws (combR n xs ws) := comb_in x1
  have hin2 : InS n vs (combR n xs ws) := InS.sub hl (fun w hw => InS.mem hl (w1 w hw)) hin
  have hz : ∀ d ∈ cs, d ≠ c → at0 (combR n xs ws) d = 0 := fun d hd hne => by
    rw [comb_at (h.lt d hd) lw]
    exact x4 _ (List.mem_map.mpr ⟨d, List.mem_filter.mpr ⟨hd, decide_eq_true hne⟩, rfl⟩)
  refine ⟨combR n xs ws, hin2, fun h0 => ?_, hz, fun j => ?_⟩
  · have z := h.zero ((s _).mp hin2) fun d hd => by
      by_cases e : d = c
      · rw [e]; exact h0
      · exact hz d hd e
    obtain ⟨x, hx, hx0⟩ := x2
    exact hx0 (w2 xs x1 z x hx)
  · by_cases hj : j < n
    · rw [comb_at hj lw]
      have q := dotI_bd (E := E) x3 (ys := ws.map fun w => at0 w j) fun y hy => by
        obtain ⟨w, hw, rfl⟩ := List.mem_map.mp hy
        exact bw w hw _ (at0_mem (by rw [lw w hw]; exact hj))
      refine Nat.le_trans q ?_
      rw [x1, hdl]
      have e1 : 2 * ws.length * E ≤ 2 * N * E := Nat.mul_le_mul_right _ (Nat.mul_le_mul_left _ (by omega))
      have e2 := Nat.pow_le_pow_left e1 (cs.filter fun d => decide (d ≠ c)).length
      by_cases zN : N = 0
      · have : ws.length = 0 := by omega
        rw [this, Nat.zero_mul]
        exact Nat.zero_le _
      have one : 1 ≤ 2 * N * E := Nat.mul_pos (Nat.mul_pos (by decide) (by omega)) hE
      have e3 : (2 * N * E) ^ ((cs.filter fun d => decide (d ≠ c)).length + 1) ≤ (2 * N * E) ^ cs.length := Nat.pow_le_pow_right one hsub
      refine Nat.le_trans ?_ e3
      rw [Nat.pow_succ]
      have e4 : ws.length * ((2 * ws.length * E) ^ (cs.filter fun d => decide (d ≠ c)).length * E) = (2 * ws.length * E) ^ (cs.filter fun d => decide (d ≠ c)).length * (ws.length * E) := by rw [Nat.mul_left_comm]
      rw [e4]
      refine Nat.mul_le_mul e2 (Nat.mul_le_mul_right _ (by omega))
    · rw [at0_out (by rw [comb_len lw]; omega)]
      exact Nat.zero_le _
end
end Aw
namespace Aw
section
variable {n : Nat} {rs vs rows found : List Rw} {v r : Rw}
theorem bs_none {i : Nat} (h : lefts i rows = []) (hl : ∀ r ∈ rows, leadO r < n) : basStep n i rows found = (rows, found) := by
  have z : zeros i rows = rows := List.filter_eq_self.mpr fun r hr => by
    have q := List.filter_eq_nil_iff.mp h r hr
    simpa using q
  have c : cleared i rows = rows := by rw [cleared_one (by rw [h]; exact Nat.zero_le _), h, z]; rfl
  have l : ledR n rows = rows := List.filter_eq_self.mpr fun r hr => decide_eq_true (hl r hr)
  unfold basStep
  rw [c, l]
  cases rows with
  | nil => rfl
  | cons g t =>
    have q := List.filter_eq_nil_iff.mp h g (List.mem_cons_self ..)
    have q : at0 g i = 0 := by simpa using q
    dsimp only
    rw [if_pos q]
theorem bs_less {i P F : Nat} (hS : SafeS n i P F rows found) (hne : lefts i rows ≠ []) : (basStep n i rows found).1.length + 1 ≤ rows.length := by
  obtain ⟨D, G, hL, hD, hG⟩ := hS.c
  obtain ⟨g, t, e, hg⟩ := clr_head hS.lt hD (meas i (lefts i rows)) _ _ hL hne
  have e : cleared i rows = g :: t := e
  have hld : leadO g < n := by
    have := hS.lt
    rcases Nat.lt_or_ge i (leadO g) with q | q
    · exact absurd (lead_zero q) hg
    · omega
  have e2 : ledR n (cleared i rows) = g :: ledR n t := by
    rw [e]
    unfold ledR
    rw [List.filter_cons_of_pos (by exact decide_eq_true hld)]
  have q := cleared_len i rows
  rw [e, List.length_cons] at q
  have q2 : (ledR n t).length ≤ t.length := List.length_filter_le _ _
  unfold basStep
  rw [e2]
  dsimp only
  rw [if_neg hg]
  dsimp only
  omega
theorem bs_led {i : Nat} : ∀ r ∈ (basStep n i rows found).1, leadO r < n := by
  have key : ∀ r ∈ ledR n (cleared i rows), leadO r < n := fun r hr => of_decide_eq_true (List.mem_filter.mp hr).2
  unfold basStep
  cases e : ledR n (cleared i rows) with
  | nil => intro r hr; cases hr
  | cons g t =>
    rw [e] at key
    dsimp only
    split
    · exact key
    · exact fun r hr => key r (List.mem_cons_of_mem _ hr)
/-- all columns can be cleared: R rows of e0 bits -/
theorem bas_cnt {R e0 : Nat} (hn : n ≤ 60) (hR : R ≤ 900) (cap : 2 * ((e0 + 2) * 3 ^ R) < capB) : ∀ (k e f : Nat) (rows found : List Rw), k ≤ n → rows.length ≤ R → (∀ r ∈ rows, leadO r < n) → Stg n R e f rows found → found.length ≤ n - k →
    e + 2 ≤ (e0 + 2) * 3 ^ (R - rows.length) → f ≤ 2 * ((e0 + 2) * 3 ^ (R - rows.length)) → BasOk n k rows found
  | 0, _, _, _, _, _, _, _, _, _, _, _ => trivial
  | k + 1, e, f, rows, found, hk, hr, hl, s, hf, he, hg => by
    have hi : n - (k + 1) < n := by omega
    have e1 : n - (k + 1) + 1 = n - k := by omega
    obtain ⟨g1, g2⟩ := bs_len (n := n) (n - (k + 1)) rows found
    have mono : ∀ {a b : Nat}, a ≤ b → (e0 + 2) * 3 ^ a ≤ (e0 + 2) * 3 ^ b := fun h => Nat.mul_le_mul_left _ (Nat.pow_le_pow_right (by decide) h)
    have top := mono (show R - rows.length ≤ R by omega)
    by_cases c0 : lefts (n - (k + 1)) rows = []
    · have q := s.one hi hf (by omega) (by omega) (by omega) (by rw [c0]; exact Nat.zero_le _) (by omega)
      refine ⟨⟨_, _, q.1⟩, ?_⟩
      rw [bs_none c0 hl]
      exact bas_cnt hn hR cap k e f rows found (by omega) hr hl s (by omega) he hg
    · have hpos : 1 ≤ rows.length := by
        cases rows with
        | nil => exact absurd rfl c0
        | cons _ _ => rw [List.length_cons]; omega
      have up : (e0 + 2) * 3 ^ (R - rows.length + 1) = 3 * ((e0 + 2) * 3 ^ (R - rows.length)) := by rw [Nat.pow_succ, ← Nat.mul_assoc, Nat.mul_comm]
      by_cases c : (lefts (n - (k + 1)) rows).length ≤ 1
      · have q := s.one hi hf (by omega) (by omega) (by omega) c (by omega)
        have ls := bs_less q.1 c0
        have stp := mono (show R - rows.length + 1 ≤ R - (basStep n (n - (k + 1)) rows found).1.length by omega)
        exact ⟨⟨_, _, q.1⟩, bas_cnt hn hR cap k _ _ _ _ (by omega) (by omega) bs_led q.2 (by omega) (by omega) (by omega)⟩
      · have tp2 := mono (show R - rows.length + 1 ≤ R by omega)
        have q := s.next (d := e) hi hf (by omega) (by omega) (by omega) (by omega) (fun h => by
          obtain ⟨_, hm, _⟩ := leastO_spec (i := n - (k + 1)) (ne_len h)
          have hm2 := (List.mem_filter.mp hm).1
          exact s.b1 _ hm2 _ (at0_mem (by rw [s.l1 _ hm2]; exact hi))) (by omega) (by omega)
        have ls := bs_less q.1 c0
        have stp := mono (show R - rows.length + 1 ≤ R - (basStep n (n - (k + 1)) rows found).1.length by omega)
        exact ⟨⟨_, _, q.1⟩, bas_cnt hn hR cap k _ _ _ _ (by omega) (by omega) bs_led q.2.1 (by omega) (by omega) (by omega)⟩
theorem bas_ok {R e0 : Nat} (hn : n ≤ 60) (hR : R ≤ 900) (cap : 2 * ((e0 + 2) * 3 ^ R) < capB) (hl : LnN n vs) (hb : BdN (2 ^ e0) vs) (hr : vs.length ≤ R) : BasOk n n (ledR n vs) [] := by
  have hll : (ledR n vs).length ≤ R := Nat.le_trans (List.length_filter_le _ _) hr
  refine bas_cnt hn hR cap n e0 0 _ [] (Nat.le_refl _) hll (fun r hr => of_decide_eq_true (List.mem_filter.mp hr).2)
    ⟨fun r hr => hl r (List.mem_filter.mp hr).1, fun r h => (by cases h), fun r hr => hb r (List.mem_filter.mp hr).1, fun r h => (by cases h), hll, Nat.zero_le _⟩ (Nat.zero_le _) (Nat.le_mul_of_pos_right _ (Nat.pow_pos (by decide))) (Nat.zero_le _)
theorem PutsOk.app : ∀ {us vs : List Rw} {R : Rf}, PutsOk n us R → PutsOk n vs (lputs n us R) → PutsOk n (us ++ vs) R
  | [], _, _, _, h => h
  | u :: us, vs, R, ⟨a, b⟩, h => ⟨a, PutsOk.app b h⟩
end
end Aw
namespace Aw
section
variable {n m : Nat} {rs ss vs ws bs A B : List Rw} {cs : List Nat} {r u v w b : Rw}
structure LinM (n m : Nat) (f : Rw → Rw) : Prop where
  len : ∀ r : Rw, r.length = n → (f r).length = m
  lin : ∀ (u b : Rw) (t : Int), u.length = n → b.length = n → f (vplus u b t) = vplus (f u) (f b) t
  nul : f (zeroR n) = zeroR m
theorem LinM.ln {f : Rw → Rw} (h : LinM n m f) (hl : LnN n rs) : LnN m (rs.map f) := fun r hr => by
  obtain ⟨s, hs, rfl⟩ := List.mem_map.mp hr
  exact h.len s (hl s hs)
theorem LinM.fwd {f : Rw → Rw} (h : LinM n m f) : ∀ {rs : List Rw} {v : Rw}, LnN n rs → InS n rs v → InS m (rs.map f) (f v)
  | [], v, _, e => by
    rw [show v = zeroR n from e]
    exact h.nul
  | b :: rs, v, hl, ⟨t, u, hu, e⟩ => ⟨t, f u, h.fwd hl.tail hu, by rw [e, h.lin u b t (hu.len hl.tail) hl.head]⟩
theorem LinM.back {f : Rw → Rw} (h : LinM n m f) : ∀ {rs : List Rw} {v : Rw}, LnN n rs → InS m (rs.map f) v → ∃ u, InS n rs u ∧ v = f u
  | [], v, _, e => ⟨zeroR n, rfl, by rw [h.nul]; exact e⟩
  | b :: rs, v, hl, ⟨t, w, hw, e⟩ => by
    obtain ⟨u, hu, rfl⟩ := h.back hl.tail hw
    exact ⟨vplus u b t, ⟨t, u, hu, rfl⟩, by rw [e, h.lin u b t (hu.len hl.tail) hl.head]⟩
theorem InS.left (hr : LnN n rs) (hs : LnN n ss) (h : InS n rs v) : InS n (rs ++ ss) v := InS.sub (hr.app hs) (fun b hb => InS.mem (hr.app hs) (List.mem_append_left _ hb)) h
theorem InS.right (hr : LnN n rs) (hs : LnN n ss) (h : InS n ss v) : InS n (rs ++ ss) v := InS.sub (hr.app hs) (fun b hb => InS.mem (hr.app hs) (List.mem_append_right _ hb)) h
theorem InS.split : ∀ {rs ss : List Rw} {v : Rw}, LnN n rs → LnN n ss → InS n (rs ++ ss) v → ∃ u w, InS n rs u ∧ InS n ss w ∧ v = vplus u w 1
  | [], ss, v, _, hs, h => ⟨zeroR n, v, rfl, h, row_ext (h.len hs) (vplus_len (zeroR_len n) (h.len hs)) fun j hj => by
      rw [vplus_at (zeroR_len n) (h.len hs) hj, zeroR_at]
      omega⟩
  | b :: rs, ss, v, hr, hs, ⟨t, v', hv', e⟩ => by
    obtain ⟨u, w, hu, hw, e2⟩ := InS.split hr.tail hs hv'
    have lu := hu.len hr.tail
    have lw := hw.len hs
    have lb := hr.head
    refine ⟨vplus u b t, w, ⟨t, u, hu, rfl⟩, hw, ?_⟩
    rw [e, e2]
    refine row_ext (vplus_len (vplus_len lu lw) lb) (vplus_len (vplus_len lu lb) lw) fun j hj => ?_
    rw [vplus_at (vplus_len lu lw) lb hj, vplus_at lu lw hj, vplus_at (vplus_len lu lb) lw hj, vplus_at lu lb hj]
    omega
theorem SameS.app (hr : LnN n rs) (hs : LnN n ss) (hv : LnN n vs) (hw : LnN n ws) (h : SameS n rs vs) (g : SameS n ss ws) : SameS n (rs ++ ss) (vs ++ ws) := by
  refine SameS.of (hr.app hs) (hv.app hw) (fun b hb => ?_) fun b hb => ?_
  · rcases List.mem_append.mp hb with hb | hb
    · exact InS.left hv hw ((h b).mp (InS.mem hr hb))
    · exact InS.right hv hw ((g b).mp (InS.mem hs hb))
  · rcases List.mem_append.mp hb with hb | hb
    · exact InS.left hr hs ((h b).mpr (InS.mem hv hb))
    · exact InS.right hr hs ((g b).mpr (InS.mem hw hb))
theorem app_at {a b : Rw} (ha : a.length = n) (j : Nat) : at0 (a ++ b) j = if j < n then at0 a j else at0 b (j - n) := by
  unfold at0
  rw [List.getD_eq_getElem?_getD, List.getD_eq_getElem?_getD, List.getD_eq_getElem?_getD]
  by_cases c : j < n
  · rw [if_pos c, List.getElem?_append_left (by omega)]
  · rw [if_neg c, List.getElem?_append_right (by omega), ha]
theorem drop_at (r : Rw) (j : Nat) : at0 (r.drop n) j = at0 r (n + j) := by
  unfold at0
  rw [List.getD_eq_getElem?_getD, List.getD_eq_getElem?_getD, List.getElem?_drop]
def dblR (r : Rw) : Rw := r ++ r
def padR (n : Nat) (r : Rw) : Rw := r ++ zeroR n
def lowR (n : Nat) (r : Rw) : Rw := zeroR n ++ r
theorem lin_dbl : LinM n (2 * n) dblR := by
  refine ⟨fun r h => by unfold dblR; rw [List.length_append]; omega, fun u b t hu hb => ?_, ?_⟩
  · refine row_ext (n := 2 * n) (by unfold dblR; rw [List.length_append, vplus_len hu hb]; omega) (vplus_len (by unfold dblR; rw [List.length_append]; omega) (by unfold dblR; rw [List.length_append]; omega)) fun j hj => ?_
    rw [vplus_at (n := 2 * n) (by unfold dblR; rw [List.length_append]; omega) (by unfold dblR; rw [List.length_append]; omega) hj]
    unfold dblR
    rw [app_at (vplus_len hu hb), app_at hu, app_at hb]
    by_cases c : j < n
    · rw [if_pos c, if_pos c, if_pos c, vplus_at hu hb c]
    · rw [if_neg c, if_neg c, if_neg c, vplus_at hu hb (by omega)]
  · refine row_ext (n := 2 * n) (by unfold dblR; rw [List.length_append, zeroR_len]; omega) (zeroR_len _) fun j hj => ?_
    unfold dblR
    rw [app_at (zeroR_len n), zeroR_at, zeroR_at, zeroR_at]
    split <;> rfl
theorem lin_pad : LinM n (2 * n) (padR n) := by
  refine ⟨fun r h => by unfold padR; rw [List.length_append, zeroR_len]; omega, fun u b t hu hb => ?_, ?_⟩
  · refine row_ext (n := 2 * n) (by unfold padR; rw [List.length_append, vplus_len hu hb, zeroR_len]; omega) (vplus_len (by unfold padR; rw [List.length_append, zeroR_len]; omega) (by unfold padR; rw [List.length_append, zeroR_len]; omega)) fun j hj => ?_
    rw [vplus_at (n := 2 * n) (by unfold padR; rw [List.length_append, zeroR_len]; omega) (by unfold padR; rw [List.length_append, zeroR_len]; omega) hj]
    unfold padR
    rw [app_at (vplus_len hu hb), app_at hu, app_at hb]
    by_cases c : j < n
    · rw [if_pos c, if_pos c, if_pos c, vplus_at hu hb c]
    · rw [if_neg c, if_neg c, if_neg c, zeroR_at]
      omega
  · refine row_ext (n := 2 * n) (by unfold padR; rw [List.length_append, zeroR_len]; omega) (zeroR_len _) fun j hj => ?_
    unfold padR
    rw [app_at (zeroR_len n), zeroR_at, zeroR_at, zeroR_at]
    split <;> rfl
theorem lin_low : LinM n (2 * n) (lowR n) := by
  refine ⟨fun r h => by unfold lowR; rw [List.length_append, zeroR_len]; omega, fun u b t hu hb => ?_, ?_⟩
  · refine row_ext (n := 2 * n) (by unfold lowR; rw [List.length_append, vplus_len hu hb, zeroR_len]; omega) (vplus_len (by unfold lowR; rw [List.length_append, zeroR_len]; omega) (by unfold lowR; rw [List.length_append, zeroR_len]; omega)) fun j hj => ?_
    rw [vplus_at (n := 2 * n) (by unfold lowR; rw [List.length_append, zeroR_len]; omega) (by unfold lowR; rw [List.length_append, zeroR_len]; omega) hj]
    unfold lowR
    rw [app_at (zeroR_len n), app_at (zeroR_len n), app_at (zeroR_len n)]
    by_cases c : j < n
    · rw [if_pos c, if_pos c, if_pos c, zeroR_at]
      omega
    · rw [if_neg c, if_neg c, if_neg c, vplus_at hu hb (by omega)]
  · refine row_ext (n := 2 * n) (by unfold lowR; rw [List.length_append, zeroR_len]; omega) (zeroR_len _) fun j hj => ?_
    unfold lowR
    rw [app_at (zeroR_len n), zeroR_at, zeroR_at, zeroR_at]
    split <;> rfl
theorem lin_drop : LinM (2 * n) n (List.drop n) := by
  refine ⟨fun r h => by rw [List.length_drop]; omega, fun u b t hu hb => ?_, ?_⟩
  · refine row_ext (n := n) (by rw [List.length_drop, vplus_len hu hb]; omega) (vplus_len (by rw [List.length_drop]; omega) (by rw [List.length_drop]; omega)) fun j hj => ?_
    rw [vplus_at (n := n) (by rw [List.length_drop]; omega) (by rw [List.length_drop]; omega) hj, drop_at, drop_at, drop_at, vplus_at hu hb (by omega)]
  · refine row_ext (n := n) (by rw [List.length_drop, zeroR_len]; omega) (zeroR_len _) fun j hj => ?_
    rw [drop_at, zeroR_at, zeroR_at]
/-- the rows of which the common vectors are taken -/
def mtR (n : Nat) (A B : List Rw) : List Rw := A.map dblR ++ B.map (padR n)
theorem mtR_ln (hA : LnN n A) (hB : LnN n B) : LnN (2 * n) (mtR n A B) := (lin_dbl.ln hA).app (lin_pad.ln hB)
theorem mtR_len : (mtR n A B).length = A.length + B.length := by
  unfold mtR
  rw [List.length_append, List.length_map, List.length_map]
theorem mtR_bd {E : Nat} (hA : BdN E A) (hB : BdN E B) : BdN E (mtR n A B) := fun r hr x hx => by
  rcases List.mem_append.mp hr with hr | hr
  · obtain ⟨a, ha, rfl⟩ := List.mem_map.mp hr
    rcases List.mem_append.mp hx with hx | hx
    · exact hA a ha x hx
    · exact hA a ha x hx
  · obtain ⟨b, hb, rfl⟩ := List.mem_map.mp hr
    rcases List.mem_append.mp hx with hx | hx
    · exact hB b hb x hx
    · rw [List.eq_of_mem_replicate hx]
      exact Nat.zero_le _
theorem mtR_same (hv : LnN n vs) (hw : LnN n ws) (hA : LnN n A) (hB : LnN n B) (h : SameS n vs A) (g : SameS n ws B) : SameS (2 * n) (mtR n vs ws) (mtR n A B) := by
  have key : ∀ {f : Rw → Rw} {xs ys : List Rw}, LinM n (2 * n) f → LnN n xs → LnN n ys → SameS n xs ys → SameS (2 * n) (xs.map f) (ys.map f) := fun {f xs ys} hf hx hy hs => by
    refine SameS.of (hf.ln hx) (hf.ln hy) (fun b hb => ?_) fun b hb => ?_
    · obtain ⟨a, ha, rfl⟩ := List.mem_map.mp hb
      exact hf.fwd hy ((hs a).mp (InS.mem hx ha))
    · obtain ⟨a, ha, rfl⟩ := List.mem_map.mp hb
      exact hf.fwd hx ((hs a).mpr (InS.mem hy ha))
  exact SameS.app (lin_dbl.ln hv) (lin_pad.ln hw) (lin_dbl.ln hA) (lin_pad.ln hB) (key lin_dbl hv hA h) (key lin_pad hw hB g)
/-- what both have -/
theorem mtR_iff (hA : LnN n A) (hB : LnN n B) (hv : v.length = n) : InS (2 * n) (mtR n A B) (lowR n v) ↔ InS n A v ∧ InS n B v := by
  have ll : (lowR n v).length = 2 * n := lin_low.len v hv
  constructor
  · intro h
    obtain ⟨u, w, hu, hw, e⟩ := InS.split (lin_dbl.ln hA) (lin_pad.ln hB) h
    obtain ⟨a, ha, rfl⟩ := lin_dbl.back hA hu
    obtain ⟨b, hb, rfl⟩ := lin_pad.back hB hw
    have la := ha.len hA
    have lb := hb.len hB
    have e1 : ∀ j, j < 2 * n → at0 (lowR n v) j = at0 (dblR a) j + 1 * at0 (padR n b) j := fun j hj => by rw [e, vplus_at (lin_dbl.len a la) (lin_pad.len b lb) hj]
    unfold lowR dblR padR at e1
    have va : v = a := row_ext hv la fun j hj => by
      have q := e1 (n + j) (by omega)
      rw [app_at (zeroR_len n), app_at la, app_at lb, if_neg (by omega), if_neg (by omega), if_neg (by omega), zeroR_at, show n + j - n = j by omega] at q
      omega
    refine ⟨by rw [va]; exact ha, InS.scale (-1) hB hb hv fun j hj => ?_⟩
    have q := e1 j (by omega)
    rw [app_at (zeroR_len n), app_at la, app_at lb, if_pos hj, if_pos hj, if_pos hj, zeroR_at] at q
    rw [va]
    omega
  · rintro ⟨h1, h2⟩
    have q := InS.comb (-1) (mtR_ln hA hB) (InS.left (lin_dbl.ln hA) (lin_pad.ln hB) (lin_dbl.fwd hA h1)) (InS.right (lin_dbl.ln hA) (lin_pad.ln hB) (lin_pad.fwd hB h2))
    have e : vplus (dblR v) (padR n v) (-1) = lowR n v := row_ext (vplus_len (lin_dbl.len v hv) (lin_pad.len v hv)) ll fun j hj => by
      rw [vplus_at (lin_dbl.len v hv) (lin_pad.len v hv) hj]
      unfold lowR dblR padR
      rw [app_at hv, app_at hv, app_at (zeroR_len n)]
      by_cases c : j < n
      · rw [if_pos c, if_pos c, if_pos c, zeroR_at]
        omega
      · rw [if_neg c, if_neg c, if_neg c, zeroR_at]
        omega
    rw [e] at q
    exact q
def lowB (n : Nat) (M : List Rw) : List Rw := M.filter fun r => decide (n ≤ leadO r)
def halvesR (n : Nat) (M : List Rw) : List Rw := (lowB n M).map (List.drop n)
theorem Hnf.low : ∀ {cs : List Nat} {bs : List Rw}, Hnf m cs bs → ∃ ds, Hnf m ds (lowB n bs) ∧ (∀ d ∈ ds, n ≤ d) ∧ ∀ w, InS m bs w → (∀ j, j < n → at0 w j = 0) → InS m (lowB n bs) w
  | _, _, .nil => ⟨[], .nil, (fun d h => by cases h), fun w h _ => h⟩
  | _, _, .cons c cs b bs hb hc z p r zz low t => by
    have el := leadO_of (b := b) (c := c) (by omega) z (by omega)
    by_cases q : n ≤ c
    · have e : lowB n (b :: bs) = b :: bs := List.filter_eq_self.mpr fun s hs => by
        refine decide_eq_true ?_
        rcases List.mem_cons.mp hs with rfl | hs
        · omega
        · rcases Nat.lt_or_ge (leadO s) n with x | x
          · have ls := t.ln s hs
            rcases Nat.lt_or_ge (leadO s) m with y | y
            · exact absurd (zz s hs _ (by omega)) (lead_ne (by omega))
            · omega
          · exact x
      rw [e]
      exact ⟨c :: cs, .cons c cs b bs hb hc z p r zz low t, (fun d hd => by
        rcases List.mem_cons.mp hd with rfl | hd
        · exact q
        · have := r d hd
          omega), fun w h _ => h⟩
    · have e : lowB n (b :: bs) = lowB n bs := List.filter_cons_of_neg (by rw [el]; simp; omega)
      obtain ⟨ds, h1, h2, h3⟩ := Hnf.low t
      rw [e]
      refine ⟨ds, h1, h2, fun w h hz => h3 w ?_ hz⟩
      exact ((Hnf.cons c cs b bs hb hc z p r zz low t).tail_iff).mpr ⟨h, hz c (by omega)⟩
theorem Hnf.drop : ∀ {ds : List Nat} {bs : List Rw}, Hnf (2 * n) ds bs → (∀ d ∈ ds, n ≤ d) → Hnf n (ds.map (· - n)) (bs.map (List.drop n))
  | _, _, .nil, _ => .nil
  | _, _, .cons c cs b bs hb hc z p r zz low t, h => by
    have hcn := h c (List.mem_cons_self ..)
    have e : n + (c - n) = c := by omega
    rw [List.map_cons, List.map_cons]
    refine .cons _ _ _ _ (by rw [List.length_drop]; omega) (by omega) (fun j hj => by rw [drop_at]; exact z _ (by omega)) (by rw [drop_at, e]; exact p) (fun d hd => ?_) (fun s hs j hj => ?_) (fun k d s e1 e2 => ?_) (Hnf.drop t fun d hd => h d (List.mem_cons_of_mem _ hd))
    · obtain ⟨d', hd', rfl⟩ := List.mem_map.mp hd
      have := r d' hd'
      omega
    · obtain ⟨s', hs', rfl⟩ := List.mem_map.mp hs
      rw [drop_at]
      exact zz s' hs' _ (by omega)
    · rw [List.getElem?_map] at e1 e2
      obtain ⟨d', hd', rfl⟩ := Option.map_eq_some_iff.mp e1
      obtain ⟨s', hs', rfl⟩ := Option.map_eq_some_iff.mp e2
      have hdn := h d' (List.mem_cons_of_mem _ (List.mem_of_getElem? hd'))
      rw [drop_at, drop_at, show n + (d' - n) = d' by omega]
      exact low k d' s' hd' hs'
theorem low_of (hr : r.length = 2 * n) (h : n ≤ leadO r) : r = lowR n (r.drop n) := row_ext hr (lin_low.len _ (by rw [List.length_drop]; omega)) fun j hj => by
  unfold lowR
  rw [app_at (zeroR_len n)]
  by_cases c : j < n
  · rw [if_pos c, zeroR_at, lead_zero (by omega)]
  · rw [if_neg c, drop_at, show n + (j - n) = j by omega]
/-- the form of what both have -/
theorem halves_hnf (h : Hnf (2 * n) cs bs) : ∃ ds, Hnf n ds (halvesR n bs) ∧ ∀ v : Rw, v.length = n → (InS n (halvesR n bs) v ↔ InS (2 * n) bs (lowR n v)) := by
  obtain ⟨ds, h1, h2, h3⟩ := h.low (n := n)
  have hd := h1.drop h2
  refine ⟨_, hd, fun v hv => ⟨fun hi => ?_, fun hi => ?_⟩⟩
  · have q := lin_low.fwd hd.ln hi
    refine InS.sub h.ln (fun b hb => ?_) q
    obtain ⟨x, hx, rfl⟩ := List.mem_map.mp hb
    obtain ⟨r, hr, rfl⟩ := List.mem_map.mp hx
    obtain ⟨r1, r2⟩ := List.mem_filter.mp hr
    rw [← low_of (h.ln r r1) (of_decide_eq_true r2)]
    exact InS.mem h.ln r1
  · have q := h3 _ hi fun j hj => by
      unfold lowR
      rw [app_at (zeroR_len n), if_pos hj, zeroR_at]
    have q2 := lin_drop.fwd h1.ln q
    have e : (lowR n v).drop n = v := by
      unfold lowR
      rw [List.drop_append_of_le_length (by rw [zeroR_len]; exact Nat.le_refl _), show (zeroR n).drop n = [] from List.drop_eq_nil_of_le (by rw [zeroR_len]; exact Nat.le_refl _)]
      rfl
    rw [e] at q2
    exact q2
theorem hnf_ok (h : Hnf n cs bs) (hn : n ≤ 30) (hb : BdN (2 ^ 2000) bs) (hl : bs.length ≤ 40) : BasOk n n (ledR n bs) [] := by
  have hE := h.ech
  have e : ledR n bs = bs := List.filter_eq_self.mpr fun r hm => decide_eq_true (hE.2 r hm).2.2
  rw [e]
  exact bas_tri hn n 2000 0 _ [] (Nat.le_refl _) (by decide) (by rw [Nat.sub_self]; exact hE) ⟨h.ln, fun r hr => (by cases hr), hb, fun r hr => (by cases hr), hl, Nat.zero_le _⟩ (Nat.zero_le _) (Nat.zero_le _)
theorem hnf_selfF (h : Hnf n cs bs) (ok : BasOk n n (ledR n bs) []) : basisF n bs = bs := by
  obtain ⟨ds, h2, s2⟩ := basis_hnf h.ln ok
  exact (h2.uniq h s2.symm).2
/-- nothing rests of what is in the lattice -/
theorem rest_null : ∀ {cs : List Nat} {bs : List Rw} {v : Rw}, Hnf n cs bs → InS n bs v → restF bs v = zeroR n
  | _, _, v, .nil, h => h
  | _, _, v, .cons c cs b bs hb hc z p r zz low t, h => by
    have hh := Hnf.cons c cs b bs hb hc z p r zz low t
    have el := leadO_of (b := b) (c := c) (by omega) z (by omega)
    obtain ⟨x, e, _, hu⟩ := hh.lead h
    rw [restF, el]
    refine rest_null t ?_
    unfold redR qOf
    rw [e, Int.mul_fdiv_cancel _ (by omega), Int.zero_sub]
    exact hu
theorem lead_null (h : v = zeroR n) : leadO v = n := by
  have q := (leadO_all (r := v)).mpr (by rw [h]; exact fun y hy => List.eq_of_mem_replicate hy)
  rw [q, h, zeroR_len]
end
end Aw
namespace Aw
section
variable {n : Nat} {vs ws : List Rw} {cs : List Nat} {bs : List Rw}
theorem pow_sum {W r L : Nat} (h : r ≤ L) (hW : 1 ≤ W) : r * W ^ r ≤ L * W ^ L := Nat.mul_le_mul h (Nat.pow_le_pow_right hW h)
theorem num5 : 5 * (14 * 2 ^ 73) ^ 5 ≤ 2 ^ 390 := by decide +kernel
theorem num10 : 10 * (28 * 2 ^ 73) ^ 10 ≤ 2 ^ 800 := by decide +kernel
theorem Few.bd3 (h : Few n vs) : BdN (2 ^ 390) (lbasis n vs) ∧ (lbasis n vs).length ≤ 5 := by
  obtain ⟨cs, hh, s⟩ := h.hnf
  have h5 := h.bd'.2
  have hl := hh.len
  have q := hnf_small (N := 7) (E := 2 ^ 73) Nat.one_le_two_pow h.ln h.bd h.len hh s
  refine ⟨fun r hr x hx => Nat.le_trans (q r hr x hx) ?_, h5⟩
  exact Nat.le_trans (pow_sum (L := 5) (by omega) (by decide)) num5
/-- two lattices whose vectors are few and small -/
structure Two (n : Nat) (vs ws : List Rw) : Prop where
  a : Few n vs
  b : Few n ws
  c : n ≤ 5 ∨ vs.length + ws.length ≤ 7
theorem Two.mln (h : Two n vs ws) : LnN (2 * n) (mtR n (lbasis n vs) (lbasis n ws)) := by
  obtain ⟨_, h1, _⟩ := h.a.hnf
  obtain ⟨_, h2, _⟩ := h.b.hnf
  exact mtR_ln h1.ln h2.ln
theorem Two.mlen (h : Two n vs ws) : (mtR n (lbasis n vs) (lbasis n ws)).length ≤ 10 := by
  have h1 := h.a.bd3.2
  have h2 := h.b.bd3.2
  rw [mtR_len]
  omega
theorem Two.mhnf (h : Two n vs ws) : ∃ cs, Hnf (2 * n) cs (lbasis (2 * n) (mtR n (lbasis n vs) (lbasis n ws))) ∧ SameS (2 * n) (mtR n (lbasis n vs) (lbasis n ws)) (lbasis (2 * n) (mtR n (lbasis n vs) (lbasis n ws))) := lbasis_hnf h.mln
theorem Two.mbd2 (h : Two n vs ws) : BdN (2 ^ 800) (lbasis (2 * n) (mtR n (lbasis n vs) (lbasis n ws))) ∧ (lbasis (2 * n) (mtR n (lbasis n vs) (lbasis n ws))).length ≤ 10 := by
  obtain ⟨cs, hh, s⟩ := h.mhnf
  obtain ⟨_, h1, s1⟩ := h.a.hnf
  obtain ⟨_, h2, s2⟩ := h.b.hnf
  have hl := hh.len
  have h10 : (lbasis (2 * n) (mtR n (lbasis n vs) (lbasis n ws))).length ≤ 10 := Nat.le_trans (hh.rank' h.mln fun b hb => (s b).mpr (InS.mem hh.ln hb)) h.mlen
  have q := hnf_small (N := 14) (E := 2 ^ 73) (vs := mtR n vs ws) Nat.one_le_two_pow (mtR_ln h.a.ln h.b.ln) (mtR_bd h.a.bd h.b.bd) (by
    have := h.a.len
    have := h.b.len
    rw [mtR_len]
    omega) hh ((mtR_same h.a.ln h.b.ln h1.ln h2.ln s1 s2).trans s)
  exact ⟨fun r hr x hx => Nat.le_trans (q r hr x hx) (Nat.le_trans (pow_sum (L := 10) (by omega) (by decide)) num10), h10⟩
/-- what both have: its basis -/
def meetB (n : Nat) (A B : List Rw) : List Rw := halvesR n (lbasis (2 * n) (mtR n A B))
theorem Two.hhnf (h : Two n vs ws) : ∃ ds, Hnf n ds (meetB n (lbasis n vs) (lbasis n ws)) ∧ ∀ v : Rw, v.length = n → (InS n (meetB n (lbasis n vs) (lbasis n ws)) v ↔ InS n (lbasis n vs) v ∧ InS n (lbasis n ws) v) := by
  obtain ⟨cs, hh, s⟩ := h.mhnf
  obtain ⟨_, h1, _⟩ := h.a.hnf
  obtain ⟨_, h2, _⟩ := h.b.hnf
  obtain ⟨ds, hd, hi⟩ := halves_hnf hh
  exact ⟨ds, hd, fun v hv => (hi v hv).trans ((s _).symm.trans (mtR_iff h1.ln h2.ln hv))⟩
theorem Two.hbd (h : Two n vs ws) : BdN (2 ^ 800) (meetB n (lbasis n vs) (lbasis n ws)) ∧ (meetB n (lbasis n vs) (lbasis n ws)).length ≤ 10 := by
  obtain ⟨q1, q2⟩ := h.mbd2
  refine ⟨fun r hr x hx => ?_, ?_⟩
  · obtain ⟨s, hs, rfl⟩ := List.mem_map.mp hr
    exact q1 s (List.mem_filter.mp hs).1 x (List.mem_of_mem_drop hx)
  · unfold meetB halvesR lowB
    rw [List.length_map]
    exact Nat.le_trans (List.length_filter_le _ _) q2
theorem Two.hok (h : Two n vs ws) : BasOk n n (ledR n (meetB n (lbasis n vs) (lbasis n ws))) [] := by
  obtain ⟨ds, hd, _⟩ := h.hhnf
  obtain ⟨q1, q2⟩ := h.hbd
  exact hnf_ok hd h.a.n30 (fun r hr x hx => Nat.le_trans (q1 r hr x hx) (Nat.pow_le_pow_right (by decide) (by decide))) (by omega)
/-- what both have is in both -/
theorem Two.has (h : Two n vs ws) {v : Rw} (hv : v ∈ meetB n (lbasis n vs) (lbasis n ws)) : (RsOk n (lbasis n vs) v ∧ leadO (restF (lbasis n vs) v) = n) ∧ RsOk n (lbasis n ws) v ∧ leadO (restF (lbasis n ws) v) = n := by
  obtain ⟨ds, hd, hi⟩ := h.hhnf
  obtain ⟨q1, q2⟩ := h.hbd
  obtain ⟨_, h1, _⟩ := h.a.hnf
  obtain ⟨_, h2, _⟩ := h.b.hnf
  have lv := hd.ln v hv
  have bv : ∀ y ∈ v, y.natAbs ≤ 2 ^ 1300 := fun y hy => Nat.le_trans (q1 v hv y hy) (Nat.pow_le_pow_right (by decide) (by decide))
  obtain ⟨i1, i2⟩ := (hi v lv).mp (InS.mem hd.ln hv)
  exact ⟨⟨h.a.restW lv bv, lead_null (rest_null h1 i1)⟩, h.b.restW lv bv, lead_null (rest_null h2 i2)⟩
theorem InS.units : ∀ (k : Nat), k ≤ n → ∃ us : List Rw, LnN n us ∧ us.length = k ∧ ∀ v : Rw, v.length = n → (∀ j, k ≤ j → at0 v j = 0) → InS n us v
  | 0, _ => ⟨[], fun r hr => (by cases hr), rfl, fun v hv hz => row_ext hv (zeroR_len n) fun j hj => by rw [hz j (Nat.zero_le _), zeroR_at]⟩
  | k + 1, hk => by
    obtain ⟨us, h1, h2, h3⟩ := InS.units k (by omega)
    obtain ⟨e, le, ez⟩ : ∃ e : Rw, e.length = n ∧ ∀ j, at0 e j = if j = k then 1 else 0 := by
      refine ⟨(List.range n).map fun j => if j = k then 1 else 0, by rw [List.length_map, List.length_range], fun j => ?_⟩
      unfold at0
      rw [List.getD_eq_getElem?_getD, List.getElem?_map]
      by_cases c : j < n
      · rw [List.getElem?_range c]
        rfl
      · rw [List.getElem?_eq_none (by rw [List.length_range]; omega), if_neg (by omega)]
        rfl
    refine ⟨e :: us, fun r hr => ?_, by rw [List.length_cons, h2], fun v hv hz => ?_⟩
    · rcases List.mem_cons.mp hr with rfl | hr
      · exact le
      · exact h1 r hr
    · refine ⟨at0 v k, vplus v e (-at0 v k), h3 _ (vplus_len hv le) fun j hj => ?_, ?_⟩
      · by_cases c : j < n
        · rw [vplus_at hv le c, ez]
          by_cases d : j = k
          · rw [if_pos d, d]
            omega
          · rw [if_neg d, hz j (by omega)]
            omega
        · exact at0_out (by rw [vplus_len hv le]; omega)
      · refine row_ext hv (vplus_len (vplus_len hv le) le) fun j hj => ?_
        rw [vplus_at (vplus_len hv le) le hj, vplus_at hv le hj, Int.neg_mul]
        omega
theorem Few.short (h5 : n ≤ 5) (hl : LnN n vs) (h7 : vs.length ≤ 7) (hb : BdN (2 ^ 73) vs) : Few n vs := by
  obtain ⟨us, h1, h2, h3⟩ := InS.units (n := n) n (Nat.le_refl _)
  exact ⟨by omega, hl, h7, hb, us, h1, by omega, fun s hs => h3 s (hs.len hl) fun j hj => at0_out (by rw [hs.len hl]; exact hj)⟩
end
end Aw
namespace Aw
open PySem PySem.Spec PyProof.Rows L2
theorem r_slDrop {K : PySem.W.Frag} {H : Hp} {Q : VK} {a : Addr} {xs : List V} {n : Nat} (h : SqT K H a xs) (q : ∀ (H' : Hp) (b : Addr), Kp [] H H' → SqT K H' b (xs.drop n) → Q (.ref b) H') : rSlA K (.ref a) (some (n : Nat)) none H Q := by
  have e : cutV xs (some (n : Nat)) none = xs.drop n := by
    unfold cutV
    rw [HT.sIx_none, HT.sIx_nat]
    by_cases h : n ≤ xs.length
    · rw [Nat.min_eq_left h, List.take_of_length_le (by rw [List.length_drop]; omega)]
    · rw [Nat.min_eq_right (by omega), List.drop_length, List.drop_eq_nil_of_le (by omega), List.take_nil]
  refine ⟨a, xs, rfl, h, fun c => ?_, fun c p hp => ?_⟩
  · refine q H a Kp.nil ?_
    have c1 := c.1
    rw [HT.sIx_nat] at c1
    have : n = 0 ∨ xs = [] := by
      rcases Nat.eq_zero_or_pos n with z | z
      · exact .inl z
      · exact .inr (List.length_eq_zero_iff.mp (by omega))
    rcases this with z | z
    · rw [z]
      exact h
    · rw [z, List.drop_nil, ← z]
      exact h
  · rw [e]
    exact q _ p (Kp.nil.new hp) (SqT.of upd_same)
theorem r_slTake {K : PySem.W.Frag} {H : Hp} {Q : VK} {a : Addr} {xs : List V} {n : Nat} (h : SqT K H a xs) (q : ∀ (H' : Hp) (b : Addr), Kp [] H H' → SqT K H' b (xs.take n) → Q (.ref b) H') : rSlA K (.ref a) none (some (n : Nat)) H Q := by
  have e : cutV xs none (some (n : Nat)) = xs.take n := by
    unfold cutV
    rw [HT.sIx_none, HT.sIx_nat, List.drop_zero, Nat.sub_zero]
    by_cases h : n ≤ xs.length
    · rw [Nat.min_eq_left h]
    · rw [Nat.min_eq_right (by omega), List.take_length, List.take_of_length_le (by omega)]
  refine ⟨a, xs, rfl, h, fun c => ?_, fun c p hp => ?_⟩
  · refine q H a Kp.nil ?_
    have c2 := c.2
    rw [HT.sIx_nat] at c2
    rw [List.take_of_length_le (by omega)]
    exact h
  · rw [e]
    exact q _ p (Kp.nil.new hp) (SqT.of upd_same)
theorem sl_tupAK {X : Cx} {K : PySem.W.Frag} (h : X.K = K) : SlR X (rSlA K) := by
  subst h
  exact sl_tupA
theorem op_catAK {X : Cx} {K : PySem.W.Frag} (h : X.K = K) : OpR X (binaryOp .Add) (rCatA K) := by
  subst h
  exact op_catA
def iSeqX (K : PySem.W.Frag) (tl : TE) : TI := fun σ H R => tl σ H fun x H1 => ∃ (a : Addr) (l : Bool) (xs : List V), x = .ref a ∧ SqX K l H1 a xs ∧ R (if l = true then Itl K a else Itt K a) H1
theorem pi_seqX {X : Cx} {tg l : Expr} {tl : TE} (hl : PE X l tl) : PI X tg l (iSeqX X.K tl) := by
  refine ⟨fun pins s σ H R I h => ?_⟩
  refine thn (hl.run pins s σ H _ I h) fun v s1 ⟨x, H1, I1, r1, q1⟩ => ?_
  obtain ⟨a, l, xs, e, hq, q⟩ := q1
  subst e
  cases r1
  cases l with
  | true =>
    obtain ⟨its, rv, p, hz⟩ := I1.list (show SqL X.K H1 a xs from hq)
    refine wpAny_pyIter_list p.isList ?_
    refine ⟨s1.heap.objs.size, [s1.heap.objs.size], _, _, H1, rfl, I1.kept (t' := s1.toks) fun b o e => Heap.get?_push_of_some _ e, turn_list a _, ⟨_, Heap.get?_push_size _ rfl, rfl, rfl⟩, fun b hb => ?_, q⟩
    have e : b = s1.heap.objs.size := by simpa using hb
    subst e
    exact I1.fpOk (Nat.le_refl _) (I1.hok.fresh (Nat.le_refl _))
  | false =>
    obtain ⟨its, rv, p, hz⟩ := I1.tuple (show SqT X.K H1 a xs from hq)
    refine wpAny_pyIter_tuple (show s1.heap.IsTuple a its.toArray from p) ?_
    refine ⟨s1.heap.objs.size, [s1.heap.objs.size], _, _, H1, rfl, I1.kept (t' := s1.toks) fun b o e => Heap.get?_push_of_some _ e, turn_tuple a _, ⟨_, Heap.get?_push_size _ rfl, rfl, rfl⟩, fun b hb => ?_, q⟩
    have e : b = s1.heap.objs.size := by simpa using hb
    subst e
    exact I1.fpOk (Nat.le_refl _) (I1.hok.fresh (Nat.le_refl _))
def tBinO (C : Addr) (sp : Sp) (E : L2.St → XK) (ta tb : TE) : TE := fun σ H Q => ta σ H fun x H1 => tb σ H1 fun y H2 => ∃ (p q dx dy : Addr) (fs gs : List (Str × V)), x = .ref p ∧ y = .ref q ∧ H2 p = some (.ins C dx fs) ∧ H2 q = some (.ins C dy gs) ∧ sp [.ref p, .ref q] H2 (fun v H' => ∃ r, v = .ref r ∧ Q (.ref r) H') (E σ)
section
variable {X : Cx} {CX : CXT} {k : Nat} {C : Addr} {ps : List Str} {sp : Sp} {E : L2.St → XK} {m : Str} {a b : Expr} {ta tb : TE} {pos : Pos}
theorem pe_binX {op : Operator} (hm : PySem.dunder op.info.2 = m) (F : HasM X.prog X.w X.K X.mg X.base CX C m ps k sp) (hc : PySem.W.selfFirst X.K C = true) (hr : RoomG k X.A) (hx : ∀ σ, PassesAt CX X σ (E σ)) (ha : PE X a ta) (hb : PE X b tb) : PE X (.BinOp a op b pos) (tBinO C sp E ta tb) := by
  refine ⟨fun pins s σ H Q I h => ?_⟩
  refine wpAny_BinOp (thn (ha.run pins s σ H _ I h) fun v s1 ⟨x, H1, I1, r1, q1⟩ => thn (hb.run pins s1 σ H1 _ I1 q1) fun u s2 ⟨y, H2, I2, r2, q2⟩ => ?_)
  obtain ⟨p, q, dx, dy, fs, gs, rfl, rfl, ea, eb, hsp⟩ := q2
  obtain rfl : v = Value.ref p := r1
  obtain rfl : u = Value.ref q := r2
  subst hm
  obtain ⟨f, fd, ⟨oc, od, osl, lk⟩, M, hbd, F⟩ := F
  obtain ⟨mA, O, _⟩ := ins_get I2.hok ea
  obtain ⟨mB, O2, _⟩ := ins_get I2.hok eb
  obtain ⟨m1, fr⟩ := I2.fr
  obtain ⟨od2, hod, _⟩ := lookIn_ns O.ns
  obtain ⟨od3, hod3, _⟩ := lookIn_ns O2.ns
  have J : PySem.W.InstAt s2.heap p _ C (some od2) := ⟨O.obj, rfl, rfl, hod⟩
  have J2 : PySem.W.InstAt s2.heap q _ C (some od3) := ⟨O2.obj, rfl, rfl, hod3⟩
  refine PySem.W.binop_K fr I2.ok.mod.kin J J2.type hc M.at_ M.fn (wpAny_mono (runGS (vs := [.ref p, .ref q]) (us := [.ref p, .ref q]) F hr hbd (hx σ) I2 (.cons rfl (.cons rfl .nil)) hsp) (fun w s' z => ?_) fun _ _ z => z)
  obtain ⟨v', H', J', rv, r, rfl, qq⟩ := z
  obtain rfl : w = Value.ref r := rv
  exact ⟨.ref r, H', J', rfl, qq⟩
theorem passAtQ {X : Cx} (σ : L2.St) : PassesAt (L2.CX X.prog X.w) X σ E0 := fun pins H s e s' I h => passQ pins σ H s e s' I h
end
/-- a list that stands in the heap, or a tuple -/
def SqY (K : PySem.W.Frag) (l : Bool) (H : Hp) (b : Addr) (ys : List V) : Prop := if l = true then H b = some (.lst ys) else SqT K H b ys
theorem SqY.kp {K : PySem.W.Frag} {l : Bool} {H H1 : Hp} {M : List Addr} {b : Addr} {ys : List V} (h : SqY K l H b ys) (k : Kp M H H1) (hM : H b ≠ none → b ∉ M) : SqY K l H1 b ys := by
  cases l with
  | true =>
    have h : H b = some (.lst ys) := h
    exact (k.get h (hM (by rw [h]; simp)) : H1 b = some (.lst ys))
  | false => exact sqT_kp k (show SqT K H b ys from h)
def LcX (K : PySem.W.Frag) (g : TG) (tt : TT) (te : TE) (vs : List Nat) (σ : L2.St) (Q : VK) : V → Hp → Prop := fun x H1 => ∃ (a : Addr) (l : Bool) (xs : List V), x = .ref a ∧ SqX K l H1 a xs ∧ LcTurns (if l = true then Itl K a else Itt K a) g tt te vs σ Q H1
theorem r_lcX {K : PySem.W.Frag} {g : TG} {tt : TT} {te : TE} {vs : List Nat} {σ : L2.St} {H : Hp} {Q : VK} {ti : TE} (h : ti σ H (LcX K g tt te vs σ Q)) : tLc (iSeqX K ti) g tt te vs σ H Q := h
theorem lc_rowsX {K : PySem.W.Frag} {tt : TT} {te : TE} {ws : List Nat} {σ : L2.St} {H : Hp} {Q : VK} {j : Nat} {a : Addr} {l : Bool} {us : List V} {rs : List Rw} (f : Rw → Bool) (h : SqY K l H a us) (hr : RwV K H us rs) (hz : rs.length ≤ 1000)
    (ht : ∀ (b : Addr) (r : Rw) (H' : Hp) (R : Bool → Hp → Prop), r ∈ rs → Kp [] H H' → SqT K H' b (r.map V.int) → (∀ H'', Kp [] H' H'' → R (f r) H'') → tt ((wipe σ ws).set j (some (.ref b))) H' R)
    (he : ∀ (v : V) (H' : Hp) (R : VK), R v H' → te ((wipe σ ws).set j (some v)) H' R)
    (hw : ∀ v : V, wipe ((wipe σ ws).set j (some v)) ws = wipe σ ws)
    (k : ∀ (q : Addr) (H' : Hp) (vs : List V), H q = none → Kp [] H H' → H' q = some (.lst vs) → RwV K H' vs (rs.filter f) → Q (.ref q) H') : LcX K (gName j) tt te ws σ Q (.ref a) H := by
  cases l with
  | true =>
    obtain ⟨a', e, ⟨xs, s⟩, t⟩ := lc_rows (tt := tt) (te := te) (ws := ws) (σ := σ) (Q := Q) (j := j) f (show H a = some (.lst us) from h) hr hz ht he hw k
    cases e
    exact ⟨a, true, xs, rfl, s, t⟩
  | false =>
    obtain ⟨a', e, ⟨xs, s⟩, t⟩ := lc_rowsT (tt := tt) (te := te) (ws := ws) (σ := σ) (Q := Q) (j := j) f (show SqT K H a us from h) hr hz ht he hw k
    cases e
    exact ⟨a, false, xs, rfl, s, t⟩
def spBasisX (K : PySem.W.Frag) : Sp := fun vs H Q _ => ∃ (a : Addr) (l : Bool) (us : List V) (rs : List Rw) (n : Nat), vs = [.int (n : Nat), .ref a] ∧ SqY K l H a us ∧ RwV K H us rs ∧ rs.length < 1000 ∧ n < 1000 ∧ LnN n rs ∧ BasOk n n (ledR n rs) [] ∧
  ∀ (H' : Hp) (b : Addr) (ws : List V), Kp [] H H' → SqT K H' b ws → RwV K H' ws (basisF n rs) → Q (.ref b) H'
theorem spBasis_X {K : PySem.W.Frag} : ∀ vs H Q E, spBasis K vs H Q E → spBasisX K vs H Q E := fun vs H Q E h => by
  obtain ⟨a, us, rs, n, e, ha, r⟩ := h
  exact ⟨a, false, us, rs, n, e, ha, r⟩
/-- the basis of what two lattices have in common -/
def spMeet (K : PySem.W.Frag) : Sp := fun vs H Q _ => ∃ (a b : Addr) (us ws : List V) (A B : List Rw) (n : Nat), vs = [.int (n : Nat), .ref a, .ref b] ∧ SqT K H a us ∧ RwV K H us A ∧ SqT K H b ws ∧ RwV K H ws B ∧ n ≤ 30 ∧ LnN n A ∧ LnN n B ∧ A.length + B.length ≤ 100 ∧
  BasOk (2 * n) (2 * n) (ledR (2 * n) (mtR n A B)) [] ∧ (basisF (2 * n) (mtR n A B)).length ≤ 100 ∧ LnN (2 * n) (basisF (2 * n) (mtR n A B)) ∧ BasOk n n (ledR n (halvesR n (basisF (2 * n) (mtR n A B)))) [] ∧
  ∀ (H' : Hp) (c : Addr) (xs : List V), Kp [] H H' → SqT K H' c xs → RwV K H' xs (basisF n (halvesR n (basisF (2 * n) (mtR n A B)))) → Q (.ref c) H'
def spAdd (K : PySem.W.Frag) (C CO : Addr) : Sp := fun vs H Q E => ∃ (a b : Addr) (n m : Nat) (A B : List Rw), vs = [.ref a, .ref b] ∧ LtV K C H a n A ∧ LtV K C H b m B ∧
  if m = n then (n ≤ 30 ∧ LnN n A ∧ LnN n B ∧ A.length + B.length ≤ 100 ∧ BasOk n n (ledR n (A ++ B)) [] ∧ ∀ (H' : Hp) (r : Addr), H r = none → Kp [] H H' → LtV K C H' r n (basisF n (A ++ B)) → Q (.ref r) H') else Lv H E CO "length" (.int (m : Nat))
def spAnd (K : PySem.W.Frag) (C CO : Addr) : Sp := fun vs H Q E => ∃ (a b : Addr) (n m : Nat) (A B : List Rw), vs = [.ref a, .ref b] ∧ LtV K C H a n A ∧ LtV K C H b m B ∧
  if m = n then (∃ M : List Rw, n ≤ 30 ∧ LnN n A ∧ LnN n B ∧ A.length + B.length ≤ 100 ∧ BasOk (2 * n) (2 * n) (ledR (2 * n) (mtR n A B)) [] ∧ (basisF (2 * n) (mtR n A B)).length ≤ 100 ∧ LnN (2 * n) (basisF (2 * n) (mtR n A B)) ∧
    BasOk n n (ledR n (halvesR n (basisF (2 * n) (mtR n A B)))) [] ∧ basisF n (halvesR n (basisF (2 * n) (mtR n A B))) = M ∧ LnN n M ∧ M.length < 1000 ∧ BasOk n n (ledR n M) [] ∧ basisF n M = M ∧
    ∀ (H' : Hp) (r : Addr), H r = none → Kp [] H H' → LtV K C H' r n M → Q (.ref r) H') else Lv H E CO "length" (.int (m : Nat))
theorem RwV.drop {K : PySem.W.Frag} {H : Hp} {r : Rw} {n : Nat} {p : Addr} (h : SqT K H p ((r.map V.int).drop n)) : VcV K H (.ref p) (r.drop n) := ⟨p, rfl, by rw [List.map_drop]; exact h⟩
end Aw
namespace Aw
section
variable {n m : Nat} {rs ss vs ws bs A B : List Rw} {cs : List Nat} {r u v w b : Rw} {t q : Int}
theorem dot_nil (ys : List Int) : dotI [] ys = 0 := by
  rw [dotI]
  exact fun _ _ _ _ h => by cases h
theorem dot_nil2 (xs : List Int) : dotI xs [] = 0 := by
  rw [dotI]
  exact fun _ _ _ _ _ h => by cases h
theorem dot_comm : ∀ (xs ys : List Int), dotI xs ys = dotI ys xs
  | [], ys => by rw [dot_nil, dot_nil2]
  | x :: xs, [] => by rw [dot_nil, dot_nil2]
  | x :: xs, y :: ys => by rw [dotI, dotI, dot_comm xs ys, Int.mul_comm]
theorem dot_plus : ∀ {u b z : List Int}, u.length = b.length → dotI (vplus u b t) z = dotI u z + t * dotI b z
  | [], [], z, _ => by
    show dotI [] z = _
    rw [dot_nil]
    omega
  | x :: u, y :: b, [], h => by rw [dot_nil2, dot_nil2, dot_nil2]; omega
  | x :: u, y :: b, c :: z, h => by
    show dotI ((x + t * y) :: vplus u b t) (c :: z) = _
    rw [dotI, dotI, dotI, dot_plus (by simpa using h), Int.add_mul, Int.mul_add, Int.mul_assoc]
    omega
theorem dot_zero : ∀ (n : Nat) (z : List Int), dotI (zeroR n) z = 0
  | 0, z => dot_nil z
  | n + 1, [] => dot_nil2 _
  | n + 1, c :: z => by
    show dotI (0 :: zeroR n) (c :: z) = 0
    rw [dotI, dot_zero n]
    omega
theorem dot_tvec : ∀ (u z : List Int), dotI (tvec u t) z = t * dotI u z
  | [], z => by
    show dotI [] z = _
    rw [dot_nil]
    omega
  | x :: u, [] => by rw [dot_nil2, dot_nil2]; omega
  | x :: u, c :: z => by
    show dotI ((t * x) :: tvec u t) (c :: z) = _
    rw [dotI, dotI, dot_tvec u z, Int.mul_add, Int.mul_assoc]
/-- products with what is spanned -/
theorem dot_in (P : Int → Prop) (h0 : P 0) (hp : ∀ a b t : Int, P a → P b → P (a + t * b)) (z : Rw) : ∀ {rs : List Rw} {v : Rw}, LnN n rs → (∀ b ∈ rs, P (dotI b z)) → InS n rs v → P (dotI v z)
  | [], v, _, _, h => by
    rw [show v = zeroR n from h, dot_zero]
    exact h0
  | b :: rs, v, hl, hb, ⟨t, u, hu, e⟩ => by
    rw [e, dot_plus (by rw [hu.len hl.tail, hl.head])]
    exact hp _ _ _ (dot_in P h0 hp z hl.tail (fun c hc => hb c (List.mem_cons_of_mem _ hc)) hu) (hb b (List.mem_cons_self ..))
theorem dot_in0 {z : Rw} (hl : LnN n rs) (hb : ∀ b ∈ rs, dotI b z = 0) (h : InS n rs v) : dotI v z = 0 := dot_in (· = 0) rfl (fun a b t ha hb => by rw [ha, hb]; omega) z hl hb h
theorem dot_inQ {z : Rw} (hl : LnN n rs) (hb : ∀ b ∈ rs, q ∣ dotI b z) (h : InS n rs v) : q ∣ dotI v z := dot_in (q ∣ ·) (Int.dvd_zero _) (fun a b t ha hb => Int.dvd_add ha (Int.dvd_mul_of_dvd_right hb)) z hl hb h
/-- the square of what is not 0 -/
theorem dot_self : ∀ (v : List Int), 0 ≤ dotI v v ∧ (dotI v v = 0 → ∀ x ∈ v, x = 0)
  | [] => ⟨by rw [dot_nil]; exact Int.le_refl _, fun _ x hx => by cases hx⟩
  | x :: v => by
    obtain ⟨h1, h2⟩ := dot_self v
    have hx : 0 ≤ x * x := by
      rcases Int.le_total 0 x with h | h
      · exact Int.mul_nonneg h h
      · exact Int.mul_nonneg_of_nonpos_of_nonpos h h
    rw [dotI]
    refine ⟨by omega, fun e y hy => ?_⟩
    rcases List.mem_cons.mp hy with rfl | hy
    · rcases Int.mul_eq_zero.mp (show y * y = 0 by omega) with h | h <;> exact h
    · exact h2 (by omega) y hy
theorem all_zero (hv : v.length = n) (h : ∀ x ∈ v, x = 0) : v = zeroR n := row_ext hv (zeroR_len n) fun j hj => by rw [zeroR_at, h _ (at0_mem (by omega))]
def unitR (n i : Nat) : Rw := (List.range n).map fun j => if j = i then 1 else 0
def unitsR (n : Nat) : List Rw := (List.range n).map (unitR n)
theorem unit_len (n i : Nat) : (unitR n i).length = n := by
  unfold unitR
  rw [List.length_map, List.length_range]
theorem unit_at {i j : Nat} (hj : j < n) : at0 (unitR n i) j = if j = i then 1 else 0 := by
  unfold at0 unitR
  rw [List.getD_eq_getElem?_getD, List.getElem?_map, List.getElem?_range hj]
  rfl
theorem units_ln (n : Nat) : LnN n (unitsR n) := fun r hr => by
  obtain ⟨i, _, rfl⟩ := List.mem_map.mp hr
  exact unit_len n i
theorem units_len (n : Nat) : (unitsR n).length = n := by
  unfold unitsR
  rw [List.length_map, List.length_range]
theorem units_in (hv : v.length = n) : InS n (unitsR n) v := by
  have key : ∀ (k : Nat) (v : Rw), k ≤ n → v.length = n → (∀ j, k ≤ j → at0 v j = 0) → InS n (unitsR n) v := by
    intro k
    induction k with
    | zero =>
      intro v _ hv hz
      rw [show v = zeroR n from row_ext hv (zeroR_len n) fun j hj => by rw [hz j (Nat.zero_le _), zeroR_at]]
      exact InS.zero (units_ln n)
    | succ k ih =>
      intro v hk hv hz
      have lu := unit_len n k
      have h1 := ih (vplus v (unitR n k) (-at0 v k)) (by omega) (vplus_len hv lu) fun j hj => by
        by_cases c : j < n
        · rw [vplus_at hv lu c, unit_at c]
          by_cases d : j = k
          · rw [if_pos d, d]
            omega
          · rw [if_neg d, hz j (by omega)]
            omega
        · exact at0_out (by rw [vplus_len hv lu]; omega)
      have h2 := InS.comb (at0 v k) (units_ln n) h1 (InS.mem (units_ln n) (List.mem_map.mpr ⟨k, List.mem_range.mpr (by omega), rfl⟩))
      have e : vplus (vplus v (unitR n k) (-at0 v k)) (unitR n k) (at0 v k) = v := row_ext (vplus_len (vplus_len hv lu) lu) hv fun j hj => by
        rw [vplus_at (vplus_len hv lu) lu hj, vplus_at hv lu hj, Int.neg_mul]
        omega
      rw [e] at h2
      exact h2
  exact key n v (Nat.le_refl _) hv fun j hj => at0_out (by omega)
theorem dot_unit {i : Nat} : ∀ {n : Nat} {z : Rw}, z.length = n → dotI (unitR n i) z = at0 z i := by
  have key : ∀ (z : Rw) (f : Nat → Int) (d : Nat), (∀ j, f j = if j + d = i then 1 else 0) → dotI ((List.range z.length).map f) z = if d ≤ i then at0 z (i - d) else 0 := by
    intro z
    induction z with
    | nil =>
      intro f d _
      show dotI [] [] = _
      rw [dot_nil, at0_out (Nat.zero_le _)]
      split <;> rfl
    | cons x z ih =>
      intro f d hf
      rw [List.length_cons, List.range_succ_eq_map, List.map_cons, List.map_map, dotI, ih (f ∘ Nat.succ) (d + 1) fun j => by
        show f (j + 1) = _
        rw [hf]
        congr 1
        rw [show j + 1 + d = j + (d + 1) by omega], hf 0]
      by_cases c : d = i
      · rw [if_pos (by omega), if_neg (by omega), if_pos (by omega), show i - d = 0 by omega]
        show 1 * x + 0 = x
        omega
      · rw [if_neg (by omega)]
        by_cases e : d ≤ i
        · rw [if_pos (by omega), if_pos e, show i - d = (i - (d + 1)) + 1 by omega]
          show 0 * x + at0 z (i - (d + 1)) = at0 z (i - (d + 1))
          omega
        · rw [if_neg (by omega), if_neg e]
          omega
  intro n z hz
  have q := key z (fun j => if j = i then 1 else 0) 0 fun j => rfl
  rw [if_pos (Nat.zero_le _), hz] at q
  exact q
def kfR (A : List Rw) (w : Rw) : Rw := A.map (dotI w) ++ w
theorem kf_len (hw : w.length = n) : (kfR A w).length = A.length + n := by
  unfold kfR
  rw [List.length_append, List.length_map, hw]
theorem map_plus {α : Type} (f g : α → Int) : ∀ (A : List α), A.map (fun a => f a + t * g a) = vplus (A.map f) (A.map g) t
  | [] => rfl
  | a :: A => by
    show _ :: A.map _ = _ :: vplus (A.map f) (A.map g) t
    rw [map_plus f g A]
theorem vplus_app : ∀ {a b c d : List Int}, a.length = c.length → vplus (a ++ b) (c ++ d) t = vplus a c t ++ vplus b d t
  | [], b, [], d, _ => rfl
  | x :: a, b, y :: c, d, h => by
    show _ :: vplus (a ++ b) (c ++ d) t = _ :: (vplus a c t ++ vplus b d t)
    rw [vplus_app (by simpa using h)]
theorem lin_kf (A : List Rw) : LinM n (A.length + n) (kfR A) := by
  refine ⟨fun r h => kf_len h, fun u b t hu hb => ?_, ?_⟩
  · unfold kfR
    rw [vplus_app (by rw [List.length_map, List.length_map]), ← map_plus]
    congr 1
    exact List.map_congr_left fun a _ => dot_plus (by rw [hu, hb])
  · unfold kfR
    have e : A.map (dotI (zeroR n)) = zeroR A.length := by
      refine all_zero (by rw [List.length_map]) fun x hx => ?_
      obtain ⟨a, _, rfl⟩ := List.mem_map.mp hx
      exact dot_zero n a
    rw [e]
    unfold zeroR
    exact List.replicate_append_replicate
/-- of these rows the quiet vectors are taken -/
def kerR (n : Nat) (A : List Rw) : List Rw := (List.range n).map fun i => A.map (fun a => at0 a i) ++ unitR n i
theorem ker_eq (hA : LnN n A) : kerR n A = (unitsR n).map (kfR A) := by
  unfold kerR unitsR
  rw [List.map_map]
  refine List.map_congr_left fun i _ => ?_
  show _ = A.map (dotI (unitR n i)) ++ unitR n i
  congr 1
  exact List.map_congr_left fun a ha => (dot_unit (hA a ha)).symm
theorem ker_ln (hA : LnN n A) : LnN (A.length + n) (kerR n A) := by
  rw [ker_eq hA]
  exact (lin_kf A).ln (units_ln n)
theorem ker_len : (kerR n A).length = n := by
  unfold kerR
  rw [List.length_map, List.length_range]
theorem ker_iff (hA : LnN n A) : InS (A.length + n) (kerR n A) u ↔ ∃ w, w.length = n ∧ u = kfR A w := by
  rw [ker_eq hA]
  constructor
  · intro h
    obtain ⟨w, hw, e⟩ := (lin_kf A).back (units_ln n) h
    exact ⟨w, hw.len (units_ln n), e⟩
  · rintro ⟨w, hw, rfl⟩
    exact (lin_kf A).fwd (units_ln n) (units_in hw)
theorem unit_bd {E i : Nat} (hE : 1 ≤ E) : ∀ x ∈ unitR n i, x.natAbs ≤ E := fun x hx => by
  obtain ⟨j, _, rfl⟩ := List.mem_map.mp hx
  split
  · exact hE
  · exact Nat.zero_le _
theorem ker_bd {E : Nat} (hE : 1 ≤ E) (hA : LnN n A) (hb : BdN E A) : BdN E (kerR n A) := fun r hr x hx => by
  obtain ⟨i, hi, rfl⟩ := List.mem_map.mp hr
  rcases List.mem_append.mp hx with hx | hx
  · obtain ⟨a, ha, rfl⟩ := List.mem_map.mp hx
    exact hb a ha _ (at0_mem (by rw [hA a ha]; exact List.mem_range.mp hi))
  · exact unit_bd hE x hx
/-- the lower rows of a basis, without the first columns -/
theorem Hnf.dropG : ∀ {ds : List Nat} {bs : List Rw}, Hnf (m + n) ds bs → (∀ d ∈ ds, m ≤ d) → Hnf n (ds.map (· - m)) (bs.map (List.drop m))
  | _, _, .nil, _ => .nil
  | _, _, .cons c cs b bs hb hc z p r zz low t, h => by
    have hcn := h c (List.mem_cons_self ..)
    have e : m + (c - m) = c := by omega
    rw [List.map_cons, List.map_cons]
    refine .cons _ _ _ _ (by rw [List.length_drop]; omega) (by omega) (fun j hj => by rw [drop_at]; exact z _ (by omega)) (by rw [drop_at, e]; exact p) (fun d hd => ?_) (fun s hs j hj => ?_) (fun k d s e1 e2 => ?_) (Hnf.dropG t fun d hd => h d (List.mem_cons_of_mem _ hd))
    · obtain ⟨d', hd', rfl⟩ := List.mem_map.mp hd
      have := r d' hd'
      omega
    · obtain ⟨s', hs', rfl⟩ := List.mem_map.mp hs
      rw [drop_at]
      exact zz s' hs' _ (by omega)
    · rw [List.getElem?_map] at e1 e2
      obtain ⟨d', hd', rfl⟩ := Option.map_eq_some_iff.mp e1
      obtain ⟨s', hs', rfl⟩ := Option.map_eq_some_iff.mp e2
      have hdn := h d' (List.mem_cons_of_mem _ (List.mem_of_getElem? hd'))
      rw [drop_at, drop_at, show m + (d' - m) = d' by omega]
      exact low k d' s' hd' hs'
theorem low_ofG (hr : r.length = m + n) (h : m ≤ leadO r) : r = zeroR m ++ r.drop m := row_ext (n := m + n) hr (by rw [List.length_append, zeroR_len, List.length_drop]; omega) fun j hj => by
  rw [app_at (zeroR_len m), zeroR_at]
  by_cases c : j < m
  · rw [if_pos c, lead_zero (by omega)]
  · rw [if_neg c, drop_at, show m + (j - m) = j by omega]
theorem lin_dropG : LinM (m + n) n (List.drop m) := by
  refine ⟨fun r h => by rw [List.length_drop]; omega, fun u b t hu hb => ?_, ?_⟩
  · refine row_ext (n := n) (by rw [List.length_drop, vplus_len hu hb]; omega) (vplus_len (by rw [List.length_drop]; omega) (by rw [List.length_drop]; omega)) fun j hj => ?_
    rw [vplus_at (n := n) (by rw [List.length_drop]; omega) (by rw [List.length_drop]; omega) hj, drop_at, drop_at, drop_at, vplus_at hu hb (by omega)]
  · refine row_ext (n := n) (by rw [List.length_drop, zeroR_len]; omega) (zeroR_len _) fun j hj => ?_
    rw [drop_at, zeroR_at, zeroR_at]
theorem lin_lowG : LinM n (m + n) (fun r => zeroR m ++ r) := by
  refine ⟨fun r h => by rw [List.length_append, zeroR_len]; omega, fun u b t hu hb => ?_, ?_⟩
  · rw [vplus_app rfl]
    congr 1
    exact (row_ext (n := m) (vplus_len (zeroR_len m) (zeroR_len m)) (zeroR_len m) fun j hj => by
      rw [vplus_at (zeroR_len m) (zeroR_len m) hj, zeroR_at]
      omega).symm
  · unfold zeroR
    exact List.replicate_append_replicate
theorem halves_hnfG (h : Hnf (m + n) cs bs) : ∃ ds, Hnf n ds (halvesR m bs) ∧ ∀ v : Rw, v.length = n → (InS n (halvesR m bs) v ↔ InS (m + n) bs (zeroR m ++ v)) := by
  obtain ⟨ds, h1, h2, h3⟩ := h.low (n := m)
  have hd := h1.dropG h2
  refine ⟨_, hd, fun v hv => ⟨fun hi => ?_, fun hi => ?_⟩⟩
  · have q := (lin_lowG (m := m)).fwd hd.ln hi
    refine InS.sub h.ln (fun b hb => ?_) q
    obtain ⟨x, hx, rfl⟩ := List.mem_map.mp hb
    obtain ⟨r, hr, rfl⟩ := List.mem_map.mp hx
    obtain ⟨r1, r2⟩ := List.mem_filter.mp hr
    show InS (m + n) bs (zeroR m ++ r.drop m)
    rw [← low_ofG (h.ln r r1) (of_decide_eq_true r2)]
    exact InS.mem h.ln r1
  · have q := h3 _ hi fun j hj => by rw [app_at (zeroR_len m), if_pos hj, zeroR_at]
    have q2 := lin_dropG.fwd h1.ln q
    have e : (zeroR m ++ v).drop m = v := by
      rw [List.drop_append_of_le_length (by rw [zeroR_len]; exact Nat.le_refl _), show (zeroR m).drop m = [] from List.drop_eq_nil_of_le (by rw [zeroR_len]; exact Nat.le_refl _)]
      rfl
    rw [e] at q2
    exact q2
theorem halves_len (m : Nat) (bs : List Rw) : (halvesR m bs).length ≤ bs.length := by
  unfold halvesR lowB
  rw [List.length_map]
  exact List.length_filter_le _ _
theorem halves_bd {E : Nat} (h : BdN E bs) : BdN E (halvesR m bs) := fun r hr x hx => by
  obtain ⟨s, hs, rfl⟩ := List.mem_map.mp hr
  exact h s (List.mem_filter.mp hs).1 x (List.mem_of_mem_drop hx)
theorem kf_low (hv : v.length = n) : (∃ w, w.length = n ∧ zeroR A.length ++ v = kfR A w) ↔ ∀ a ∈ A, dotI v a = 0 := by
  constructor
  · rintro ⟨w, hw, e⟩ a ha
    unfold kfR at e
    obtain ⟨e1, e2⟩ := List.append_inj e (by rw [zeroR_len, List.length_map])
    subst e2
    have : dotI v a ∈ zeroR A.length := by rw [e1]; exact List.mem_map.mpr ⟨a, ha, rfl⟩
    exact List.eq_of_mem_replicate this
  · intro h
    refine ⟨v, hv, ?_⟩
    unfold kfR
    congr 1
    refine (all_zero (by rw [List.length_map]) fun x hx => ?_).symm
    obtain ⟨a, ha, rfl⟩ := List.mem_map.mp hx
    exact h a ha
def qbR (n : Nat) (A : List Rw) (q : Int) : List Rw := kerR n A ++ (List.range A.length).map fun k => tvec (unitR A.length k) q ++ zeroR n
def gfR (n : Nat) (q : Int) (k : Rw) : Rw := tvec k q ++ zeroR n
theorem tvec_plus (hu : u.length = n) (hb : b.length = n) : tvec (vplus u b t) q = vplus (tvec u q) (tvec b q) t := row_ext (n := n) (by rw [tvec_len, vplus_len hu hb]) (vplus_len (by rw [tvec_len, hu]) (by rw [tvec_len, hb])) fun j hj => by
  rw [tvec_at (vplus_len hu hb) hj, vplus_at hu hb hj, vplus_at (by rw [tvec_len, hu]) (by rw [tvec_len, hb]) hj, tvec_at hu hj, tvec_at hb hj, Int.mul_add, Int.mul_left_comm]
theorem zero_plus : vplus (zeroR n) (zeroR n) t = zeroR n := row_ext (n := n) (vplus_len (zeroR_len n) (zeroR_len n)) (zeroR_len n) fun j hj => by
  rw [vplus_at (zeroR_len n) (zeroR_len n) hj, zeroR_at]
  omega
theorem zero_tvec : tvec (zeroR n) t = zeroR n := row_ext (n := n) (by rw [tvec_len, zeroR_len]) (zeroR_len n) fun j hj => by
  rw [tvec_at (zeroR_len n) hj, zeroR_at]
  omega
theorem lin_gf (q : Int) : LinM m (m + n) (gfR n q) := by
  refine ⟨fun r h => by unfold gfR; rw [List.length_append, tvec_len, zeroR_len, h], fun u b t hu hb => ?_, ?_⟩
  · unfold gfR
    rw [vplus_app (by rw [tvec_len, tvec_len, hu, hb]), tvec_plus hu hb, zero_plus]
  · unfold gfR
    rw [zero_tvec]
    unfold zeroR
    exact List.replicate_append_replicate
theorem qb_eq (q : Int) : qbR n A q = kerR n A ++ (unitsR A.length).map (gfR n q) := by
  unfold qbR unitsR
  rw [List.map_map]
  rfl
theorem qb_ln (hA : LnN n A) : LnN (A.length + n) (qbR n A q) := by
  rw [qb_eq]
  exact (ker_ln hA).app ((lin_gf q).ln (units_ln _))
theorem qb_len : (qbR n A q).length = n + A.length := by
  unfold qbR
  rw [List.length_append, ker_len, List.length_map, List.length_range]
theorem qb_bd {E : Nat} (hE : 1 ≤ E) (hA : LnN n A) (hb : BdN E A) (hq : q.natAbs ≤ E) : BdN E (qbR n A q) := fun r hr x hx => by
  rcases List.mem_append.mp hr with hr | hr
  · exact ker_bd hE hA hb r hr x hx
  · obtain ⟨k, _, rfl⟩ := List.mem_map.mp hr
    rcases List.mem_append.mp hx with hx | hx
    · obtain ⟨y, hy, rfl⟩ := List.mem_map.mp hx
      rw [Int.natAbs_mul]
      have := unit_bd (E := 1) (Nat.le_refl _) y hy
      exact Nat.le_trans (Nat.mul_le_mul_left _ this) (by omega)
    · rw [List.eq_of_mem_replicate hx]
      exact Nat.zero_le _
theorem qb_low (hA : LnN n A) (hv : v.length = n) : InS (A.length + n) (qbR n A q) (zeroR A.length ++ v) ↔ ∀ a ∈ A, q ∣ dotI v a := by
  rw [qb_eq]
  have l1 := ker_ln hA
  have l2 := (lin_gf (m := A.length) (n := n) q).ln (units_ln _)
  constructor
  · intro h a ha
    obtain ⟨u, w, hu, hw, e⟩ := InS.split l1 l2 h
    obtain ⟨x, hx, rfl⟩ := (ker_iff hA).mp hu
    obtain ⟨k, hk, rfl⟩ := (lin_gf q).back (units_ln _) hw
    have lk := hk.len (units_ln _)
    unfold kfR gfR at e
    rw [vplus_app (by rw [List.length_map, tvec_len, lk])] at e
    obtain ⟨e1, e2⟩ := List.append_inj e (by rw [zeroR_len, vplus_len (n := A.length) (List.length_map ..) (by rw [tvec_len, lk])])
    have e3 : v = x := by
      rw [e2]
      exact row_ext (n := n) (vplus_len hx (zeroR_len n)) hx fun j hj => by
        rw [vplus_at hx (zeroR_len n) hj, zeroR_at]
        omega
    subst e3
    obtain ⟨i, hi⟩ := List.mem_iff_getElem?.mp ha
    have hin : i < A.length := (List.getElem?_eq_some_iff.mp hi).1
    have z : at0 (zeroR A.length) i = at0 (vplus (A.map (dotI v)) (tvec k q) 1) i := congrArg (fun r => at0 r i) e1
    rw [zeroR_at, vplus_at (List.length_map ..) (by rw [tvec_len, lk]) hin, tvec_at lk hin] at z
    have em : at0 (A.map (dotI v)) i = dotI v a := by
      unfold at0
      rw [List.getD_eq_getElem?_getD, List.getElem?_map, hi]
      rfl
    rw [em] at z
    exact ⟨-at0 k i, by rw [Int.mul_neg]; omega⟩
  · intro h
    have hk : ((A.map fun a => -(dotI v a / q)) : Rw).length = A.length := List.length_map ..
    have q1 := InS.comb 1 (l1.app l2) (InS.left l1 l2 ((ker_iff hA).mpr ⟨v, hv, rfl⟩)) (InS.right l1 l2 ((lin_gf q).fwd (units_ln _) (units_in hk)))
    have e : vplus (kfR A v) (gfR n q (A.map fun a => -(dotI v a / q))) 1 = zeroR A.length ++ v := by
      unfold kfR gfR
      rw [vplus_app (by rw [List.length_map, tvec_len, hk])]
      congr 1
      · refine row_ext (n := A.length) (vplus_len (List.length_map ..) (by rw [tvec_len, hk])) (zeroR_len _) fun i hi => ?_
        rw [vplus_at (List.length_map ..) (by rw [tvec_len, hk]) hi, tvec_at hk hi, zeroR_at]
        have hg : A[i]? = some A[i] := List.getElem?_eq_getElem hi
        have e1 : at0 (A.map (dotI v)) i = dotI v A[i] := by
          unfold at0
          rw [List.getD_eq_getElem?_getD, List.getElem?_map, hg]
          rfl
        have e2 : at0 (A.map fun a => -(dotI v a / q)) i = -(dotI v A[i] / q) := by
          unfold at0
          rw [List.getD_eq_getElem?_getD, List.getElem?_map, hg]
          rfl
        rw [e1, e2]
        have := Int.mul_ediv_cancel' (h A[i] (List.getElem_mem hi))
        rw [Int.mul_neg]
        omega
      · exact row_ext (n := n) (vplus_len hv (zeroR_len n)) hv fun j hj => by
          rw [vplus_at hv (zeroR_len n) hj, zeroR_at]
          omega
    rw [e] at q1
    exact q1
end
end Aw
namespace Aw
/-- all of the one are in the other -/
def LeS (n : Nat) (A B : List Rw) : Prop := ∀ v, InS n A v → InS n B v
/-- a basis in its form: spanned by N vectors of g bits; its numbers have b bits -/
structure Lt (n N g b : Nat) (A : List Rw) : Prop where
  n4 : n ≤ 4
  N32 : N ≤ 32
  hnf : ∃ cs, Hnf n cs A
  gen : ∃ vs, LnN n vs ∧ vs.length ≤ N ∧ BdN (2 ^ g) vs ∧ SameS n vs A
  bd : BdN (2 ^ b) A
section
variable {n N M g h b d G : Nat} {A B C vs : List Rw} {cs : List Nat} {u v w : Rw} {q x : Int}
theorem BdN.up {b d : Nat} {A : List Rw} (h : BdN (2 ^ b) A) (hd : b ≤ d) : BdN (2 ^ d) A := fun r hr x hx => Nat.le_trans (h r hr x hx) (Nat.pow_le_pow_right (by decide) hd)
theorem BdN.app {E : Nat} {A B : List Rw} (h : BdN E A) (g : BdN E B) : BdN E (A ++ B) := fun r hr => by
  rcases List.mem_append.mp hr with hr | hr
  · exact h r hr
  · exact g r hr
theorem Lt.ln (a : Lt n N g b A) : LnN n A := by
  obtain ⟨_, h⟩ := a.hnf
  exact h.ln
theorem Hnf.le_n {cs : List Nat} {bs : List Rw} (h : Hnf n cs bs) : bs.length ≤ n := by
  have q := h.rank' (units_ln n) fun s hs => units_in (h.ln s hs)
  rw [units_len] at q
  exact q
theorem Lt.len (a : Lt n N g b A) : A.length ≤ n := by
  obtain ⟨_, h⟩ := a.hnf
  exact h.le_n
theorem Lt.mono (a : Lt n N g b A) (hN : N ≤ M) (hM : M ≤ 32) (hg : g ≤ h) (hb : b ≤ d) : Lt n M h d A := by
  obtain ⟨vs, h1, h2, h3, h4⟩ := a.gen
  exact ⟨a.n4, hM, a.hnf, ⟨vs, h1, by omega, h3.up hg, h4⟩, a.bd.up hb⟩
theorem Lt.self (hn : n ≤ 4) (h : Hnf n cs A) (hb : BdN (2 ^ b) A) : Lt n 4 b b A := ⟨hn, by decide, ⟨_, h⟩, ⟨A, h.ln, Nat.le_trans h.le_n hn, hb, fun _ => Iff.rfl⟩, hb⟩
theorem small_k {k K : Nat} (hk : k ≤ K) (hN : N ≤ 32) : k * (2 * N * 2 ^ g) ^ k ≤ K * 2 ^ ((g + 6) * K) := by
  have e1 : 2 * N * 2 ^ g ≤ 2 ^ (g + 6) := by
    rw [Nat.add_comm, Nat.pow_add]
    exact Nat.mul_le_mul_right _ (by omega)
  have e2 : (2 * N * 2 ^ g) ^ k ≤ (2 ^ (g + 6)) ^ k := Nat.pow_le_pow_left e1 k
  have e3 : (2 ^ (g + 6)) ^ k ≤ (2 ^ (g + 6)) ^ K := Nat.pow_le_pow_right Nat.one_le_two_pow hk
  rw [← Nat.pow_mul] at e3
  exact Nat.mul_le_mul hk (Nat.le_trans e2 (by rw [← Nat.pow_mul] at e3 ⊢; exact e3))
theorem small_4 {k : Nat} (hk : k ≤ 4) (hN : N ≤ 32) : k * (2 * N * 2 ^ g) ^ k ≤ 2 ^ (4 * g + 26) := by
  refine Nat.le_trans (small_k hk hN) ?_
  rw [show (4 : Nat) = 2 ^ 2 from rfl, ← Nat.pow_add]
  exact Nat.pow_le_pow_right (by decide) (by omega)
theorem small_8 {k : Nat} (hk : k ≤ 8) (hN : N ≤ 32) : k * (2 * N * 2 ^ g) ^ k ≤ 2 ^ (8 * g + 51) := by
  refine Nat.le_trans (small_k hk hN) ?_
  rw [show (8 : Nat) = 2 ^ 3 from rfl, ← Nat.pow_add]
  exact Nat.pow_le_pow_right (by decide) (by omega)
theorem Lt.of (hn : n ≤ 4) (hN : N ≤ 32) (hl : LnN n vs) (hv : vs.length ≤ N) (hb : BdN (2 ^ g) vs) (h : Hnf n cs A) (s : SameS n vs A) : Lt n N g (4 * g + 26) A := by
  refine ⟨hn, hN, ⟨_, h⟩, ⟨vs, hl, hv, hb, s⟩, fun r hr y hy => Nat.le_trans (hnf_small (N := N) (E := 2 ^ g) Nat.one_le_two_pow hl hb hv h s r hr y hy) (small_4 (by rw [h.len]; exact Nat.le_trans h.le_n hn) hN)⟩
theorem Lt.same (a : Lt n N g b A) (c : Lt n M h d B) (h1 : LeS n A B) (h2 : LeS n B A) : A = B := by
  obtain ⟨_, ha⟩ := a.hnf
  obtain ⟨_, hb⟩ := c.hnf
  exact (ha.uniq hb fun v => ⟨h1 v, h2 v⟩).2
theorem cap_8 : 2 * ((5000 + 2) * 3 ^ 8) < capB := capB_lt (by decide)
theorem cap_4 : 2 * ((300000 + 2) * 3 ^ 4) < capB := capB_lt (by decide)
theorem ok_8 (hn : n ≤ 60) (hl : LnN n vs) (hb : BdN (2 ^ b) vs) (hd : b ≤ 5000) (hv : vs.length ≤ 8) : BasOk n n (ledR n vs) [] := bas_ok hn (by decide) cap_8 hl (hb.up hd) hv
theorem ok_4 (hn : n ≤ 60) (hl : LnN n vs) (hb : BdN (2 ^ b) vs) (hd : b ≤ 300000) (hv : vs.length ≤ 4) : BasOk n n (ledR n vs) [] := bas_ok hn (by decide) cap_4 hl (hb.up hd) hv
theorem hnf_okE (h : Hnf n cs A) (hn : n ≤ 30) (hb : BdN (2 ^ b) A) (hd : b ≤ 1000000) : BasOk n n (ledR n A) [] := by
  have hE := h.ech
  have hl := h.le_n
  have e : ledR n A = A := List.filter_eq_self.mpr fun r hm => decide_eq_true (hE.2 r hm).2.2
  rw [e]
  exact bas_tri hn n 1000000 0 _ [] (Nat.le_refl _) (Nat.le_refl _) (by rw [Nat.sub_self]; exact hE) ⟨h.ln, fun r hr => (by cases hr), hb.up hd, fun r hr => (by cases hr), by omega, Nat.zero_le _⟩ (Nat.zero_le _) (Nat.zero_le _)
theorem Lt.ok (a : Lt n N g b A) (hb : b ≤ 1000000) : BasOk n n (ledR n A) [] ∧ basisF n A = A := by
  obtain ⟨_, h⟩ := a.hnf
  have q := hnf_okE h (by have := a.n4; omega) a.bd hb
  exact ⟨q, hnf_selfF h q⟩
theorem Lt.join (a : Lt n N g b A) (c : Lt n M h d B) (hb : b ≤ 5000) (hd : d ≤ 5000) (hN : N + M ≤ 32) (hg : g ≤ G) (hh : h ≤ G) : BasOk n n (ledR n (A ++ B)) [] ∧ Lt n (N + M) G (4 * G + 26) (basisF n (A ++ B)) ∧ SameS n (A ++ B) (basisF n (A ++ B)) := by
  have n4 := a.n4
  have l1 := a.len
  have l2 := c.len
  have ok := ok_8 (b := 5000) (by omega) (a.ln.app c.ln) ((a.bd.up hb).app (c.bd.up hd)) (Nat.le_refl _) (by rw [List.length_append]; omega)
  obtain ⟨cs, hh', s⟩ := basis_hnf (a.ln.app c.ln) ok
  obtain ⟨vs, v1, v2, v3, v4⟩ := a.gen
  obtain ⟨ws, w1, w2, w3, w4⟩ := c.gen
  refine ⟨ok, Lt.of n4 hN (v1.app w1) (by rw [List.length_append]; omega) ((v3.up hg).app (w3.up hh)) hh' ((SameS.app v1 w1 a.ln c.ln v4 w4).trans s), s⟩
theorem LeS.left (hA : LnN n A) (hB : LnN n B) (s : SameS n (A ++ B) C) : LeS n A C := fun v h => (s v).mp (InS.left hA hB h)
theorem LeS.right (hA : LnN n A) (hB : LnN n B) (s : SameS n (A ++ B) C) : LeS n B C := fun v h => (s v).mp (InS.right hA hB h)
theorem LeS.lub {X : List Rw} (hA : LnN n A) (hB : LnN n B) (hX : LnN n X) (s : SameS n (A ++ B) C) (h1 : LeS n A X) (h2 : LeS n B X) : LeS n C X := fun v h => by
  refine InS.sub hX (fun y hy => ?_) ((s v).mpr h)
  rcases List.mem_append.mp hy with hy | hy
  · exact h1 y (InS.mem hA hy)
  · exact h2 y (InS.mem hB hy)
theorem LeS.trans (h1 : LeS n A B) (h2 : LeS n B C) : LeS n A C := fun v h => h2 v (h1 v h)
theorem LeS.refl : LeS n A A := fun _ h => h
def meetF (n : Nat) (A B : List Rw) : List Rw := halvesR n (basisF (2 * n) (mtR n A B))
structure MeetOk (n : Nat) (A B : List Rw) : Prop where
  ok : BasOk (2 * n) (2 * n) (ledR (2 * n) (mtR n A B)) []
  len : (basisF (2 * n) (mtR n A B)).length ≤ 100
  ln : LnN (2 * n) (basisF (2 * n) (mtR n A B))
  ok2 : BasOk n n (ledR n (meetF n A B)) []
  same : basisF n (meetF n A B) = meetF n A B
theorem Lt.meet (a : Lt n N g b A) (c : Lt n M h d B) (hb : b ≤ 5000) (hd : d ≤ 5000) (hN : N + M ≤ 32) (hg : g ≤ G) (hh : h ≤ G) (hG : G ≤ 100000) : MeetOk n A B ∧ Lt n 4 (8 * G + 51) (8 * G + 51) (meetF n A B) ∧
    ∀ v : Rw, v.length = n → (InS n (meetF n A B) v ↔ InS n A v ∧ InS n B v) := by
  have n4 := a.n4
  have l1 := a.len
  have l2 := c.len
  have ll := mtR_ln a.ln c.ln
  have ok := ok_8 (b := 5000) (by omega) ll (mtR_bd (n := n) (a.bd.up hb) (c.bd.up hd)) (Nat.le_refl _) (by rw [mtR_len]; omega)
  obtain ⟨cs, h1, s1⟩ := basis_hnf ll ok
  obtain ⟨vs, v1, v2, v3, v4⟩ := a.gen
  obtain ⟨ws, w1, w2, w3, w4⟩ := c.gen
  have l8 := h1.le_n
  have bd : BdN (2 ^ (8 * G + 51)) (basisF (2 * n) (mtR n A B)) := fun r hr y hy => Nat.le_trans (hnf_small (N := N + M) (E := 2 ^ G) (vs := mtR n vs ws) Nat.one_le_two_pow (mtR_ln v1 w1) (mtR_bd (v3.up hg) (w3.up hh)) (by rw [mtR_len]; omega) h1 ((mtR_same v1 w1 a.ln c.ln v4 w4).trans s1) r hr y hy) (small_8 (by rw [h1.len]; omega) hN)
  obtain ⟨ds, hd', hi⟩ := halves_hnf h1
  have L := Lt.self n4 hd' (halves_bd bd)
  obtain ⟨o1, o2⟩ := L.ok (by omega)
  exact ⟨⟨ok, by omega, h1.ln, o1, o2⟩, L, fun v hv => (hi v hv).trans ((s1 _).symm.trans (mtR_iff a.ln c.ln hv))⟩
theorem Lt.times (a : Lt n N g b A) (hx : x.natAbs ≤ 2 ^ h) (hb : b + h ≤ 300000) : BasOk n n (ledR n (timesR x A)) [] ∧ Lt n N (g + h) (4 * (g + h) + 26) (basisF n (timesR x A)) ∧ SameS n (timesR x A) (basisF n (timesR x A)) := by
  have n4 := a.n4
  have l1 := a.len
  have up : ∀ {b : Nat} {A : List Rw}, BdN (2 ^ b) A → BdN (2 ^ (b + h)) (timesR x A) := fun {b A} hb r hr y hy => by
    refine Nat.le_trans (timesR_bd hb r hr y hy) (Nat.le_trans (Nat.mul_le_mul_right _ hx) ?_)
    rw [Nat.mul_comm, ← Nat.pow_add]
    exact Nat.le_refl _
  have ok := ok_4 (b := b + h) (by omega) (timesR_ln (x := x) a.ln) (up a.bd) hb (by rw [timesR_len]; omega)
  obtain ⟨cs, h1, s1⟩ := basis_hnf (timesR_ln (x := x) a.ln) ok
  obtain ⟨vs, v1, v2, v3, v4⟩ := a.gen
  exact ⟨ok, Lt.of n4 a.N32 (timesR_ln (x := x) v1) (by rw [timesR_len]; exact v2) (up v3) h1 ((SameS.times v1 a.ln v4).trans s1), s1⟩
theorem times_iff (hA : LnN n A) : InS n (timesR x A) w ↔ ∃ v, InS n A v ∧ w = tvec v x := by
  refine ⟨fun h => ?_, fun ⟨v, hv, e⟩ => by rw [e]; exact InS.times hA hv⟩
  have L : LinM n n fun r => tvec r x := ⟨fun r hr => by rw [tvec_len, hr], fun u b t hu hb => tvec_plus hu hb, zero_tvec⟩
  obtain ⟨v, hv, e⟩ := L.back (rs := A) hA h
  exact ⟨v, hv, e⟩
def quietF (n : Nat) (A : List Rw) : List Rw := halvesR A.length (basisF (A.length + n) (kerR n A))
def quietB (n : Nat) (A : List Rw) (q : Int) : List Rw := halvesR A.length (basisF (A.length + n) (qbR n A q))
/-- what the program's steps ask -/
structure KerOk (n m : Nat) (rows : List Rw) : Prop where
  ln : LnN (m + n) rows
  ok : BasOk (m + n) (m + n) (ledR (m + n) rows) []
  len : (basisF (m + n) rows).length ≤ 100
  ln2 : LnN (m + n) (basisF (m + n) rows)
  ok2 : BasOk n n (ledR n (halvesR m (basisF (m + n) rows))) []
  same : basisF n (halvesR m (basisF (m + n) rows)) = halvesR m (basisF (m + n) rows)
theorem Lt.quiet (a : Lt n N g b A) (hb : b ≤ 200000) : KerOk n A.length (kerR n A) ∧ Lt n 4 (4 * b + 26) (4 * b + 26) (quietF n A) ∧ ∀ v : Rw, v.length = n → (InS n (quietF n A) v ↔ ∀ a ∈ A, dotI v a = 0) := by
  have n4 := a.n4
  have l1 := a.len
  have ll := ker_ln a.ln
  have bk := ker_bd Nat.one_le_two_pow a.ln a.bd
  have ok := ok_4 (by omega) ll bk (by omega) (by rw [ker_len]; omega)
  obtain ⟨cs, h1, s1⟩ := basis_hnf ll ok
  have l4 : (basisF (A.length + n) (kerR n A)).length ≤ 4 := by
    have := h1.rank' ll fun s hs => (s1 s).mpr (InS.mem h1.ln hs)
    rw [ker_len] at this
    omega
  have bd : BdN (2 ^ (4 * b + 26)) (basisF (A.length + n) (kerR n A)) := fun r hr y hy => Nat.le_trans (hnf_small (N := 4) (E := 2 ^ b) Nat.one_le_two_pow ll bk (by rw [ker_len]; omega) h1 s1 r hr y hy) (small_4 (by rw [h1.len]; exact l4) (by decide))
  obtain ⟨ds, hd', hi⟩ := halves_hnfG h1
  have L := Lt.self n4 hd' (halves_bd bd)
  obtain ⟨o1, o2⟩ := L.ok (by omega)
  refine ⟨⟨ll, ok, by omega, h1.ln, o1, o2⟩, L, fun v hv => (hi v hv).trans ((s1 _).symm.trans ((ker_iff a.ln).trans (kf_low hv)))⟩
/-- a lattice that has all multiples of a number -/
theorem Hnf.full {q : Nat} (h : Hnf n cs A) (hq : 0 < q) (hm : ∀ i, i < n → InS n A (tvec (unitR n i) (q : Int))) : (∀ i, i < n → i ∈ cs) ∧ BdN q A := by
  have mem : ∀ i, i < n → i ∈ cs := fun i hi => Classical.byContradiction fun c => by
    have z := h.zero (hm i hi) fun d hd => by
      rw [tvec_at (unit_len n i) (h.lt d hd), unit_at (h.lt d hd), if_neg (fun e => c (by rw [← e]; exact hd))]
      omega
    have := congrArg (fun r => at0 r i) z
    have e : at0 (tvec (unitR n i) (q : Int)) i = at0 (zeroR n) i := this
    rw [tvec_at (unit_len n i) hi, unit_at hi, if_pos rfl, zeroR_at] at e
    omega
  refine ⟨mem, fun r hr y hy => ?_⟩
  obtain ⟨j, hj⟩ := List.mem_iff_getElem?.mp hy
  have lr := h.ln r hr
  have hjn : j < n := by
    have := (List.getElem?_eq_some_iff.mp hj).1
    omega
  have ey : at0 r j = y := by
    have := at0_lt (r := r) (i := j) (by omega)
    rw [hj] at this
    exact (Option.some.inj this).symm
  obtain ⟨k, hk⟩ := List.mem_iff_getElem?.mp (mem j hjn)
  obtain ⟨piv, hpiv⟩ : ∃ piv, A[k]? = some piv := ⟨A[k]'(by rw [← h.len]; exact (List.getElem?_eq_some_iff.mp hk).1), List.getElem?_eq_getElem _⟩
  obtain ⟨pp, pe⟩ := h.colb hk hpiv
  obtain ⟨p1, p2⟩ := pe r hr
  obtain ⟨x, ex⟩ := h.mult (hm j hjn) hk hpiv fun d hd hlt => by
    rw [tvec_at (unit_len n j) (h.lt d hd), unit_at (h.lt d hd), if_neg (by omega)]
    omega
  rw [tvec_at (unit_len n j) hjn, unit_at hjn, if_pos rfl, Int.mul_one] at ex
  have px : 0 < x := by
    rcases Int.lt_or_le 0 x with z | z
    · exact z
    · have := Int.mul_nonpos_of_nonpos_of_nonneg z (Int.le_of_lt pp)
      omega
  have := Int.mul_le_mul_of_nonneg_right (show 1 ≤ x by omega) (Int.le_of_lt pp)
  rw [← ey]
  omega
theorem Lt.quietB {q : Nat} (a : Lt n N g b A) (hb : b ≤ 5000) (hq : 0 < q) (hq2 : q ≤ 2 ^ 5) : KerOk n A.length (qbR n A (q : Int)) ∧ Lt n 4 5 5 (quietB n A (q : Int)) ∧ ∀ v : Rw, v.length = n → (InS n (Aw.quietB n A (q : Int)) v ↔ ∀ a ∈ A, (q : Int) ∣ dotI v a) := by
  have n4 := a.n4
  have l1 := a.len
  have ll := qb_ln (q := (q : Int)) a.ln
  have bk := qb_bd (q := (q : Int)) (E := 2 ^ 5000) Nat.one_le_two_pow a.ln (a.bd.up hb) (by
    rw [Int.natAbs_natCast]
    exact Nat.le_trans hq2 (Nat.pow_le_pow_right (by decide) (by decide)))
  have ok := ok_8 (by omega) ll bk (Nat.le_refl _) (by rw [qb_len]; omega)
  obtain ⟨cs, h1, s1⟩ := basis_hnf ll ok
  have l8 := h1.le_n
  obtain ⟨ds, hd', hi⟩ := halves_hnfG h1
  have iff : ∀ v : Rw, v.length = n → (InS n (Aw.quietB n A (q : Int)) v ↔ ∀ a ∈ A, (q : Int) ∣ dotI v a) := fun v hv => (hi v hv).trans ((s1 _).symm.trans (qb_low a.ln hv))
  have bd := (hd'.full hq fun i _ => (iff _ (by rw [tvec_len, unit_len])).mpr fun a _ => by
    rw [dot_tvec]
    exact Int.dvd_mul_right _ _).2
  have L := Lt.self (b := 5) n4 hd' fun r hr x hx => Nat.le_trans (bd r hr x hx) hq2
  obtain ⟨o1, o2⟩ := L.ok (by omega)
  exact ⟨⟨ll, ok, by omega, h1.ln, o1, o2⟩, L, iff⟩
theorem Lt.rest (a : Lt n N g b A) (hb : b ≤ 100000) (hv : v.length = n) (hvb : ∀ y ∈ v, y.natAbs ≤ 2 ^ d) (hd : d ≤ 100000) : RsOk n A v := by
  obtain ⟨cs, hh⟩ := a.hnf
  have n4 := a.n4
  have l1 := a.len
  have l4 : A.length ≤ 4 := Nat.le_trans l1 n4
  have l40 : A.length ≤ 40 := by omega
  have n40 : n ≤ 40 := by omega
  have bd := a.bd
  have pd : 2 ^ d ≤ 2 ^ 100000 := Nat.pow_le_pow_right (by decide) hd
  have pb : 2 ^ b < 2 ^ capB := Nat.lt_of_le_of_lt (Nat.pow_le_pow_right (by decide) hb) (pow_cap (by decide))
  have p5 : 2 ^ A.length ≤ 2 ^ 4 := Nat.pow_le_pow_right (by decide) l4
  have fin : ∀ V : Nat, 1 ≤ V → 2 ^ A.length * (0 + V + 1) ≤ 2 ^ 5 * V := fun V hV => by
    have := Nat.mul_le_mul p5 (show 0 + V + 1 ≤ V * 2 by omega)
    omega
  have w1 : 2 ^ 5 * 2 ^ 100000 < 2 ^ capB := by
    rw [← Nat.pow_add]
    exact pow_cap (by decide)
  have one : 1 ≤ 2 ^ 100000 := Nat.one_le_two_pow
  generalize 2 ^ 100000 = V at pd w1 one
  have at' : ∀ (k : Nat), (at0 v k).natAbs ≤ V := fun k => by
    by_cases c : k < v.length
    · exact Nat.le_trans (hvb _ (at0_mem c)) pd
    · rw [at0_out (by omega)]
      exact Nat.zero_le _
  obtain ⟨r1, r2⟩ := rest_bd (V := V) (B := 2 ^ b) Nat.one_le_two_pow v 0 hh bd hv (fun k d s _ _ => by rw [Nat.zero_mul]; exact at' d) (fun y hy => by
    rw [Nat.zero_mul]
    exact Nat.le_trans (hvb y hy) pd)
  have bc : ∀ r ∈ A, ∀ x ∈ r, x.natAbs < 2 ^ capB := fun r hr x hx => Nat.lt_of_le_of_lt (bd r hr x hx) pb
  refine ⟨hh.ln, n40, l40, hv, fun r hr => ?_, bc, fun y hy => Nat.lt_of_le_of_lt (Nat.le_trans (r1 y hy) (fin V one)) w1⟩
  obtain ⟨q1, q2⟩ := hh.leads r hr
  exact ⟨q1, fun z => by rw [z] at q2; exact absurd q2 (by decide), bc r hr _ (at0_mem (by rw [hh.ln r hr]; exact q1))⟩
end
end Aw
namespace Aw
def joinF (n : Nat) (A B : List Rw) : List Rw := basisF n (A ++ B)
def timesF (n : Nat) (x : Int) (A : List Rw) : List Rw := basisF n (timesR x A)
section
variable {n N M g h b d G : Nat} {A B C D E X Y W vs : List Rw} {cs : List Nat} {u v w : Rw} {q x : Int}
structure IsJ (n : Nat) (A B C : List Rw) : Prop where
  l1 : LeS n A C
  l2 : LeS n B C
  lub : ∀ X, LnN n X → LeS n A X → LeS n B X → LeS n C X
  el : ∀ v, InS n C v → ∃ u w, InS n A u ∧ InS n B w ∧ v = vplus u w 1
structure IsM (n : Nat) (A B C : List Rw) : Prop where
  l1 : LeS n C A
  l2 : LeS n C B
  glb : ∀ v, InS n A v → InS n B v → InS n C v
theorem Lt.isJ (a : Lt n N g b A) (c : Lt n M h d B) (hb : b ≤ 5000) (hd : d ≤ 5000) (hN : N + M ≤ 32) (hg : g ≤ G) (hh : h ≤ G) : Lt n (N + M) G (4 * G + 26) (joinF n A B) ∧ IsJ n A B (joinF n A B) := by
  obtain ⟨_, L, s⟩ := a.join c hb hd hN hg hh
  exact ⟨L, LeS.left a.ln c.ln s, LeS.right a.ln c.ln s, fun X hX h1 h2 => LeS.lub a.ln c.ln hX s h1 h2, fun v hv => InS.split a.ln c.ln ((s v).mpr hv)⟩
theorem Lt.isM (a : Lt n N g b A) (c : Lt n M h d B) (hb : b ≤ 5000) (hd : d ≤ 5000) (hN : N + M ≤ 32) (hg : g ≤ G) (hh : h ≤ G) (hG : G ≤ 100000) : Lt n 4 (8 * G + 51) (8 * G + 51) (meetF n A B) ∧ IsM n A B (meetF n A B) := by
  obtain ⟨_, L, s⟩ := a.meet c hb hd hN hg hh hG
  exact ⟨L, fun v hv => ((s v (hv.len L.ln)).mp hv).1, fun v hv => ((s v (hv.len L.ln)).mp hv).2, fun v h1 h2 => (s v (h1.len a.ln)).mpr ⟨h1, h2⟩⟩
theorem Lt.isT (a : Lt n N g b A) (hx : x.natAbs ≤ 2 ^ h) (hb : b + h ≤ 300000) : Lt n N (g + h) (4 * (g + h) + 26) (timesF n x A) ∧ ∀ w, InS n (timesF n x A) w ↔ ∃ v, InS n A v ∧ w = tvec v x := by
  obtain ⟨_, L, s⟩ := a.times hx hb
  exact ⟨L, fun w => (s w).symm.trans (times_iff a.ln)⟩
theorem Lt.isQ (a : Lt n N g b A) (hb : b ≤ 200000) : Lt n 4 (4 * b + 26) (4 * b + 26) (quietF n A) ∧ ∀ v : Rw, v.length = n → (InS n (quietF n A) v ↔ ∀ z, InS n A z → dotI z v = 0) := by
  obtain ⟨_, L, s⟩ := a.quiet hb
  refine ⟨L, fun v hv => (s v hv).trans ⟨fun h z hz => dot_in0 a.ln (fun y hy => by rw [dot_comm]; exact h y hy) hz, fun h y hy => by rw [dot_comm]; exact h y (InS.mem a.ln hy)⟩⟩
theorem Lt.isB {q : Nat} (a : Lt n N g b A) (hb : b ≤ 5000) (hq : 0 < q) (hq2 : q ≤ 2 ^ 5) : Lt n 4 5 5 (Aw.quietB n A (q : Int)) ∧ ∀ v : Rw, v.length = n → (InS n (Aw.quietB n A (q : Int)) v ↔ ∀ z, InS n A z → (q : Int) ∣ dotI z v) := by
  obtain ⟨_, L, s⟩ := a.quietB hb hq hq2
  refine ⟨L, fun v hv => (s v hv).trans ⟨fun h z hz => dot_inQ a.ln (fun y hy => by rw [dot_comm]; exact h y hy) hz, fun h y hy => by rw [dot_comm]; exact h y (InS.mem a.ln hy)⟩⟩
theorem LeS.len (h : LnN n A) : LeS n A (unitsR n) := fun v hv => units_in (hv.len h)
theorem rest_back : ∀ {bs : List Rw} {v : Rw}, LnN n bs → v.length = n → restF bs v = zeroR n → InS n bs v
  | [], v, _, _, h => h
  | b :: bs, v, hl, hv, h => by
    rw [restF] at h
    have l1 : (redR (leadO b) v b).length = n := redR_len hv hl.head
    exact ⟨qOf (leadO b) v b, redR (leadO b) v b, rest_back hl.tail l1 h, red_back hv hl.head⟩
theorem within_iff (hc : Hnf n cs B) (hA : LnN n A) : (A.all fun r => decide (leadO (restF B r) = n)) = true ↔ LeS n A B := by
  rw [List.all_eq_true]
  constructor
  · intro h v hv
    refine InS.sub hc.ln (fun r hr => ?_) hv
    have e := of_decide_eq_true (h r hr)
    have lr := restF_len B r hc.ln (hA r hr)
    exact rest_back hc.ln (hA r hr) (lead_out lr (by omega))
  · intro h r hr
    exact decide_eq_true (lead_null (rest_null hc (h r (InS.mem hA hr))))
theorem within_all (b : Lt n M h d B) (a : Lt n N g G A) (hs : LeS n A B) : (A.all fun r => decide (leadO (restF B r) = n)) = true := by
  obtain ⟨_, hc⟩ := b.hnf
  exact (within_iff hc a.ln).mpr hs
abbrev L0 (n : Nat) (A : List Rw) : Prop := Lt n 7 73 318 A
theorem Few.l0 (hn : n ≤ 4) (h : Few n vs) : L0 n (lbasis n vs) := by
  obtain ⟨cs, hh, s⟩ := h.hnf
  exact Lt.of hn (by decide) h.ln h.len h.bd hh s
section
variable (a : L0 n A) (c : L0 n B) (e : L0 n C)
include a c
theorem l_j : Lt n 14 73 318 (joinF n A B) ∧ IsJ n A B (joinF n A B) := Lt.isJ (G := 73) a c (by decide) (by decide) (by decide) (by decide) (by decide)
theorem l_m : Lt n 4 635 635 (meetF n A B) ∧ IsM n A B (meetF n A B) := Lt.isM (G := 73) a c (by decide) (by decide) (by decide) (by decide) (by decide) (by decide)
theorem l_s1 : joinF n A B = joinF n B A := by
  obtain ⟨L, j⟩ := l_j a c
  obtain ⟨R, k⟩ := l_j c a
  exact L.same R (j.lub _ R.ln k.l2 k.l1) (k.lub _ L.ln j.l2 j.l1)
theorem l_m1 : meetF n A B = meetF n B A := by
  obtain ⟨L, j⟩ := l_m a c
  obtain ⟨R, k⟩ := l_m c a
  exact L.same R (fun v h => k.glb v (j.l2 v h) (j.l1 v h)) (fun v h => j.glb v (k.l2 v h) (k.l1 v h))
theorem l_aj : Lt n 4 635 635 (meetF n A (joinF n A B)) ∧ IsM n A (joinF n A B) (meetF n A (joinF n A B)) := by
  obtain ⟨L, j⟩ := l_j a c
  exact Lt.isM (G := 73) a L (by decide) (by decide) (by decide) (by decide) (by decide) (by decide)
theorem l_t1 : meetF n A (joinF n A B) = A := by
  obtain ⟨L, j⟩ := l_j a c
  obtain ⟨R, k⟩ := l_aj a c
  exact R.same a k.l1 fun v h => k.glb v h (j.l1 v h)
theorem l_am : Lt n 11 635 2566 (joinF n A (meetF n A B)) ∧ IsJ n A (meetF n A B) (joinF n A (meetF n A B)) := by
  obtain ⟨L, j⟩ := l_m a c
  exact Lt.isJ (G := 635) a L (by decide) (by decide) (by decide) (by decide) (by decide)
theorem l_t2 : joinF n A (meetF n A B) = A := by
  obtain ⟨L, j⟩ := l_m a c
  obtain ⟨R, k⟩ := l_am a c
  exact R.same a (k.lub _ a.ln LeS.refl j.l1) k.l1
theorem l_i4 : LeS n A B ↔ joinF n A B = B := by
  obtain ⟨L, j⟩ := l_j a c
  refine ⟨fun h => L.same c (j.lub _ c.ln h LeS.refl) j.l2, fun h => ?_⟩
  have q := j.l1
  rw [h] at q
  exact q
theorem l_i5 : LeS n A B ↔ meetF n A B = A := by
  obtain ⟨L, j⟩ := l_m a c
  refine ⟨fun h => L.same a j.l1 fun v hv => j.glb v hv (h v hv), fun h => ?_⟩
  have q := j.l2
  rw [h] at q
  exact q
omit c in
theorem l_s3 : joinF n A A = A := (l_i4 a a).mp LeS.refl
omit c in
theorem l_m3 : meetF n A A = A := (l_i5 a a).mp LeS.refl
include e
theorem l_jr : Lt n 21 73 318 (joinF n A (joinF n B C)) ∧ IsJ n A (joinF n B C) (joinF n A (joinF n B C)) := Lt.isJ (G := 73) a (l_j c e).1 (by decide) (by decide) (by decide) (by decide) (by decide)
theorem l_jl : Lt n 21 73 318 (joinF n (joinF n A B) C) ∧ IsJ n (joinF n A B) C (joinF n (joinF n A B) C) := Lt.isJ (G := 73) (l_j a c).1 e (by decide) (by decide) (by decide) (by decide) (by decide)
theorem l_mr : Lt n 4 5131 5131 (meetF n A (meetF n B C)) ∧ IsM n A (meetF n B C) (meetF n A (meetF n B C)) := Lt.isM (G := 635) a (l_m c e).1 (by decide) (by decide) (by decide) (by decide) (by decide) (by decide)
theorem l_ml : Lt n 4 5131 5131 (meetF n (meetF n A B) C) ∧ IsM n (meetF n A B) C (meetF n (meetF n A B) C) := Lt.isM (G := 635) (l_m a c).1 e (by decide) (by decide) (by decide) (by decide) (by decide) (by decide)
theorem l_s2 : joinF n A (joinF n B C) = joinF n (joinF n A B) C := by
  obtain ⟨R1, k1⟩ := l_j c e
  obtain ⟨L1, j1⟩ := l_j a c
  obtain ⟨R, k⟩ := l_jr a c e
  obtain ⟨L, j⟩ := l_jl a c e
  exact R.same L (k.lub _ L.ln (j1.l1.trans j.l1) (k1.lub _ L.ln (j1.l2.trans j.l1) j.l2)) (j.lub _ R.ln (j1.lub _ R.ln k.l1 (k1.l1.trans k.l2)) (k1.l2.trans k.l2))
theorem l_m2 : meetF n A (meetF n B C) = meetF n (meetF n A B) C := by
  obtain ⟨R1, k1⟩ := l_m c e
  obtain ⟨L1, j1⟩ := l_m a c
  obtain ⟨R, k⟩ := l_mr a c e
  obtain ⟨L, j⟩ := l_ml a c e
  exact R.same L (fun v h => j.glb v (j1.glb v (k.l1 v h) (k1.l1 v (k.l2 v h))) (k1.l2 v (k.l2 v h))) (fun v h => k.glb v (j1.l1 v (j.l1 v h)) (k1.glb v (j1.l2 v (j.l1 v h)) (j.l2 v h)))
theorem l_mod1 : Lt n 4 635 635 (meetF n B (joinF n A C)) ∧ IsM n B (joinF n A C) (meetF n B (joinF n A C)) := Lt.isM (G := 73) c (l_j a e).1 (by decide) (by decide) (by decide) (by decide) (by decide) (by decide)
theorem l_mod2 : Lt n 11 635 2566 (joinF n A (meetF n B (joinF n A C))) ∧ IsJ n A (meetF n B (joinF n A C)) (joinF n A (meetF n B (joinF n A C))) := Lt.isJ (G := 635) a (l_mod1 a c e).1 (by decide) (by decide) (by decide) (by decide) (by decide)
theorem l_mod3 : Lt n 4 635 635 (meetF n (joinF n A B) (joinF n A C)) ∧ IsM n (joinF n A B) (joinF n A C) (meetF n (joinF n A B) (joinF n A C)) := Lt.isM (G := 73) (l_j a c).1 (l_j a e).1 (by decide) (by decide) (by decide) (by decide) (by decide) (by decide)
theorem l_mod : joinF n A (meetF n B (joinF n A C)) = meetF n (joinF n A B) (joinF n A C) := by
  obtain ⟨L1, j1⟩ := l_j a c
  obtain ⟨R1, k1⟩ := l_j a e
  obtain ⟨P, p⟩ := l_mod1 a c e
  obtain ⟨L, j⟩ := l_mod2 a c e
  obtain ⟨R, k⟩ := l_mod3 a c e
  refine L.same R (j.lub _ R.ln (fun v h => k.glb v (j1.l1 v h) (k1.l1 v h)) (fun v h => k.glb v (j1.l2 v (p.l1 v h)) (p.l2 v h))) fun v h => ?_
  obtain ⟨u, w, hu, hw, ev⟩ := j1.el v (k.l1 v h)
  have lu := hu.len a.ln
  have lw := hw.len c.ln
  have hw2 : InS n (joinF n A C) w := by
    have q1 := InS.comb (-1) R1.ln (k.l2 v h) (k1.l1 u hu)
    have e1 : vplus v u (-1) = w := row_ext (vplus_len (by rw [ev]; exact vplus_len lu lw) lu) lw fun i hi => by
      rw [vplus_at (by rw [ev]; exact vplus_len lu lw) lu hi, ev, vplus_at lu lw hi]
      omega
    rw [e1] at q1
    exact q1
  rw [ev]
  exact InS.comb 1 L.ln (j.l1 u hu) (j.l2 w (p.glb w hw hw2))
end
section
variable (a : L0 n A) (c : L0 n B) (hx : x.natAbs ≤ 2 ^ 40)
include a hx
theorem l_t : Lt n 7 113 478 (timesF n x A) ∧ ∀ w, InS n (timesF n x A) w ↔ ∃ v, InS n A v ∧ w = tvec v x := Lt.isT (h := 40) a hx (by decide)
theorem l_tn : Lt n 7 113 478 (timesF n (-1) (timesF n x A)) ∧ ∀ w, InS n (timesF n (-1) (timesF n x A)) w ↔ ∃ v, InS n (timesF n x A) v ∧ w = tvec v (-1) := Lt.isT (h := 0) (l_t a hx).1 (by decide) (by decide)
theorem l_o3 : timesF n (-1) (timesF n x A) = timesF n x A := by
  obtain ⟨L, j⟩ := l_t a hx
  obtain ⟨R, k⟩ := l_tn a hx
  refine R.same L (fun w h => ?_) fun w h => ?_
  · obtain ⟨v, hv, rfl⟩ := (k w).mp h
    exact InS.sc (-1) L.ln hv
  · refine (k w).mpr ⟨tvec w (-1), InS.sc (-1) L.ln h, ?_⟩
    have lw := h.len L.ln
    exact row_ext lw (by rw [tvec_len, tvec_len, lw]) fun i hi => by
      rw [tvec_at (by rw [tvec_len, lw]) hi, tvec_at lw hi]
      omega
theorem l_o4 : LeS n (timesF n x A) A := fun w h => by
  obtain ⟨v, hv, rfl⟩ := ((l_t a hx).2 w).mp h
  exact InS.sc x a.ln hv
include c
theorem l_tj : Lt n 14 113 478 (timesF n x (joinF n A B)) ∧ ∀ w, InS n (timesF n x (joinF n A B)) w ↔ ∃ v, InS n (joinF n A B) v ∧ w = tvec v x := Lt.isT (h := 40) (l_j a c).1 hx (by decide)
theorem l_jt : Lt n 14 113 478 (joinF n (timesF n x A) (timesF n x B)) ∧ IsJ n (timesF n x A) (timesF n x B) (joinF n (timesF n x A) (timesF n x B)) := Lt.isJ (G := 113) (l_t a hx).1 (l_t c hx).1 (by decide) (by decide) (by decide) (by decide) (by decide)
theorem l_o2 : timesF n x (joinF n A B) = joinF n (timesF n x A) (timesF n x B) := by
  obtain ⟨J, j⟩ := l_j a c
  obtain ⟨L, l⟩ := l_tj a c hx
  obtain ⟨R, k⟩ := l_jt a c hx
  obtain ⟨TA, ta⟩ := l_t a hx
  obtain ⟨TB, tb⟩ := l_t c hx
  refine L.same R (fun w h => ?_) (k.lub _ L.ln (fun w h => ?_) fun w h => ?_)
  · obtain ⟨v, hv, rfl⟩ := (l w).mp h
    obtain ⟨y, z, hy, hz, rfl⟩ := j.el v hv
    rw [tvec_plus (hy.len a.ln) (hz.len c.ln)]
    exact InS.comb 1 R.ln (k.l1 _ ((ta _).mpr ⟨y, hy, rfl⟩)) (k.l2 _ ((tb _).mpr ⟨z, hz, rfl⟩))
  · obtain ⟨v, hv, rfl⟩ := (ta w).mp h
    exact (l _).mpr ⟨v, j.l1 v hv, rfl⟩
  · obtain ⟨v, hv, rfl⟩ := (tb w).mp h
    exact (l _).mpr ⟨v, j.l2 v hv, rfl⟩
theorem l_tm : Lt n 4 675 2726 (timesF n x (meetF n A B)) ∧ ∀ w, InS n (timesF n x (meetF n A B)) w ↔ ∃ v, InS n (meetF n A B) v ∧ w = tvec v x := Lt.isT (h := 40) (l_m a c).1 hx (by decide)
theorem l_mt : Lt n 4 955 955 (meetF n (timesF n x A) (timesF n x B)) ∧ IsM n (timesF n x A) (timesF n x B) (meetF n (timesF n x A) (timesF n x B)) := Lt.isM (G := 113) (l_t a hx).1 (l_t c hx).1 (by decide) (by decide) (by decide) (by decide) (by decide) (by decide)
theorem l_o5 (x0 : x ≠ 0) : timesF n x (meetF n A B) = meetF n (timesF n x A) (timesF n x B) := by
  obtain ⟨J, j⟩ := l_m a c
  obtain ⟨L, l⟩ := l_tm a c hx
  obtain ⟨R, k⟩ := l_mt a c hx
  obtain ⟨TA, ta⟩ := l_t a hx
  obtain ⟨TB, tb⟩ := l_t c hx
  refine L.same R (fun w h => ?_) fun w h => ?_
  · obtain ⟨v, hv, rfl⟩ := (l w).mp h
    exact k.glb _ ((ta _).mpr ⟨v, j.l1 v hv, rfl⟩) ((tb _).mpr ⟨v, j.l2 v hv, rfl⟩)
  · obtain ⟨y, hy, e1⟩ := (ta w).mp (k.l1 w h)
    obtain ⟨z, hz, e2⟩ := (tb w).mp (k.l2 w h)
    have ly := hy.len a.ln
    have lz := hz.len c.ln
    have e3 : y = z := row_ext ly lz fun i hi => by
      have q : at0 (tvec y x) i = at0 (tvec z x) i := by rw [← e1, ← e2]
      rw [tvec_at ly hi, tvec_at lz hi] at q
      exact Int.eq_of_mul_eq_mul_left x0 q
    subst e3
    exact (l w).mpr ⟨y, j.glb y hy hz, e1⟩
end
section
variable (a : L0 n A) (c : L0 n B)
include a
theorem l_q : Lt n 4 1298 1298 (quietF n A) ∧ ∀ v : Rw, v.length = n → (InS n (quietF n A) v ↔ ∀ z, InS n A z → dotI z v = 0) := Lt.isQ a (by decide)
theorem l_qq : Lt n 4 5218 5218 (quietF n (quietF n A)) ∧ ∀ v : Rw, v.length = n → (InS n (quietF n (quietF n A)) v ↔ ∀ z, InS n (quietF n A) z → dotI z v = 0) := Lt.isQ (l_q a).1 (by decide)
theorem l_qqq : Lt n 4 20898 20898 (quietF n (quietF n (quietF n A))) ∧ ∀ v : Rw, v.length = n → (InS n (quietF n (quietF n (quietF n A))) v ↔ ∀ z, InS n (quietF n (quietF n A)) z → dotI z v = 0) := Lt.isQ (l_qq a).1 (by decide)
theorem l_q2 : LeS n A (quietF n (quietF n A)) := fun v h => by
  obtain ⟨L, l⟩ := l_q a
  refine ((l_qq a).2 v (h.len a.ln)).mpr fun z hz => ?_
  rw [dot_comm]
  exact (l z (hz.len L.ln)).mp hz v h
theorem l_q3 : quietF n (quietF n (quietF n A)) = quietF n A := by
  obtain ⟨L, l⟩ := l_q a
  obtain ⟨L2, l2⟩ := l_qq a
  obtain ⟨L3, l3⟩ := l_qqq a
  refine L3.same L (fun v h => ?_) fun v h => ?_
  · have lv := h.len L3.ln
    exact (l v lv).mpr fun z hz => (l3 v lv).mp h z (l_q2 a z hz)
  · have lv := h.len L.ln
    refine (l3 v lv).mpr fun z hz => ?_
    rw [dot_comm]
    exact (l2 z (hz.len L2.ln)).mp hz v h
include c
theorem l_qj : Lt n 4 1298 1298 (quietF n (joinF n A B)) ∧ ∀ v : Rw, v.length = n → (InS n (quietF n (joinF n A B)) v ↔ ∀ z, InS n (joinF n A B) z → dotI z v = 0) := Lt.isQ (l_j a c).1 (by decide)
theorem l_mq : Lt n 4 10435 10435 (meetF n (quietF n A) (quietF n B)) ∧ IsM n (quietF n A) (quietF n B) (meetF n (quietF n A) (quietF n B)) := Lt.isM (G := 1298) (l_q a).1 (l_q c).1 (by decide) (by decide) (by decide) (by decide) (by decide) (by decide)
theorem l_q1 : quietF n (joinF n A B) = meetF n (quietF n A) (quietF n B) := by
  obtain ⟨J, j⟩ := l_j a c
  obtain ⟨L, l⟩ := l_qj a c
  obtain ⟨R, k⟩ := l_mq a c
  obtain ⟨QA, qa⟩ := l_q a
  obtain ⟨QB, qb⟩ := l_q c
  refine L.same R (fun v h => ?_) fun v h => ?_
  · have lv := h.len L.ln
    have q := (l v lv).mp h
    exact k.glb v ((qa v lv).mpr fun z hz => q z (j.l1 z hz)) ((qb v lv).mpr fun z hz => q z (j.l2 z hz))
  · have lv := h.len R.ln
    have h1 := (qa v lv).mp (k.l1 v h)
    have h2 := (qb v lv).mp (k.l2 v h)
    refine (l v lv).mpr fun z hz => ?_
    obtain ⟨y, t, hy, ht, rfl⟩ := j.el z hz
    rw [dot_plus (by rw [hy.len a.ln, ht.len c.ln]), h1 y hy, h2 t ht]
    rfl
end
end
end Aw
namespace Aw
section
variable {n N M g h b d G : Nat} {A B C D E X Y W vs ws : List Rw} {cs : List Nat} {u v w : Rw} {q x : Int} {m : Nat}
theorem plus_unit {v : Rw} {c : Nat} {y : Int} (hv : v.length = n) (hc : c < n) : ∀ z : Rw, z.length = n → dotI (vplus v (unitR n c) y) z = dotI v z + y * at0 z c := fun z hz => by
  rw [dot_plus (by rw [hv, unit_len]), dot_unit hz]
theorem dual : ∀ {cs : List Nat} {bs : List Rw} (lo : Nat) (v : Rw), Hnf n cs bs → (∀ j, lo ≤ j → j < n → j ∈ cs) → (∀ c ∈ cs, lo ≤ c) → 0 < m → (∀ i, lo ≤ i → i < n → InS n bs (tvec (unitR n i) (m : Int))) → v.length = n → (∀ j, j < lo → at0 v j = 0) →
    (∀ w : Rw, w.length = n → (∀ b ∈ bs, (m : Int) ∣ dotI w b) → (m : Int) ∣ dotI w v) → InS n bs v
  | _, _, lo, v, .nil, hf, _, _, _, lv, hz, _ => row_ext lv (zeroR_len n) fun j hj => by
      rw [zeroR_at]
      rcases Nat.lt_or_ge j lo with c | c
      · exact hz j c
      · have := hf j c hj
        cases this
  | _, _, lo, v, .cons c cs b bs hb hc z p r zz low t, hf, hge, hm0, hm, lv, hz, H => by
    have hh := Hnf.cons c cs b bs hb hc z p r zz low t
    have lc : lo = c := by
      have h1 := hge c (List.mem_cons_self ..)
      rcases List.mem_cons.mp (hf lo (Nat.le_refl _) (by omega)) with e | e
      · exact e
      · have := r lo e
        omega
    subst lc
    -- the pivot divides the number
    have hmc := hm lo (Nat.le_refl _) hc
    obtain ⟨x, ex, _, htail⟩ := hh.lead hmc
    rw [tvec_at (unit_len n lo) hc, unit_at hc, if_pos rfl, Int.mul_one] at ex
    have lu := unit_len n lo
    have lmu : (tvec (unitR n lo) (m : Int)).length = n := by rw [tvec_len, lu]
    -- the vector's number at the lead is a multiple of the pivot
    have d1 : (m : Int) ∣ x * at0 v lo := by
      have q := H (tvec (unitR n lo) x) (by rw [tvec_len, lu]) fun s hs => by
        rw [dot_tvec, dot_unit (hh.ln s hs)]
        rcases List.mem_cons.mp hs with rfl | hs
        · rw [← ex]
          exact Int.dvd_refl _
        · rw [zz s hs lo (Nat.le_refl _), Int.mul_zero]
          exact Int.dvd_zero _
      rw [dot_tvec, dot_unit lv] at q
      exact q
    have x0 : x ≠ 0 := fun e => by
      rw [e] at ex
      omega
    obtain ⟨k, ek⟩ := d1
    have ev : at0 v lo = at0 b lo * k := by
      rw [ex, Int.mul_assoc] at ek
      exact Int.eq_of_mul_eq_mul_left x0 ek
    have lvb : (vplus v b (-k)).length = n := vplus_len lv hb
    have ih := dual (lo + 1) (vplus v b (-k)) t (fun j h1 h2 => by
      rcases List.mem_cons.mp (hf j (by omega) h2) with e | e
      · omega
      · exact e) (fun c hc => r c hc) hm0 (fun i h1 h2 => (hh.tail_iff).mpr ⟨hm i (by omega) h2, by rw [tvec_at (unit_len n i) hc, unit_at hc, if_neg (by omega)]; omega⟩) lvb (fun j hj => by
        rw [vplus_at lv hb (by omega)]
        rcases Nat.lt_or_ge j lo with q | q
        · rw [hz j q, z j q]
          omega
        · obtain rfl : j = lo := by omega
          rw [ev, Int.neg_mul, Int.mul_comm]
          omega) fun w lw hw => ?_
    · refine ⟨k, vplus v b (-k), ih, ?_⟩
      exact row_ext lv (vplus_len lvb hb) fun j hj => by
        rw [vplus_at lvb hb hj, vplus_at lv hb hj, Int.neg_mul]
        omega
    · -- the item at the lead may be chosen
      obtain ⟨w0, e0⟩ : ∃ w0 : Rw, w0 = vplus w (unitR n lo) (-at0 w lo) := ⟨_, rfl⟩
      have l0 : w0.length = n := by rw [e0]; exact vplus_len lw lu
      have dt : ∀ s ∈ bs, (m : Int) ∣ dotI w0 s := fun s hs => by
        rw [e0, plus_unit lw hc s (t.ln s hs), zz s hs lo (Nat.le_refl _), Int.mul_zero, Int.add_zero]
        exact hw s hs
      have d2 : (m : Int) ∣ dotI (vplus (tvec (unitR n lo) (m : Int)) b (-x)) w0 := dot_inQ t.ln (fun s hs => by rw [dot_comm]; exact dt s hs) htail
      rw [dot_plus (by rw [lmu, hb]), dot_tvec, dot_unit l0, dot_comm b w0] at d2
      have d3 : (m : Int) ∣ x * dotI w0 b := by
        have q := Int.dvd_sub (Int.dvd_mul_right (m : Int) (at0 w0 lo)) d2
        have e : (m : Int) * at0 w0 lo - ((m : Int) * at0 w0 lo + -x * dotI w0 b) = x * dotI w0 b := by
          rw [Int.neg_mul]
          omega
        rw [e] at q
        exact q
      obtain ⟨y, ey⟩ := d3
      have es : dotI w0 b = at0 b lo * y := by
        rw [ex, Int.mul_assoc] at ey
        exact Int.eq_of_mul_eq_mul_left x0 ey
      have q := H (vplus w0 (unitR n lo) (-y)) (vplus_len l0 lu) fun s hs => by
        rw [plus_unit l0 hc s (hh.ln s hs)]
        rcases List.mem_cons.mp hs with rfl | hs
        · rw [es, Int.neg_mul, Int.mul_comm]
          have e : y * at0 s lo + -(y * at0 s lo) = 0 := by omega
          rw [e]
          exact Int.dvd_zero _
        · rw [zz s hs lo (Nat.le_refl _), Int.mul_zero, Int.add_zero]
          exact dt s hs
      rw [plus_unit l0 hc v lv, e0, plus_unit lw hc v lv, ev] at q
      rw [dot_comm, dot_plus (by rw [lv, hb]), dot_comm v w, dot_comm b w]
      have ewb : dotI w b = at0 w lo * at0 b lo + at0 b lo * y := by
        rw [e0, plus_unit lw hc b hb] at es
        rw [← es, Int.neg_mul]
        omega
      rw [ewb]
      have e : dotI w v + -at0 w lo * (at0 b lo * k) + -y * (at0 b lo * k) = dotI w v + -k * (at0 w lo * at0 b lo + at0 b lo * y) := by
        rw [Int.neg_mul, Int.neg_mul, Int.neg_mul, Int.mul_add]
        have h1 : at0 w lo * (at0 b lo * k) = k * (at0 w lo * at0 b lo) := by rw [← Int.mul_assoc, Int.mul_comm]
        have h2 : y * (at0 b lo * k) = k * (at0 b lo * y) := by rw [Int.mul_comm y, Int.mul_comm (at0 b lo) k, Int.mul_assoc]
        omega
      rw [← e]
      exact q
/-- all multiples of a number -/
def wideR (n : Nat) (q : Int) : List Rw := (List.range n).map fun i => tvec (unitR n i) q
theorem wide_ln (n : Nat) (q : Int) : LnN n (wideR n q) := fun r hr => by
  obtain ⟨i, _, rfl⟩ := List.mem_map.mp hr
  rw [tvec_len, unit_len]
theorem wide_bd {E : Nat} (hq : q.natAbs ≤ E) : BdN E (wideR n q) := fun r hr x hx => by
  obtain ⟨i, _, rfl⟩ := List.mem_map.mp hr
  obtain ⟨y, hy, rfl⟩ := List.mem_map.mp hx
  rw [Int.natAbs_mul]
  have := unit_bd (E := 1) (Nat.le_refl _) y hy
  exact Nat.le_trans (Nat.mul_le_mul_left _ this) (by omega)
theorem wide_len : (wideR n q).length = n := by
  unfold wideR
  rw [List.length_map, List.length_range]
theorem wide_ok (hn : n ≤ 4) (hq : q.natAbs ≤ 2 ^ 5) : BasOk n n (ledR n (wideR n q)) [] := ok_4 (by omega) (wide_ln n q) (wide_bd hq) (by decide) (by rw [wide_len]; exact hn)
def wideF (n : Nat) (q : Int) : List Rw := basisF n (wideR n q)
theorem l_w (hn : n ≤ 4) (hq : q.natAbs ≤ 2 ^ 5) : Lt n 4 5 46 (wideF n q) ∧ SameS n (wideR n q) (wideF n q) := by
  obtain ⟨cs, hh, s⟩ := basis_hnf (wide_ln n q) (wide_ok hn hq)
  exact ⟨Lt.of hn (by decide) (wide_ln n q) (by rw [wide_len]; exact hn) (wide_bd hq) hh s, s⟩
section
variable (a : L0 n A) (c : L0 n B) (hm : 0 < m) (hm2 : m ≤ 2 ^ 5)
include a hm hm2
theorem l_b : Lt n 4 5 5 (quietB n A (m : Int)) ∧ ∀ v : Rw, v.length = n → (InS n (quietB n A (m : Int)) v ↔ ∀ z, InS n A z → (m : Int) ∣ dotI z v) := Lt.isB a (by decide) hm hm2
theorem l_bb : Lt n 4 5 5 (quietB n (quietB n A (m : Int)) (m : Int)) ∧ ∀ v : Rw, v.length = n → (InS n (quietB n (quietB n A (m : Int)) (m : Int)) v ↔ ∀ z, InS n (quietB n A (m : Int)) z → (m : Int) ∣ dotI z v) := Lt.isB (l_b a hm hm2).1 (by decide) hm hm2
theorem l_aw : Lt n 11 73 318 (joinF n A (wideF n (m : Int))) ∧ IsJ n A (wideF n (m : Int)) (joinF n A (wideF n (m : Int))) := Lt.isJ (G := 73) a (l_w a.n4 (by rw [Int.natAbs_natCast]; exact hm2)).1 (by decide) (by decide) (by decide) (by decide) (by decide)
theorem l_wq : LeS n (wideF n (m : Int)) (quietB n A (m : Int)) := fun v h => by
  obtain ⟨L, s⟩ := l_w (q := (m : Int)) a.n4 (by rw [Int.natAbs_natCast]; exact hm2)
  obtain ⟨_, k⟩ := l_b a hm hm2
  have lv := h.len L.ln
  refine (k v lv).mpr fun z hz => ?_
  rw [dot_comm]
  refine dot_inQ (wide_ln n _) (fun y hy => ?_) ((s v).mpr h)
  obtain ⟨i, _, rfl⟩ := List.mem_map.mp hy
  rw [dot_tvec]
  exact Int.dvd_mul_right _ _
theorem l_q7 : LeS n (quietF n A) (quietB n A (m : Int)) := fun v h => by
  obtain ⟨L, l⟩ := l_q a
  have lv := h.len L.ln
  refine ((l_b a hm hm2).2 v lv).mpr fun z hz => ?_
  rw [(l v lv).mp h z hz]
  exact Int.dvd_zero _
theorem l_q5 : quietB n (quietB n A (m : Int)) (m : Int) = joinF n A (wideF n (m : Int)) := by
  obtain ⟨L, l⟩ := l_b a hm hm2
  obtain ⟨L2, l2⟩ := l_bb a hm hm2
  obtain ⟨R, k⟩ := l_aw a hm hm2
  obtain ⟨Wd, ws⟩ := l_w (q := (m : Int)) a.n4 (by rw [Int.natAbs_natCast]; exact hm2)
  have hmu : ∀ i, i < n → InS n (joinF n A (wideF n (m : Int))) (tvec (unitR n i) (m : Int)) := fun i hi => k.l2 _ ((ws _).mp (InS.mem (wide_ln n _) (List.mem_map.mpr ⟨i, List.mem_range.mpr hi, rfl⟩)))
  refine L2.same R (fun v h => ?_) (k.lub _ L2.ln (fun v h => ?_) fun v h => ?_)
  · have lv := h.len L2.ln
    obtain ⟨cs, hh⟩ := R.hnf
    refine dual (m := m) 0 v hh (fun j _ hj => (hh.full hm hmu).1 j hj) (fun _ _ => Nat.zero_le _) hm (fun i _ hi => hmu i hi) lv (fun j hj => absurd hj (Nat.not_lt_zero _)) fun w lw hw => ?_
    refine (l2 v lv).mp h w ((l w lw).mpr fun z hz => ?_)
    exact dot_inQ R.ln (fun y hy => by rw [dot_comm]; exact hw y hy) (k.l1 z hz)
  · refine (l2 v (h.len a.ln)).mpr fun z hz => ?_
    rw [dot_comm]
    exact (l z (hz.len L.ln)).mp hz v h
  · refine (l2 v (h.len Wd.ln)).mpr fun z hz => ?_
    rw [dot_comm]
    refine dot_inQ (wide_ln n _) (fun y hy => ?_) ((ws v).mpr h)
    obtain ⟨i, _, rfl⟩ := List.mem_map.mp hy
    rw [dot_tvec]
    exact Int.dvd_mul_right _ _
include c
theorem l_bj : Lt n 4 5 5 (quietB n (joinF n A B) (m : Int)) ∧ ∀ v : Rw, v.length = n → (InS n (quietB n (joinF n A B) (m : Int)) v ↔ ∀ z, InS n (joinF n A B) z → (m : Int) ∣ dotI z v) := Lt.isB (l_j a c).1 (by decide) hm hm2
theorem l_mb : Lt n 4 91 91 (meetF n (quietB n A (m : Int)) (quietB n B (m : Int))) ∧ IsM n (quietB n A (m : Int)) (quietB n B (m : Int)) (meetF n (quietB n A (m : Int)) (quietB n B (m : Int))) := Lt.isM (G := 5) (l_b a hm hm2).1 (l_b c hm hm2).1 (by decide) (by decide) (by decide) (by decide) (by decide) (by decide)
theorem l_q6 : quietB n (joinF n A B) (m : Int) = meetF n (quietB n A (m : Int)) (quietB n B (m : Int)) := by
  obtain ⟨J, j⟩ := l_j a c
  obtain ⟨L, l⟩ := l_bj a c hm hm2
  obtain ⟨R, k⟩ := l_mb a c hm hm2
  obtain ⟨QA, qa⟩ := l_b a hm hm2
  obtain ⟨QB, qb⟩ := l_b c hm hm2
  refine L.same R (fun v h => ?_) fun v h => ?_
  · have lv := h.len L.ln
    have q := (l v lv).mp h
    exact k.glb v ((qa v lv).mpr fun z hz => q z (j.l1 z hz)) ((qb v lv).mpr fun z hz => q z (j.l2 z hz))
  · have lv := h.len R.ln
    have h1 := (qa v lv).mp (k.l1 v h)
    have h2 := (qb v lv).mp (k.l2 v h)
    refine (l v lv).mpr fun z hz => ?_
    obtain ⟨y, t, hy, ht, rfl⟩ := j.el z hz
    rw [dot_plus (by rw [hy.len a.ln, ht.len c.ln])]
    exact Int.dvd_add (h1 y hy) (Int.dvd_mul_of_dvd_right (h2 t ht))
end
theorem alg1 (C t v u D c : Int) : C * t * v + -1 * (C * u + D * c) = C * (t * v + -1 * u) + -D * c := by
  have h : C * (-1 * u) = -(C * u) := by rw [Int.neg_mul, Int.one_mul, Int.mul_neg]
  rw [Int.mul_assoc, Int.mul_add C, h, Int.neg_mul D c]
  omega
/-- what is parted: a multiple less something of the span is quiet -/
theorem project : ∀ {A : List Rw} {v : Rw}, LnN n A → v.length = n → ∃ (t : Int) (u : Rw), t ≠ 0 ∧ InS n A u ∧ ∀ b ∈ A, dotI (vplus (tvec v t) u (-1)) b = 0
  | [], v, _, lv => ⟨1, zeroR n, by decide, rfl, fun b hb => by cases hb⟩
  | b :: A, v, hl, lv => by
    have lb := hl.head
    obtain ⟨t, u, t0, hu, h1⟩ := project (v := v) hl.tail lv
    obtain ⟨s, w, s0, hw, h2⟩ := project (v := b) hl.tail lb
    have lu := hu.len hl.tail
    have lw := hw.len hl.tail
    obtain ⟨p, ep⟩ : ∃ p : Rw, p = vplus (tvec v t) u (-1) := ⟨_, rfl⟩
    obtain ⟨c, ec⟩ : ∃ c : Rw, c = vplus (tvec b s) w (-1) := ⟨_, rfl⟩
    have lp : p.length = n := by rw [ep]; exact vplus_len (by rw [tvec_len, lv]) lu
    have lc : c.length = n := by rw [ec]; exact vplus_len (by rw [tvec_len, lb]) lw
    rw [← ep] at h1
    rw [← ec] at h2
    -- products with b by those with c
    have pb : ∀ x : Rw, (∀ y ∈ A, dotI x y = 0) → x.length = n → s * dotI x b = dotI x c := fun x hx lx => by
      have z : dotI w x = 0 := dot_in0 hl.tail (fun y hy => by rw [dot_comm]; exact hx y hy) hw
      rw [dot_comm x c, ec, dot_plus (by rw [tvec_len, lb, lw]), dot_tvec, z, dot_comm b x]
      omega
    have nz : ∀ x : Rw, (∀ y ∈ A, dotI x y = 0) → x.length = n → dotI x c = 0 → dotI x b = 0 := fun x hx lx e => by
      have q := pb x hx lx
      rw [e] at q
      rcases Int.mul_eq_zero.mp q with z | z
      · exact absurd z s0
      · exact z
    obtain ⟨ck, cz⟩ := dot_self c
    by_cases z : dotI c c = 0
    · have c0 : c = zeroR n := all_zero lc (cz z)
      refine ⟨t, u, t0, InS.wk hl hu, fun y hy => ?_⟩
      rw [← ep]
      rcases List.mem_cons.mp hy with rfl | hy
      · exact nz p h1 lp (by rw [c0, dot_comm, dot_zero])
      · exact h1 y hy
    · obtain ⟨C, eC⟩ : ∃ C, C = dotI c c := ⟨_, rfl⟩
      obtain ⟨D, eD⟩ : ∃ D, D = dotI p c := ⟨_, rfl⟩
      have hc : InS n (b :: A) c := by
        rw [ec]
        exact InS.comb _ hl (InS.sc s hl (InS.mem hl (List.mem_cons_self ..))) (InS.wk hl hw)
      have hu2 : InS n (b :: A) (vplus (tvec u C) c D) := InS.comb D hl (InS.sc C hl (InS.wk hl hu)) hc
      have lu2 : (vplus (tvec u C) c D).length = n := vplus_len (by rw [tvec_len, lu]) lc
      have ex : vplus (tvec v (C * t)) (vplus (tvec u C) c D) (-1) = vplus (tvec p C) c (-D) := row_ext (n := n) (vplus_len (by rw [tvec_len, lv]) lu2) (vplus_len (by rw [tvec_len, lp]) lc) fun j hj => by
        rw [vplus_at (by rw [tvec_len, lv]) lu2 hj, vplus_at (by rw [tvec_len, lu]) lc hj, vplus_at (by rw [tvec_len, lp]) lc hj, tvec_at lp hj, tvec_at lv hj, tvec_at lu hj, ep, vplus_at (by rw [tvec_len, lv]) lu hj, tvec_at lv hj]
        exact alg1 ..
      have hA : ∀ y ∈ A, dotI (vplus (tvec p C) c (-D)) y = 0 := fun y hy => by
        rw [dot_plus (by rw [tvec_len, lp, lc]), dot_tvec, h1 y hy, h2 y hy]
        omega
      refine ⟨C * t, vplus (tvec u C) c D, fun e => ?_, hu2, fun y hy => ?_⟩
      · rcases Int.mul_eq_zero.mp e with e | e
        · exact z (by rw [← eC]; exact e)
        · exact t0 e
      · rw [ex]
        rcases List.mem_cons.mp hy with rfl | hy
        · refine nz _ hA (vplus_len (by rw [tvec_len, lp]) lc) ?_
          rw [dot_plus (by rw [tvec_len, lp, lc]), dot_tvec, ← eC, ← eD, Int.neg_mul, Int.mul_comm]
          omega
        · exact hA y hy
/-- no more independent rows than columns -/
theorem Ind.le (hl : LnN n ws) (hi : Ind n ws) : ws.length ≤ n := by
  refine Classical.byContradiction fun c => ?_
  obtain ⟨E, hE, hb⟩ : ∃ E, 1 ≤ E ∧ BdN E ws := by
    have key : ∀ rs : List Rw, ∃ E, 1 ≤ E ∧ BdN E rs := by
      have one : ∀ r : Rw, ∃ E, ∀ x ∈ r, x.natAbs ≤ E := by
        intro r
        induction r with
        | nil => exact ⟨0, fun x hx => by cases hx⟩
        | cons y r ih =>
          obtain ⟨E, h⟩ := ih
          refine ⟨E + y.natAbs, fun x hx => ?_⟩
          rcases List.mem_cons.mp hx with rfl | hx
          · omega
          · have := h x hx
            omega
      intro rs
      induction rs with
      | nil => exact ⟨1, Nat.le_refl _, fun r hr => by cases hr⟩
      | cons r rs ih =>
        obtain ⟨E, h1, h2⟩ := ih
        obtain ⟨F, h3⟩ := one r
        refine ⟨E + F, by omega, fun s hs x hx => ?_⟩
        rcases List.mem_cons.mp hs with rfl | hs
        · have := h3 x hx
          omega
        · have := h2 s hs x hx
          omega
    exact key ws
  obtain ⟨xs, x1, ⟨y, hy, y0⟩, _, x4⟩ := siegel (N := ws.length) (E := E) (cs := (List.range n).map fun j => ws.map fun w => at0 w j) hE (by rw [List.length_map, List.length_range]; omega) fun col hc y hy => by
    obtain ⟨j, hj, rfl⟩ := List.mem_map.mp hc
    obtain ⟨r, hr, rfl⟩ := List.mem_map.mp hy
    exact hb r hr _ (at0_mem (by rw [hl r hr]; exact List.mem_range.mp hj))
  refine y0 (hi xs x1 ?_ y hy)
  exact row_ext (comb_len hl) (zeroR_len n) fun j hj => by
    rw [comb_at hj hl, zeroR_at]
    exact x4 _ (List.mem_map.mpr ⟨j, List.mem_range.mpr hj, rfl⟩)
theorem Hnf.ind : ∀ {cs : List Nat} {bs : List Rw}, Hnf n cs bs → Ind n bs
  | _, _, .nil => fun xs hx _ x hm => by
    obtain rfl := List.length_eq_zero_iff.mp hx
    cases hm
  | _, _, .cons c cs b bs hb hc z p r zz low t => fun xs hx hz => by
    cases xs with
    | nil => intro x hm; cases hm
    | cons x xs =>
      have hx' : xs.length = bs.length := by simpa using hx
      rw [combR] at hz
      have lc : (combR n xs bs).length = n := comb_len t.ln
      have q : at0 (vplus (combR n xs bs) b x) c = at0 (zeroR n) c := congrArg (fun r => at0 r c) hz
      rw [vplus_at lc hb hc, zeroR_at, InS.col hc t.ln (fun s hs => zz s hs c (Nat.le_refl _)) (comb_in hx')] at q
      have x0 : x = 0 := by
        rcases Int.mul_eq_zero.mp (show x * at0 b c = 0 by omega) with e | e
        · exact e
        · omega
      rw [x0, vplus_zero lc hb] at hz
      intro y hy
      rcases List.mem_cons.mp hy with rfl | hy
      · exact x0
      · exact t.ind xs hx' hz y hy
theorem comb_app : ∀ {xs ys : List Int} {A B : List Rw}, LnN n A → LnN n B → xs.length = A.length → combR n (xs ++ ys) (A ++ B) = vplus (combR n xs A) (combR n ys B) 1
  | [], ys, [], B, _, hB, _ => by
    have e : combR n [] [] = zeroR n := by
      rw [combR]
      exact fun _ _ _ _ h => by cases h
    rw [e]
    exact row_ext (n := n) (comb_len hB) (vplus_len (zeroR_len n) (comb_len hB)) fun j hj => by
      rw [vplus_at (zeroR_len n) (comb_len hB) hj, zeroR_at]
      show at0 (combR n ys B) j = _
      omega
  | x :: xs, ys, v :: A, B, hA, hB, h => by
    have l1 : (combR n xs A).length = n := comb_len hA.tail
    have l2 : (combR n ys B).length = n := comb_len hB
    have lv := hA.head
    rw [List.cons_append, List.cons_append, combR, combR, comb_app hA.tail hB (by simpa using h)]
    exact row_ext (n := n) (vplus_len (vplus_len l1 l2) lv) (vplus_len (vplus_len l1 lv) l2) fun j hj => by
      rw [vplus_at (vplus_len l1 l2) lv hj, vplus_at l1 l2 hj, vplus_at (vplus_len l1 lv) l2 hj, vplus_at l1 lv hj]
      omega
theorem unit_hnf (n : Nat) : Hnf n (List.range n) (unitsR n) := by
  have key : ∀ k, k ≤ n → Hnf n ((List.range' (n - k) k)) ((List.range' (n - k) k).map (unitR n)) := by
    intro k
    induction k with
    | zero => intro _; exact .nil
    | succ k ih =>
      intro hk
      have e : n - (k + 1) + 1 = n - k := by omega
      rw [List.range'_succ, e, List.map_cons]
      refine .cons _ _ _ _ (unit_len _ _) (by omega) (fun j hj => by rw [unit_at (by omega), if_neg (by omega)]) (by rw [unit_at (by omega), if_pos rfl]; decide) (fun d hd => ?_) (fun s hs j hj => ?_) (fun i d s e1 e2 => ?_) (ih (by omega))
      · have := List.mem_range'_1.mp hd
        omega
      · obtain ⟨d, hd, rfl⟩ := List.mem_map.mp hs
        have := List.mem_range'_1.mp hd
        rw [unit_at (by omega), if_neg (by omega)]
      · rw [List.getElem?_map, e1] at e2
        obtain rfl := Option.some.inj e2
        have := List.mem_range'_1.mp (List.mem_of_getElem? e1)
        rw [unit_at (by omega), unit_at (by omega), if_neg (by omega), if_pos rfl]
        decide
  have q := key n (Nat.le_refl _)
  rw [Nat.sub_self, ← List.range_eq_range'] at q
  exact q
theorem l_q4 (a : L0 n A) : A.length + (quietF n A).length = n := by
  obtain ⟨L, l⟩ := l_q a
  obtain ⟨ca, ha⟩ := a.hnf
  obtain ⟨cq, hq⟩ := L.hnf
  have lA := a.ln
  have lQ := L.ln
  refine Nat.le_antisymm ?_ ?_
  · have hi : Ind n (A ++ quietF n A) := fun xs hx hz => by
      obtain ⟨ys, zs, rfl, hy⟩ : ∃ ys zs, xs = ys ++ zs ∧ ys.length = A.length := ⟨xs.take A.length, xs.drop A.length, (List.take_append_drop _ _).symm, by
        rw [List.length_append] at hx
        rw [List.length_take]
        omega⟩
      have hz' : zs.length = (quietF n A).length := by
        rw [List.length_append, List.length_append] at hx
        omega
      rw [comb_app lA lQ hy] at hz
      have iA := comb_in (n := n) hy
      have iQ := comb_in (n := n) hz'
      have l1 := iA.len lA
      have l2 := iQ.len lQ
      have o := (l _ l2).mp iQ _ iA
      have s0 : dotI (combR n ys A) (combR n ys A) = 0 := by
        have q : dotI (combR n ys A) (vplus (combR n ys A) (combR n zs (quietF n A)) 1) = 0 := by rw [hz, dot_comm, dot_zero]
        rw [dot_comm, dot_plus (by rw [l1, l2]), dot_comm (combR n zs (quietF n A)), o] at q
        omega
      have z1 : combR n ys A = zeroR n := all_zero l1 ((dot_self _).2 s0)
      have z2 : combR n zs (quietF n A) = zeroR n := by
        rw [z1] at hz
        exact row_ext l2 (zeroR_len n) fun j hj => by
          have q : at0 (vplus (zeroR n) (combR n zs (quietF n A)) 1) j = at0 (zeroR n) j := congrArg (fun r => at0 r j) hz
          rw [vplus_at (zeroR_len n) l2 hj, zeroR_at] at q
          rw [zeroR_at]
          omega
      intro x hx
      rcases List.mem_append.mp hx with hx | hx
      · exact ha.ind ys hy z1 x hx
      · exact hq.ind zs hz' z2 x hx
    have := hi.le (lA.app lQ)
    rw [List.length_append] at this
    exact this
  · have q := (unit_hnf n).rank (ws := A ++ quietF n A) (lA.app lQ) fun s hs => by
      have ls := units_ln n s hs
      obtain ⟨t, u, t0, hu, ho⟩ := project lA ls
      have lu := hu.len lA
      have lt : (tvec s t).length = n := by rw [tvec_len, ls]
      have hk : InS n (quietF n A) (vplus (tvec s t) u (-1)) := (l _ (vplus_len lt lu)).mpr fun z hz => dot_in0 lA (fun y hy => by rw [dot_comm]; exact ho y hy) hz
      refine ⟨t, t0, ?_⟩
      have c := InS.comb 1 (lA.app lQ) (InS.right lA lQ hk) (InS.left lA lQ hu)
      have e : vplus (vplus (tvec s t) u (-1)) u 1 = tvec s t := row_ext (vplus_len (vplus_len lt lu) lu) lt fun j hj => by
        rw [vplus_at (vplus_len lt lu) lu hj, vplus_at lt lu hj]
        omega
      rw [e] at c
      exact c
    rw [units_len, List.length_append] at q
    exact q
end
end Aw
namespace Aw
open PySem PySem.Spec PyProof.Rows L2
def spUnitV (K : PySem.W.Frag) : Sp := fun vs H Q _ => ∃ n i : Nat, vs = [.int (n : Nat), .int (i : Nat)] ∧ n ≤ 1000 ∧ ∀ (H' : Hp) (v : V), Kp [] H H' → VcV K H' v (unitR n i) → Q v H'
def spKernel (K : PySem.W.Frag) : Sp := fun vs H Q _ => ∃ (a : Addr) (us : List V) (A : List Rw) (n : Nat), vs = [.int (n : Nat), .ref a] ∧ SqT K H a us ∧ RwV K H us A ∧ n ≤ 30 ∧ LnN n A ∧ A.length ≤ 30 ∧ KerOk n A.length (kerR n A) ∧
  ∀ (H' : Hp) (c : Addr) (xs : List V), Kp [] H H' → SqT K H' c xs → RwV K H' xs (quietF n A) → Q (.ref c) H'
def spQRows (K : PySem.W.Frag) : Sp := fun vs H Q _ => ∃ (a : Addr) (us : List V) (A : List Rw) (n q : Nat), vs = [.int (n : Nat), .ref a, .int (q : Nat)] ∧ SqT K H a us ∧ RwV K H us A ∧ n ≤ 30 ∧ LnN n A ∧ A.length ≤ 30 ∧ q ≤ 100000 ∧ KerOk n A.length (qbR n A (q : Nat)) ∧
  ∀ (H' : Hp) (c : Addr) (xs : List V), Kp [] H H' → SqT K H' c xs → RwV K H' xs (quietB n A (q : Nat)) → Q (.ref c) H'
def spQuietL (K : PySem.W.Frag) (C : Addr) : Sp := fun vs H Q _ => ∃ (a : Addr) (n : Nat) (A : List Rw), vs = [.ref a] ∧ LtV K C H a n A ∧ n ≤ 30 ∧ LnN n A ∧ A.length ≤ 30 ∧ KerOk n A.length (kerR n A) ∧
  ∀ (H' : Hp) (r : Addr), Kp [] H H' → LtV K C H' r n (quietF n A) → Q (.ref r) H'
def spQuietBL (K : PySem.W.Frag) (C : Addr) : Sp := fun vs H Q _ => ∃ (a : Addr) (n q : Nat) (A : List Rw), vs = [.ref a, .int (q : Nat)] ∧ LtV K C H a n A ∧ n ≤ 30 ∧ LnN n A ∧ A.length ≤ 30 ∧ q ≤ 100000 ∧ KerOk n A.length (qbR n A (q : Nat)) ∧
  ∀ (H' : Hp) (r : Addr), Kp [] H H' → LtV K C H' r n (quietB n A (q : Nat)) → Q (.ref r) H'
def spAllMul (K : PySem.W.Frag) (C : Addr) : Sp := fun vs H Q _ => ∃ n q : Nat, vs = [.int (n : Nat), .int (q : Nat)] ∧ n ≤ 4 ∧ q ≤ 2 ^ 5 ∧ ∀ (H' : Hp) (r : Addr), Kp [] H H' → LtV K C H' r n (wideF n (q : Nat)) → Q (.ref r) H'
/-- a list of True -/
def Trues (H : Hp) (p : Addr) (k : Nat) : Prop := H p = some (.lst (List.replicate k (.bl true)))
def spBasics (K : PySem.W.Frag) (C : Addr) : Sp := fun vs H Q _ => ∃ (a b c : Addr) (n : Nat) (A B D : List Rw), vs = [.ref a, .ref b, .ref c] ∧ LtV K C H a n A ∧ LtV K C H b n B ∧ LtV K C H c n D ∧ L0 n A ∧ L0 n B ∧ L0 n D ∧
  ∀ (H' : Hp) (p : Addr) (k : Nat), Kp [] H H' → Trues H' p k → k ≤ 20 → Q (.ref p) H'
def spMoreL (K : PySem.W.Frag) (C : Addr) : Sp := fun vs H Q _ => ∃ (a b c : Addr) (n : Nat) (A B D : List Rw) (x : Int), vs = [.ref a, .ref b, .ref c, .int x] ∧ LtV K C H a n A ∧ LtV K C H b n B ∧ LtV K C H c n D ∧ L0 n A ∧ L0 n B ∧ L0 n D ∧ x.natAbs ≤ 2 ^ 40 ∧
  ∀ (H' : Hp) (p : Addr) (k : Nat), Kp [] H H' → Trues H' p k → k ≤ 20 → Q (.ref p) H'
def spQuiets (K : PySem.W.Frag) (C : Addr) : Sp := fun vs H Q _ => ∃ (a b : Addr) (n q : Nat) (A B : List Rw), vs = [.ref a, .ref b, .int (q : Nat)] ∧ LtV K C H a n A ∧ LtV K C H b n B ∧ L0 n A ∧ L0 n B ∧ 0 < q ∧ q ≤ 2 ^ 5 ∧
  ∀ (H' : Hp) (p : Addr) (k : Nat), Kp [] H H' → Trues H' p k → k ≤ 20 → Q (.ref p) H'
section
variable {K : PySem.W.Frag} {C CO : Addr} {n N g b M h d i : Nat} {σ : L2.St} {H0 : Hp} {te tf tn : TE} {A B : List Rw} {x : Int} {E : L2.St → XK} {E1 : XK} {r : Addr}
/-- an expression comes to a lattice -/
structure LatE (K : PySem.W.Frag) (C : Addr) (n N g b : Nat) (σ : L2.St) (H0 : Hp) (te : TE) (A : List Rw) : Prop where
  lt : Lt n N g b A
  run : ∀ (H1 : Hp) (Q : VK), Kp [] H0 H1 → (∀ (H2 : Hp) (r : Addr), Kp [] H1 H2 → LtV K C H2 r n A → Q (.ref r) H2) → te σ H1 Q
theorem LatE.var (hv : σ[i]? = some (some (.ref r))) (hL : LtV K C H0 r n A) (L : Lt n N g b A) : LatE K C n N g b σ H0 (tVar i) A := ⟨L, fun H1 Q k q => ⟨_, hv, q H1 r Kp.nil (hL.kp k (by simp))⟩⟩
theorem LatE.up {H1 : Hp} (a : LatE K C n N g b σ H0 te A) (k : Kp [] H0 H1) : LatE K C n N g b σ H1 te A := ⟨a.lt, fun H2 Q k2 q => a.run H2 Q (k.trans k2) q⟩
theorem LatE.add (a : LatE K C n N g b σ H0 te A) (c : LatE K C n M h d σ H0 tf B) (hb : b ≤ 5000 := by decide) (hd : d ≤ 5000 := by decide) (hN : N + M ≤ 32 := by decide) : LatE K C n (N + M) (max g h) (4 * max g h + 26) σ H0 (tBinO C (spAdd K C CO) E te tf) (joinF n A B) := by
  obtain ⟨ok, L, _⟩ := a.lt.join c.lt hb hd hN (Nat.le_max_left g h) (Nat.le_max_right g h)
  refine ⟨L, fun H1 Q k q => a.run H1 _ k fun H2 r k2 hr => c.run H2 _ (k.trans k2) fun H3 s k3 hs => ?_⟩
  have hr3 := hr.kp k3 (by simp)
  obtain ⟨dx, p, ws, hI, _⟩ := id hr3
  obtain ⟨dy, p2, ws2, hJ, _⟩ := id hs
  have n4 := a.lt.n4
  have l1 := a.lt.len
  have l2 := c.lt.len
  refine ⟨r, s, dx, dy, _, _, rfl, rfl, hI, hJ, r, s, n, n, A, B, rfl, hr3, hs, ?_⟩
  rw [if_pos rfl]
  exact ⟨by omega, a.lt.ln, c.lt.ln, by omega, ok, fun H' z _ kz hL => ⟨z, rfl, q H' z (k2.trans (k3.trans kz)) hL⟩⟩
theorem LatE.and (a : LatE K C n N g b σ H0 te A) (c : LatE K C n M h d σ H0 tf B) (hb : b ≤ 5000 := by decide) (hd : d ≤ 5000 := by decide) (hN : N + M ≤ 32 := by decide) (hG : max g h ≤ 100000 := by decide) : LatE K C n 4 (8 * max g h + 51) (8 * max g h + 51) σ H0 (tBinO C (spAnd K C CO) E te tf) (meetF n A B) := by
  obtain ⟨m, L, _⟩ := a.lt.meet c.lt hb hd hN (Nat.le_max_left g h) (Nat.le_max_right g h) hG
  refine ⟨L, fun H1 Q k q => a.run H1 _ k fun H2 r k2 hr => c.run H2 _ (k.trans k2) fun H3 s k3 hs => ?_⟩
  have hr3 := hr.kp k3 (by simp)
  obtain ⟨dx, p, ws, hI, _⟩ := id hr3
  obtain ⟨dy, p2, ws2, hJ, _⟩ := id hs
  have n4 := a.lt.n4
  have l1 := a.lt.len
  have l2 := c.lt.len
  have l3 := L.len
  refine ⟨r, s, dx, dy, _, _, rfl, rfl, hI, hJ, r, s, n, n, A, B, rfl, hr3, hs, ?_⟩
  rw [if_pos rfl]
  exact ⟨meetF n A B, by omega, a.lt.ln, c.lt.ln, by omega, m.ok, m.len, m.ln, m.ok2, m.same, L.ln, by omega, m.ok2, m.same, fun H' z _ kz hL => ⟨z, rfl, q H' z (k2.trans (k3.trans kz)) hL⟩⟩
theorem LatE.mul (a : LatE K C n N g b σ H0 te A) (hn : ∀ (H : Hp) (Q : VK), Q (.int x) H → tn σ H Q) (hx : x.natAbs ≤ 2 ^ h) (hb : b ≤ 1200 := by decide) (hh : h ≤ 85 := by decide) : LatE K C n N (g + h) (4 * (g + h) + 26) σ H0 (tOp (rMulO C (spMulL K C)) te tn) (timesF n x A) := by
  obtain ⟨ok, L, _⟩ := a.lt.times hx (by omega)
  refine ⟨L, fun H1 Q k q => a.run H1 _ k fun H2 r k2 hr => hn H2 _ ?_⟩
  obtain ⟨dx, p, ws, hI, _⟩ := id hr
  have n4 := a.lt.n4
  have l1 := a.lt.len
  exact ⟨r, dx, _, x, rfl, rfl, hI, r, x, n, A, rfl, hr, a.lt.ln, by omega, by omega, Nat.le_trans hx (Nat.pow_le_pow_right (by decide) hh), a.lt.bd.up hb, ok, fun H' z _ kz hL => ⟨z, rfl, q H' z (k2.trans kz) hL⟩⟩
theorem LatE.quiet (a : LatE K C n N g b σ H0 te A) (hb : b ≤ 200000 := by decide) : LatE K C n 4 (4 * b + 26) (4 * b + 26) σ H0 (tMeth C "quiet" (spQuietL K C) [] E1 te tNil) (quietF n A) := by
  obtain ⟨ok, L, _⟩ := a.lt.quiet hb
  refine ⟨L, fun H1 Q k q => a.run H1 _ k fun H2 r k2 hr => ?_⟩
  obtain ⟨dx, p, ws, hI, _⟩ := id hr
  have n4 := a.lt.n4
  have l1 := a.lt.len
  exact ⟨r, dx, _, rfl, hI, rfl, r, n, A, rfl, hr, by omega, a.lt.ln, by omega, ok, fun H' z kz hL => q H' z (k2.trans kz) hL⟩
theorem LatE.quietBy {q : Nat} (a : LatE K C n N g b σ H0 te A) (hn : ∀ (H : Hp) (Q : VK), Q (.int (q : Nat)) H → tn σ H Q) (hq : 0 < q) (hq2 : q ≤ 2 ^ 5) (hb : b ≤ 5000 := by decide) : LatE K C n 4 5 5 σ H0 (tMeth C "quiet_by" (spQuietBL K C) [] E1 te (tCons tn tNil)) (quietB n A (q : Nat)) := by
  obtain ⟨ok, L, _⟩ := a.lt.quietB hb hq hq2
  refine ⟨L, fun H1 Q k q' => a.run H1 _ k fun H2 r k2 hr => ?_⟩
  obtain ⟨dx, p, ws, hI, _⟩ := id hr
  have n4 := a.lt.n4
  have l1 := a.lt.len
  exact ⟨r, dx, _, rfl, hI, rfl, hn H2 _ ⟨r, n, q, A, rfl, hr, by omega, a.lt.ln, by omega, by omega, ok, fun H' z kz hL => q' H' z (k2.trans kz) hL⟩⟩
/-- an expression comes to a bool -/
structure BoolE (σ : L2.St) (H0 : Hp) (te : TE) (c : Bool) : Prop where
  run : ∀ (H1 : Hp) (Q : VK), Kp [] H0 H1 → (∀ (H2 : Hp), Kp [] H1 H2 → Q (.bl c) H2) → te σ H1 Q
theorem BoolE.up {H1 : Hp} {c : Bool} (a : BoolE σ H0 te c) (k : Kp [] H0 H1) : BoolE σ H1 te c := ⟨fun H2 Q k2 q => a.run H2 Q (k.trans k2) q⟩
theorem BoolE.eqD {c : Bool} (T : LtT K C) (TE : LtE K C) (a : LatE K C n N g b σ H0 te A) (z : LatE K C n M h d σ H0 tf B) (e : c = decide (A = B)) : BoolE σ H0 (tOp (rEqO K C (spEqL K C)) te tf) c := by
  refine ⟨fun H1 Q k q => a.run H1 _ k fun H2 r k2 hr => z.run H2 _ (k.trans k2) fun H3 s k3 hs => ?_⟩
  refine r_eqL T TE (hr.kp k3 (by simp)) (.inl ⟨s, n, B, rfl, hs, ?_⟩) fun H' k' => q H' (k2.trans (k3.trans k'))
  rw [e]
  simp
theorem BoolE.eq (T : LtT K C) (TE : LtE K C) (a : LatE K C n N g b σ H0 te A) (z : LatE K C n M h d σ H0 tf B) (e : A = B) : BoolE σ H0 (tOp (rEqO K C (spEqL K C)) te tf) true := BoolE.eqD T TE a z (decide_eq_true e).symm
theorem BoolE.inn (a : LatE K C n N g b σ H0 te A) (z : LatE K C n M h d σ H0 tf B) (hb : b ≤ 100000 := by decide) (hd : d ≤ 100000 := by decide) : BoolE σ H0 (tMeth C "within" (spWithin K C CO) [] E1 te (tCons tf tNil)) (withB n B A) := by
  refine ⟨fun H1 Q k q => a.run H1 _ k fun H2 r k2 hr => ?_⟩
  obtain ⟨dx, p, ws, hI, _⟩ := id hr
  have n4 := a.lt.n4
  have l1 := a.lt.len
  refine ⟨r, dx, _, rfl, hI, rfl, z.run H2 _ (k.trans k2) fun H3 s k3 hs => ?_⟩
  refine ⟨r, s, n, n, A, B, rfl, hr.kp k3 (by simp), hs, by omega, ?_⟩
  rw [if_pos rfl]
  exact ⟨fun v hv => z.lt.rest hd (a.lt.ln v hv) (a.lt.bd v hv) hb, fun H' k' => q H' (k2.trans (k3.trans k'))⟩
theorem BoolE.within (a : LatE K C n N g b σ H0 te A) (z : LatE K C n M h d σ H0 tf B) (hs : LeS n A B) (hb : b ≤ 100000 := by decide) (hd : d ≤ 100000 := by decide) : BoolE σ H0 (tMeth C "within" (spWithin K C CO) [] E1 te (tCons tf tNil)) true := by
  have q := BoolE.inn (CO := CO) (E1 := E1) a z hb hd
  have e : withB n B A = true := within_all z.lt a.lt hs
  rw [e] at q
  exact q
theorem withB_iff (a : Lt n N g b A) (z : Lt n M h d B) : withB n B A = true ↔ LeS n A B := by
  obtain ⟨_, hz⟩ := z.hnf
  exact within_iff hz a.ln
theorem BoolE.eqB {c e : Bool} (a : BoolE σ H0 te c) (z : BoolE σ H0 tf e) (hce : c = e) : BoolE σ H0 (tOp rEq te tf) true := by
  subst hce
  refine ⟨fun H1 Q k q => a.run H1 _ k fun H2 k2 => z.run H2 _ (k.trans k2) fun H3 k3 => ?_⟩
  refine ⟨by cases c <;> rfl, ?_⟩
  have e : decide (V.bl c = V.bl c) = true := decide_eq_true rfl
  rw [e]
  exact q H3 (k2.trans k3)
/-- expressions come to some True -/
structure BoolsE (σ : L2.St) (H0 : Hp) (ts : TA) (m : Nat) : Prop where
  run : ∀ (H1 : Hp) (Q : List V → Hp → Prop), Kp [] H0 H1 → (∀ (H2 : Hp), Kp [] H1 H2 → Q (List.replicate m (.bl true)) H2) → ts σ H1 Q
theorem BoolsE.nil : BoolsE σ H0 tNil 0 := ⟨fun H1 Q _ q => q H1 Kp.nil⟩
theorem BoolsE.cons {ts : TA} {m : Nat} (a : BoolE σ H0 te true) (z : BoolsE σ H0 ts m) : BoolsE σ H0 (tCons te ts) (m + 1) :=
  ⟨fun H1 Q k q => a.run H1 _ k fun H2 k2 => z.run H2 _ (k.trans k2) fun H3 k3 => q H3 (k2.trans k3)⟩
theorem r_trues {ts : TA} {m : Nat} {Q : VK} (z : BoolsE σ H0 ts m) (hm : m ≤ 100) (q : ∀ (H2 : Hp) (p : Addr), Kp [] H0 H2 → H0 p = none → Trues H2 p m → Q (.ref p) H2) : tLst ts σ H0 Q := by
  refine z.run H0 _ Kp.nil fun H2 k2 => ⟨by rw [List.length_replicate, sizeLine_eq]; omega, fun p hp => ?_⟩
  exact q _ p (k2.new hp) (k2.freeM Ms.nil hp) upd_same
/-- one more is put behind -/
theorem s_true {K' : PySem.W.Frag} {m : Nat} {D : Ends} {p : Addr} (hv : σ[i]? = some (some (.ref p))) (h : Trues H0 p m) (hm : m ≤ 100) (a : BoolE σ H0 te true) (q : ∀ (H2 : Hp), Kp [p] H0 H2 → Trues H2 p (m + 1) → D.nx σ H2) :
    tDrop (tBM K' "list" rAppend (tVar i) (tCons te tNil)) D σ H0 := by
  have h : H0 p = some (.lst (List.replicate m (.bl true))) := h
  refine r_drop (r_BM (r_var hv (r_tyL h (r_cons (a.run H0 _ Kp.nil fun H2 k2 => r_nil ?_)))))
  have h2 := k2.get h (by simp)
  refine r_append h2 (q _ ?_ ?_) (by rw [List.length_replicate, sizeLine_eq]; omega)
  · exact (k2.subM (Ms.cons h trivial Ms.nil) (by simp)).trans (kpW h2)
  · show upd H2 p _ p = _
    rw [upd_same, List.replicate_succ']
theorem r_catT {Q : VK} {m l : Nat} {p s : Addr} (h : Trues H0 p m) (g : Trues H0 s l) (hm : m + l ≤ 100) (q : ∀ (H2 : Hp) (p : Addr), Kp [] H0 H2 → H0 p = none → Trues H2 p (m + l) → Q (.ref p) H2) : rCat (.ref p) (.ref s) H0 Q := by
  refine r_cat h g (by rw [List.length_replicate, List.length_replicate, sizeLine_eq]; omega) fun z hz => q _ z (Kp.nil.new hz) hz ?_
  show upd H0 z _ z = _
  rw [upd_same, List.replicate_append_replicate]
theorem Trues.kp {H1 : Hp} {p : Addr} {m : Nat} {M : List Addr} (h : Trues H0 p m) (k : Kp M H0 H1) (hM : p ∉ M := by simp) : Trues H1 p m := k.get (show H0 p = _ from h) hM
end
/-- a number of each row -/
theorem lc_colT {K : PySem.W.Frag} {H : Hp} {us : List V} {rs : List Rw} {te : TE} {ws : List Nat} {σ : L2.St} {Q : VK} {j : Nat} {a : Addr} (g : Rw → Int) (h : SqT K H a us) (hr : RwV K H us rs) (hz : rs.length ≤ 1000)
    (he : ∀ (b : Addr) (r : Rw) (H' : Hp) (R : VK), r ∈ rs → SqT K H' b (r.map V.int) → R (.int (g r)) H' → te ((wipe σ ws).set j (some (.ref b))) H' R) (hw : ∀ v : V, wipe ((wipe σ ws).set j (some v)) ws = wipe σ ws)
    (k : ∀ (q : Addr) (H' : Hp), H q = none → Kp [] H H' → H' q = some (.lst ((rs.map g).map V.int)) → Q (.ref q) H') : LcT K (gName j) tYes te ws σ Q (.ref a) H := by
  refine r_LcT h fun q hq => ⟨fun i H' => Kp [] H H' ∧ H' q = some (.lst (((rs.take i).map g).map V.int)), ⟨Kp.nil.new hq, upd_same⟩, fun i H' ⟨z, _⟩ => sqT_kp z h, ?_, ?_⟩
  · rintro i x H' hx ⟨k1, hq1⟩
    obtain ⟨r, hri, hxr⟩ := hr.at' hx
    obtain ⟨b, rfl, hb⟩ := hxr.kp k1
    have hi := (List.getElem?_eq_some_iff.mp hri).1
    have htk : rs.take (i + 1) = rs.take i ++ [r] := by rw [List.take_add_one, hri]; rfl
    refine r_name (r_LcTurn (hw _) (r_yes (iteT (he b r _ _ (List.mem_of_getElem? hri) hb (r_LcEnd hq1 ?_ ⟨k1.own hq, ?_⟩)))))
    · rw [List.length_map, List.length_map, List.length_take, sizeLine_eq]
      omega
    · rw [upd_same, htk, List.map_append, List.map_append]
      rfl
  · rintro H' ⟨k1, hq1⟩
    rw [hr.len, List.take_length] at hq1
    exact k q H' hq k1 hq1
/-- a short lattice of few small vectors -/
def LatV (K : PySem.W.Frag) (C : Addr) (H : Hp) (m : Nat) (v : V) : Prop := ∃ (r : Addr) (A : List Rw), v = .ref r ∧ LtV K C H r m A ∧ L0 m A
theorem LatV.kp {K : PySem.W.Frag} {C : Addr} {H H1 : Hp} {m : Nat} {v : V} (h : LatV K C H m v) (k : Kp [] H H1) : LatV K C H1 m v := by
  obtain ⟨r, A, e, hL, l⟩ := h
  exact ⟨r, A, e, hL.kp k (by simp), l⟩
theorem LtV.ne {K : PySem.W.Frag} {C : Addr} {H : Hp} {n : Nat} {r p : Addr} {A : List Rw} {xs : List V} (h : LtV K C H r n A) (hp : H p = some (.lst xs)) : r ≠ p := fun e => by
  obtain ⟨_, _, _, hI, _⟩ := h
  rw [e, hp] at hI
  cases hI
theorem LatV.kp1 {K : PySem.W.Frag} {C : Addr} {H H1 : Hp} {m : Nat} {v : V} {p : Addr} {xs : List V} (h : LatV K C H m v) (k : Kp [p] H H1) (hp : H p = some (.lst xs)) : LatV K C H1 m v := by
  obtain ⟨r, A, e, hL, l⟩ := h
  exact ⟨r, A, e, hL.kp k (by simp [hL.ne hp]), l⟩
theorem LtV.deck {K : PySem.W.Frag} {C : Addr} {H : Hp} {n : Nat} {r d c : Addr} {A : List Rw} {k : Int} (h : LtV K C H r n A) (D : Deck H d c k) : r ∉ [d, c] := by
  obtain ⟨cs, hc, _⟩ := D.hc
  have h1 := h.ne D.hd
  have h2 := h.ne hc
  simp [h1, h2]
end Aw
namespace Aw
open PySem L2
def topS (i : Nat) : Stmt := PySem.Challenge.pw_anewread_k45_whole_lattices_obey_laws.main.body.getD i (.Pass ⟨0, 0, 0, 0⟩)
local macro_rules | `(tactic| walk_at "isa") => `(tactic| (focus (simp [isaD, tyD]; done)))
local macro_rules | `(tactic| walk_at "isa") => `(tactic| assumption)
local macro_rules | `(tactic| walk_at "hd") => `(tactic| assumption)
local macro_rules | `(tactic| walk_at "hd") => `(tactic| exact Dt.dp (by assumption))
local macro_rules | `(tactic| walk_at "hd") => `(tactic| exact Dp.non)
local macro_rules | `(tactic| walk_at "hd") => `(tactic| exact Dp.bl _)
local macro_rules | `(tactic| walk_at "hd") => `(tactic| exact Dp.str _)
local macro_rules | `(tactic| walk_at "hd") => `(tactic| exact Dp.int _)
local macro_rules | `(tactic| walk_at "ne") => `(tactic| exact Ne.symm (ne_of_none (by assumption) (by assumption)))
local macro_rules | `(tactic| walk_at "ne") => `(tactic| exact ne_of_none (by assumption) (by assumption))
local macro_rules | `(tactic| walk_at "ne") => `(tactic| exact Ne.symm (by assumption))
local macro_rules | `(tactic| walk_at "ne") => `(tactic| assumption)
local macro_rules | `(tactic| walk_at "hp") => `(tactic| ((refine Eq.trans (upd_ne ?_) ?_); (walk_at "ne"); (walk_at "hp")))
local macro_rules | `(tactic| walk_at "hp") => `(tactic| exact upd_same)
local macro_rules | `(tactic| walk_at "hp") => `(tactic| assumption)
local macro_rules | `(tactic| walk_at "hs") => `(tactic| ((with_reducible apply SqT.of); (walk_at "hp")))
local macro_rules | `(tactic| walk_at "hs") => `(tactic| ((with_reducible apply SqL.of); (walk_at "hp")))
local macro_rules | `(tactic| walk_at "hs") => `(tactic| assumption)
local macro_rules | `(tactic| walk_at "hw") => `(tactic| exact Dw.non)
local macro_rules | `(tactic| walk_at "hw") => `(tactic| exact Dw.bl _)
local macro_rules | `(tactic| walk_at "hw") => `(tactic| exact Dw.str _)
local macro_rules | `(tactic| walk_at "hw") => `(tactic| exact Dw.int _)
local macro_rules | `(tactic| walk_at "hw") => `(tactic| assumption)
local macro_rules | `(tactic| walk_at "cd") => `(tactic| repeat (first | with_reducible exact cd_str | with_reducible exact cd_int | with_reducible exact cd_non | with_reducible exact cds_nil | with_reducible refine cds_cons ?_ ?_ | with_reducible refine cd_tup ?_ (by simp) | ((with_reducible apply cd_var); (exact rfl); assumption)))
local macro_rules | `(tactic| walk_at "cw") => `(tactic| repeat (first | with_reducible exact cw_str | with_reducible exact cw_int | with_reducible exact cw_bl | with_reducible exact cw_non | with_reducible exact cw_neg | with_reducible exact cws_nil | with_reducible exact cw_pow (c_pow (by decide) (by decide) (by decide)) | with_reducible exact cw_d0 (by assumption) | with_reducible exact cw_d1 (by assumption) | with_reducible refine cws_cons ?_ ?_ | with_reducible refine cw_tup ?_ (by simp) | with_reducible refine cw_lst (by assumption) ?_ (by simp) | ((with_reducible apply cw_var); (exact rfl); assumption)))
local macro_rules | `(tactic| walk_at "sc") => `(tactic| first
  | omega | decide
  | exact c_pow (by first | decide | omega) (by decide) (by decide)
  | exact c_div (by omega) (by omega)
  | exact c_mulL (by first | decide | omega) (by first | decide | omega)
  | exact c_mulR (by first | decide | omega) (by first | decide | omega))
local macro_rules | `(tactic| walk_at "sl") => `(tactic| ((try simp only [Str.length_append]); rw [sizeLine_eq]; omega))
local macro_rules | `(tactic| walk_at "sz") => `(tactic| ((try simp only [sizeLine_eq, List.length_append, List.length_map, List.length_cons, List.length_nil, Str.length_append]); omega))
local macro_rules | `(tactic| walk_at "rds") => `(tactic| repeat (walk_at "rd1"))
local macro_rules | `(tactic| walk_at "rd") => `(tactic| repeat (walk_at "rdA"))
local macro_rules | `(tactic| walk_at "rdj") => `(tactic| repeat (walk_at "rdB"))
local macro_rules | `(tactic| walk_at "rd1") => `(tactic| ((with_reducible apply r_wF); assumption))
local macro_rules | `(tactic| walk_at "rd1") => `(tactic| ((with_reducible apply r_wR); assumption))
local macro_rules | `(tactic| walk_at "rd1") => `(tactic| ((with_reducible apply r_wS); assumption))
local macro_rules | `(tactic| walk_at "rd1") => `(tactic| ((with_reducible apply r_wN); assumption))
local macro_rules | `(tactic| walk_at "rd1") => `(tactic| with_reducible refine r_pnil ?_)
local macro_rules | `(tactic| walk_at "rd1") => `(tactic| with_reducible refine r_pcons ?_)
local macro_rules | `(tactic| walk_at "rd1") => `(tactic| (with_reducible refine r_LcTurn rfl ?_))
local macro_rules | `(tactic| walk_at "rd1") => `(tactic| ((with_reducible apply r_append); (walk_at "hp")))
local macro_rules | `(tactic| walk_at "rd1") => `(tactic| ((with_reducible apply r_isF); (walk_at "hd"); (walk_at "isa"); decide))
local macro_rules | `(tactic| walk_at "rd1") => `(tactic| ((with_reducible apply r_isT); (walk_at "hd"); (walk_at "isa"); decide))
local macro_rules | `(tactic| walk_at "rd1") => `(tactic| ((with_reducible apply r_lenT); (walk_at "hs")))
local macro_rules | `(tactic| walk_at "rd1") => `(tactic| with_reducible refine r_strS ?_)
local macro_rules | `(tactic| walk_at "rd1") => `(tactic| with_reducible refine r_strI ?_ ?_)
local macro_rules | `(tactic| walk_at "rd1") => `(tactic| with_reducible refine r_abs ?_)
local macro_rules | `(tactic| walk_at "rd1") => `(tactic| with_reducible refine r_intB ?_)
local macro_rules | `(tactic| walk_at "rd1") => `(tactic| ((with_reducible apply r_lenL); (walk_at "hs")))
local macro_rules | `(tactic| walk_at "rd1") => `(tactic| (with_reducible refine r_three ?_))
local macro_rules | `(tactic| walk_at "rd1") => `(tactic| ((with_reducible apply r_neNT); (walk_at "hs"); (walk_at "hs")))
local macro_rules | `(tactic| walk_at "rd1") => `(tactic| ((with_reducible apply r_neNL); (walk_at "hs"); (walk_at "hs")))
local macro_rules | `(tactic| walk_at "rd1") => `(tactic| ((with_reducible apply r_eqNT); (walk_at "hs"); (walk_at "hs")))
local macro_rules | `(tactic| walk_at "rd1") => `(tactic| ((with_reducible apply r_eqNL); (walk_at "hs"); (walk_at "hs")))
local macro_rules | `(tactic| walk_at "rd1") => `(tactic| with_reducible refine r_notinC ?_)
local macro_rules | `(tactic| walk_at "rd1") => `(tactic| with_reducible refine r_inC ?_)
local macro_rules | `(tactic| walk_at "rd1") => `(tactic| ((with_reducible apply r_ixD); assumption))
local macro_rules | `(tactic| walk_at "rd1") => `(tactic| ((with_reducible apply r_ixT); (walk_at "hs"); (first | exact rfl | assumption)))
local macro_rules | `(tactic| walk_at "rd1") => `(tactic| ((with_reducible apply r_ne); exact rfl))
local macro_rules | `(tactic| walk_at "rd1") => `(tactic| ((with_reducible apply r_neT); (decide +kernel); exact rfl))
local macro_rules | `(tactic| walk_at "rd1") => `(tactic| with_reducible refine r_yes ?_)
local macro_rules | `(tactic| walk_at "rd1") => `(tactic| with_reducible refine r_or ?_)
local macro_rules | `(tactic| walk_at "rd1") => `(tactic| ((with_reducible apply r_DG2i); assumption))
local macro_rules | `(tactic| walk_at "rd1") => `(tactic| ((with_reducible apply r_DG1); assumption))
local macro_rules | `(tactic| walk_at "rd1") => `(tactic| ((with_reducible apply r_DG1a); assumption))
local macro_rules | `(tactic| walk_at "rd1") => `(tactic| ((with_reducible apply r_DIn); assumption))
local macro_rules | `(tactic| walk_at "rd1") => `(tactic| ((with_reducible apply r_DG2); (walk_at "hp")))
local macro_rules | `(tactic| walk_at "rd1") => `(tactic| ((with_reducible apply r_DG2a); (walk_at "hp")))
local macro_rules | `(tactic| walk_at "rd1") => `(tactic| with_reducible refine r_forK ?_)
local macro_rules | `(tactic| walk_at "rd1") => `(tactic| with_reducible refine r_sfld ?_)
local macro_rules | `(tactic| walk_at "rd1") => `(tactic| with_reducible refine r_dput ?_)
local macro_rules | `(tactic| walk_at "rd1") => `(tactic| with_reducible refine r_forR2 ?_)
local macro_rules | `(tactic| walk_at "rd1") => `(tactic| with_reducible refine r_forL ?_)
local macro_rules | `(tactic| walk_at "rd1") => `(tactic| with_reducible refine r_forT ?_)
local macro_rules | `(tactic| walk_at "rd1") => `(tactic| (with_reducible refine r_par3 ?_))
local macro_rules | `(tactic| walk_at "rd1") => `(tactic| with_reducible refine r_retN ?_)
local macro_rules | `(tactic| walk_at "rd1") => `(tactic| with_reducible refine r_listItems ?_)
local macro_rules | `(tactic| walk_at "rd1") => `(tactic| with_reducible refine r_listVals ?_)
local macro_rules | `(tactic| walk_at "rd1") => `(tactic| with_reducible refine r_lcV ?_)
local macro_rules | `(tactic| walk_at "rd1") => `(tactic| with_reducible refine r_dpop1 ?_)
local macro_rules | `(tactic| walk_at "rd1") => `(tactic| with_reducible refine r_dget1 ?_)
local macro_rules | `(tactic| walk_at "rd1") => `(tactic| with_reducible refine r_din ?_)
local macro_rules | `(tactic| walk_at "rd1") => `(tactic| with_reducible refine r_dget ?_)
local macro_rules | `(tactic| walk_at "rd1") => `(tactic| with_reducible refine r_lcS ?_)
local macro_rules | `(tactic| walk_at "rd1") => `(tactic| with_reducible refine r_lcR2 ?_)
local macro_rules | `(tactic| walk_at "rd1") => `(tactic| with_reducible refine r_dget2 ?_)
local macro_rules | `(tactic| walk_at "rd1") => `(tactic| with_reducible refine r_lcR ?_)
local macro_rules | `(tactic| walk_at "rd1") => `(tactic| with_reducible refine r_lcL ?_)
local macro_rules | `(tactic| walk_at "rd1") => `(tactic| with_reducible refine r_chain ?_)
local macro_rules | `(tactic| walk_at "rd1") => `(tactic| with_reducible refine r_notV ?_)
local macro_rules | `(tactic| walk_at "rd1") => `(tactic| with_reducible refine r_orV ?_)
local macro_rules | `(tactic| walk_at "rd1") => `(tactic| with_reducible refine r_int ?_)
local macro_rules | `(tactic| walk_at "rd1") => `(tactic| ((with_reducible apply r_extend); (walk_at "hp"); (walk_at "hp")))
local macro_rules | `(tactic| walk_at "rd1") => `(tactic| ((with_reducible apply r_is2F); (walk_at "hw"); (walk_at "isa"); decide))
local macro_rules | `(tactic| walk_at "rd1") => `(tactic| ((with_reducible apply r_is2T); (walk_at "hw"); (walk_at "isa"); decide))
local macro_rules | `(tactic| walk_at "rd1") => `(tactic| with_reducible refine r_ipI ?_)
local macro_rules | `(tactic| walk_at "rd1") => `(tactic| with_reducible refine r_I ?_ ?_)
local macro_rules | `(tactic| walk_at "rd1") => `(tactic| with_reducible refine r_addS ?_ ?_)
local macro_rules | `(tactic| walk_at "rd1") => `(tactic| ((with_reducible apply r_eq); exact rfl))
local macro_rules | `(tactic| walk_at "rd1") => `(tactic| with_reducible refine r_and ?_)
local macro_rules | `(tactic| walk_at "rd1") => `(tactic| with_reducible refine r_forE ?_)
local macro_rules | `(tactic| walk_at "rd1") => `(tactic| ((with_reducible apply r_aug); exact rfl))
local macro_rules | `(tactic| walk_at "rd1") => `(tactic| with_reducible refine r_lcT ?_)
local macro_rules | `(tactic| walk_at "rd1") => `(tactic| with_reducible refine r_BM0 ?_)
local macro_rules | `(tactic| walk_at "rd1") => `(tactic| with_reducible refine r_BM ?_)
local macro_rules | `(tactic| walk_at "rd1") => `(tactic| ((with_reducible apply r_setL); (walk_at "hp"); (first | exact rfl | assumption)))
local macro_rules | `(tactic| walk_at "rd1") => `(tactic| with_reducible refine r_U ?_)
local macro_rules | `(tactic| walk_at "rd1") => `(tactic| ((with_reducible apply r_tyL); (walk_at "hp")))
local macro_rules | `(tactic| walk_at "rd1") => `(tactic| with_reducible refine r_sub ?_)
local macro_rules | `(tactic| walk_at "rd1") => `(tactic| with_reducible refine r_forR ?_)
local macro_rules | `(tactic| walk_at "rd1") => `(tactic| with_reducible refine r_drop ?_)
local macro_rules | `(tactic| walk_at "rd1") => `(tactic| with_reducible refine r_revL ?_)
local macro_rules | `(tactic| walk_at "rd1") => `(tactic| with_reducible refine r_andV ?_)
local macro_rules | `(tactic| walk_at "rd1") => `(tactic| with_reducible refine r_un ?_)
local macro_rules | `(tactic| walk_at "rd1") => `(tactic| with_reducible refine r_lenS ?_ ?_)
local macro_rules | `(tactic| walk_at "rd1") => `(tactic| ((with_reducible apply r_neF); (with_reducible rfl); exact rfl))
local macro_rules | `(tactic| walk_at "rd1") => `(tactic| ((with_reducible apply r_Fld); assumption; assumption; assumption; exact rfl))
local macro_rules | `(tactic| walk_at "rd1") => `(tactic| with_reducible refine r_fld ?_)
local macro_rules | `(tactic| walk_at "rd1") => `(tactic| with_reducible refine ifnF ?_)
local macro_rules | `(tactic| walk_at "rd1") => `(tactic| ((with_reducible apply r_eqF); (decide +kernel); exact rfl))
local macro_rules | `(tactic| walk_at "rd1") => `(tactic| ((with_reducible apply r_orP); (focus (intro _ hR_; (walk_at "rd"); exact hR_)); (focus (intro _ hR_; (walk_at "rd"); exact hR_))))
local macro_rules | `(tactic| walk_at "rd1") => `(tactic| ((with_reducible apply r_Meth); assumption; exact rfl))
local macro_rules | `(tactic| walk_at "rd1") => `(tactic| (with_reducible refine r_par ?_))
local macro_rules | `(tactic| walk_at "rd1") => `(tactic| with_reducible refine r_meth ?_)
local macro_rules | `(tactic| walk_at "rd1") => `(tactic| with_reducible refine ifnT ?_)
local macro_rules | `(tactic| walk_at "rd1") => `(tactic| ((with_reducible apply r_andP); (focus (intro _ hR_; (walk_at "rd"); exact hR_)); (focus (intro _ hR_; (walk_at "rd"); exact hR_))))
local macro_rules | `(tactic| walk_at "rd1") => `(tactic| (with_reducible refine r_two ?_))
local macro_rules | `(tactic| walk_at "rd1") => `(tactic| with_reducible refine r_isS ?_)
local macro_rules | `(tactic| walk_at "rd1") => `(tactic| with_reducible refine r_gnil ?_)
local macro_rules | `(tactic| walk_at "rd1") => `(tactic| ((with_reducible apply r_gtup); (walk_at "hs"); exact rfl))
local macro_rules | `(tactic| walk_at "rd1") => `(tactic| with_reducible refine r_not ?_)
local macro_rules | `(tactic| walk_at "rd1") => `(tactic| with_reducible refine r_M1 ?_)
local macro_rules | `(tactic| walk_at "rd1") => `(tactic| with_reducible refine ifF ?_)
local macro_rules | `(tactic| walk_at "rd1") => `(tactic| with_reducible refine r_B ?_)
local macro_rules | `(tactic| walk_at "rd1") => `(tactic| with_reducible refine r_CB ?_)
local macro_rules | `(tactic| walk_at "rd1") => `(tactic| with_reducible refine ifT ?_)
local macro_rules | `(tactic| walk_at "rd1") => `(tactic| (with_reducible refine r_tup ?_))
local macro_rules | `(tactic| walk_at "rd1") => `(tactic| with_reducible refine r_noPart ?_)
local macro_rules | `(tactic| walk_at "rd1") => `(tactic| with_reducible refine r_sl ?_)
local macro_rules | `(tactic| walk_at "rd1") => `(tactic| with_reducible refine r_gcons ?_)
local macro_rules | `(tactic| walk_at "rd1") => `(tactic| with_reducible refine r_part ?_)
local macro_rules | `(tactic| walk_at "rd1") => `(tactic| ((with_reducible apply r_ixL); (walk_at "hs"); (first | exact rfl | assumption)))
local macro_rules | `(tactic| walk_at "rd1") => `(tactic| with_reducible refine r_partI ?_)
local macro_rules | `(tactic| walk_at "rd1") => `(tactic| with_reducible refine r_asg ?_)
local macro_rules | `(tactic| walk_at "rd1") => `(tactic| (with_reducible refine r_lst ?_))
local macro_rules | `(tactic| walk_at "rd1") => `(tactic| ((with_reducible apply r_eqT); (with_reducible rfl); exact rfl))
local macro_rules | `(tactic| walk_at "rd1") => `(tactic| with_reducible refine r_I0 ?_)
local macro_rules | `(tactic| walk_at "rd1") => `(tactic| with_reducible refine r_ret ?_)
local macro_rules | `(tactic| walk_at "rd1") => `(tactic| with_reducible refine r_ifS ?_)
local macro_rules | `(tactic| walk_at "rd1") => `(tactic| with_reducible refine r_next ?_)
local macro_rules | `(tactic| walk_at "rd1") => `(tactic| with_reducible refine r_name ?_)
local macro_rules | `(tactic| walk_at "rd1") => `(tactic| with_reducible refine r_call ?_)
local macro_rules | `(tactic| walk_at "rd1") => `(tactic| with_reducible refine r_test ?_)
local macro_rules | `(tactic| walk_at "rd1") => `(tactic| with_reducible refine r_bl ?_)
local macro_rules | `(tactic| walk_at "rd1") => `(tactic| with_reducible refine r_nil ?_)
local macro_rules | `(tactic| walk_at "rd1") => `(tactic| with_reducible refine r_op ?_)
local macro_rules | `(tactic| walk_at "rd1") => `(tactic| with_reducible refine r_C ?_)
local macro_rules | `(tactic| walk_at "rd1") => `(tactic| ((with_reducible apply r_var); exact rfl))
local macro_rules | `(tactic| walk_at "rd1") => `(tactic| with_reducible refine r_cons ?_)
local macro_rules | `(tactic| walk_at "rdB") => `(tactic| walk_at "rd1")
local macro_rules | `(tactic| walk_at "rdB") => `(tactic| with_reducible refine r_seq ?_)
local macro_rules | `(tactic| walk_at "rdA") => `(tactic| with_reducible refine r_if ?_)
local macro_rules | `(tactic| walk_at "rdA") => `(tactic| walk_at "rd1")
local macro_rules | `(tactic| walk_at "rdA") => `(tactic| with_reducible refine r_seq ?_)
section
variable {P : Program} {w : World} {K : PySem.W.Frag} {mg : Str → Option Value} {base : Heap}
abbrev sis_integer : Stmt := topS 8
abbrev Nis_integer : List Str := ["value"]
abbrev Pis_integer : List Str := ["value"]
theorem scis_integer : FnScope Nis_integer Pis_integer (defScope sis_integer) :=
  ⟨rfl, rfl, rfl, by decide +kernel, rfl, by decide +kernel, by decide +kernel⟩
theorem ok_is_integer (D : Df K mg "is_integer" sis_integer Pis_integer) (B : Blt mg) : Has P w K mg base CX0 "is_integer" Pis_integer 1 (spIsI K) := by
  refine D.has scis_integer (fun vs H Q E h => ?_) (fun f cdv A outer s H vs Q E hr h => ?_)
  · obtain ⟨v, d, rfl, _⟩ := h
    rfl
  obtain ⟨v, d, rfl, hd, k⟩ := h
  refine ⟨_, (pss_one (ps_ret (pe_and (pe_callB c_is2 (by rfl) B.isinstance (by decide +kernel) (pa_cons (pv 0) (pa_cons (pe_ty (T := "int") (by rfl) B.int (by decide +kernel)) pa_nil))) (pe_one (pe_not (pe_callB c_is2 (by rfl) B.isinstance (by decide +kernel) (pa_cons (pv 0) (pa_cons (pe_ty (T := "bool") (by rfl) B.bool (by decide +kernel)) pa_nil)))))))), ?_⟩
  cases d with
  | _ => walk_at "rd"; exact k
abbrev sis_vector : Stmt := topS 9
abbrev Nis_vector : List Str := ["value", "length", "item"]
abbrev Pis_vector : List Str := ["value", "length"]
theorem scis_vector : FnScope Nis_vector Pis_vector (defScope sis_vector) :=
  ⟨rfl, rfl, rfl, by decide +kernel, rfl, by decide +kernel, by decide +kernel⟩
theorem ok_is_vector (D : Df K mg "is_vector" sis_vector Pis_vector) (B : Blt mg) (Gis_integer : Has P w K mg base CX0 "is_integer" ["value"] 1 (spIsI K)) : Has P w K mg base CX0 "is_vector" Pis_vector 2 (spIsVc K) := by
  refine D.has scis_vector (fun vs H Q E h => ?_) (fun f cdv A outer s H vs Q E hr h => ?_)
  · obtain ⟨v, d, n, rfl, _⟩ := h
    rfl
  obtain ⟨v, d, n, rfl, hd, hz, k⟩ := h
  refine ⟨_, (pss_one (ps_ret (pe_and (pe_callB c_is2 (by rfl) B.isinstance (by decide +kernel) (pa_cons (pv 0) (pa_cons (pe_ty (T := "tuple") (by rfl) B.tuple (by decide +kernel)) pa_nil))) (pe_and (pe_cmpR op_eq (pe_callB c_len (by rfl) B.len (by decide +kernel) (pa_cons (pv 0) pa_nil)) (pv 1) (nomark _)) (pe_one (pe_callB (cr_allL (K := K) rfl rfl) (by rfl) B.all (by decide +kernel) (pa_cons (pe_lc (own := [("item", 2)]) (g := gName 2) (by rfl) scis_vector.nd (pi_tup (pv 0)) (blkOk_by (own := [("item", 2)]) (N := Nis_vector) (sc := defScope sis_vector) (by decide +kernel)) (fun _ _ _ _ _ => (pg_name (i := 2) scis_vector.nd rfl (Or.inl rfl))) (fun _ _ _ _ _ => pts_nil) (fun _ _ _ _ _ => (pe_f Gis_integer (hr.mono (by omega)) (by rfl) pass0 (pa_cons (pv 2) pa_nil)))) pa_nil))))))), ?_⟩
  cases d with
  | tuple ds =>
    obtain ⟨a, xs, rfl, hT, hL⟩ := hd.items
    have hxl := hL.len
    have hdl := dszs_len ds
    rw [dsz] at hz
    walk_at "rd"
    have e0 : decide (V.int (xs.length : Nat) = V.int n) = decide (((ds.length : Nat) : Int) = n) := by
      rw [hxl]
      exact decide_eq_decide.mpr ⟨fun e => by injection e, fun e => by rw [e]⟩
    rw [e0]
    refine ifd (fun c => ?_) (fun c => ?_)
    · walk_at "rd"
      refine r_LcT hT fun q hq => ⟨fun i H' => Kp [] H H' ∧ H' q = some (.lst (((ds.take i).map isI).map V.bl)), ⟨Kp.nil.new hq, upd_same⟩, fun i H' ⟨z, _⟩ => sqT_kp z hT, ?_, ?_⟩
      · rintro i x H1 hx ⟨k1, hq1⟩
        have hil : i < xs.length := (List.getElem?_eq_some_iff.mp hx).1
        obtain ⟨y, hy⟩ : ∃ y, ds[i]? = some y := ⟨_, List.getElem?_eq_getElem (by omega)⟩
        have hxy := (hL.all i x y hx hy).kp0 k1
        have htk : ds.take (i + 1) = ds.take i ++ [y] := by rw [List.take_add_one, hy]; rfl
        walk_at "rd"
        refine ⟨x, y, rfl, hxy, ?_⟩
        refine r_LcEnd hq1 (by rw [List.length_map, List.length_map, List.length_take, sizeLine_eq]; omega) ⟨k1.own hq, ?_⟩
        rw [upd_same, htk, List.map_append, List.map_append]
        rfl
      · rintro H1 ⟨k1, hq1⟩
        rw [hxl, List.take_length] at hq1
        walk_at "rd"
        refine ⟨q, ds.map isI, rfl, SqL.of hq1, ?_⟩
        have e : isVcD (.tuple ds) n = (ds.map isI).all id := by
          unfold isVcD
          dsimp only
          rw [decide_eq_true c, Bool.true_and, List.all_map]
          rfl
        rw [← e]
        exact k _ k1
    · have e : isVcD (.tuple ds) n = false := by
        unfold isVcD
        dsimp only
        rw [decide_eq_false c, Bool.false_and]
      have q := k H Kp.nil
      rw [e] at q
      exact q
  | _ => walk_at "rd"; exact k H Kp.nil
abbrev svector_plus : Stmt := topS 10
abbrev Nvector_plus : List Str := ["one", "other", "times", "item", "own"]
abbrev Pvector_plus : List Str := ["one", "other", "times"]
theorem scvector_plus : FnScope Nvector_plus Pvector_plus (defScope svector_plus) :=
  ⟨rfl, rfl, rfl, by decide +kernel, rfl, by decide +kernel, by decide +kernel⟩
theorem ok_vector_plus (D : Df K mg "vector_plus" svector_plus Pvector_plus) (B : Blt mg) : Has P w K mg base CX0 "vector_plus" Pvector_plus 1 (spVplus K) := by
  refine D.has scvector_plus (fun vs H Q E h => ?_) (fun f cdv A outer s H vs Q E hr h => ?_)
  · obtain ⟨v, u, r, s, t, rfl, _⟩ := h
    rfl
  obtain ⟨v, u, r, s1, t, rfl, ⟨a, rfl, ha⟩, ⟨b, rfl, hb⟩, hl, hm, k⟩ := h
  refine ⟨_, (pss_one (ps_ret (pe_callTy c_tup (by rfl) B.tuple (by decide +kernel) (pa_cons (pe_lc (own := [("item", 3), ("own", 4)]) (g := gTup K 2 (gCons (gName 3) (gCons (gName 4) (gNil)))) (by rfl) scvector_plus.nd (RZ.pi_zipA (by rfl) B.zip (pa_cons (pv 0) (pa_cons (pv 1) pa_nil))) (blkOk_by (own := [("item", 3), ("own", 4)]) (N := Nvector_plus) (sc := defScope svector_plus) (by decide +kernel)) (fun _ _ _ _ _ => (pg_tupK (K := K) rfl rfl (pgs_cons (pg_name (i := 3) scvector_plus.nd rfl (Or.inl rfl)) (pgs_cons (pg_name (i := 4) scvector_plus.nd rfl (Or.inl rfl)) pgs_nil)))) (fun _ _ _ _ _ => pts_nil) (fun _ _ _ _ _ => (pe_op op_add (pv 3) (pe_op op_mulV (pv 2) (pv 4))))) pa_nil)))), ?_⟩
  walk_at "rd"
  refine r_lcZip ?_
  walk_at "rd"
  refine r_LcZipM ha hb fun p hp => ⟨fun i H' => Kp [] H H' ∧ H' p = some (.lst (((vplus r s1 t).take i).map V.int)), ⟨Kp.nil.new hp, upd_same⟩, fun i H' ⟨z, _⟩ => ⟨sqT_kp z ha, sqT_kp z hb⟩, ?_, ?_⟩
  · rintro i x y T H1 hx hy ⟨k1, hp1⟩ hT
    rw [List.getElem?_map] at hx hy
    obtain ⟨x, hx1, rfl⟩ := Option.map_eq_some_iff.mp hx
    obtain ⟨y, hy1, rfl⟩ := Option.map_eq_some_iff.mp hy
    have hm1 := hm y (List.mem_of_getElem? hy1)
    have hv : (vplus r s1 t)[i]? = some (x + t * y) := by
      unfold vplus
      rw [List.getElem?_zipWith, hx1, hy1]
    have htk : (vplus r s1 t).take (i + 1) = (vplus r s1 t).take i ++ [x + t * y] := by rw [List.take_add_one, hv]; rfl
    have kT : Kp [] H1 (upd H1 T (.tup [.int x, .int y])) := Kp.nil.new hT
    have hT1 : SqT K (upd H1 T (.tup [.int x, .int y])) T [.int x, .int y] := SqT.of upd_same
    have hp2 := kT.get hp1 (by simp)
    have k2 := k1.trans kT
    have hil : i < r.length := (List.getElem?_eq_some_iff.mp hx1).1
    generalize upd H1 T (.tup [.int x, .int y]) = H2 at hT1 hp2 k2 ⊢
    walk_at "rd"
    refine r_LcEnd hp2 (by rw [List.length_map, List.length_take, sizeLine_eq]; omega) ⟨k2.own hp, ?_⟩
    · rw [upd_same, htk, List.map_append]
      rfl
    · exact hm1
  · rintro H1 ⟨k1, hp1⟩
    have e : (vplus r s1 t).take (min (r.map V.int).length (s1.map V.int).length) = vplus r s1 t := by
      rw [List.length_map, List.length_map]
      refine List.take_of_length_le ?_
      unfold vplus
      rw [List.length_zipWith]
      exact Nat.le_refl _
    rw [e] at hp1
    walk_at "rd"
    refine r_tupL (SqL.of hp1) fun c hc => ?_
    exact k _ _ (k1.new hc) ⟨c, rfl, SqT.of upd_same⟩
abbrev stimes_vector : Stmt := topS 11
abbrev Ntimes_vector : List Str := ["vector", "times", "item"]
abbrev Ptimes_vector : List Str := ["vector", "times"]
theorem sctimes_vector : FnScope Ntimes_vector Ptimes_vector (defScope stimes_vector) :=
  ⟨rfl, rfl, rfl, by decide +kernel, rfl, by decide +kernel, by decide +kernel⟩
theorem ok_times_vector (D : Df K mg "times_vector" stimes_vector Ptimes_vector) (B : Blt mg) : Has P w K mg base CX0 "times_vector" Ptimes_vector 1 (spTvec K) := by
  refine D.has sctimes_vector (fun vs H Q E h => ?_) (fun f cdv A outer s H vs Q E hr h => ?_)
  · obtain ⟨v, r, t, rfl, _⟩ := h
    rfl
  obtain ⟨v, r, t, rfl, ⟨a, rfl, ha⟩, hl, hm, k⟩ := h
  refine ⟨_, (pss_one (ps_ret (pe_callTy c_tup (by rfl) B.tuple (by decide +kernel) (pa_cons (pe_lc (own := [("item", 2)]) (g := gName 2) (by rfl) sctimes_vector.nd (pi_tup (pv 0)) (blkOk_by (own := [("item", 2)]) (N := Ntimes_vector) (sc := defScope stimes_vector) (by decide +kernel)) (fun _ _ _ _ _ => (pg_name (i := 2) sctimes_vector.nd rfl (Or.inl rfl))) (fun _ _ _ _ _ => pts_nil) (fun _ _ _ _ _ => (pe_op op_mulV (pv 1) (pv 2)))) pa_nil)))), ?_⟩
  walk_at "rd"
  refine r_LcT ha fun p hp => ⟨fun i H' => Kp [] H H' ∧ H' p = some (.lst (((tvec r t).take i).map V.int)), ⟨Kp.nil.new hp, upd_same⟩, fun i H' ⟨z, _⟩ => sqT_kp z ha, ?_, ?_⟩
  · rintro i x H1 hx ⟨k1, hp1⟩
    rw [List.getElem?_map] at hx
    obtain ⟨x, hx1, rfl⟩ := Option.map_eq_some_iff.mp hx
    have hm1 := hm x (List.mem_of_getElem? hx1)
    have hv : (tvec r t)[i]? = some (t * x) := by
      unfold tvec
      rw [List.getElem?_map, hx1]
      rfl
    have htk : (tvec r t).take (i + 1) = (tvec r t).take i ++ [t * x] := by rw [List.take_add_one, hv]; rfl
    have hil : i < r.length := (List.getElem?_eq_some_iff.mp hx1).1
    walk_at "rd"
    refine r_LcEnd hp1 (by rw [List.length_map, List.length_take, sizeLine_eq]; omega) ⟨k1.own hp, ?_⟩
    · rw [upd_same, htk, List.map_append]
      rfl
    · exact hm1
  · rintro H1 ⟨k1, hp1⟩
    have e : (tvec r t).take (r.map V.int).length = tvec r t := by
      rw [List.length_map]
      refine List.take_of_length_le ?_
      rw [tvec_len]
      exact Nat.le_refl _
    rw [e] at hp1
    walk_at "rd"
    refine r_tupL (SqL.of hp1) fun c hc => ?_
    exact k _ _ (k1.new hc) ⟨c, rfl, SqT.of upd_same⟩
abbrev slead_of : Stmt := topS 12
abbrev Nlead_of : List Str := ["vector", "found", "index", "item"]
abbrev Plead_of : List Str := ["vector"]
theorem sclead_of : FnScope Nlead_of Plead_of (defScope slead_of) :=
  ⟨rfl, rfl, rfl, by decide +kernel, rfl, by decide +kernel, by decide +kernel⟩
theorem ok_lead_of (D : Df K mg "lead_of" slead_of Plead_of) (B : Blt mg) : Has P w K mg base CX0 "lead_of" Plead_of 1 (spLead K) := by
  refine D.has sclead_of (fun vs H Q E h => ?_) (fun f cdv A outer s H vs Q E hr h => ?_)
  · obtain ⟨v, r, rfl, _⟩ := h
    rfl
  obtain ⟨v, r, rfl, ⟨a, rfl, ha⟩, hl, k⟩ := h
  refine ⟨_, (pss_cons (ps_setLc (i := 1) (own := [("index", 2), ("item", 3)]) (g := gTup K 2 (gCons (gName 2) (gCons (gName 3) (gNil)))) (by rfl) sclead_of.nd rfl rfl (sw_true rfl rfl rfl (by decide +kernel)) (pi_enumT (by rfl) B.enumerate (pa_cons (pv 0) pa_nil)) (blkOk_by (own := [("index", 2), ("item", 3)]) (N := Nlead_of) (sc := defScope slead_of) (by decide +kernel)) (fun _ _ _ _ _ => (pg_tupK (K := K) rfl rfl (pgs_cons (pg_name (i := 2) sclead_of.nd rfl (Or.inl rfl)) (pgs_cons (pg_name (i := 3) sclead_of.nd rfl (Or.inl rfl)) pgs_nil)))) (fun _ _ _ _ _ => (pts_one (pt_cmpR op_ne (pv 3) pe_int (nomark _)))) (fun _ _ _ _ _ => (pv 2)))
      (pss_one (ps_ret (pe_ifExp (pt_cmpR (op_neNil hr.h64) (pv 1) (pe_lst pa_nil) (nomark _)) (pe_ix ix_list (pv 1) pe_int (fun _ _ => rfl)) (pe_callB c_len (by rfl) B.len (by decide +kernel) (pa_cons (pv 0) pa_nil)))))), ?_⟩
  walk_at "rd"
  refine r_lcET ?_
  walk_at "rd"
  refine r_LcET ha fun p hp => ⟨fun i H' => Kp [] H H' ∧ H' p = some (.lst ((leadsO r i).map fun (j : Nat) => V.int j)), ⟨Kp.nil.new hp, upd_same⟩, fun i H' ⟨z, _⟩ => sqT_kp z ha, ?_, ?_⟩
  · rintro i x T H1 hx ⟨k1, hp1⟩ hT
    rw [List.getElem?_map] at hx
    obtain ⟨x, hx1, rfl⟩ := Option.map_eq_some_iff.mp hx
    have hil : i < r.length := (List.getElem?_eq_some_iff.mp hx1).1
    have hlo := leadsO_len r i
    have kT : Kp [] H1 (upd H1 T (.tup [.int (i : Nat), .int x])) := Kp.nil.new hT
    have hT1 : SqT K (upd H1 T (.tup [.int (i : Nat), .int x])) T [.int (i : Nat), .int x] := SqT.of upd_same
    have hp2 := kT.get hp1 (by simp)
    have k2 := k1.trans kT
    generalize upd H1 T (.tup [.int (i : Nat), .int x]) = H2 at hT1 hp2 k2 ⊢
    walk_at "rd"
    refine ifn (fun c => ?_) (fun c => ?_)
    · have hx0 : x ≠ 0 := fun z => c (by rw [z])
      walk_at "rd"
      refine r_LcEnd hp2 (by rw [List.length_map, sizeLine_eq]; omega) ⟨k2.own hp, ?_⟩
      rw [upd_same, leadsO_yes hx1 hx0, List.map_append]
      rfl
    · have hx0 : x = 0 := by injection c
      refine ⟨k2, ?_⟩
      rw [leadsO_no hx1 hx0]
      exact hp2
  · rintro H1 ⟨k1, hp1⟩
    rw [List.length_map] at hp1
    walk_at "rd"
    refine ⟨by walk_at "sz", fun q hq => ?_⟩
    have kq : Kp [] H1 (upd H1 q (.lst [])) := Kp.nil.new hq
    refine r_neNL (SqL.of (kq.get hp1 (by simp))) (SqL.of upd_same) ?_
    have hp2 := kq.get hp1 (by simp)
    have k2 := k1.trans kq
    have ha2 := sqT_kp k2 ha
    generalize upd H1 q (.lst []) = H2 at hp2 k2 ha2 ⊢
    rcases leadsO_all r with ⟨e, e2⟩ | ⟨j, t, e, e2⟩
    · rw [e] at hp2 ⊢
      with_reducible refine r_bl ?_
      refine iteF ?_
      walk_at "rd"
      rw [List.length_map, ← e2]
      exact k _ k2
    · rw [e] at hp2 ⊢
      have hat : atI (V.int ((j : Nat) : Int) :: t.map fun (j : Nat) => V.int j) 0 = some (V.int ((j : Nat) : Int)) := at_nn (Int.le_refl 0) rfl
      rw [List.map_cons] at hp2 ⊢
      with_reducible refine r_bl ?_
      refine iteT ?_
      walk_at "rd"
      rw [← e2]
      exact k _ k2
abbrev scleared_rows : Stmt := topS 13
abbrev Ncleared_rows : List Str := ["rows", "index", "others", "row", "left", "smallest", "least", "found", "rest"]
abbrev Pcleared_rows : List Str := ["rows", "index"]
theorem sccleared_rows : FnScope Ncleared_rows Pcleared_rows (defScope scleared_rows) :=
  ⟨rfl, rfl, rfl, by decide +kernel, rfl, by decide +kernel, by decide +kernel⟩
theorem ok_cleared_rows (D : Df K mg "cleared_rows" scleared_rows Pcleared_rows) (B : Blt mg) (SP : Seer P base) (Gvector_plus : Has P w K mg base CX0 "vector_plus" ["one", "other", "times"] 1 (spVplus K)) : Has P w K mg base CX0 "cleared_rows" Pcleared_rows 34 (spCleared K) := by
  refine D.has sccleared_rows (fun vs H Q E h => ?_) (fun f cdv A outer s H vs Q E hr h => ?_)
  · obtain ⟨a, us, rs, n, i, P, rfl, _⟩ := h
    rfl
  obtain ⟨a, us, rs, n, i, Pb, rfl, ha, hR, hz, hi, hn, hP, ⟨Db, G, hL, hD, hG⟩, k⟩ := h
  refine withS SP hr (by decide) rfl rfl fun S => ?_
  refine ⟨_, (pss_cons (ps_setLc (i := 2) (own := [("row", 3)]) (g := gName 3) (by rfl) sccleared_rows.nd rfl rfl (sw_true rfl rfl rfl (by decide +kernel)) (pi_list (pv 0)) (blkOk_by (own := [("row", 3)]) (N := Ncleared_rows) (sc := defScope scleared_rows) (by decide +kernel)) (fun _ _ _ _ _ => (pg_name (i := 3) sccleared_rows.nd rfl (Or.inl rfl))) (fun _ _ _ _ _ => (pts_one (pt_cmpR op_eq (pe_ix (ix_tupK (K := K) rfl) (pv 3) (pv 1) (fun _ _ => rfl)) pe_int (nomark _)))) (fun _ _ _ _ _ => (pv 3)))
      (pss_cons (ps_setLc (i := 4) (own := [("row", 3)]) (g := gName 3) (by rfl) sccleared_rows.nd rfl rfl (sw_true rfl rfl rfl (by decide +kernel)) (pi_list (pv 0)) (blkOk_by (own := [("row", 3)]) (N := Ncleared_rows) (sc := defScope scleared_rows) (by decide +kernel)) (fun _ _ _ _ _ => (pg_name (i := 3) sccleared_rows.nd rfl (Or.inl rfl))) (fun _ _ _ _ _ => (pts_one (pt_cmpR op_ne (pe_ix (ix_tupK (K := K) rfl) (pv 3) (pv 1) (fun _ _ => rfl)) pe_int (nomark _)))) (fun _ _ _ _ _ => (pv 3)))
      (pss_cons (ps_while PassesOwn.never (pt_cmpR op_gt (pe_callB c_len (by rfl) B.len (by decide +kernel) (pa_cons (pv 4) pa_nil)) pe_int (nomark _)) (pss_cons (ps_set (i := 5) sccleared_rows.nd rfl (Or.inr rfl) (pe_callB (cr_min rfl) (by rfl) B.min (by decide +kernel) (pa_cons (pe_lc (own := [("row", 3)]) (g := gName 3) (by rfl) sccleared_rows.nd (pi_list (pv 4)) (blkOk_by (own := [("row", 3)]) (N := Ncleared_rows) (sc := defScope scleared_rows) (by decide +kernel)) (fun _ _ _ _ _ => (pg_name (i := 3) sccleared_rows.nd rfl (Or.inl rfl))) (fun _ _ _ _ _ => pts_nil) (fun _ _ _ _ _ => (pe_callB c_abs (by rfl) B.abs (by decide +kernel) (pa_cons (pe_ix (ix_tupK (K := K) rfl) (pv 3) (pv 1) (fun _ _ => rfl)) pa_nil)))) pa_nil)))
      (pss_cons (ps_set (i := 6) sccleared_rows.nd rfl (Or.inl rfl) (pe_ix ix_list (pe_lc (own := [("row", 3)]) (g := gName 3) (by rfl) sccleared_rows.nd (pi_list (pv 4)) (blkOk_by (own := [("row", 3)]) (N := Ncleared_rows) (sc := defScope scleared_rows) (by decide +kernel)) (fun _ _ _ _ _ => (pg_name (i := 3) sccleared_rows.nd rfl (Or.inl rfl))) (fun _ _ _ _ _ => (pts_one (pt_cmpR op_eq (pe_callB c_abs (by rfl) B.abs (by decide +kernel) (pa_cons (pe_ix (ix_tupK (K := K) rfl) (pv 3) (pv 1) (fun _ _ => rfl)) pa_nil)) (pv 5) (nomark _)))) (fun _ _ _ _ _ => (pv 3))) pe_int (fun _ _ => rfl)))
      (pss_cons (ps_set (i := 7) sccleared_rows.nd rfl (Or.inl rfl) (pe_lst (pa_cons (pv 6) pa_nil)))
      (pss_cons (ps_for PassesOwn.never rfl (pi_list (pv 4)) (pg_name (i := 3) sccleared_rows.nd rfl (Or.inl rfl))
        (pss_one (ps_if (pt_cmpR (op_neD hr.h64) (pv 3) (pv 6) (nomark _)) (pss_cons (ps_set (i := 8) sccleared_rows.nd rfl (Or.inl rfl) (pe_f Gvector_plus (hr.mono (by omega)) (by rfl) pass0 (pa_cons (pv 3) (pa_cons (pv 6) (pa_cons (pe_op op_sub pe_int (pe_op (op_fdivX S) (pe_ix ix_tup (pv 3) (pv 1) (fun _ _ => rfl)) (pe_ix ix_tup (pv 6) (pv 1) (fun _ _ => rfl)))) pa_nil)))))
      (pss_one (ps_if (pt_cmpR op_eq (pe_ix ix_tup (pv 8) (pv 1) (fun _ _ => rfl)) pe_int (nomark _)) (pss_one (ps_set (i := 2) sccleared_rows.nd rfl (Or.inl rfl) (pe_op op_cat (pv 2) (pe_lst (pa_cons (pv 8) pa_nil)))))
        (pss_one (ps_set (i := 7) sccleared_rows.nd rfl (Or.inl rfl) (pe_op op_cat (pv 7) (pe_lst (pa_cons (pv 8) pa_nil))))))))
        pss_nil)))
      (pss_one (ps_set (i := 4) sccleared_rows.nd rfl (Or.inl rfl) (pv 7))))))))
      (pss_one (ps_ret (pe_op op_cat (pv 4) (pv 2))))))), ?_⟩
  have hln : ∀ r ∈ rs, r.length = n := fun r hr => by
    by_cases c : at0 r i = 0
    · exact hL.l2 r (List.mem_filter.mpr ⟨hr, decide_eq_true c⟩)
    · exact hL.l1 r (List.mem_filter.mpr ⟨hr, decide_eq_true c⟩)
  have hul := hR.len
  walk_at "rd"
  refine lc_rows (fun r => decide (at0 r i = 0)) ha hR (by omega) (fun b r H' R' hr k' hb hR' => ?_) (fun v H' R' hR' => ?_) (fun _ => rfl) fun op H1 ov hop k1 ho1 hov => ?_
  · have hat := row_at (r := r) (i := i) (by rw [hln r hr]; exact hi)
    walk_at "rd"
    rw [dec_intL]
    exact hR' _ Kp.nil
  · walk_at "rd"
    exact hR'
  have ha1 := k1.get ha (by simp)
  have hR1 := hR.kp k1
  walk_at "rd"
  refine lc_rows (fun r => decide (at0 r i ≠ 0)) ha1 hR1 (by omega) (fun b r H' R' hr k' hb hR' => ?_) (fun v H' R' hR' => ?_) (fun _ => rfl) fun lp H2 lv hlp k2 hl2 hlv => ?_
  · have hat := row_at (r := r) (i := i) (by rw [hln r hr]; exact hi)
    walk_at "rd"
    rw [dec_intL, ← decide_not]
    exact hR' _ Kp.nil
  · walk_at "rd"
    exact hR'
  have ho2 := k2.get ho1 (by simp)
  have hov2 := hov.kp k2
  walk_at "rd"
  have hzl : (zeros i rs).length + (lefts i rs).length = rs.length := by
    have q := (List.filter_append_perm (fun r => decide (at0 r i ≠ 0)) rs).length_eq
    rw [List.length_append] at q
    have e2 : zeros i rs = rs.filter fun r => !decide (at0 r i ≠ 0) := List.filter_congr fun r _ => by simp
    rw [e2]
    unfold lefts
    omega
  have kk := k1.trans k2
  refine r_while (fun m σ H' => ∃ (op lp : Addr) (ov lv : List V) (others left : List Rw) (y3 y5 y6 y7 y8 : Option V), σ = [some (.ref a), some (.int (i : Nat)), some (.ref op), y3, some (.ref lp), y5, y6, y7, y8] ∧ Kp [] H H' ∧ H' op = some (.lst ov) ∧ H' lp = some (.lst lv) ∧ RwV K H' ov others ∧ RwV K H' lv left ∧
      LI n i Db G Pb left others ∧ clrF m i left others = cleared i rs ∧ (left.length ≤ 1 ∨ meas i left ≤ m) ∧ left.length + others.length ≤ rs.length) (meas i (lefts i rs))
    ⟨op, lp, ov, lv, zeros i rs, lefts i rs, _, _, _, _, _, rfl, kk, ho2, hl2, hov2, hlv, hL, rfl, .inr (Nat.le_refl _), by omega⟩ ?_
  clear ha1 hR1 ho1 hov k1 hl2 hlv k2 ho2 hov2 kk hop hlp hL hzl
  clear op lp ov lv
  rintro m σ H3 ⟨op, lp, ov, lv, others, left, y3, y5, y6, y7, y8, rfl, k3, ho, hl, hov, hlv, L, hres, hms, hlen⟩
  have hvl := hlv.len
  have hvo := hov.len
  walk_at "rd"
  rw [hvl]
  refine ifd (fun c => ?_) (fun c => ?_)
  · have hk : 1 < left.length := by omega
    obtain ⟨hfm, hlm, hmin⟩ := leastO_spec (i := i) (ne_len hk)
    have em : meas i left = (at0 (leastO i left) i).natAbs := rfl
    have hnz := L.nz _ hlm
    obtain ⟨m', rfl⟩ : ∃ m', m = m' + 1 := ⟨m - 1, by omega⟩
    refine r_turn ?_
    walk_at "rd"
    refine r_LcL (SqL.of hl) fun q hq => ⟨fun j H' => Kp [] H3 H' ∧ H' q = some (.lst (((left.take j).map fun r => ((at0 r i).natAbs : Int)).map V.int)), ⟨Kp.nil.new hq, upd_same⟩, fun j H' ⟨z, _⟩ => SqL.of (z.get hl (by simp)), ?_, ?_⟩
    · rintro j x H4 hx ⟨k4, hq4⟩
      obtain ⟨r, hrj, hxr⟩ := hlv.at' hx
      obtain ⟨b, rfl, hb⟩ := hxr.kp k4
      have hat := row_at (r := r) (i := i) (by rw [L.l1 r (List.mem_of_getElem? hrj)]; exact hi)
      have htk : left.take (j + 1) = left.take j ++ [r] := by rw [List.take_add_one, hrj]; rfl
      walk_at "rd"
      rw [abs_nat]
      refine r_LcEnd hq4 (by rw [List.length_map, List.length_map, List.length_take, sizeLine_eq]; omega) ⟨k4.own hq, ?_⟩
      rw [upd_same, htk, List.map_append, List.map_append]
      rfl
    · rintro H4 ⟨k4, hq4⟩
      rw [hvl, List.take_length] at hq4
      walk_at "rd"
      refine ⟨q, _, rfl, SqL.of hq4, by rw [List.length_map]; omega, fun mm hmm hml => ?_⟩
      obtain ⟨r0, hr0, hr0e⟩ := List.mem_map.mp hmm
      obtain ⟨mn, rfl⟩ : ∃ mn : Nat, mm = (mn : Int) := ⟨(at0 r0 i).natAbs, hr0e.symm⟩
      obtain ⟨ft, hft⟩ := least_head (i := i) (left := left) (m := mn) ⟨r0, hr0, by omega⟩ fun r hr => by
        have := hml _ (List.mem_map.mpr ⟨r, hr, rfl⟩)
        omega
      have hl4 := k4.get hl (by simp)
      have hlv4 := hlv.kp k4
      walk_at "rd"
      refine lc_rows (fun r => decide ((at0 r i).natAbs = mn)) hl4 hlv4 (by omega) (fun b r H' R' hr k' hb hR' => ?_) (fun v H' R' hR' => ?_) (fun _ => rfl) fun tp H5 tv htp k5 ht5 htv => ?_
      · have hat := row_at (r := r) (i := i) (by rw [L.l1 r hr]; exact hi)
        walk_at "rd"
        rw [abs_nat, dec_intL]
        have e9 : decide (((at0 r i).natAbs : Int) = (mn : Int)) = decide ((at0 r i).natAbs = mn) := decide_eq_decide.mpr (by omega)
        rw [e9]
        exact hR' _ Kp.nil
      · walk_at "rd"
        exact hR'
      rw [hft] at htv
      obtain ⟨lsv, tvr, rfl, ⟨la, rfl, hla⟩, _⟩ := htv.inv
      have hat0 : atI (V.ref la :: tvr) 0 = some (V.ref la) := at_nn (Int.le_refl 0) rfl
      have k45 := k4.trans k5
      have hl5 := k5.get hl4 (by simp)
      have hlv5 := hlv4.kp k5
      have ho5 := k45.get ho (by simp)
      have hov5 := hov.kp k45
      clear hl4 hlv4 hq4 k4 k5 hmm hml hr0 hr0e hft hq htp
      walk_at "rd"
      refine ⟨by walk_at "sz", fun fp hfp => ?_⟩
      have k6 : Kp [] H5 (upd H5 fp (.lst [.ref la])) := Kp.nil.new hfp
      have hf6 : upd H5 fp (.lst [.ref la]) fp = some (.lst [.ref la]) := upd_same
      have hl6 := k6.get hl5 (by simp)
      have hlv6 := hlv5.kp k6
      have ho6 := k6.get ho5 (by simp)
      have hov6 := hov5.kp k6
      have hla6 := sqT_kp k6 hla
      have k36 := (k3.trans k45).trans k6
      generalize upd H5 fp (.lst [.ref la]) = H6 at hf6 hl6 hlv6 ho6 hov6 hla6 k36 ⊢
      clear k6 hl5 hlv5 ho5 hov5 hla k45 hfp ht5 htv
      walk_at "rd"
      refine r_ForL (SqL.of hl6) (fun j σ H' => ∃ (op fp : Addr) (ov fv : List V) (y3 y8 : Option V), σ = [some (.ref a), some (.int (i : Nat)), some (.ref op), y3, some (.ref lp), some (.int (mn : Nat)), some (.ref la), some (.ref fp), y8] ∧ Kp [] H6 H' ∧ H' op = some (.lst ov) ∧ H' fp = some (.lst fv) ∧
          RwV K H' ov (stp i (leastO i left) (left.take j) others [leastO i left]).1 ∧ RwV K H' fv (stp i (leastO i left) (left.take j) others [leastO i left]).2) ⟨op, fp, ov, [.ref la], _, _, rfl, Kp.nil, ho6, hf6, hov6, RwV.one ⟨la, rfl, hla6⟩⟩ ?_ ?_ ?_
      · rintro j σ H' ⟨_, _, _, _, _, _, _, z, _⟩
        exact SqL.of (z.get hl6 (by simp))
      · rintro j x σ H7 hx ⟨op, fp, ov, fv, y3, y8, rfl, k7, ho7, hf7, hov7, hfv7⟩
        obtain ⟨r, hrj, hxr⟩ := hlv6.at' hx
        have hrm := List.mem_of_getElem? hrj
        obtain ⟨b, rfl, hb⟩ := hxr.kp k7
        have hla7 := sqT_kp k7 hla6
        have htk : left.take (j + 1) = left.take j ++ [r] := by rw [List.take_add_one, hrj]; rfl
        have hsn := stp_snoc i (leastO i left) r (left.take j) others [leastO i left]
        rw [← htk] at hsn
        have hvr := L.l1 r hrm
        have hvl2 := L.l1 _ hlm
        obtain ⟨hmul, hq0, hq1⟩ := mul_ok L hk hD hG hP hrm hi
        have hat1 := row_at (r := r) (i := i) (by rw [hvr]; exact hi)
        have hat2 := row_at (r := leastO i left) (i := i) (by rw [hvl2]; exact hi)
        have v1 : VcV K H7 (.ref b) r := ⟨b, rfl, hb⟩
        have v2 : VcV K H7 (.ref la) (leastO i left) := ⟨la, rfl, hla7⟩
        have hol := hov7.len
        have hfl := hfv7.len
        have hlb := stp_eq i (leastO i left) (left.take j) others [leastO i left]
        have hb1 : (stp i (leastO i left) (left.take j) others [leastO i left]).1.length ≤ 2000 := by
          rw [hlb, List.length_append, List.length_map]
          have := List.length_filter_le (fun r => decide (r ≠ leastO i left ∧ at0 (redR i r (leastO i left)) i = 0)) (left.take j)
          rw [List.length_take] at this
          omega
        have hb2 : (stp i (leastO i left) (left.take j) others [leastO i left]).2.length ≤ 2000 := by
          rw [hlb, List.length_append, List.length_map, List.length_singleton]
          have := List.length_filter_le (fun r => decide (r ≠ leastO i left ∧ at0 (redR i r (leastO i left)) i ≠ 0)) (left.take j)
          rw [List.length_take] at this
          omega
        walk_at "rd"
        refine r_neD v1.dt.dp v2.dt.dp (vec_shaped r (by omega)) (vec_shaped _ (by omega)) ?_
        rw [vecD_eqv]
        with_reducible refine r_bl ?_
        refine ifn (fun c1 => ?_) (fun c1 => ?_)
        · rw [if_neg c1] at hsn
          walk_at "rd"
          rotate_left
          · exact ⟨hq0, hq1⟩
          refine ⟨_, _, r, leastO i left, _, rfl, v1, v2, by omega, hmul, fun H8 p k8 hp8 => ?_⟩
          obtain ⟨pp, rfl, hpp⟩ := hp8
          have e5 : vplus r (leastO i left) (0 - (at0 r i).fdiv (at0 (leastO i left) i)) = redR i r (leastO i left) := rfl
          rw [e5] at hpp
          have hat3 := row_at (r := redR i r (leastO i left)) (i := i) (by rw [redR_len hvr hvl2]; exact hi)
          have ho8 := k8.get ho7 (by simp)
          have hf8 := k8.get hf7 (by simp)
          walk_at "rd"
          rw [dec_intL]
          refine ifd (fun c2 => ?_) (fun c2 => ?_)
          · rw [if_pos c2] at hsn
            walk_at "rd"
            refine ⟨by walk_at "sz", fun s1 hs1 => ?_⟩
            have k9 : Kp [] H8 (upd H8 s1 (.lst [.ref pp])) := Kp.nil.new hs1
            refine r_cat (k9.get ho8 (by simp)) upd_same (by rw [sizeLine_eq, List.length_singleton]; omega) fun s2 hs2 => ?_
            have k89 := k8.trans k9
            have k10 : Kp [] (upd H8 s1 (.lst [.ref pp])) (upd (upd H8 s1 (.lst [.ref pp])) s2 (.lst (ov ++ [.ref pp]))) := Kp.nil.new hs2
            have kx := k89.trans k10
            walk_at "rd"
            refine ⟨s2, fp, _, fv, _, _, rfl, k7.trans kx, upd_same, kx.get hf7 (by simp), ?_, ?_⟩
            · rw [hsn]
              exact (hov7.kp kx).app (RwV.one ⟨pp, rfl, sqT_kp (k9.trans k10) hpp⟩)
            · rw [hsn]
              exact hfv7.kp kx
          · rw [if_neg c2] at hsn
            walk_at "rd"
            refine ⟨by walk_at "sz", fun s1 hs1 => ?_⟩
            have k9 : Kp [] H8 (upd H8 s1 (.lst [.ref pp])) := Kp.nil.new hs1
            refine r_cat (k9.get hf8 (by simp)) upd_same (by rw [sizeLine_eq, List.length_singleton]; omega) fun s2 hs2 => ?_
            have k89 := k8.trans k9
            have k10 : Kp [] (upd H8 s1 (.lst [.ref pp])) (upd (upd H8 s1 (.lst [.ref pp])) s2 (.lst (fv ++ [.ref pp]))) := Kp.nil.new hs2
            have kx := k89.trans k10
            walk_at "rd"
            refine ⟨op, s2, ov, _, _, _, rfl, k7.trans kx, kx.get ho7 (by simp), upd_same, ?_, ?_⟩
            · rw [hsn]
              exact hov7.kp kx
            · rw [hsn]
              exact (hfv7.kp kx).app (RwV.one ⟨pp, rfl, sqT_kp (k9.trans k10) hpp⟩)
        · rw [if_pos c1] at hsn
          walk_at "rd"
          refine ⟨op, fp, ov, fv, _, _, rfl, k7, ho7, hf7, ?_, ?_⟩
          · rw [hsn]
            exact hov7
          · rw [hsn]
            exact hfv7
      · rintro σ H7 ⟨op, fp, ov, fv, y3, y8, rfl, k7, ho7, hf7, hov7, hfv7⟩
        rw [hvl, List.take_length] at hov7 hfv7
        obtain ⟨L2, hms2⟩ := L.step hi hk hD
        have hsl := stp_len i left others (ne_len hk)
        walk_at "rd"
        refine ⟨m', Nat.lt_succ_self _, op, fp, ov, fv, _, _, _, _, _, _, _, rfl, k36.trans k7, ho7, hf7, hov7, hfv7, L2, ?_, ?_, by omega⟩
        · rw [clrF, if_neg (by omega)] at hres
          exact hres
        · by_cases c2 : (stp i (leastO i left) left others [leastO i left]).2.length ≤ 1
          · exact .inl c2
          · have := hms2 (by omega)
            exact .inr (by omega)
  · have hres2 := clr_done (n := n) (i := i) (left := left) (others := others) (by omega) m
    rw [hres] at hres2
    walk_at "rd"
    refine r_cat hl ho (by rw [sizeLine_eq]; omega) fun p hp => ?_
    have kp : Kp [] H3 (upd H3 p (.lst (lv ++ ov))) := Kp.nil.new hp
    refine k _ p _ (k3.freeM Ms.nil hp) (k3.trans kp) upd_same ?_
    rw [hres2]
    exact (hlv.kp kp).app (hov.kp kp)
abbrev sbasis_of : Stmt := topS 14
abbrev Nbasis_of : List Str := ["length", "vectors", "rows", "vector", "found", "index", "row", "first"]
abbrev Pbasis_of : List Str := ["length", "vectors"]
theorem scbasis_of : FnScope Nbasis_of Pbasis_of (defScope sbasis_of) :=
  ⟨rfl, rfl, rfl, by decide +kernel, rfl, by decide +kernel, by decide +kernel⟩
theorem ok_basis_of (D : Df K mg "basis_of" sbasis_of Pbasis_of) (B : Blt mg) (SP : Seer P base) (Glead_of : Has P w K mg base CX0 "lead_of" ["vector"] 1 (spLead K)) (Gcleared_rows : Has P w K mg base CX0 "cleared_rows" ["rows", "index"] 34 (spCleared K)) (Gtimes_vector : Has P w K mg base CX0 "times_vector" ["vector", "times"] 1 (spTvec K))
    (Gvector_plus : Has P w K mg base CX0 "vector_plus" ["one", "other", "times"] 1 (spVplus K)) : Has P w K mg base CX0 "basis_of" Pbasis_of 35 (spBasisX K) := by
  refine D.has scbasis_of (fun vs H Q E h => ?_) (fun f cdv A outer s H vs Q E hr h => ?_)
  · obtain ⟨a, l, us, rs, n, rfl, _⟩ := h
    rfl
  obtain ⟨a, ll, us, rs, n, rfl, ha, hR, hz, hn, hln, hok, k⟩ := h
  refine withS SP hr (by decide) rfl rfl fun S => ?_
  refine ⟨_, (pss_cons (ps_setLc (i := 2) (own := [("vector", 3)]) (g := gName 3) (by rfl) scbasis_of.nd rfl rfl (sw_true rfl rfl rfl (by decide +kernel)) (pi_seqX (pv 1)) (blkOk_by (own := [("vector", 3)]) (N := Nbasis_of) (sc := defScope sbasis_of) (by decide +kernel)) (fun _ _ _ _ _ => (pg_name (i := 3) scbasis_of.nd rfl (Or.inl rfl))) (fun _ _ _ _ _ => (pts_one (pt_cmpR op_lt (pe_f Glead_of (hr.mono (by omega)) (by rfl) pass0 (pa_cons (pv 3) pa_nil)) (pv 0) (nomark _)))) (fun _ _ _ _ _ => (pv 3)))
      (pss_cons (ps_set (i := 4) scbasis_of.nd rfl (Or.inl rfl) (pe_lst pa_nil))
      (pss_cons (ps_for PassesOwn.never rfl (pi_range1 (by rfl) B.range (pa_cons (pv 0) pa_nil)) (pg_name (i := 5) scbasis_of.nd rfl (Or.inr rfl))
        (pss_cons (ps_setLc (i := 2) (own := [("row", 6)]) (g := gName 6) (by rfl) scbasis_of.nd rfl rfl (sw_true rfl rfl rfl (by decide +kernel)) (pi_list (pe_f Gcleared_rows (hr.mono (by omega)) (by rfl) pass0 (pa_cons (pv 2) (pa_cons (pv 5) pa_nil)))) (blkOk_by (own := [("row", 6)]) (N := Nbasis_of) (sc := defScope sbasis_of) (by decide +kernel)) (fun _ _ _ _ _ => (pg_name (i := 6) scbasis_of.nd rfl (Or.inl rfl))) (fun _ _ _ _ _ => (pts_one (pt_cmpR op_lt (pe_f Glead_of (hr.mono (by omega)) (by rfl) pass0 (pa_cons (pv 6) pa_nil)) (pv 0) (nomark _)))) (fun _ _ _ _ _ => (pv 6)))
      (pss_one (ps_if (PW.pt (pw_and (pt_cmpR (op_neNil hr.h64) (pv 2) (pe_lst pa_nil) (nomark _)) (pw_and1 (pt_cmpR op_ne (pe_ix ix_tup (pe_ix ix_list (pv 2) pe_int (fun _ _ => rfl)) (pv 5) (fun _ _ => rfl)) pe_int (nomark _))))) (pss_cons (ps_set (i := 7) scbasis_of.nd rfl (Or.inr rfl) (pe_ix ix_list (pv 2) pe_int (fun _ _ => rfl)))
      (pss_cons (ps_if (pt_cmpR op_lt (pe_ix ix_tup (pv 7) (pv 5) (fun _ _ => rfl)) pe_int (nomark _)) (pss_one (ps_set (i := 7) scbasis_of.nd rfl (Or.inr rfl) (pe_f Gtimes_vector (hr.mono (by omega)) (by rfl) pass0 (pa_cons (pv 7) (pa_cons (pe_un un_neg pe_int) pa_nil)))))
        pss_nil)
      (pss_cons (ps_set (i := 4) scbasis_of.nd rfl (Or.inl rfl) (pe_op op_cat (pe_lc (own := [("row", 6)]) (g := gName 6) (by rfl) scbasis_of.nd (pi_list (pv 4)) (blkOk_by (own := [("row", 6)]) (N := Nbasis_of) (sc := defScope sbasis_of) (by decide +kernel)) (fun _ _ _ _ _ => (pg_name (i := 6) scbasis_of.nd rfl (Or.inl rfl))) (fun _ _ _ _ _ => pts_nil) (fun _ _ _ _ _ => (pe_f Gvector_plus (hr.mono (by omega)) (by rfl) pass0 (pa_cons (pv 6) (pa_cons (pv 7) (pa_cons (pe_op op_sub pe_int (pe_op (op_fdivX S) (pe_ix (ix_tupK (K := K) rfl) (pv 6) (pv 5) (fun _ _ => rfl)) (pe_ix (ix_tupK (K := K) rfl) (pv 7) (pv 5) (fun _ _ => rfl)))) pa_nil)))))) (pe_lst (pa_cons (pv 7) pa_nil))))
      (pss_one (ps_set (i := 2) scbasis_of.nd rfl (Or.inl rfl) (pe_slice sl_list (pv 2) (po_some pe_int) po_none))))))
        pss_nil))))
      (pss_one (ps_ret (pe_callTy c_tup (by rfl) B.tuple (by decide +kernel) (pa_cons (pv 4) pa_nil))))))), ?_⟩
  walk_at "rd"
  refine r_lcX ?_
  walk_at "rd"
  refine lc_rowsX (fun r => decide (leadO r < n)) ha hR (by omega) (fun b r H' R' hr k' hb hR' => ?_) (fun v H' R' hR' => ?_) (fun _ => rfl) fun rp H1 rv hrp k1 hr1 hrv => ?_
  · walk_at "rd"
    refine ⟨_, r, rfl, ⟨b, rfl, hb⟩, by rw [hln r hr]; exact hn, fun H'' k'' => ?_⟩
    walk_at "rd"
    rw [lead_lt]
    exact hR' _ k''
  · walk_at "rd"
    exact hR'
  walk_at "rd"
  refine ⟨by walk_at "sz", fun fp hfp => ?_⟩
  have k2 : Kp [] H1 (upd H1 fp (.lst [])) := Kp.nil.new hfp
  have hf2 : upd H1 fp (.lst []) fp = some (.lst []) := upd_same
  have hr2 := k2.get hr1 (by simp)
  have hrv2 := hrv.kp k2
  have k12 := k1.trans k2
  generalize upd H1 fp (.lst []) = H2 at hf2 hr2 hrv2 k12 ⊢
  walk_at "rd"
  refine r_ForR (fun j σ H' => ∃ (rp fp : Addr) (rv fv : List V) (rows found : List Rw) (y3 y5 y6 y7 : Option V), σ = [some (.int (n : Nat)), some (.ref a), some (.ref rp), y3, some (.ref fp), y5, y6, y7] ∧ Kp [] H H' ∧ H' rp = some (.lst rv) ∧ H' fp = some (.lst fv) ∧ RwV K H' rv rows ∧ RwV K H' fv found ∧
      LnN n rows ∧ rows.length < 1000 ∧ found.length < 1001 ∧ BasOk n (n - j) rows found ∧ basF n (n - j) rows found = basisF n rs) (by omega) (by omega)
    ⟨rp, fp, rv, [], ledR n rs, [], _, _, _, _, rfl, k12, hr2, hf2, hrv2, RwV.nil, fun r hr => hln r (List.mem_filter.mp hr).1, Nat.lt_of_le_of_lt (List.length_filter_le _ _) hz, by simp, by rw [Nat.sub_zero]; exact hok, by rw [Nat.sub_zero]; rfl⟩ ?_ ?_
  · clear hrv2 hr2 hf2 k12 k2 hrv hr1 k1 hfp hrp
    clear rp fp rv
    rintro j σ H3 hj ⟨rp, fp, rv, fv, rows, found, y3, y5, y6, y7, rfl, k3, hr3, hf3, hrv, hfv, hlr, hrl, hfl, hbo, hbf⟩
    have hjn : j < n := by omega
    have e0 : n - j = (n - (j + 1)) + 1 := by omega
    have e1 : n - (n - (j + 1) + 1) = j := by omega
    rw [e0, BasOk, e1] at hbo
    rw [e0, basF, e1] at hbf
    obtain ⟨⟨Pb, F, S⟩, hbo⟩ := hbo
    obtain ⟨o1, o2, _, o4⟩ := S.c.out hjn
    have hcl := cleared_len j rows
    walk_at "rd"
    refine ⟨rp, rv, rows, n, j, Pb, rfl, hr3, hrv, hrl, hjn, hn, S.p, S.c, fun H4 cp cv hcp k4 hc4 hcv => ?_⟩
    refine lc_rows (fun r => decide (leadO r < n)) hc4 hcv (by omega) (fun b r H' R' hr k' hb hR' => ?_) (fun v H' R' hR' => ?_) (fun _ => rfl) fun rp H5 rv hrp k5 hr5 hrv => ?_
    · walk_at "rd"
      refine ⟨_, r, rfl, ⟨b, rfl, hb⟩, by rw [o1 r hr]; exact hn, fun H'' k'' => ?_⟩
      walk_at "rd"
      rw [lead_lt]
      exact hR' _ k''
    · walk_at "rd"
      exact hR'
    have hf5 := k5.get (k4.get hf3 (by simp)) (by simp)
    have hfv5 := (hfv.kp k4).kp k5
    have k35 := (k3.trans k4).trans k5
    have hfvl := hfv.len
    have hll : (ledR n (cleared j rows)).length ≤ (cleared j rows).length := List.length_filter_le _ _
    have hmem : ∀ r ∈ ledR n (cleared j rows), r ∈ cleared j rows := fun r hr => (List.mem_filter.mp hr).1
    have hrv : RwV K H5 rv (ledR n (cleared j rows)) := hrv
    unfold basStep at hbo hbf
    clear hcv hc4 k4 k5 hcp hr3 hf3 hfv k3 hrp
    walk_at "rd"
    refine ⟨by walk_at "sz", fun np hnp => ?_⟩
    have k6 : Kp [] H5 (upd H5 np (.lst [])) := Kp.nil.new hnp
    refine r_neNL (SqL.of (k6.get hr5 (by simp))) (SqL.of upd_same) ?_
    have hr6 := k6.get hr5 (by simp)
    have hf6 := k6.get hf5 (by simp)
    have hrv6 := hrv.kp k6
    have hfv6 := hfv5.kp k6
    have k36 := k35.trans k6
    generalize upd H5 np (.lst []) = H6 at hr6 hf6 hrv6 hfv6 k36 ⊢
    clear k6 k35 hr5 hf5 hrv hfv5 hnp
    cases hL : ledR n (cleared j rows) with
    | nil =>
      rw [hL] at hrv6 hbo hbf
      obtain rfl : rv = [] := List.length_eq_zero_iff.mp hrv6.len
      with_reducible refine r_bl ?_
      refine iteF ?_
      walk_at "rd"
      exact ⟨rp, fp, [], fv, [], found, _, _, _, _, rfl, k36, hr6, hf6, hrv6, hfv6, (fun r hr => by cases hr), by simp, by omega, hbo, hbf⟩
    | cons g rest =>
      rw [hL] at hrv6 hbo hbf hmem hll
      rw [List.length_cons] at hll
      dsimp only at hbo hbf
      obtain ⟨gv, rvr, rfl, ⟨ga, rfl, hga⟩, hrest⟩ := hrv6.inv
      have hg := hmem g (List.mem_cons_self ..)
      have hgl := o1 g hg
      have hat0 : atI (V.ref ga :: rvr) 0 = some (V.ref ga) := at_nn (Int.le_refl 0) rfl
      have hat1 := row_at (r := g) (i := j) (by rw [hgl]; exact hjn)
      have hrl2 := hrest.len
      with_reducible refine r_bl ?_
      refine iteT ?_
      walk_at "rd"
      rw [dec_intL]
      refine ifn (fun c => ?_) (fun c => ?_)
      · rw [if_neg c] at hbo hbf
        obtain ⟨p1, p2, p3, p4⟩ := posR_facts hgl (o2 g hg) hjn c
        have hpiv := o4 g rest hL c
        with_reducible refine r_seq ?_
        with_reducible refine r_asg ?_
        with_reducible refine r_op ?_
        with_reducible refine r_var rfl ?_
        with_reducible refine r_C ?_
        refine r_ixL (SqL.of hr6) hat0 ?_
        with_reducible refine r_name ?_
        dsimp only
        with_reducible refine r_seqJ (fun σ H' => ∃ fa : Addr, σ = [some (.int (n : Nat)), some (.ref a), some (.ref rp), y3, some (.ref fp), some (.int (j : Nat)), y6, some (.ref fa)] ∧ Kp [] H6 H' ∧ SqT K H' fa ((posR j g).map V.int)) (fun nx' kn => ?_) ?_
        · walk_at "rd"
          by_cases c2 : at0 g j < 0
          · have e : posR j g = tvec g (-1) := if_pos c2
            rw [decide_eq_true c2]
            refine iteT ?_
            walk_at "rd"
            refine ⟨_, g, _, rfl, ⟨ga, rfl, hga⟩, by omega, mulOk_neg S.p (o2 g hg), fun H7 p k7 hp7 => ?_⟩
            obtain ⟨pa, rfl, hpa⟩ := hp7
            walk_at "rd"
            exact kn _ _ ⟨pa, rfl, k7, by rw [e]; exact hpa⟩
          · have e : posR j g = g := if_neg c2
            rw [decide_eq_false c2]
            refine iteF ?_
            walk_at "rd"
            exact kn _ _ ⟨ga, rfl, Kp.nil, by rw [e]; exact hga⟩
        · rintro σ H7 ⟨fa, rfl, k7, hfa⟩
          have hr7 := k7.get hr6 (by simp)
          have hf7 := k7.get hf6 (by simp)
          have hfv7 := hfv6.kp k7
          have hrest7 := hrest.kp k7
          have hnz : at0 (posR j g) j ≠ 0 := by omega
          have hlog : (at0 (posR j g) j).natAbs.log2 < 134000000 := Nat.lt_of_lt_of_le (log_lt (k := capB) (by omega) cap_pos) cap_100
          walk_at "rd"
          refine r_LcL (SqL.of hf7) fun q hq => ⟨fun i H' => Kp [] H7 H' ∧ ∃ vs, H' q = some (.lst vs) ∧ RwV K H' vs ((found.take i).map fun r => redR j r (posR j g)), ⟨Kp.nil.new hq, [], upd_same, RwV.nil⟩, fun i H' ⟨z, _⟩ => SqL.of (z.get hf7 (by simp)), ?_, ?_⟩
          · rintro i x H8 hx ⟨k8, vs, hq8, hv8⟩
            obtain ⟨r, hri, hxr⟩ := hfv7.at' hx
            obtain ⟨b, rfl, hb⟩ := hxr.kp k8
            have hrm := List.mem_of_getElem? hri
            have hrln := S.l r hrm
            have hfa8 := sqT_kp k8 hfa
            have hata := row_at (r := r) (i := j) (by rw [hrln]; exact hjn)
            have hatb := row_at (r := posR j g) (i := j) (by rw [p1]; exact hjn)
            have htk : found.take (i + 1) = found.take i ++ [r] := by rw [List.take_add_one, hri]; rfl
            have hvl := hv8.len
            rw [List.length_map, List.length_take] at hvl
            walk_at "rd"
            rotate_left
            · exact ⟨hnz, hlog⟩
            refine ⟨_, _, r, posR j g, _, rfl, ⟨b, rfl, hb⟩, ⟨fa, rfl, hfa8⟩, by omega, mulOk_red S.p S.q hrln hjn (S.b r hrm) p2 hnz, fun H9 p k9 hp9 => ?_⟩
            have hq9 := k9.get hq8 (by simp)
            have kw : Kp [q] H9 (upd H9 q (.lst (vs ++ [p]))) := kpW hq9
            refine r_LcEnd hq9 (by rw [sizeLine_eq]; omega) ⟨(k8.trans k9).own hq, vs ++ [p], upd_same, ?_⟩
            rw [htk, List.map_append]
            exact ((hv8.kp k9).kp kw).app (RwV.one (VcV.kp hp9 kw))
          · rintro H8 ⟨k8, vs, hq8, hv8⟩
            rw [hfv7.len, List.take_length] at hv8
            have hvl := hv8.len
            rw [List.length_map] at hvl
            walk_at "rd"
            refine ⟨by walk_at "sz", fun s1 hs1 => ?_⟩
            have k9 : Kp [] H8 (upd H8 s1 (.lst [.ref fa])) := Kp.nil.new hs1
            refine r_cat (k9.get hq8 (by simp)) upd_same (by rw [sizeLine_eq, List.length_singleton]; omega) fun s2 hs2 => ?_
            have k10 : Kp [] (upd H8 s1 (.lst [.ref fa])) (upd (upd H8 s1 (.lst [.ref fa])) s2 (.lst (vs ++ [.ref fa]))) := Kp.nil.new hs2
            have hs3 : upd (upd H8 s1 (.lst [.ref fa])) s2 (.lst (vs ++ [.ref fa])) s2 = some (.lst (vs ++ [.ref fa])) := upd_same
            have k8x := k9.trans k10
            generalize upd (upd H8 s1 (.lst [.ref fa])) s2 (.lst (vs ++ [.ref fa])) = H9 at k10 hs3 k8x
            have k79 := k8.trans k8x
            have hr9 := k79.get hr7 (by simp)
            have hrest9 := hrest7.kp k79
            walk_at "rd"
            refine r_slL (SqL.of hr9) fun t ht => ?_
            rw [cutV_oneL]
            have kt : Kp [] H9 (upd H9 t (.lst rvr)) := Kp.nil.new ht
            walk_at "rd"
            refine ⟨t, s2, rvr, _, rest, _, _, _, _, _, rfl, ((k36.trans k7).trans k79).trans kt, upd_same, kt.get hs3 (by simp), hrest9.kp kt, ?_, fun r hr => o1 r (hmem r (List.mem_cons_of_mem _ hr)), by omega, ?_, hbo, hbf⟩
            · exact ((hv8.kp k8x).kp kt).app (RwV.one ⟨fa, rfl, sqT_kp kt (sqT_kp k79 hfa)⟩)
            · rw [List.length_append, List.length_map, List.length_singleton]
              have := S.f
              omega
      · rw [if_pos c] at hbo hbf
        walk_at "rd"
        exact ⟨rp, fp, _, fv, g :: rest, found, _, _, _, _, rfl, k36, hr6, hf6, hrv6, hfv6, fun r hr => o1 r (hmem r hr), by rw [List.length_cons]; omega, by omega, hbo, hbf⟩
  · rintro σ H3 ⟨rp, fp, rv, fv, rows, found, y3, y5, y6, y7, rfl, k3, hr3, hf3, hrv, hfv, hlr, hrl, hfl, hbo, hbf⟩
    have e0 : n - (Int.toNat (n : Nat)) = 0 := by omega
    rw [e0, basF] at hbf
    walk_at "rd"
    refine r_tupL (SqL.of hf3) fun t ht => ?_
    have kt : Kp [] H3 (upd H3 t (.tup fv)) := Kp.nil.new ht
    refine k _ t fv (k3.new ht) (SqT.of upd_same) ?_
    rw [← hbf]
    exact hfv.kp kt
abbrev srest_by : Stmt := topS 15
abbrev Nrest_by : List Str := ["basis", "vector", "taken", "row", "lead", "times"]
abbrev Prest_by : List Str := ["basis", "vector"]
theorem screst_by : FnScope Nrest_by Prest_by (defScope srest_by) :=
  ⟨rfl, rfl, rfl, by decide +kernel, rfl, by decide +kernel, by decide +kernel⟩
theorem ok_rest_by (D : Df K mg "rest_by" srest_by Prest_by) (B : Blt mg) (SP : Seer P base) (Glead_of : Has P w K mg base CX0 "lead_of" ["vector"] 1 (spLead K)) (Gvector_plus : Has P w K mg base CX0 "vector_plus" ["one", "other", "times"] 1 (spVplus K)) : Has P w K mg base CX0 "rest_by" Prest_by 34 (spRestBy K) := by
  refine D.has screst_by (fun vs H Q E h => ?_) (fun f cdv A outer s H vs Q E hr h => ?_)
  · obtain ⟨b, u, ws, bs, n, r, rfl, _⟩ := h
    rfl
  obtain ⟨b, u, ws, bs, n, r, rfl, hT, hR, hv, ok, k⟩ := h
  have n30 := ok.n30
  have blen := ok.len
  refine withS SP hr (by decide) rfl rfl fun S => ?_
  refine ⟨_, (pss_cons (ps_set (i := 2) screst_by.nd rfl (Or.inl rfl) (pe_tup pa_nil))
      (pss_cons (ps_for PassesOwn.never rfl (pi_tup (pv 0)) (pg_name (i := 3) screst_by.nd rfl (Or.inl rfl))
        (pss_cons (ps_set (i := 4) screst_by.nd rfl (Or.inl rfl) (pe_f Glead_of (hr.mono (by omega)) (by rfl) pass0 (pa_cons (pv 3) pa_nil)))
      (pss_cons (ps_set (i := 5) screst_by.nd rfl (Or.inl rfl) (pe_op (op_fdivX S) (pe_ix ix_tup (pv 1) (pv 4) (fun _ _ => rfl)) (pe_ix ix_tup (pv 3) (pv 4) (fun _ _ => rfl))))
      (pss_cons (ps_set (i := 1) screst_by.nd rfl (Or.inl rfl) (pe_f Gvector_plus (hr.mono (by omega)) (by rfl) pass0 (pa_cons (pv 1) (pa_cons (pv 3) (pa_cons (pe_op op_sub pe_int (pv 5)) pa_nil)))))
      (pss_one (ps_set (i := 2) screst_by.nd rfl (Or.inl rfl) (pe_op op_catA (pv 2) (pe_tup (pa_cons (pv 5) pa_nil)))))))))
      (pss_one (ps_ret (pe_tup (pa_cons (pv 1) (pa_cons (pv 2) pa_nil))))))), ?_⟩
  walk_at "rd"
  refine ⟨by simp, fun p hp => ?_⟩
  have k0 : Kp [] H (upd H p (.tup [])) := Kp.nil.new hp
  have d0 : Dt K (upd H p (.tup [])) (.ref p) (.tuple []) := Dt.mk0 upd_same
  have hT0 := sqT_kp k0 hT
  have hR0 := hR.kp k0
  have hv0 := hv.kp k0
  generalize upd H p (.tup []) = H0 at k0 d0 hT0 hR0 hv0 ⊢
  walk_at "rd"
  refine r_ForT hT0 (fun i σ H' => ∃ (x t : V) (x3 x4 x5 : Option V), σ = [some (.ref b), some x, some t, x3, x4, x5] ∧ Kp [] H0 H' ∧ VcV K H' x (restF (bs.take i) r) ∧ Dt K H' t (.tuple ((wayF (bs.take i) r).map PyData.int))) ⟨u, .ref p, _, _, _, rfl, Kp.nil, hv0, d0⟩ (fun i σ H' ⟨_, _, _, _, _, _, z, _⟩ => sqT_kp z hT0) ?_ ?_
  · rintro i y σ H1 hy ⟨x, t, x3, x4, x5, rfl, k1, hx, ht⟩
    obtain ⟨c, hci, hcv⟩ := hR0.at' hy
    obtain ⟨q1, q2, q3, q4, q5, q6⟩ := ok.mul hci
    obtain ⟨ya, rfl, hya⟩ := hcv.kp k1
    obtain ⟨xa, rfl, hxa⟩ := hx
    have htk : bs.take (i + 1) = bs.take i ++ [c] := by rw [List.take_add_one, hci]; rfl
    have er := restF_snoc c (bs.take i) r
    have ew := wayF_snoc c (bs.take i) r
    rw [← htk] at er ew
    have wl := wayF_len (bs.take i) r
    rw [List.length_take] at wl
    generalize restF (bs.take i) r = v at q1 q2 hxa er ew
    generalize wayF (bs.take i) r = w at ht ew wl
    walk_at "rd"
    refine ⟨_, c, rfl, ⟨ya, rfl, hya⟩, by omega, fun H2 k2 => ?_⟩
    have hya2 := sqT_kp k2 hya
    have hxa2 := sqT_kp k2 hxa
    have hata := row_at (r := v) (i := leadO c) (by omega)
    have hatb := row_at (r := c) (i := leadO c) (by omega)
    walk_at "rd"
    rotate_left
    · exact ⟨q5, q6⟩
    refine ⟨_, _, v, c, _, rfl, ⟨xa, rfl, hxa2⟩, ⟨ya, rfl, hya2⟩, by omega, fun z hz => ?_, fun H3 x3 k3 hx3 => ?_⟩
    · have := q1 z hz
      rw [Int.zero_sub, Int.natAbs_neg]
      exact this
    have ht3 := (ht.kp k2).kp k3
    walk_at "rd"
    refine ⟨by simp [sizeLine_eq], fun p4 hp4 => ?_⟩
    have k4 : Kp [] H3 (upd H3 p4 (.tup [.int ((at0 v (leadO c)).fdiv (at0 c (leadO c)))])) := Kp.nil.new hp4
    have d4 : Dt K (upd H3 p4 (.tup [.int ((at0 v (leadO c)).fdiv (at0 c (leadO c)))])) (.ref p4) (.tuple [.int ((at0 v (leadO c)).fdiv (at0 c (leadO c)))]) := Dt.mk1 upd_same (.int _)
    have ht4 := ht3.kp k4
    have hx4 := hx3.kp k4
    have k14 := ((k1.trans k2).trans k3).trans k4
    generalize upd H3 p4 (.tup [.int ((at0 v (leadO c)).fdiv (at0 c (leadO c)))]) = H4 at k4 d4 ht4 hx4 k14 ⊢
    refine r_catA ht4 d4 (by rw [List.length_map]; simp; omega) fun H5 w5 k5 hw5 => ?_
    walk_at "rd"
    refine ⟨_, _, _, _, _, rfl, k14.trans k5, ?_, ?_⟩
    · rw [er]
      exact hx4.kp k5
    · rw [ew, List.map_append]
      exact hw5
  · rintro σ H1 ⟨x, t, x3, x4, x5, rfl, k1, hx, ht⟩
    rw [hR0.len, List.take_length] at hx ht
    walk_at "rd"
    refine ⟨by simp [sizeLine_eq], fun p2 hp2 => ?_⟩
    have k2 : Kp [] H1 (upd H1 p2 (.tup [x, t])) := Kp.nil.new hp2
    exact k _ p2 x t ((k0.trans k1).trans k2) (SqT.of upd_same) (hx.kp k2) (ht.kp k2)
abbrev svector_unit : Stmt := topS 16
abbrev Nvector_unit : List Str := ["length", "index", "own"]
abbrev Pvector_unit : List Str := ["length", "index"]
theorem scvector_unit : FnScope Nvector_unit Pvector_unit (defScope svector_unit) :=
  ⟨rfl, rfl, rfl, by decide +kernel, rfl, by decide +kernel, by decide +kernel⟩
theorem ok_vector_unit (D : Df K mg "vector_unit" svector_unit Pvector_unit) (B : Blt mg) : Has P w K mg base CX0 "vector_unit" Pvector_unit 1 (spUnitV K) := by
  refine D.has scvector_unit (fun vs H Q E h => ?_) (fun f cdv A outer s H vs Q E hr h => ?_)
  · obtain ⟨n, i, rfl, _⟩ := h
    rfl
  obtain ⟨n, i, rfl, hn, k⟩ := h
  refine ⟨_, (pss_one (ps_ret (pe_callTy c_tup (by rfl) B.tuple (by decide +kernel) (pa_cons (pe_lc (own := [("own", 2)]) (g := gName 2) (by rfl) scvector_unit.nd (pi_range1 (by rfl) B.range (pa_cons (pv 0) pa_nil)) (blkOk_by (own := [("own", 2)]) (N := Nvector_unit) (sc := defScope svector_unit) (by decide +kernel)) (fun _ _ _ _ _ => (pg_name (i := 2) scvector_unit.nd rfl (Or.inl rfl))) (fun _ _ _ _ _ => pts_nil) (fun _ _ _ _ _ => (pe_callTy c_int (by rfl) B.int (by decide +kernel) (pa_cons (pe_cmpR op_eq (pv 2) (pv 1) (nomark _)) pa_nil)))) pa_nil)))), ?_⟩
  walk_at "rd"
  refine r_LcR (by omega) (by omega) fun q hq => ⟨fun j H' => Kp [] H H' ∧ H' q = some (.lst (((List.range j).map fun j => if j = i then (1 : Int) else 0).map V.int)), ⟨Kp.nil.new hq, upd_same⟩, ?_, ?_⟩
  · rintro j H1 hj ⟨k1, hq1⟩
    walk_at "rd"
    rw [dec_intL]
    refine r_LcEnd hq1 (by rw [List.length_map, List.length_map, List.length_range, sizeLine_eq]; omega) ⟨k1.own hq, ?_⟩
    rw [upd_same, List.range_succ, List.map_append, List.map_append]
    by_cases c : j = i
    · subst c
      simp
    · have e : decide ((j : Int) = (i : Int)) = false := decide_eq_false (by omega)
      rw [e]
      simp [c]
  · rintro H1 ⟨k1, hq1⟩
    walk_at "rd"
    refine r_tupL (SqL.of hq1) fun t ht => ?_
    exact k _ _ (k1.new ht) ⟨t, rfl, SqT.of upd_same⟩
abbrev skernel_of : Stmt := topS 17
abbrev Nkernel_of : List Str := ["length", "vectors", "many", "rows", "index", "vector", "found", "row"]
abbrev Pkernel_of : List Str := ["length", "vectors"]
theorem sckernel_of : FnScope Nkernel_of Pkernel_of (defScope skernel_of) :=
  ⟨rfl, rfl, rfl, by decide +kernel, rfl, by decide +kernel, by decide +kernel⟩
theorem ok_kernel_of (D : Df K mg "kernel_of" skernel_of Pkernel_of) (B : Blt mg) (Gvector_unit : Has P w K mg base CX0 "vector_unit" ["length", "index"] 1 (spUnitV K)) (Gbasis_of : Has P w K mg base CX0 "basis_of" ["length", "vectors"] 35 (spBasisX K)) (Glead_of : Has P w K mg base CX0 "lead_of" ["vector"] 1 (spLead K)) : Has P w K mg base CX0 "kernel_of" Pkernel_of 36 (spKernel K) := by
  refine D.has sckernel_of (fun vs H Q E h => ?_) (fun f cdv A outer s H vs Q E hr h => ?_)
  · obtain ⟨a, us, A1, n, rfl, _⟩ := h
    rfl
  obtain ⟨a, us, A1, n, rfl, hT, hR, hn, lA, hz, kok, k⟩ := h
  have ul := hR.len
  refine ⟨_, (pss_cons (ps_set (i := 2) sckernel_of.nd rfl (Or.inr rfl) (pe_callB c_len (by rfl) B.len (by decide +kernel) (pa_cons (pv 1) pa_nil)))
      (pss_cons (ps_setLc (i := 3) (own := [("index", 4)]) (g := gName 4) (by rfl) sckernel_of.nd rfl rfl (sw_true rfl rfl rfl (by decide +kernel)) (pi_range1 (by rfl) B.range (pa_cons (pv 0) pa_nil)) (blkOk_by (own := [("index", 4)]) (N := Nkernel_of) (sc := defScope skernel_of) (by decide +kernel)) (fun _ _ _ _ _ => (pg_name (i := 4) sckernel_of.nd rfl (Or.inr rfl))) (fun _ _ _ _ _ => pts_nil) (fun _ _ _ _ _ => (pe_op (op_catAK (K := K) rfl) (pe_callTy (c_tupK (K := K) rfl) (by rfl) B.tuple (by decide +kernel) (pa_cons (pe_lc (own := [("vector", 5)]) (g := gName 5) (by rfl) sckernel_of.nd (pi_tupK (K := K) rfl (pv 1)) (blkOk_by (own := [("vector", 5)]) (N := Nkernel_of) (sc := _) (by rfl)) (fun _ _ _ _ _ => (pg_name (i := 5) sckernel_of.nd rfl (Or.inl rfl))) (fun _ _ _ _ _ => pts_nil) (fun _ _ _ _ _ => (pe_ix (ix_tupK (K := K) rfl) (pv 5) (pv 4) (fun _ _ => rfl)))) pa_nil)) (pe_f Gvector_unit (hr.mono (by omega)) (by rfl) pass0 (pa_cons (pv 0) (pa_cons (pv 4) pa_nil))))))
      (pss_cons (ps_setLc (i := 6) (own := [("row", 7)]) (g := gName 7) (by rfl) sckernel_of.nd rfl rfl (sw_true rfl rfl rfl (by decide +kernel)) (pi_tup (pe_f Gbasis_of (hr.mono (by omega)) (by rfl) pass0 (pa_cons (pe_op op_add (pv 2) (pv 0)) (pa_cons (pv 3) pa_nil)))) (blkOk_by (own := [("row", 7)]) (N := Nkernel_of) (sc := defScope skernel_of) (by decide +kernel)) (fun _ _ _ _ _ => (pg_name (i := 7) sckernel_of.nd rfl (Or.inl rfl))) (fun _ _ _ _ _ => (pts_one (pt_cmpR op_ge (pe_f Glead_of (hr.mono (by omega)) (by rfl) pass0 (pa_cons (pv 7) pa_nil)) (pv 2) (nomark _)))) (fun _ _ _ _ _ => (pe_slice (sl_tupAK (K := K) rfl) (pv 7) (po_some (pv 2)) po_none)))
      (pss_one (ps_ret (pe_f Gbasis_of (hr.mono (by omega)) (by rfl) pass0 (pa_cons (pv 0) (pa_cons (pv 6) pa_nil)))))))), ?_⟩
  walk_at "rd"
  rw [ul]
  refine r_LcR (by omega) (by omega) fun rp hrp => ⟨fun i H' => Kp [] H H' ∧ ∃ vs, H' rp = some (.lst vs) ∧ RwV K H' vs ((List.range i).map fun i => A1.map (fun a => at0 a i) ++ unitR n i), ⟨Kp.nil.new hrp, [], upd_same, RwV.nil⟩, ?_, ?_⟩
  · rintro i H1 hi ⟨k1, vs, hp1, hv1⟩
    have hT1 := sqT_kp k1 hT
    have hR1 := hR.kp k1
    walk_at "rd"
    refine lc_colT (fun a => at0 a i) hT1 hR1 (by omega) (fun b r H' R hm hb hR' => ?_) (fun _ => rfl) fun q2 H2 hq2 k2 hl2 => ?_
    · have hrl := lA r hm
      walk_at "rd"
      refine r_ixT hb (row_at (by omega)) ?_
      exact hR'
    walk_at "rd"
    refine r_tupL (SqL.of hl2) fun t2 ht2 => ?_
    have k3 : Kp [] H2 (upd H2 t2 (.tup ((A1.map fun a => at0 a i).map V.int))) := Kp.nil.new ht2
    have hc3 : SqT K (upd H2 t2 (.tup ((A1.map fun a => at0 a i).map V.int))) t2 ((A1.map fun a => at0 a i).map V.int) := SqT.of upd_same
    have k13 := k2.trans k3
    generalize upd H2 t2 (.tup ((A1.map fun a => at0 a i).map V.int)) = H3 at k3 hc3 k13 ⊢
    walk_at "rd"
    refine ⟨n, i, rfl, by omega, fun H4 v k4 hv4 => ?_⟩
    obtain ⟨b4, rfl, hb4⟩ := hv4
    walk_at "rd"
    refine r_catN (sqT_kp k4 hc3) hb4 (by rw [List.length_map, List.length_map, List.length_map, unit_len, sizeLine_eq]; omega) fun H5 t5 k5 ht5 => ?_
    have k15 := k13.trans (k4.trans k5)
    have hp5 := k15.get hp1 (by simp)
    have hv5 := hv1.kp k15
    have kw : Kp [rp] H5 (upd H5 rp (.lst (vs ++ [.ref t5]))) := kpW hp5
    have hx : VcV K H5 (.ref t5) ((A1.map fun a => at0 a i) ++ unitR n i) := ⟨t5, rfl, by rw [List.map_append]; exact ht5⟩
    refine r_LcEnd hp5 ?_ ⟨(k1.trans k15).own hrp, vs ++ [.ref t5], upd_same, ?_⟩
    · have := hv1.len
      rw [List.length_map, List.length_range] at this
      rw [sizeLine_eq]
      omega
    · rw [List.range_succ, List.map_append]
      exact (hv5.kp kw).app (RwV.one (hx.kp kw))
  · rintro H3 ⟨k03, xs, hp3, hx3⟩
    have hx3 : RwV K H3 xs (kerR n A1) := hx3
    have e2n : ((A1.length : Nat) : Int) + ((n : Nat) : Int) = ((A1.length + n : Nat) : Int) := by omega
    walk_at "rd"
    rw [e2n]
    refine ⟨rp, true, xs, kerR n A1, A1.length + n, rfl, hp3, hx3, by rw [ker_len]; omega, by omega, kok.ln, kok.ok, fun H4 b4 w4 k4 hT4 hR4 => ?_⟩
    have ml := kok.len
    have mln := kok.ln2
    have ok2 := kok.ok2
    have sm := kok.same
    have eF : quietF n A1 = halvesR A1.length (basisF (A1.length + n) (kerR n A1)) := rfl
    rw [eF] at k
    generalize basisF (A1.length + n) (kerR n A1) = M at ml mln ok2 k hR4 sm
    have k04 := k03.trans k4
    walk_at "rd"
    refine r_LcT hT4 fun q5 hq5 => ⟨fun i H' => Kp [] H4 H' ∧ ∃ vs, H' q5 = some (.lst vs) ∧ RwV K H' vs (halvesR A1.length (M.take i)), ⟨Kp.nil.new hq5, [], upd_same, RwV.nil⟩, fun i H' ⟨z, _⟩ => sqT_kp z hT4, ?_, ?_⟩
    · rintro i v H5 hv ⟨k5, vs, hq6, hv5⟩
      obtain ⟨r, hri, hxr⟩ := hR4.at' hv
      have hrl := mln r (List.mem_of_getElem? hri)
      have hi := (List.getElem?_eq_some_iff.mp hri).1
      have htk : M.take (i + 1) = M.take i ++ [r] := by rw [List.take_add_one, hri]; rfl
      have hll := hv5.len
      have hle : (halvesR A1.length (M.take i)).length ≤ i := by
        unfold halvesR lowB
        rw [List.length_map]
        refine Nat.le_trans (List.length_filter_le _ _) ?_
        rw [List.length_take]
        omega
      walk_at "rd"
      refine ⟨v, r, rfl, hxr.kp k5, by omega, fun H6 k6 => ?_⟩
      obtain ⟨c, rfl, hc⟩ := (hxr.kp k5).kp k6
      have hq7 := k6.get hq6 (by simp)
      walk_at "rd"
      by_cases cl : A1.length ≤ leadO r
      · rw [decide_eq_true (show ((A1.length : Nat) : Int) ≤ ((leadO r : Nat) : Int) by omega)]
        refine iteT ?_
        walk_at "rd"
        refine r_slDrop hc fun H7 t k7 ht => ?_
        have k67 := k6.trans k7
        have hq8 := k67.get hq6 (by simp)
        have kw : Kp [q5] H7 (upd H7 q5 (.lst (vs ++ [.ref t]))) := kpW hq8
        refine r_LcEnd hq8 (by rw [sizeLine_eq]; omega) ⟨(k5.trans k67).own hq5, vs ++ [.ref t], upd_same, ?_⟩
        have e : halvesR A1.length (M.take (i + 1)) = halvesR A1.length (M.take i) ++ [r.drop A1.length] := by
          unfold halvesR lowB
          rw [htk, List.filter_append, List.filter_cons_of_pos (by exact decide_eq_true cl), List.map_append]
          rfl
        rw [e]
        exact ((hv5.kp k67).kp kw).app (RwV.one (((RwV.drop ht : VcV K H7 (.ref t) (r.drop A1.length)).kp kw)))
      · rw [decide_eq_false (show ¬((A1.length : Nat) : Int) ≤ ((leadO r : Nat) : Int) by omega)]
        refine iteF ?_
        have e : halvesR A1.length (M.take (i + 1)) = halvesR A1.length (M.take i) := by
          unfold halvesR lowB
          rw [htk, List.filter_append, List.filter_cons_of_neg (by simp; omega), List.filter_nil, List.append_nil]
        refine ⟨k5.trans k6, vs, hq7, ?_⟩
        rw [e]
        exact hv5.kp k6
    · rintro H5 ⟨k5, zs, hq6, hz5⟩
      rw [hR4.len, List.take_length] at hz5
      walk_at "rd"
      refine ⟨q5, true, zs, halvesR A1.length M, n, rfl, hq6, hz5, ?_, by omega, fun r hr => ?_, ok2, fun H6 b6 w6 k6 hT6 hR6 => ?_⟩
      · exact Nat.lt_of_le_of_lt (halves_len _ _) (by omega)
      · obtain ⟨x, hx, rfl⟩ := List.mem_map.mp hr
        have := mln x (List.mem_filter.mp hx).1
        rw [List.length_drop]
        omega
      · rw [sm] at hR6
        exact k H6 b6 w6 ((k04.trans k5).trans k6) hT6 hR6
abbrev smeet_of : Stmt := topS 18
abbrev Nmeet_of : List Str := ["length", "one", "other", "rows", "row", "found"]
abbrev Pmeet_of : List Str := ["length", "one", "other"]
theorem scmeet_of : FnScope Nmeet_of Pmeet_of (defScope smeet_of) :=
  ⟨rfl, rfl, rfl, by decide +kernel, rfl, by decide +kernel, by decide +kernel⟩
theorem ok_meet_of (D : Df K mg "meet_of" smeet_of Pmeet_of) (B : Blt mg) (Gbasis_of : Has P w K mg base CX0 "basis_of" ["length", "vectors"] 35 (spBasisX K)) (Glead_of : Has P w K mg base CX0 "lead_of" ["vector"] 1 (spLead K)) : Has P w K mg base CX0 "meet_of" Pmeet_of 36 (spMeet K) := by
  refine D.has scmeet_of (fun vs H Q E h => ?_) (fun f cdv A outer s H vs Q E hr h => ?_)
  · obtain ⟨a, b, us, ws, A1, B1, n, rfl, _⟩ := h
    rfl
  obtain ⟨a, b, us, ws, A1, B1, n, rfl, hT, hR, hS, hV, hn, lA, lB, hz, ok, ml, mln, ok2, k⟩ := h
  have e2n : (2 : Int) * (n : Nat) = ((2 * n : Nat) : Int) := by omega
  refine ⟨_, (pss_cons (ps_set (i := 3) scmeet_of.nd rfl (Or.inl rfl) (pe_op op_cat (pe_lc (own := [("row", 4)]) (g := gName 4) (by rfl) scmeet_of.nd (pi_tup (pv 1)) (blkOk_by (own := [("row", 4)]) (N := Nmeet_of) (sc := defScope smeet_of) (by decide +kernel)) (fun _ _ _ _ _ => (pg_name (i := 4) scmeet_of.nd rfl (Or.inl rfl))) (fun _ _ _ _ _ => pts_nil) (fun _ _ _ _ _ => (pe_op (op_catAK (K := K) rfl) (pv 4) (pv 4)))) (pe_lc (own := [("row", 4)]) (g := gName 4) (by rfl) scmeet_of.nd (pi_tup (pv 2)) (blkOk_by (own := [("row", 4)]) (N := Nmeet_of) (sc := defScope smeet_of) (by decide +kernel)) (fun _ _ _ _ _ => (pg_name (i := 4) scmeet_of.nd rfl (Or.inl rfl))) (fun _ _ _ _ _ => pts_nil) (fun _ _ _ _ _ => (pe_op (op_catAK (K := K) rfl) (pv 4) (pe_callTy (c_tupK (K := K) rfl) (by rfl) B.tuple (by decide +kernel) (pa_cons (pe_op op_rep (pe_lst (pa_cons pe_int pa_nil)) (pv 0)) pa_nil)))))))
      (pss_cons (ps_setLc (i := 5) (own := [("row", 4)]) (g := gName 4) (by rfl) scmeet_of.nd rfl rfl (sw_true rfl rfl rfl (by decide +kernel)) (pi_tup (pe_f Gbasis_of (hr.mono (by omega)) (by rfl) pass0 (pa_cons (pe_op op_mul pe_int (pv 0)) (pa_cons (pv 3) pa_nil)))) (blkOk_by (own := [("row", 4)]) (N := Nmeet_of) (sc := defScope smeet_of) (by decide +kernel)) (fun _ _ _ _ _ => (pg_name (i := 4) scmeet_of.nd rfl (Or.inl rfl))) (fun _ _ _ _ _ => (pts_one (pt_cmpR op_ge (pe_f Glead_of (hr.mono (by omega)) (by rfl) pass0 (pa_cons (pv 4) pa_nil)) (pv 0) (nomark _)))) (fun _ _ _ _ _ => (pe_slice (sl_tupAK (K := K) rfl) (pv 4) (po_some (pv 0)) po_none)))
      (pss_one (ps_ret (pe_f Gbasis_of (hr.mono (by omega)) (by rfl) pass0 (pa_cons (pv 0) (pa_cons (pv 5) pa_nil))))))), ?_⟩
  walk_at "rd"
  refine r_LcT hT fun p hp => ⟨fun i H' => Kp [] H H' ∧ ∃ vs, H' p = some (.lst vs) ∧ RwV K H' vs ((A1.take i).map dblR), ⟨Kp.nil.new hp, [], upd_same, RwV.nil⟩, fun i H' ⟨z, _⟩ => sqT_kp z hT, ?_, ?_⟩
  · rintro i v H1 hv ⟨k1, vs, hp1, hv1⟩
    obtain ⟨r, hri, hxr⟩ := hR.at' hv
    obtain ⟨c, rfl, hc⟩ := hxr.kp k1
    have hrl := lA r (List.mem_of_getElem? hri)
    have hi := (List.getElem?_eq_some_iff.mp hri).1
    have htk : A1.take (i + 1) = A1.take i ++ [r] := by rw [List.take_add_one, hri]; rfl
    walk_at "rd"
    refine r_catN hc hc (by rw [List.length_map, sizeLine_eq]; omega) fun H2 t k2 ht => ?_
    have hp2 := k2.get hp1 (by simp)
    have kw : Kp [p] H2 (upd H2 p (.lst (vs ++ [.ref t]))) := kpW hp2
    have hx : VcV K H2 (.ref t) (dblR r) := ⟨t, rfl, by unfold dblR; rw [List.map_append]; exact ht⟩
    refine r_LcEnd hp2 ?_ ⟨(k1.trans k2).own hp, vs ++ [.ref t], upd_same, ?_⟩
    · have := hv1.len
      rw [List.length_map, List.length_take] at this
      rw [sizeLine_eq]
      omega
    · rw [htk, List.map_append]
      exact ((hv1.kp k2).kp kw).app (RwV.one (hx.kp kw))
  · rintro H1 ⟨k1, xs, hp1, hx1⟩
    rw [hR.len, List.take_length] at hx1
    have hS1 := sqT_kp k1 hS
    have hV1 := hV.kp k1
    walk_at "rd"
    refine r_LcT hS1 fun q hq => ⟨fun i H' => Kp [] H1 H' ∧ ∃ vs, H' q = some (.lst vs) ∧ RwV K H' vs ((B1.take i).map (padR n)), ⟨Kp.nil.new hq, [], upd_same, RwV.nil⟩, fun i H' ⟨z, _⟩ => sqT_kp z hS1, ?_, ?_⟩
    · rintro i v H2 hv ⟨k2, vs, hq2, hv2⟩
      obtain ⟨r, hri, hxr⟩ := hV1.at' hv
      obtain ⟨c, rfl, hc⟩ := hxr.kp k2
      have hrl := lB r (List.mem_of_getElem? hri)
      have hi := (List.getElem?_eq_some_iff.mp hri).1
      have htk : B1.take (i + 1) = B1.take i ++ [r] := by rw [List.take_add_one, hri]; rfl
      walk_at "rd"
      refine ⟨by simp [sizeLine_eq], fun z hz0 => ?_⟩
      have kz : Kp [] H2 (upd H2 z (.lst [.int 0])) := Kp.nil.new hz0
      walk_at "rd"
      refine opZ (m := n) upd_same (by omega) fun z2 hz2 => ?_
      have kz2 : Kp [] H2 (upd (upd H2 z (.lst [.int 0])) z2 (.lst ((zeroR n).map V.int))) := kz.new hz2
      have hz3 : upd (upd H2 z (.lst [.int 0])) z2 (.lst ((zeroR n).map V.int)) z2 = some (.lst ((zeroR n).map V.int)) := upd_same
      generalize upd (upd H2 z (.lst [.int 0])) z2 (.lst ((zeroR n).map V.int)) = H3 at kz2 hz3 ⊢
      walk_at "rd"
      refine r_tupL (SqL.of hz3) fun z4 hz4 => ?_
      have kz4 : Kp [] H3 (upd H3 z4 (.tup ((zeroR n).map V.int))) := Kp.nil.new hz4
      have hzT : SqT K (upd H3 z4 (.tup ((zeroR n).map V.int))) z4 ((zeroR n).map V.int) := SqT.of upd_same
      have k23 := kz2.trans kz4
      generalize upd H3 z4 (.tup ((zeroR n).map V.int)) = H4 at kz4 hzT k23 ⊢
      walk_at "rd"
      refine r_catN (sqT_kp k23 hc) hzT (by rw [List.length_map, List.length_map, zeroR_len, sizeLine_eq]; omega) fun H5 t k5 ht => ?_
      have k25 := k23.trans k5
      have hq5 := k25.get hq2 (by simp)
      have kw : Kp [q] H5 (upd H5 q (.lst (vs ++ [.ref t]))) := kpW hq5
      have hx : VcV K H5 (.ref t) (padR n r) := ⟨t, rfl, by unfold padR; rw [List.map_append]; exact ht⟩
      refine r_LcEnd hq5 ?_ ⟨(k2.trans k25).own hq, vs ++ [.ref t], upd_same, ?_⟩
      · have := hv2.len
        rw [List.length_map, List.length_take] at this
        rw [sizeLine_eq]
        omega
      · rw [htk, List.map_append]
        exact ((hv2.kp k25).kp kw).app (RwV.one (hx.kp kw))
    · rintro H2 ⟨k2, ys, hq2, hy2⟩
      rw [hV1.len, List.take_length] at hy2
      have hp2 := k2.get hp1 (by simp)
      have hx2 := hx1.kp k2
      have lx := hx2.len
      have ly := hy2.len
      rw [List.length_map] at lx ly
      walk_at "rd"
      refine r_cat hp2 hq2 (by rw [sizeLine_eq]; omega) fun m hm => ?_
      have km : Kp [] H2 (upd H2 m (.lst (xs ++ ys))) := Kp.nil.new hm
      have hm3 : upd H2 m (.lst (xs ++ ys)) m = some (.lst (xs ++ ys)) := upd_same
      have hMR : RwV K (upd H2 m (.lst (xs ++ ys))) (xs ++ ys) (mtR n A1 B1) := (hx2.app hy2).kp km
      have k03 := (k1.trans k2).trans km
      generalize upd H2 m (.lst (xs ++ ys)) = H3 at km hm3 hMR k03 ⊢
      clear hx1 hx2 hy2 hp1 hp2 hq2 k1 k2 km
      walk_at "rd"
      rotate_left
      · exact .inl ⟨by decide, by decide⟩
      rw [e2n]
      refine ⟨m, true, xs ++ ys, mtR n A1 B1, 2 * n, rfl, hm3, hMR, by rw [mtR_len]; omega, by omega, mtR_ln lA lB, ok, fun H4 b4 w4 k4 hT4 hR4 => ?_⟩
      generalize basisF (2 * n) (mtR n A1 B1) = M at ml mln ok2 k hR4
      have k04 := k03.trans k4
      walk_at "rd"
      refine r_LcT hT4 fun q5 hq5 => ⟨fun i H' => Kp [] H4 H' ∧ ∃ vs, H' q5 = some (.lst vs) ∧ RwV K H' vs (halvesR n (M.take i)), ⟨Kp.nil.new hq5, [], upd_same, RwV.nil⟩, fun i H' ⟨z, _⟩ => sqT_kp z hT4, ?_, ?_⟩
      · rintro i v H5 hv ⟨k5, vs, hq6, hv5⟩
        obtain ⟨r, hri, hxr⟩ := hR4.at' hv
        have hrl := mln r (List.mem_of_getElem? hri)
        have hi := (List.getElem?_eq_some_iff.mp hri).1
        have htk : M.take (i + 1) = M.take i ++ [r] := by rw [List.take_add_one, hri]; rfl
        have hll := hv5.len
        have hle : (halvesR n (M.take i)).length ≤ i := by
          unfold halvesR lowB
          rw [List.length_map]
          refine Nat.le_trans (List.length_filter_le _ _) ?_
          rw [List.length_take]
          omega
        walk_at "rd"
        refine ⟨v, r, rfl, hxr.kp k5, by omega, fun H6 k6 => ?_⟩
        obtain ⟨c, rfl, hc⟩ := (hxr.kp k5).kp k6
        have hq7 := k6.get hq6 (by simp)
        walk_at "rd"
        by_cases cl : n ≤ leadO r
        · rw [decide_eq_true (show ((n : Nat) : Int) ≤ ((leadO r : Nat) : Int) by omega)]
          refine iteT ?_
          walk_at "rd"
          refine r_slDrop hc fun H7 t k7 ht => ?_
          have k67 := k6.trans k7
          have hq8 := k67.get hq6 (by simp)
          have kw : Kp [q5] H7 (upd H7 q5 (.lst (vs ++ [.ref t]))) := kpW hq8
          refine r_LcEnd hq8 (by rw [sizeLine_eq]; omega) ⟨(k5.trans k67).own hq5, vs ++ [.ref t], upd_same, ?_⟩
          have e : halvesR n (M.take (i + 1)) = halvesR n (M.take i) ++ [r.drop n] := by
            unfold halvesR lowB
            rw [htk, List.filter_append, List.filter_cons_of_pos (by exact decide_eq_true cl), List.map_append]
            rfl
          rw [e]
          exact ((hv5.kp k67).kp kw).app (RwV.one (((RwV.drop ht : VcV K H7 (.ref t) (r.drop n)).kp kw)))
        · rw [decide_eq_false (show ¬((n : Nat) : Int) ≤ ((leadO r : Nat) : Int) by omega)]
          refine iteF ?_
          have e : halvesR n (M.take (i + 1)) = halvesR n (M.take i) := by
            unfold halvesR lowB
            rw [htk, List.filter_append, List.filter_cons_of_neg (by simp; omega), List.filter_nil, List.append_nil]
          refine ⟨k5.trans k6, vs, hq7, ?_⟩
          rw [e]
          exact hv5.kp k6
      · rintro H5 ⟨k5, zs, hq6, hz5⟩
        rw [hR4.len, List.take_length] at hz5
        walk_at "rd"
        refine ⟨q5, true, zs, halvesR n M, n, rfl, hq6, hz5, ?_, by omega, fun r hr => ?_, ok2, fun H6 b6 w6 k6 hT6 hR6 => ?_⟩
        · unfold halvesR lowB
          rw [List.length_map]
          exact Nat.lt_of_le_of_lt (List.length_filter_le _ _) (by omega)
        · obtain ⟨x, hx, rfl⟩ := List.mem_map.mp hr
          have := mln x (List.mem_filter.mp hx).1
          rw [List.length_drop]
          omega
        · exact k H6 b6 w6 ((k04.trans k5).trans k6) hT6 hR6
abbrev squiet_rows : Stmt := topS 20
abbrev Nquiet_rows : List Str := ["length", "basis", "by", "many", "rows", "index", "vector", "found", "row"]
abbrev Pquiet_rows : List Str := ["length", "basis", "by"]
theorem scquiet_rows : FnScope Nquiet_rows Pquiet_rows (defScope squiet_rows) :=
  ⟨rfl, rfl, rfl, by decide +kernel, rfl, by decide +kernel, by decide +kernel⟩
theorem ok_quiet_rows (D : Df K mg "quiet_rows" squiet_rows Pquiet_rows) (B : Blt mg) (Gvector_unit : Has P w K mg base CX0 "vector_unit" ["length", "index"] 1 (spUnitV K)) (Gtimes_vector : Has P w K mg base CX0 "times_vector" ["vector", "times"] 1 (spTvec K))
    (Gbasis_of : Has P w K mg base CX0 "basis_of" ["length", "vectors"] 35 (spBasisX K)) (Glead_of : Has P w K mg base CX0 "lead_of" ["vector"] 1 (spLead K)) : Has P w K mg base CX0 "quiet_rows" Pquiet_rows 36 (spQRows K) := by
  refine D.has scquiet_rows (fun vs H Q E h => ?_) (fun f cdv A outer s H vs Q E hr h => ?_)
  · obtain ⟨a, us, A1, n, q, rfl, _⟩ := h
    rfl
  obtain ⟨a, us, A1, n, q, rfl, hT, hR, hn, lA, hz, hq100, kok, k⟩ := h
  have ul := hR.len
  refine ⟨_, (pss_cons (ps_set (i := 3) scquiet_rows.nd rfl (Or.inr rfl) (pe_callB c_len (by rfl) B.len (by decide +kernel) (pa_cons (pv 1) pa_nil)))
      (pss_cons (ps_set (i := 4) scquiet_rows.nd rfl (Or.inl rfl) (pe_lst pa_nil))
      (pss_cons (ps_for PassesOwn.never rfl (pi_range1 (by rfl) B.range (pa_cons (pv 0) pa_nil)) (pg_name (i := 5) scquiet_rows.nd rfl (Or.inr rfl))
        (pss_one (ps_expr (pe_bm PySem.F.plainAttrs_list PySem.F.slot_list_append PySem.F.type_list_append mt_append (pv 4) (pa_cons (pe_op op_catA (pe_callTy c_tup (by rfl) B.tuple (by decide +kernel) (pa_cons (pe_lc (own := [("vector", 6)]) (g := gName 6) (by rfl) scquiet_rows.nd (pi_tup (pv 1)) (blkOk_by (own := [("vector", 6)]) (N := Nquiet_rows) (sc := defScope squiet_rows) (by decide +kernel)) (fun _ _ _ _ _ => (pg_name (i := 6) scquiet_rows.nd rfl (Or.inl rfl))) (fun _ _ _ _ _ => pts_nil) (fun _ _ _ _ _ => (pe_ix (ix_tupK (K := K) rfl) (pv 6) (pv 5) (fun _ _ => rfl)))) pa_nil)) (pe_f Gvector_unit (hr.mono (by omega)) (by rfl) pass0 (pa_cons (pv 0) (pa_cons (pv 5) pa_nil)))) pa_nil)))))
      (pss_cons (ps_for PassesOwn.never rfl (pi_range1 (by rfl) B.range (pa_cons (pv 3) pa_nil)) (pg_name (i := 5) scquiet_rows.nd rfl (Or.inr rfl))
        (pss_one (ps_expr (pe_bm PySem.F.plainAttrs_list PySem.F.slot_list_append PySem.F.type_list_append mt_append (pv 4) (pa_cons (pe_op op_catA (pe_f Gtimes_vector (hr.mono (by omega)) (by rfl) pass0 (pa_cons (pe_f Gvector_unit (hr.mono (by omega)) (by rfl) pass0 (pa_cons (pv 3) (pa_cons (pv 5) pa_nil))) (pa_cons (pv 2) pa_nil))) (pe_callTy c_tup (by rfl) B.tuple (by decide +kernel) (pa_cons (pe_op op_rep (pe_lst (pa_cons pe_int pa_nil)) (pv 0)) pa_nil))) pa_nil)))))
      (pss_cons (ps_setLc (i := 7) (own := [("row", 8)]) (g := gName 8) (by rfl) scquiet_rows.nd rfl rfl (sw_true rfl rfl rfl (by decide +kernel)) (pi_tup (pe_f Gbasis_of (hr.mono (by omega)) (by rfl) pass0 (pa_cons (pe_op op_add (pv 3) (pv 0)) (pa_cons (pv 4) pa_nil)))) (blkOk_by (own := [("row", 8)]) (N := Nquiet_rows) (sc := defScope squiet_rows) (by decide +kernel)) (fun _ _ _ _ _ => (pg_name (i := 8) scquiet_rows.nd rfl (Or.inl rfl))) (fun _ _ _ _ _ => (pts_one (pt_cmpR op_ge (pe_f Glead_of (hr.mono (by omega)) (by rfl) pass0 (pa_cons (pv 8) pa_nil)) (pv 3) (nomark _)))) (fun _ _ _ _ _ => (pe_slice (sl_tupAK (K := K) rfl) (pv 8) (po_some (pv 3)) po_none)))
      (pss_one (ps_ret (pe_f Gbasis_of (hr.mono (by omega)) (by rfl) pass0 (pa_cons (pv 0) (pa_cons (pv 7) pa_nil)))))))))), ?_⟩
  walk_at "rd"
  rw [ul]
  refine ⟨by simp, fun rp hrp => ?_⟩
  have k0 : Kp [] H (upd H rp (.lst [])) := Kp.nil.new hrp
  have hp0 : upd H rp (.lst []) rp = some (.lst []) := upd_same
  generalize upd H rp (.lst []) = H0 at k0 hp0 ⊢
  have hT0 := sqT_kp k0 hT
  have hR0 := hR.kp k0
  walk_at "rd"
  refine r_ForR (fun i σ H' => ∃ (x5 : Option V) (vs : List V), σ = [some (.int (n : Nat)), some (.ref a), some (.int (q : Nat)), some (.int (A1.length : Nat)), some (.ref rp), x5, none, none, none] ∧ Kp [rp] H0 H' ∧ H' rp = some (.lst vs) ∧ RwV K H' vs ((List.range i).map fun i => A1.map (fun a => at0 a i) ++ unitR n i)) (by omega) (by omega)
    ⟨_, [], rfl, Kp.reflM (Ms.cons hp0 trivial Ms.nil), hp0, RwV.nil⟩ ?_ ?_
  · rintro i σ H1 hi ⟨x5, vs, rfl, k1, hp1, hv1⟩
    have hT1 := sqT_kp k1 hT0
    have hR1 := hR0.kp k1
    walk_at "rd"
    refine lc_colT (fun a => at0 a i) hT1 hR1 (by omega) (fun b r H' R hm hb hR' => ?_) (fun _ => rfl) fun q2 H2 hq2 k2 hl2 => ?_
    · have hrl := lA r hm
      walk_at "rd"
      refine r_ixT hb (row_at (by omega)) ?_
      exact hR'
    walk_at "rd"
    refine r_tupL (SqL.of hl2) fun t2 ht2 => ?_
    have k3 : Kp [] H2 (upd H2 t2 (.tup ((A1.map fun a => at0 a i).map V.int))) := Kp.nil.new ht2
    have hc3 : SqT K (upd H2 t2 (.tup ((A1.map fun a => at0 a i).map V.int))) t2 ((A1.map fun a => at0 a i).map V.int) := SqT.of upd_same
    have k13 := k2.trans k3
    generalize upd H2 t2 (.tup ((A1.map fun a => at0 a i).map V.int)) = H3 at k3 hc3 k13 ⊢
    walk_at "rd"
    refine ⟨n, i, rfl, by omega, fun H4 v k4 hv4 => ?_⟩
    obtain ⟨b4, rfl, hb4⟩ := hv4
    walk_at "rd"
    refine r_catN (sqT_kp k4 hc3) hb4 (by rw [List.length_map, List.length_map, List.length_map, unit_len, sizeLine_eq]; omega) fun H5 t5 k5 ht5 => ?_
    have k15 := k13.trans (k4.trans k5)
    have hp5 := k15.get hp1 (by simp)
    have hv5 := hv1.kp k15
    have kw : Kp [rp] H5 (upd H5 rp (.lst (vs ++ [.ref t5]))) := kpW hp5
    have hx : VcV K H5 (.ref t5) ((A1.map fun a => at0 a i) ++ unitR n i) := ⟨t5, rfl, by rw [List.map_append]; exact ht5⟩
    have vl := hv1.len
    rw [List.length_map, List.length_range] at vl
    walk_at "rd"
    rotate_left
    · rw [sizeLine_eq]
      omega
    refine ⟨_, vs ++ [.ref t5], rfl, (k1.trans (k15.subM (Ms.cons hp1 trivial Ms.nil) (by simp))).trans kw, upd_same, ?_⟩
    rw [List.range_succ, List.map_append]
    exact (hv5.kp kw).app (RwV.one (hx.kp kw))
  · rintro σ H1 ⟨x5, vs1, rfl, k1, hp1, hv1⟩
    have hv1 : RwV K H1 vs1 (kerR n A1) := hv1
    have vl1 := hv1.len
    rw [ker_len] at vl1
    have hT1 := sqT_kp k1 hT0
    walk_at "rd"
    refine r_ForR (fun i σ H' => ∃ (x5 : Option V) (vs : List V), σ = [some (.int (n : Nat)), some (.ref a), some (.int (q : Nat)), some (.int (A1.length : Nat)), some (.ref rp), x5, none, none, none] ∧ Kp [rp] H0 H' ∧ H' rp = some (.lst vs) ∧ RwV K H' vs (kerR n A1 ++ (List.range i).map fun k => tvec (unitR A1.length k) (q : Nat) ++ zeroR n)) (by omega) (by omega)
      ⟨_, vs1, rfl, k1, hp1, by rw [List.range_zero, List.map_nil, List.append_nil]; exact hv1⟩ ?_ ?_
    · rintro i σ H2 hi ⟨x6, vs, rfl, k2, hp2, hv2⟩
      walk_at "rd"
      refine ⟨A1.length, i, rfl, by omega, fun H3 v k3 hv3 => ?_⟩
      walk_at "rd"
      refine ⟨v, unitR A1.length i, q, rfl, hv3, by rw [unit_len]; omega, fun y hy => ?_, fun H4 u k4 hu => ?_⟩
      · have b1 := unit_bd (E := 1) (Nat.le_refl _) y hy
        have a1 := log_lt (x := y) (k := 2) (Nat.lt_of_le_of_lt b1 (by decide)) (by decide)
        have a2 := log_lt (x := ((q : Nat) : Int)) (k := 20) (Nat.lt_of_le_of_lt (by rw [Int.natAbs_natCast]; exact hq100) (by decide)) (by decide)
        omega
      obtain ⟨b4, rfl, hb4⟩ := hu
      walk_at "rd"
      refine ⟨by simp [sizeLine_eq], fun z hz0 => ?_⟩
      have kz : Kp [] H4 (upd H4 z (.lst [.int 0])) := Kp.nil.new hz0
      walk_at "rd"
      refine opZ (m := n) upd_same (by omega) fun z2 hz2 => ?_
      have kz2 : Kp [] H4 (upd (upd H4 z (.lst [.int 0])) z2 (.lst ((zeroR n).map V.int))) := kz.new hz2
      have hz3 : upd (upd H4 z (.lst [.int 0])) z2 (.lst ((zeroR n).map V.int)) z2 = some (.lst ((zeroR n).map V.int)) := upd_same
      generalize upd (upd H4 z (.lst [.int 0])) z2 (.lst ((zeroR n).map V.int)) = H5 at kz2 hz3 ⊢
      walk_at "rd"
      refine r_tupL (SqL.of hz3) fun z4 hz4 => ?_
      have kz4 : Kp [] H5 (upd H5 z4 (.tup ((zeroR n).map V.int))) := Kp.nil.new hz4
      have hzT : SqT K (upd H5 z4 (.tup ((zeroR n).map V.int))) z4 ((zeroR n).map V.int) := SqT.of upd_same
      have k46 := kz2.trans kz4
      generalize upd H5 z4 (.tup ((zeroR n).map V.int)) = H6 at kz4 hzT k46 ⊢
      walk_at "rd"
      refine r_catN (sqT_kp k46 hb4) hzT (by rw [List.length_map, List.length_map, zeroR_len, tvec_len, unit_len, sizeLine_eq]; omega) fun H7 t k7 ht => ?_
      have k27 := (k3.trans k4).trans (k46.trans k7)
      have hp7 := k27.get hp2 (by simp)
      have hv7 := hv2.kp k27
      have kw : Kp [rp] H7 (upd H7 rp (.lst (vs ++ [.ref t]))) := kpW hp7
      have hx : VcV K H7 (.ref t) (tvec (unitR A1.length i) (q : Nat) ++ zeroR n) := ⟨t, rfl, by rw [List.map_append]; exact ht⟩
      have vl := hv2.len
      rw [List.length_append, ker_len, List.length_map, List.length_range] at vl
      walk_at "rd"
      rotate_left
      · rw [sizeLine_eq]
        omega
      refine ⟨_, vs ++ [.ref t], rfl, (k2.trans (k27.subM (Ms.cons hp2 trivial Ms.nil) (by simp))).trans kw, upd_same, ?_⟩
      rw [List.range_succ, List.map_append, ← List.append_assoc]
      exact (hv7.kp kw).app (RwV.one (hx.kp kw))
    · rintro σ H3 ⟨x6, xs, rfl, k2, hp3, hx3⟩
      have hx3 : RwV K H3 xs (qbR n A1 (q : Nat)) := hx3
      have k03 := k0.own1 hrp k2
      have e2n : ((A1.length : Nat) : Int) + ((n : Nat) : Int) = ((A1.length + n : Nat) : Int) := by omega
      walk_at "rd"
      rw [e2n]
      refine ⟨rp, true, xs, qbR n A1 (q : Nat), A1.length + n, rfl, hp3, hx3, by rw [qb_len]; omega, by omega, kok.ln, kok.ok, fun H4 b4 w4 k4 hT4 hR4 => ?_⟩
      have ml := kok.len
      have mln := kok.ln2
      have ok2 := kok.ok2
      have sm := kok.same
      have eF : quietB n A1 (q : Nat) = halvesR A1.length (basisF (A1.length + n) (qbR n A1 (q : Nat))) := rfl
      rw [eF] at k
      generalize basisF (A1.length + n) (qbR n A1 (q : Nat)) = M at ml mln ok2 k hR4 sm
      have k04 := k03.trans k4
      walk_at "rd"
      refine r_LcT hT4 fun q5 hq5 => ⟨fun i H' => Kp [] H4 H' ∧ ∃ vs, H' q5 = some (.lst vs) ∧ RwV K H' vs (halvesR A1.length (M.take i)), ⟨Kp.nil.new hq5, [], upd_same, RwV.nil⟩, fun i H' ⟨z, _⟩ => sqT_kp z hT4, ?_, ?_⟩
      · rintro i v H5 hv ⟨k5, vs, hq6, hv5⟩
        obtain ⟨r, hri, hxr⟩ := hR4.at' hv
        have hrl := mln r (List.mem_of_getElem? hri)
        have hi := (List.getElem?_eq_some_iff.mp hri).1
        have htk : M.take (i + 1) = M.take i ++ [r] := by rw [List.take_add_one, hri]; rfl
        have hll := hv5.len
        have hle : (halvesR A1.length (M.take i)).length ≤ i := by
          unfold halvesR lowB
          rw [List.length_map]
          refine Nat.le_trans (List.length_filter_le _ _) ?_
          rw [List.length_take]
          omega
        walk_at "rd"
        refine ⟨v, r, rfl, hxr.kp k5, by omega, fun H6 k6 => ?_⟩
        obtain ⟨c, rfl, hc⟩ := (hxr.kp k5).kp k6
        have hq7 := k6.get hq6 (by simp)
        walk_at "rd"
        by_cases cl : A1.length ≤ leadO r
        · rw [decide_eq_true (show ((A1.length : Nat) : Int) ≤ ((leadO r : Nat) : Int) by omega)]
          refine iteT ?_
          walk_at "rd"
          refine r_slDrop hc fun H7 t k7 ht => ?_
          have k67 := k6.trans k7
          have hq8 := k67.get hq6 (by simp)
          have kw : Kp [q5] H7 (upd H7 q5 (.lst (vs ++ [.ref t]))) := kpW hq8
          refine r_LcEnd hq8 (by rw [sizeLine_eq]; omega) ⟨(k5.trans k67).own hq5, vs ++ [.ref t], upd_same, ?_⟩
          have e : halvesR A1.length (M.take (i + 1)) = halvesR A1.length (M.take i) ++ [r.drop A1.length] := by
            unfold halvesR lowB
            rw [htk, List.filter_append, List.filter_cons_of_pos (by exact decide_eq_true cl), List.map_append]
            rfl
          rw [e]
          exact ((hv5.kp k67).kp kw).app (RwV.one (((RwV.drop ht : VcV K H7 (.ref t) (r.drop A1.length)).kp kw)))
        · rw [decide_eq_false (show ¬((A1.length : Nat) : Int) ≤ ((leadO r : Nat) : Int) by omega)]
          refine iteF ?_
          have e : halvesR A1.length (M.take (i + 1)) = halvesR A1.length (M.take i) := by
            unfold halvesR lowB
            rw [htk, List.filter_append, List.filter_cons_of_neg (by simp; omega), List.filter_nil, List.append_nil]
          refine ⟨k5.trans k6, vs, hq7, ?_⟩
          rw [e]
          exact hv5.kp k6
      · rintro H5 ⟨k5, zs, hq6, hz5⟩
        rw [hR4.len, List.take_length] at hz5
        walk_at "rd"
        refine ⟨q5, true, zs, halvesR A1.length M, n, rfl, hq6, hz5, ?_, by omega, fun r hr => ?_, ok2, fun H6 b6 w6 k6 hT6 hR6 => ?_⟩
        · exact Nat.lt_of_le_of_lt (halves_len _ _) (by omega)
        · obtain ⟨x, hx, rfl⟩ := List.mem_map.mp hr
          have := mln x (List.mem_filter.mp hx).1
          rw [List.length_drop]
          omega
        · rw [sm] at hR6
          exact k H6 b6 w6 ((k04.trans k5).trans k6) hT6 hR6
abbrev sOtherLength___init__ : Stmt := inClass (topS 6) 0
abbrev NOtherLength___init__ : List Str := ["self", "length"]
abbrev POtherLength___init__ : List Str := ["self", "length"]
theorem scOtherLength___init__ : FnScope NOtherLength___init__ POtherLength___init__ (defScope sOtherLength___init__) :=
  ⟨rfl, rfl, rfl, by decide +kernel, rfl, by decide +kernel, by decide +kernel⟩
theorem ok_OtherLength_init {C CR : Addr} (D : DfM K C "__init__" "OtherLength.__init__" sOtherLength___init__ POtherLength___init__) (B : Blt mg) (T : OexC K C) (hno : PySem.W.findIn K (.ref C) "length" = some none) (g_R : mg "ReadError" = some (.ref CR)) (rd : PySem.W.readsIn K CR (.type "type") = true)
    (sp : PySem.W.specialIn K (.ref CR) "__getattribute__" = some (some (.builtin "type.__getattribute__"))) (vV : PySem.W.findCls K (.ref CR) (.type "type") "__init__" = some (.val (.builtin "ValueError.__init__"))) :
    HasM P w K mg base CX0 C "__init__" POtherLength___init__ 1 (spErr C "length") := by
  refine D.has scOtherLength___init__ (fun vs H Q E h => ?_) (fun f cdv A outer s H vs Q E hr h => ?_)
  · obtain ⟨a, v, rfl, _⟩ := h
    rfl
  obtain ⟨a, v, rfl, ha, k⟩ := h
  refine ⟨_, (pss_cons (ps_expr (pe_reinit (by rfl) g_R rd sp vV (pa_cons (pv 0) (pa_cons pe_str pa_nil)))) (pss_one (ps_ost (pv 0) (pv 1)))), ?_⟩
  refine ⟨_, rfl, ?_⟩
  refine ⟨a, C, [.str "OtherLength"], rfl, by simp, T, ha, ?_⟩
  refine ⟨_, rfl, _, rfl, a, C, rfl, T, hno, .inl ⟨ha, fun dx hdx hne => ?_⟩⟩
  exact k dx hdx hne
abbrev sLattice___init__ : Stmt := inClass (topS 19) 0
abbrev NLattice___init__ : List Str := ["self", "length", "vectors", "index", "vector"]
abbrev PLattice___init__ : List Str := ["self", "length", "vectors"]
theorem scLattice___init__ : FnScope NLattice___init__ PLattice___init__ (defScope sLattice___init__) :=
  ⟨rfl, rfl, rfl, by decide +kernel, rfl, by decide +kernel, by decide +kernel⟩
theorem ok_Lattice_init {C : Addr} (D : DfM K C "__init__" "Lattice.__init__" sLattice___init__ PLattice___init__) (B : Blt mg) (T : LtT K C) {t1 : Tok} (g_MAX_LENGTH : mg "MAX_LENGTH" = some (.int 30 t1))
    (Gis_integer : Has P w K mg base CX0 "is_integer" ["value"] 1 (spIsI K)) (Gis_vector : Has P w K mg base CX0 "is_vector" ["value", "length"] 2 (spIsVc K)) (Gbasis_of : Has P w K mg base CX0 "basis_of" ["length", "vectors"] 35 (spBasis K)) :
    HasM P w K mg base CX0 C "__init__" PLattice___init__ 36 (spLatB K C) := by
  refine D.has scLattice___init__ (fun vs H Q E h => ?_) (fun f cdv A outer s H vs Q E hr h => ?_)
  · obtain ⟨a, dx, u, us, rs, n, rfl, _⟩ := h
    rfl
  obtain ⟨a, dx, u, us, rs, n, rfl, hI, hT, hR, hln, hn, hz, hok, k⟩ := h
  have cC := T.cl
  refine ⟨_, (pss_cons (ps_if (PW.pt (pw_or (pt_not (pt_val (pe_f Gis_integer (hr.mono (by omega)) (by rfl) pass0 (pa_cons (pv 1) pa_nil)))) (pw_or1 (pt_not (pt_chain op_le op_le pe_int (pv 1) (pe_gint (by rfl) g_MAX_LENGTH)))))) (pss_one ps_void)
        pss_nil)
      (pss_cons (ps_if (pt_not (pt_val (pe_callB c_is2 (by rfl) B.isinstance (by decide +kernel) (pa_cons (pv 2) (pa_cons (pe_ty (T := "tuple") (by rfl) B.tuple (by decide +kernel)) pa_nil))))) (pss_one ps_void)
        pss_nil)
      (pss_cons (ps_for PassesOwn.never rfl (pi_enumT (by rfl) B.enumerate (pa_cons (pv 2) pa_nil)) (pg_tup rfl (pgs_cons (pg_name (i := 3) scLattice___init__.nd rfl (Or.inl rfl)) (pgs_cons (pg_name (i := 4) scLattice___init__.nd rfl (Or.inl rfl)) pgs_nil)))
        (pss_one (ps_if (pt_not (pt_val (pe_f Gis_vector (hr.mono (by omega)) (by rfl) pass0 (pa_cons (pv 4) (pa_cons (pv 1) pa_nil))))) (pss_one ps_void)
        pss_nil)))
      (pss_cons (ps_fld (pv 0) (pv 1) rfl)
      (pss_one (ps_fld (pv 0) (pe_f Gbasis_of (hr.mono (by omega)) (by rfl) pass0 (pa_cons (pv 1) (pa_cons (pv 2) pa_nil))) rfl)))))), ?_⟩
  walk_at "rd"
  refine ⟨_, .int (n : Nat), rfl, .int _, ?_⟩
  with_reducible refine r_bl ?_
  refine iteF ?_
  walk_at "rd"
  rw [decide_eq_true (show (0 : Int) ≤ (n : Nat) by omega)]
  refine iteT ?_
  walk_at "rd"
  rw [decide_eq_true (show ((n : Nat) : Int) ≤ 30 by omega)]
  refine iteF ?_
  walk_at "rd"
  have hu : Dw [] K H (.ref u) (rwsD rs) := RwV.dwT hT hR
  refine r_is2T hu (by rfl) (by decide) ?_
  walk_at "rd"
  refine r_forET ?_
  walk_at "rd"
  refine r_ForET hT (fun i σ H' => ∃ (x3 x4 : Option V), σ = [some (.ref a), some (.int (n : Nat)), some (.ref u), x3, x4] ∧ Kp [] H H') ⟨_, _, rfl, Kp.nil⟩ (fun i σ H' ⟨_, _, _, z⟩ => sqT_kp z hT) ?_ ?_
  · rintro i x σ H1 t hx ⟨x3, x4, rfl, k1⟩ ht
    obtain ⟨r, hri, hxr⟩ := hR.at' hx
    have hrl := hln r (List.mem_of_getElem? hri)
    have kt : Kp [] H1 (upd H1 t (.tup [.int (i : Nat), x])) := Kp.nil.new ht
    have tt : SqT K (upd H1 t (.tup [.int (i : Nat), x])) t [.int (i : Nat), x] := SqT.of upd_same
    have k2 := k1.trans kt
    have hxy := (hxr.kp k2).dw
    generalize upd H1 t (.tup [.int (i : Nat), x]) = H2 at kt tt k2 hxy ⊢
    walk_at "rd"
    refine ⟨x, vecD r, (n : Nat), rfl, hxy, by rw [vec_sz]; omega, fun H3 k3 => ?_⟩
    with_reducible refine r_bl ?_
    rw [isVc_yes hrl]
    refine iteF ?_
    walk_at "rd"
    exact ⟨_, _, rfl, k2.trans k3⟩
  · rintro σ H1 ⟨x3, x4, rfl, k1⟩
    have hR := hR.kp k1
    have hT1 := sqT_kp k1 hT
    have hI1 := k1.get hI (by simp)
    walk_at "rd"
    refine r_SFld hI1 cC T.nL (by simp) ?_
    have e1 : putF "length" (.int (n : Nat)) [] = ([("length", V.int (n : Nat))] : List (Str × V)) := rfl
    rw [e1]
    dsimp only
    have ki : Kp [a] H1 (upd H1 a (.ins C dx [("length", .int (n : Nat))])) := kpW2 hI1 trivial
    have hI2 : upd H1 a (.ins C dx [("length", .int (n : Nat))]) a = some (.ins C dx [("length", .int (n : Nat))]) := upd_same
    have k12 : Kp [a] H (upd H1 a (.ins C dx [("length", .int (n : Nat))])) := (k1.subM (Ms.cons hI trivial Ms.nil) (by simp)).trans ki
    have hT2 := sqT_kp ki hT1
    have hR2 := hR.kp ki
    generalize upd H1 a (.ins C dx [("length", .int (n : Nat))]) = H2 at ki hI2 k12 hT2 hR2 ⊢
    walk_at "rd"
    refine ⟨u, us, rs, n, rfl, hT2, hR2, hz, by omega, hln, hok, fun H3 b ws k3 hb hw => ?_⟩
    have hI3 := k3.get hI2 (by simp)
    walk_at "rd"
    refine r_SFld hI3 cC T.nB (by simp) ?_
    have e2 : putF "basis" (.ref b) ([("length", V.int (n : Nat))] : List (Str × V)) = ([("length", V.int (n : Nat)), ("basis", .ref b)] : List (Str × V)) := rfl
    rw [e2]
    dsimp only
    have ki3 : Kp [a] H3 (upd H3 a (.ins C dx [("length", .int (n : Nat)), ("basis", .ref b)])) := kpW2 hI3 trivial
    exact k _ ((k12.trans (k3.subM (Ms.cons hI2 trivial Ms.nil) (by simp))).trans ki3) ⟨dx, b, ws, upd_same, sqT_kp ki3 hb, hw.kp ki3⟩
abbrev sLattice_need_same : Stmt := inClass (topS 19) 1
abbrev NLattice_need_same : List Str := ["self", "other"]
abbrev PLattice_need_same : List Str := ["self", "other"]
theorem scLattice_need_same : FnScope NLattice_need_same PLattice_need_same (defScope sLattice_need_same) :=
  ⟨rfl, rfl, rfl, by decide +kernel, rfl, by decide +kernel, by decide +kernel⟩
theorem ok_Lattice_same {C CO : Addr} (D : DfM K C "need_same" "Lattice.need_same" sLattice_need_same PLattice_need_same) (B : Blt mg) (T : LtT K C)
    (GOtherLength : HasE P w K mg base "OtherLength" CO ["self", "length"] 1 (spErr CO "length")) :
    HasM P w K mg base (L2.CX P w) C "need_same" PLattice_need_same 3 (spSameL K C CO) := by
  refine D.hasX scLattice_need_same (fun vs H Q E h => ?_) (fun f cdv A outer s H vs Q E hr h => ?_)
  · obtain ⟨a, b, n, m, bs, cs, rfl, _⟩ := h
    rfl
  obtain ⟨a, b, n, m, bs, cs, rfl, ⟨dx, p, ws, hI, hT, hR⟩, ⟨dy, q, xs, hJ, hS, hV⟩, k⟩ := h
  have cC := T.cl
  have nL := T.nL
  refine ⟨_, (pss_one (ps_if (pt_cmpR op_ne (pe_fld (pv 1) rfl) (pe_fld (pv 0) rfl) (nomark _)) (pss_one (ps_raise rfl (takes_of rfl rfl rfl rfl) (pmk_err GOtherLength (hr.mono (by omega)) (by rfl) (pa_cons (pe_fld (pv 1) rfl) pa_nil))))
        pss_nil)), ?_⟩
  walk_at "rd"
  have e : (!decide (V.int ((m : Nat) : Int) = V.int ((n : Nat) : Int))) = !decide (m = n) := congrArg _ (decide_eq_decide.mpr ⟨fun z => by injection z with z; omega, fun z => by rw [z]⟩)
  rw [e]
  by_cases c : m = n
  · rw [if_pos c] at k
    rw [decide_eq_true c]
    refine iteF ?_
    walk_at "rd"
    exact k H Kp.nil
  · rw [if_neg c] at k
    rw [decide_eq_false c]
    refine iteT ?_
    refine r_err ?_
    walk_at "rd"
    exact r_ErrQ (Lv.use k Kp.nil)
abbrev sLattice___add__ : Stmt := inClass (topS 19) 5
abbrev NLattice___add__ : List Str := ["self", "other"]
abbrev PLattice___add__ : List Str := ["self", "other"]
theorem scLattice___add__ : FnScope NLattice___add__ PLattice___add__ (defScope sLattice___add__) :=
  ⟨rfl, rfl, rfl, by decide +kernel, rfl, by decide +kernel, by decide +kernel⟩
theorem ok_Lattice_add {C CO : Addr} (D : DfM K C "__add__" "Lattice.__add__" sLattice___add__ PLattice___add__) (B : Blt mg) (T : LtT K C)
    (GN : HasM P w K mg base (L2.CX P w) C "need_same" ["self", "other"] 3 (spSameL K C CO)) (GLattice : HasC P w K mg base CX0 "Lattice" C ["self", "length", "vectors"] 36 (spLatB K C)) :
    HasM P w K mg base (L2.CX P w) C "__add__" PLattice___add__ 38 (spAdd K C CO) := by
  refine D.hasX scLattice___add__ (fun vs H Q E h => ?_) (fun f cdv A outer s H vs Q E hr h => ?_)
  · obtain ⟨a, b, n, m, A1, B1, rfl, _⟩ := h
    rfl
  obtain ⟨a, b, n, m, A1, B1, rfl, hL, hM, k⟩ := h
  have cC := T.cl
  have nL := T.nL
  have nB := T.nB
  refine ⟨_, (pss_cons (ps_expr (pe_m GN cC (hr.mono (by omega)) (passC (takes_of rfl rfl rfl rfl)) (pv 0) (pa_cons (pv 1) pa_nil)))
      (pss_one (ps_ret (pe_new GLattice (hr.mono (by omega)) (by rfl) pass0 (pa_cons (pe_fld (pv 0) rfl) (pa_cons (pe_op op_catA (pe_fld (pv 0) rfl) (pe_fld (pv 1) rfl)) pa_nil)))))), ?_⟩
  obtain ⟨dx, p, ws, hI, hT, hR⟩ := id hL
  obtain ⟨dy, q, xs, hJ, hS, hV⟩ := id hM
  walk_at "rd"
  refine ⟨a, b, n, m, A1, B1, rfl, hL, hM, ?_⟩
  by_cases c : m = n
  · rw [if_pos c] at k ⊢
    subst c
    obtain ⟨hn, lA, lB, hz, ok, k⟩ := k
    intro H1 k1
    have hT1 := sqT_kp k1 hT
    have hR1 := hR.kp k1
    have hI1 := k1.get hI (by simp)
    have hJ1 := k1.get hJ (by simp)
    have hS1 := sqT_kp k1 hS
    have hV1 := hV.kp k1
    have l1 := hR.len
    have l2 := hV.len
    walk_at "rd"
    refine r_make ?_
    walk_at "rd"
    refine r_catN hT1 hS1 (by rw [sizeLine_eq]; omega) fun H2 t k2 ht => ?_
    have hMR := (hR1.app hV1).kp k2
    walk_at "rd"
    refine r_lat ht hMR (lA.app lB) hn (by rw [List.length_append]; omega) ok fun H3 z hz0 k3 hL3 => ?_
    have k02 := k1.trans k2
    exact k H3 z (k02.freeM Ms.nil hz0) (k02.trans k3) hL3
  · rw [if_neg c] at k ⊢
    exact k
abbrev sLattice___and__ : Stmt := inClass (topS 19) 6
abbrev NLattice___and__ : List Str := ["self", "other"]
abbrev PLattice___and__ : List Str := ["self", "other"]
theorem scLattice___and__ : FnScope NLattice___and__ PLattice___and__ (defScope sLattice___and__) :=
  ⟨rfl, rfl, rfl, by decide +kernel, rfl, by decide +kernel, by decide +kernel⟩
theorem ok_Lattice_and {C CO : Addr} (D : DfM K C "__and__" "Lattice.__and__" sLattice___and__ PLattice___and__) (B : Blt mg) (T : LtT K C)
    (GN : HasM P w K mg base (L2.CX P w) C "need_same" ["self", "other"] 3 (spSameL K C CO)) (GLattice : HasC P w K mg base CX0 "Lattice" C ["self", "length", "vectors"] 36 (spLatB K C)) (Gmeet_of : Has P w K mg base CX0 "meet_of" ["length", "one", "other"] 36 (spMeet K)) :
    HasM P w K mg base (L2.CX P w) C "__and__" PLattice___and__ 38 (spAnd K C CO) := by
  refine D.hasX scLattice___and__ (fun vs H Q E h => ?_) (fun f cdv A outer s H vs Q E hr h => ?_)
  · obtain ⟨a, b, n, m, A1, B1, rfl, _⟩ := h
    rfl
  obtain ⟨a, b, n, m, A1, B1, rfl, hL, hM, k⟩ := h
  have cC := T.cl
  have nL := T.nL
  have nB := T.nB
  refine ⟨_, (pss_cons (ps_expr (pe_m GN cC (hr.mono (by omega)) (passC (takes_of rfl rfl rfl rfl)) (pv 0) (pa_cons (pv 1) pa_nil)))
      (pss_one (ps_ret (pe_new GLattice (hr.mono (by omega)) (by rfl) pass0 (pa_cons (pe_fld (pv 0) rfl) (pa_cons (pe_f Gmeet_of (hr.mono (by omega)) (by rfl) pass0 (pa_cons (pe_fld (pv 0) rfl) (pa_cons (pe_fld (pv 0) rfl) (pa_cons (pe_fld (pv 1) rfl) pa_nil)))) pa_nil)))))), ?_⟩
  obtain ⟨dx, p, ws, hI, hT, hR⟩ := id hL
  obtain ⟨dy, q, xs, hJ, hS, hV⟩ := id hM
  walk_at "rd"
  refine ⟨a, b, n, m, A1, B1, rfl, hL, hM, ?_⟩
  by_cases c : m = n
  · rw [if_pos c] at k ⊢
    subst c
    obtain ⟨M, hn, lA, lB, hz, ok, ml, mln, ok2, eM, lM, hMz, ok3, eM2, k⟩ := k
    intro H1 k1
    have hT1 := sqT_kp k1 hT
    have hR1 := hR.kp k1
    have hI1 := k1.get hI (by simp)
    have hJ1 := k1.get hJ (by simp)
    have hS1 := sqT_kp k1 hS
    have hV1 := hV.kp k1
    walk_at "rd"
    refine r_make ?_
    walk_at "rd"
    refine ⟨p, q, ws, xs, A1, B1, m, rfl, hT1, hR1, hS1, hV1, hn, lA, lB, hz, ok, ml, mln, ok2, fun H2 t ys k2 ht hy => ?_⟩
    rw [eM] at hy
    walk_at "rd"
    refine r_lat ht hy lM hn hMz ok3 fun H3 z hz0 k3 hL3 => ?_
    rw [eM2] at hL3
    have k02 := k1.trans k2
    exact k H3 z (k02.freeM Ms.nil hz0) (k02.trans k3) hL3
  · rw [if_neg c] at k ⊢
    exact k
abbrev sLattice___mul__ : Stmt := inClass (topS 19) 7
abbrev NLattice___mul__ : List Str := ["self", "number", "vector"]
abbrev PLattice___mul__ : List Str := ["self", "number"]
theorem scLattice___mul__ : FnScope NLattice___mul__ PLattice___mul__ (defScope sLattice___mul__) :=
  ⟨rfl, rfl, rfl, by decide +kernel, rfl, by decide +kernel, by decide +kernel⟩
theorem ok_Lattice_mul {C : Addr} (D : DfM K C "__mul__" "Lattice.__mul__" sLattice___mul__ PLattice___mul__) (B : Blt mg) (T : LtT K C)
    (GLattice : HasC P w K mg base CX0 "Lattice" C ["self", "length", "vectors"] 36 (spLatB K C)) (Gtimes_vector : Has P w K mg base CX0 "times_vector" ["vector", "times"] 1 (spTvec K)) :
    HasM P w K mg base CX0 C "__mul__" PLattice___mul__ 38 (spMulL K C) := by
  refine D.has scLattice___mul__ (fun vs H Q E h => ?_) (fun f cdv A outer s H vs Q E hr h => ?_)
  · obtain ⟨a, x, n, bs, rfl, _⟩ := h
    rfl
  obtain ⟨a, x, n, bs, rfl, ⟨dx, b, ws, hI, hT, hR⟩, hln, hn, hz, hx, hb, hok, k⟩ := h
  have cC := T.cl
  have nL := T.nL
  have nB := T.nB
  refine ⟨_, (pss_one (ps_ret (pe_new GLattice (hr.mono (by omega)) (by rfl) pass0 (pa_cons (pe_fld (pv 0) rfl) (pa_cons (pe_callTy c_tup (by rfl) B.tuple (by decide +kernel) (pa_cons (pe_lc (own := [("vector", 2)]) (g := gName 2) (by rfl) scLattice___mul__.nd (pi_tup (pe_fld (pv 0) rfl)) (blkOk_by (own := [("vector", 2)]) (N := NLattice___mul__) (sc := defScope sLattice___mul__) (by decide +kernel)) (fun _ _ _ _ _ => (pg_name (i := 2) scLattice___mul__.nd rfl (Or.inl rfl))) (fun _ _ _ _ _ => pts_nil) (fun _ _ _ _ _ => (pe_f Gtimes_vector (hr.mono (by omega)) (by rfl) pass0 (pa_cons (pv 2) (pa_cons (pv 1) pa_nil))))) pa_nil)) pa_nil))))), ?_⟩
  walk_at "rd"
  refine r_make ?_
  walk_at "rd"
  refine r_LcT hT fun p hp => ⟨fun i H' => Kp [] H H' ∧ ∃ vs, H' p = some (.lst vs) ∧ RwV K H' vs (timesR x (bs.take i)), ⟨Kp.nil.new hp, [], upd_same, RwV.nil⟩, fun i H' ⟨z, _⟩ => sqT_kp z hT, ?_, ?_⟩
  · rintro i v H1 hv ⟨k1, vs, hp1, hv1⟩
    obtain ⟨r, hri, hxr⟩ := hR.at' hv
    have hr1 := hxr.kp k1
    have hm := List.mem_of_getElem? hri
    have hrl := hln r hm
    have htk : bs.take (i + 1) = bs.take i ++ [r] := by rw [List.take_add_one, hri]; rfl
    walk_at "rd"
    refine ⟨v, r, x, rfl, hr1, by omega, fun y hy => ?_, fun H2 u k2 hu => ?_⟩
    · have a1 := log_lt (x := x) (k := 86) (Nat.lt_of_le_of_lt hx (by decide)) (by decide)
      have a2 := log_lt (x := y) (k := 1201) (Nat.lt_of_le_of_lt (hb r hm y hy) (Nat.pow_lt_pow_right (by decide) (by decide))) (by decide)
      omega
    have hp2 := k2.get hp1 (by simp)
    have hv2 := hv1.kp k2
    have kw : Kp [p] H2 (upd H2 p (.lst (vs ++ [u]))) := kpW hp2
    refine r_LcEnd hp2 ?_ ⟨(k1.trans k2).own hp, vs ++ [u], upd_same, ?_⟩
    · have := hv1.len
      rw [timesR_len, List.length_take] at this
      rw [sizeLine_eq]
      omega
    · rw [htk]
      unfold timesR
      rw [List.map_append]
      exact (hv2.kp kw).app (RwV.one (hu.kp kw))
  · rintro H1 ⟨k1, vs, hp1, hv1⟩
    rw [hR.len, List.take_length] at hv1
    walk_at "rd"
    refine r_tupL (SqL.of hp1) fun c hc => ?_
    have k2 : Kp [] H1 (upd H1 c (.tup vs)) := Kp.nil.new hc
    have k12 := k1.trans k2
    walk_at "rd"
    refine r_lat (SqT.of upd_same) (hv1.kp k2) (timesR_ln hln) hn (by rw [timesR_len]; exact hz) hok fun H3 z hz0 k3 hL => ?_
    exact k H3 z (k12.freeM Ms.nil hz0) (k12.trans k3) hL
abbrev sLattice___eq__ : Stmt := inClass (topS 19) 8
abbrev NLattice___eq__ : List Str := ["self", "other"]
abbrev PLattice___eq__ : List Str := ["self", "other"]
theorem scLattice___eq__ : FnScope NLattice___eq__ PLattice___eq__ (defScope sLattice___eq__) :=
  ⟨rfl, rfl, rfl, by decide +kernel, rfl, by decide +kernel, by decide +kernel⟩
theorem ok_Lattice_eq {C : Addr} (D : DfM K C "__eq__" "Lattice.__eq__" sLattice___eq__ PLattice___eq__) (B : Blt mg) (T : LtT K C) (TE : LtE K C) (g_Lattice : mg "Lattice" = some (.ref C)) :
    HasM P w K mg base CX0 C "__eq__" PLattice___eq__ 1 (spEqL K C) := by
  refine D.has scLattice___eq__ (fun vs H Q E h => ?_) (fun f cdv A outer s H vs Q E hr h => ?_)
  · obtain ⟨a, y, n, bs, b, rfl, _⟩ := h
    rfl
  obtain ⟨a, y, n, bs, b, rfl, hL, hy, k⟩ := h
  have cC := T.cl
  have nL := T.nL
  have nB := T.nB
  refine ⟨_, (pss_cons (ps_if (pt_not (pt_val (pe_callB call_isi (by rfl) B.isinstance (by decide +kernel) (pa_cons (pv 1) (pa_cons (pe_gref (by rfl) g_Lattice) pa_nil))))) (pss_one (ps_ret pe_bl))
        pss_nil)
      (pss_one (ps_ret (pe_and (pe_cmpR op_eq (pe_fld (pv 0) rfl) (pe_fld (pv 1) rfl) (nomark _)) (pe_one (pe_cmpR (op_eqD hr.h64) (pe_fld (pv 0) rfl) (pe_fld (pv 1) rfl) (nomark _))))))), ?_⟩
  walk_at "rd"
  rcases hy with ⟨p, m, cs, rfl, hM, rfl⟩ | ⟨M, d, hd, rfl⟩
  · refine ⟨.ref p, _, _, _, true, rfl, .own C, hM.ty T TE, TE.k0, ?_⟩
    obtain ⟨dx, q, ws, hI, hT, hR⟩ := hL
    obtain ⟨dy, r, xs, hJ, hS, hV⟩ := hM
    with_reducible refine r_bl ?_
    refine iteF ?_
    walk_at "rd"
    have e : decide (V.int ((n : Nat) : Int) = V.int ((m : Nat) : Int)) = decide (n = m) := decide_eq_decide.mpr ⟨fun z => by injection z with z; omega, fun z => by rw [z]⟩
    rw [e]
    by_cases c : n = m
    · rw [decide_eq_true c]
      refine iteT ?_
      walk_at "rd"
      refine r_rwsEq hT hR hS hV ?_
      have q := k H Kp.nil
      rw [show decide (n = m ∧ bs = cs) = decide (bs = cs) from decide_eq_decide.mpr ⟨fun z => z.2, fun z => ⟨c, z⟩⟩] at q
      exact q
    · rw [decide_eq_false c]
      refine iteF ?_
      have q := k H Kp.nil
      rw [decide_eq_false (show ¬(n = m ∧ bs = cs) from fun z => c z.1)] at q
      exact q
  · refine ⟨y, _, _, _, false, rfl, .own C, hd.ty, TE.kit d, ?_⟩
    with_reducible refine r_bl ?_
    refine iteT ?_
    walk_at "rd"
    exact k H Kp.nil
abbrev sLattice_within : Stmt := inClass (topS 19) 9
abbrev NLattice_within : List Str := ["self", "other", "vector"]
abbrev PLattice_within : List Str := ["self", "other"]
theorem scLattice_within : FnScope NLattice_within PLattice_within (defScope sLattice_within) :=
  ⟨rfl, rfl, rfl, by decide +kernel, rfl, by decide +kernel, by decide +kernel⟩
theorem ok_Lattice_within {C CO : Addr} (D : DfM K C "within" "Lattice.within" sLattice_within PLattice_within) (B : Blt mg) (T : LtT K C)
    (GN : HasM P w K mg base (L2.CX P w) C "need_same" ["self", "other"] 3 (spSameL K C CO)) (Grest_by : Has P w K mg base CX0 "rest_by" ["basis", "vector"] 34 (spRestBy K)) (Glead_of : Has P w K mg base CX0 "lead_of" ["vector"] 1 (spLead K)) :
    HasM P w K mg base (L2.CX P w) C "within" PLattice_within 35 (spWithin K C CO) := by
  refine D.hasX scLattice_within (fun vs H Q E h => ?_) (fun f cdv A outer s H vs Q E hr h => ?_)
  · obtain ⟨a, b, n, m, bs, cs, rfl, _⟩ := h
    rfl
  obtain ⟨a, b, n, m, bs, cs, rfl, hL, hM, hz, k⟩ := h
  have cC := T.cl
  have nL := T.nL
  have nB := T.nB
  refine ⟨_, (pss_cons (ps_expr (pe_m GN cC (hr.mono (by omega)) (passC (takes_of rfl rfl rfl rfl)) (pv 0) (pa_cons (pv 1) pa_nil)))
      (pss_one (ps_ret (pe_callB (cr_allL (K := K) rfl rfl) (by rfl) B.all (by decide +kernel) (pa_cons (pe_lc (own := [("vector", 2)]) (g := gName 2) (by rfl) scLattice_within.nd (pi_tup (pe_fld (pv 0) rfl)) (blkOk_by (own := [("vector", 2)]) (N := NLattice_within) (sc := defScope sLattice_within) (by decide +kernel)) (fun _ _ _ _ _ => (pg_name (i := 2) scLattice_within.nd rfl (Or.inl rfl))) (fun _ _ _ _ _ => pts_nil) (fun _ _ _ _ _ => (pe_cmpR op_eq (pe_f Glead_of (hr.mono (by omega)) (by rfl) pass0 (pa_cons (pe_ix (ix_tupK (K := K) rfl) (pe_f Grest_by (hr.mono (by omega)) (by rfl) pass0 (pa_cons (pe_fldK (K := K) rfl (pv 1) rfl) (pa_cons (pv 2) pa_nil))) pe_int (fun _ _ => rfl)) pa_nil)) (pe_fldK (K := K) rfl (pv 0) rfl) (nomark _)))) pa_nil))))), ?_⟩
  obtain ⟨dx, p, ws, hI, hT, hR⟩ := id hL
  walk_at "rd"
  obtain ⟨dy, q, xs, hJ, hS, hV⟩ := id hM
  refine ⟨a, b, n, m, bs, cs, rfl, hL, hM, ?_⟩
  by_cases c : m = n
  · rw [if_pos c] at k ⊢
    subst c
    obtain ⟨ok, k⟩ := k
    intro H1 k1
    have hT1 := sqT_kp k1 hT
    have hR1 := hR.kp k1
    have hI1 := k1.get hI (by simp)
    have hJ1 := k1.get hJ (by simp)
    have hS1 := sqT_kp k1 hS
    have hV1 := hV.kp k1
    walk_at "rd"
    refine r_LcT hT1 fun l hl => ⟨fun i H' => Kp [] H1 H' ∧ H' l = some (.lst (((bs.take i).map fun r => decide (leadO (restF cs r) = m)).map V.bl)), ⟨Kp.nil.new hl, upd_same⟩, fun i H' ⟨z, _⟩ => sqT_kp z hT1, ?_, ?_⟩
    · rintro i v H2 hv ⟨k2, hl2⟩
      obtain ⟨r, hri, hxr⟩ := hR1.at' hv
      have okr := ok r (List.mem_of_getElem? hri)
      have htk : bs.take (i + 1) = bs.take i ++ [r] := by rw [List.take_add_one, hri]; rfl
      have lr := restF_len cs r okr.ln okr.lv
      have n30 := okr.n30
      have hI2 := k2.get hI1 (by simp)
      have hJ2 := k2.get hJ1 (by simp)
      walk_at "rd"
      refine ⟨q, v, xs, cs, m, r, rfl, sqT_kp k2 hS1, hV1.kp k2, hxr.kp k2, okr, fun H3 t x y k3 hp hx hy => ?_⟩
      have hx0 : atI [x, y] 0 = some x := atI06 _ _
      walk_at "rd"
      refine ⟨x, _, rfl, hx, by omega, fun H4 k4 => ?_⟩
      have hI4 := (k3.trans k4).get hI2 (by simp)
      have hl4 := (k3.trans k4).get hl2 (by simp)
      walk_at "rd"
      have e : decide (V.int ((leadO (restF cs r) : Nat) : Int) = V.int ((m : Nat) : Int)) = decide (leadO (restF cs r) = m) := decide_eq_decide.mpr ⟨fun z => by injection z with z; omega, fun z => by rw [z]⟩
      rw [e]
      refine r_LcEnd hl4 (by rw [List.length_map, List.length_map, List.length_take, sizeLine_eq]; omega) ⟨(k2.trans (k3.trans k4)).own hl, ?_⟩
      rw [upd_same, htk, List.map_append, List.map_append]
      rfl
    · rintro H2 ⟨k2, hl2⟩
      rw [hR1.len, List.take_length] at hl2
      walk_at "rd"
      refine ⟨l, bs.map fun r => decide (leadO (restF cs r) = m), rfl, SqL.of hl2, ?_⟩
      have e : withB m cs bs = (bs.map fun r => decide (leadO (restF cs r) = m)).all id := by
        unfold withB
        rw [List.all_map]
        rfl
      rw [← e]
      exact k H2 (k1.trans k2)
  · rw [if_neg c] at k ⊢
    exact k
abbrev sLattice_quiet : Stmt := inClass (topS 19) 12
abbrev NLattice_quiet : List Str := ["self"]
abbrev PLattice_quiet : List Str := ["self"]
theorem scLattice_quiet : FnScope NLattice_quiet PLattice_quiet (defScope sLattice_quiet) :=
  ⟨rfl, rfl, rfl, by decide +kernel, rfl, by decide +kernel, by decide +kernel⟩
theorem ok_Lattice_quiet {C : Addr} (D : DfM K C "quiet" "Lattice.quiet" sLattice_quiet PLattice_quiet) (B : Blt mg) (T : LtT K C)
    (GLattice : HasC P w K mg base CX0 "Lattice" C ["self", "length", "vectors"] 36 (spLatB K C)) (Gkernel_of : Has P w K mg base CX0 "kernel_of" ["length", "vectors"] 36 (spKernel K)) :
    HasM P w K mg base CX0 C "quiet" PLattice_quiet 38 (spQuietL K C) := by
  refine D.has scLattice_quiet (fun vs H Q E h => ?_) (fun f cdv A outer s H vs Q E hr h => ?_)
  · obtain ⟨a, n, A1, rfl, _⟩ := h
    rfl
  obtain ⟨a, n, A1, rfl, ⟨dx, b, ws, hI, hT, hR⟩, hn, lA, hz, kok, k⟩ := h
  have cC := T.cl
  have nL := T.nL
  have nB := T.nB
  refine ⟨_, (pss_one (ps_ret (pe_new GLattice (hr.mono (by omega)) (by rfl) pass0 (pa_cons (pe_fld (pv 0) rfl) (pa_cons (pe_f Gkernel_of (hr.mono (by omega)) (by rfl) pass0 (pa_cons (pe_fld (pv 0) rfl) (pa_cons (pe_fld (pv 0) rfl) pa_nil))) pa_nil))))), ?_⟩
  walk_at "rd"
  refine r_make ?_
  walk_at "rd"
  refine ⟨b, ws, A1, n, rfl, hT, hR, hn, lA, hz, kok, fun H1 c xs k1 hT1 hR1 => ?_⟩
  have ml := kok.len
  have mln := kok.ln2
  have ok2 := kok.ok2
  have sm := kok.same
  have eF : quietF n A1 = halvesR A1.length (basisF (A1.length + n) (kerR n A1)) := rfl
  rw [eF] at k hR1
  walk_at "rd"
  refine r_lat hT1 hR1 (fun r hr => ?_) hn (Nat.lt_of_le_of_lt (halves_len _ _) (by omega)) ok2 fun H2 z hz0 k2 hL => ?_
  · obtain ⟨x, hx, rfl⟩ := List.mem_map.mp hr
    have := mln x (List.mem_filter.mp hx).1
    rw [List.length_drop]
    omega
  · rw [sm] at hL
    exact k H2 z (k1.trans k2) hL
abbrev sLattice_quiet_by : Stmt := inClass (topS 19) 13
abbrev NLattice_quiet_by : List Str := ["self", "by"]
abbrev PLattice_quiet_by : List Str := ["self", "by"]
theorem scLattice_quiet_by : FnScope NLattice_quiet_by PLattice_quiet_by (defScope sLattice_quiet_by) :=
  ⟨rfl, rfl, rfl, by decide +kernel, rfl, by decide +kernel, by decide +kernel⟩
theorem ok_Lattice_quiet_by {C : Addr} (D : DfM K C "quiet_by" "Lattice.quiet_by" sLattice_quiet_by PLattice_quiet_by) (B : Blt mg) (T : LtT K C)
    (GLattice : HasC P w K mg base CX0 "Lattice" C ["self", "length", "vectors"] 36 (spLatB K C)) (Gquiet_rows : Has P w K mg base CX0 "quiet_rows" ["length", "basis", "by"] 36 (spQRows K)) :
    HasM P w K mg base CX0 C "quiet_by" PLattice_quiet_by 38 (spQuietBL K C) := by
  refine D.has scLattice_quiet_by (fun vs H Q E h => ?_) (fun f cdv A outer s H vs Q E hr h => ?_)
  · obtain ⟨a, n, q, A1, rfl, _⟩ := h
    rfl
  obtain ⟨a, n, q, A1, rfl, ⟨dx, b, ws, hI, hT, hR⟩, hn, lA, hz, hq, kok, k⟩ := h
  have cC := T.cl
  have nL := T.nL
  have nB := T.nB
  refine ⟨_, (pss_one (ps_ret (pe_new GLattice (hr.mono (by omega)) (by rfl) pass0 (pa_cons (pe_fld (pv 0) rfl) (pa_cons (pe_f Gquiet_rows (hr.mono (by omega)) (by rfl) pass0 (pa_cons (pe_fld (pv 0) rfl) (pa_cons (pe_fld (pv 0) rfl) (pa_cons (pv 1) pa_nil)))) pa_nil))))), ?_⟩
  walk_at "rd"
  refine r_make ?_
  walk_at "rd"
  refine ⟨b, ws, A1, n, q, rfl, hT, hR, hn, lA, hz, hq, kok, fun H1 c xs k1 hT1 hR1 => ?_⟩
  have ml := kok.len
  have mln := kok.ln2
  have ok2 := kok.ok2
  have sm := kok.same
  have eF : quietB n A1 (q : Nat) = halvesR A1.length (basisF (A1.length + n) (qbR n A1 (q : Nat))) := rfl
  rw [eF] at k hR1
  walk_at "rd"
  refine r_lat hT1 hR1 (fun r hr => ?_) hn (Nat.lt_of_le_of_lt (halves_len _ _) (by omega)) ok2 fun H2 z hz0 k2 hL => ?_
  · obtain ⟨x, hx, rfl⟩ := List.mem_map.mp hr
    have := mln x (List.mem_filter.mp hx).1
    rw [List.length_drop]
    omega
  · rw [sm] at hL
    exact k H2 z (k1.trans k2) hL
abbrev s_law_deck : Stmt := topS 22
abbrev N_law_deck : List Str := ["_law_script", "_law_cell"]
abbrev P_law_deck : List Str := ["_law_script"]
theorem sc_law_deck : FnScope N_law_deck P_law_deck (defScope s_law_deck) :=
  ⟨rfl, rfl, rfl, by decide +kernel, rfl, by decide +kernel, by decide +kernel⟩
theorem ok_law_deck (D : Df K mg "_law_deck" s_law_deck P_law_deck) (B : Blt mg) : Has P w K mg base CX0 "_law_deck" P_law_deck 1 (spDeck K) := by
  refine D.has sc_law_deck (fun vs H Q E h => ?_) (fun f cdv A outer s H vs Q E hr h => ?_)
  · obtain ⟨a, ns, rfl, _⟩ := h
    rfl
  obtain ⟨a, ns, rfl, hS, hl, k⟩ := h
  refine ⟨_, (pss_one (ps_ret (pe_lst (pa_cons (pe_lc (own := [("_law_cell", 1)]) (g := gName 1) (by rfl) sc_law_deck.nd (pi_list (pe_slice sl_list (pv 0) po_none (po_some pe_int))) (blkOk_by (own := [("_law_cell", 1)]) (N := N_law_deck) (sc := defScope s_law_deck) (by decide +kernel)) (fun _ _ _ _ _ => (pg_name (i := 1) sc_law_deck.nd rfl (Or.inl rfl))) (fun _ _ _ _ _ => pts_nil) (fun _ _ _ _ _ => (pe_callB c_abs (by rfl) B.abs (by decide +kernel) (pa_cons (pv 1) pa_nil)))) (pa_cons pe_int pa_nil))))), ?_⟩
  walk_at "rd"
  refine r_slL hS fun p hp => ?_
  obtain ⟨ms, e, hm, _⟩ := cutV_map V.int ns none (some 63)
  rw [e]
  have k1 : Kp [] H (upd H p (.lst (ms.map V.int))) := Kp.nil.new hp
  have h1 : upd H p (.lst (ms.map V.int)) p = some (.lst (ms.map V.int)) := upd_same
  generalize upd H p (.lst (ms.map V.int)) = H1 at k1 h1 ⊢
  refine r_LcL (SqL.of h1) fun c hc => ?_
  refine ⟨fun i H' => ∃ cs : List Int, H' c = some (.lst (cs.map V.int)) ∧ (∀ x ∈ cs, 0 ≤ x) ∧ cs.length = i ∧ Kp [] H1 H', ⟨[], upd_same, (fun _ h => (nomatch h)), rfl, Kp.nil.new hc⟩,
    fun i H' ⟨_, _, _, _, kk⟩ => SqL.of (kk.get h1 (by simp)), ?_, ?_⟩
  · rintro i x H2 hx ⟨cs, h2, h3, h4, k2⟩
    rw [List.getElem?_map] at hx
    obtain ⟨y, hy, rfl⟩ := Option.map_eq_some_iff.mp hx
    have hi : i < ms.length := (List.getElem?_eq_some_iff.mp hy).1
    walk_at "rd"
    refine r_LcEnd h2 (by walk_at "sz") ⟨cs ++ [if y < 0 then -y else y], ?_, ?_, ?_, k2.own hc⟩
    · rw [upd_same, List.map_append]
      rfl
    · intro z hz
      rcases List.mem_append.mp hz with hz | hz
      · exact h3 z hz
      · rw [List.mem_singleton.mp hz]
        split <;> omega
    · rw [List.length_append, h4]
      rfl
  · rintro H2 ⟨cs, h2, h3, h4, k2⟩
    rw [List.length_map] at h4
    walk_at "rd"
    refine ⟨by simp [sizeLine_eq], fun d hd => ?_⟩
    have hcd : d ≠ c := Ne.symm (ne_of_none h2 hd)
    refine k _ d c ((k1.trans k2).same.free hd) (k1.same.free hc) ⟨upd_same, ⟨cs, ?_, h3, by omega⟩, hcd, by omega⟩ ((k1.trans k2).new hd)
    rw [upd_ne hcd.symm]
    exact h2
abbrev s_law_draw : Stmt := topS 23
abbrev N_law_draw : List Str := ["_law_deck_here", "_law_many", "_law_cell", "_law_at", "_law_mixed"]
abbrev P_law_draw : List Str := ["_law_deck_here", "_law_many"]
theorem sc_law_draw : FnScope N_law_draw P_law_draw (defScope s_law_draw) :=
  ⟨rfl, rfl, rfl, by decide +kernel, rfl, by decide +kernel, by decide +kernel⟩
theorem ok_law_draw (D : Df K mg "_law_draw" s_law_draw P_law_draw) (B : Blt mg) : Has P w K mg base CX0 "_law_draw" P_law_draw 1 spDraw := by
  refine D.has sc_law_draw (fun vs H Q E h => ?_) (fun f cdv A outer s H vs Q E hr h => ?_)
  · obtain ⟨d, c, n, m, rfl, _⟩ := h
    rfl
  obtain ⟨d, c, n, m, rfl, Dk, hn, h1, h2, k⟩ := h
  refine ⟨_, (pss_cons (ps_asg (pe_op op_add (pe_ix ix_list (pv 0) pe_int (fun _ _ => rfl)) pe_int) (pg_sub (pv 0) pe_int set_list))
      (pss_cons (ps_asg (pe_tup (pa_cons pe_int (pa_cons (pe_un un_neg pe_int) pa_nil))) (pg_tup rfl (pgs_cons (pg_name (i := 2) sc_law_draw.nd rfl (Or.inl rfl)) (pgs_cons (pg_name (i := 3) sc_law_draw.nd rfl (Or.inl rfl)) pgs_nil))))
      (pss_cons (ps_if (pt_cmpR op_gt (pe_callB c_len (by rfl) B.len (by decide +kernel) (pa_cons (pe_ix ix_list (pv 0) pe_int (fun _ _ => rfl)) pa_nil)) pe_int (nomark _)) (pss_cons (ps_set (i := 3) sc_law_draw.nd rfl (Or.inl rfl) (pe_op op_mod (pe_callTy c_int (by rfl) B.int (by decide +kernel) (pa_cons (pe_ix ix_list (pv 0) pe_int (fun _ _ => rfl)) pa_nil)) (pe_callB c_len (by rfl) B.len (by decide +kernel) (pa_cons (pe_ix ix_list (pv 0) pe_int (fun _ _ => rfl)) pa_nil))))
      (pss_one (ps_set (i := 2) sc_law_draw.nd rfl (Or.inl rfl) (pe_ix ix_list (pe_ix ix_list (pv 0) pe_int (fun _ _ => rfl)) (pv 3) (fun _ _ => rfl)))))
        pss_nil)
      (pss_cons (ps_if (pt_cmpR op_ge (pv 2) (pe_op op_pow pe_int pe_int) (nomark _)) (pss_cons (ps_asg (pe_op op_fdiv (pe_callTy c_int (by rfl) B.int (by decide +kernel) (pa_cons (pv 2) pa_nil)) (pv 1)) (pg_sub (pe_ix ix_list (pv 0) pe_int (fun _ _ => rfl)) (pv 3) set_list))
      (pss_one (ps_ret (pe_op op_mod (pe_callTy c_int (by rfl) B.int (by decide +kernel) (pa_cons (pv 2) pa_nil)) (pv 1)))))
        pss_nil)
      (pss_cons (ps_set (i := 4) sc_law_draw.nd rfl (Or.inl rfl) (pe_op op_add (pe_op op_add (pe_op op_mod (pe_callTy c_int (by rfl) B.int (by decide +kernel) (pa_cons (pv 2) pa_nil)) pe_int) (pe_op op_mul pe_int (pe_ix ix_list (pv 0) pe_int (fun _ _ => rfl)))) pe_int))
      (pss_one (ps_ret (pe_op op_mod (pe_callTy c_int (by rfl) B.int (by decide +kernel) (pa_cons (pe_op op_mod (pe_callTy c_int (by rfl) B.int (by decide +kernel) (pa_cons (pe_op op_pow (pv 4) pe_int) pa_nil)) pe_int) pa_nil)) (pv 1))))))))), ?_⟩
  obtain ⟨hd, ⟨cs, hc, hp, hl⟩, ne, n0⟩ := Dk
  walk_at "rd"
  refine ⟨by decide, fun p hp' => ?_⟩
  have pd : p ≠ d := fun z => by
    rw [z, upd_same] at hp'
    cases hp'
  have pH : H p = none := by
    rw [upd_ne pd] at hp'
    exact hp'
  have pc : p ≠ c := Ne.symm (ne_of_none hc pH)
  generalize eH : upd (upd H d (HO.lst ([V.ref c, V.int n].set (Int.toNat 1) (V.int (n + 1))))) p (HO.tup [V.int 0, V.int (-1)]) = H1
  have hT : H1 p = some (.tup [V.int 0, V.int (-1)]) := by rw [← eH]; exact upd_same
  have hd1 : H1 d = some (.lst [V.ref c, V.int (n + 1)]) := by
    rw [← eH, upd_ne pd.symm]
    exact upd_same
  have hc1 : H1 c = some (.lst (cs.map V.int)) := by
    rw [← eH, upd_ne pc.symm, upd_ne ne.symm]
    exact hc
  have kp : Kp [d, c] H H1 := by
    rw [← eH]
    exact ((Kp.refl (Deck.ls ⟨hd, ⟨cs, hc, hp, hl⟩, ne, n0⟩)).write (by simp)).new hp'
  walk_at "rd"
  have last : ∀ (x : Int), 0 ≤ x → ∀ (y : Int), y = x % 2147483563 + 8117 * (n + 1) + 3 → y.natAbs < 2 ^ 64 := by
    intro x hx y e
    omega
  refine ifd (fun c1 => ?_) (fun c1 => ?_)
  · rw [List.length_map] at c1
    have hlt : ((n + 1) % (cs.length : Int)).toNat < cs.length := by
      have q1 := Int.emod_nonneg (n + 1) (show (cs.length : Int) ≠ 0 by omega)
      have q2 := Int.emod_lt_of_pos (n + 1) c1
      omega
    have h0 := Int.emod_nonneg (n + 1) (show (cs.length : Int) ≠ 0 by omega)
    have hlt2 := Int.emod_lt_of_pos (n + 1) c1
    have hat : atI (cs.map V.int) ((n + 1) % ((cs.map V.int).length : Nat)) = some (.int cs[((n + 1) % (cs.length : Int)).toNat]) := by
      rw [List.length_map]
      refine at_of (j := ((n + 1) % (cs.length : Int)).toNat) (by omega) ?_
      rw [List.getElem?_map, List.getElem?_eq_getElem hlt]
      rfl
    have hset : ixN (cs.map V.int).length ((n + 1) % ((cs.map V.int).length : Nat)) = some ((n + 1) % (cs.length : Int)).toNat := by
      unfold ixN
      rw [List.length_map, if_pos h0, if_pos hlt2]
    have hx := hp _ (List.getElem_mem hlt)
    generalize cs[((n + 1) % (cs.length : Int)).toNat] = x at hat hx
    walk_at "rd"
    refine ifd (fun c2 => ?_) (fun c2 => ?_)
    all_goals walk_at "rd"
    · refine k _ _ (Int.emod_nonneg _ (by omega)) (Int.emod_lt_of_pos _ (by omega)) ⟨?_, ⟨cs.set ((n + 1) % (cs.length : Int)).toNat (x / m), ?_, ?_, ?_⟩, ne, by omega⟩ (kp.write (by simp))
      · rw [upd_ne ne]
        exact hd1
      · rw [upd_same, List.map_set]
      · intro y hy
        rcases List.mem_or_eq_of_mem_set hy with hy | rfl
        · exact hp y hy
        · exact Int.ediv_nonneg hx (by omega)
      · rw [List.length_set]
        exact hl
    · walk_at "sc"
    · walk_at "sc"
    · exact k _ _ (Int.emod_nonneg _ (by omega)) (Int.emod_lt_of_pos _ (by omega)) ⟨hd1, ⟨cs, hc1, hp, hl⟩, ne, by omega⟩ kp
    · walk_at "sc"
    · walk_at "sc"
    · walk_at "sc"
    · walk_at "sc"
    · walk_at "sc"
    · walk_at "sc"
    · rw [List.length_map]
      exact c1
  · walk_at "rd"
    · refine ifd (fun c2 => ?_) (fun c2 => ?_)
      · exact absurd c2 (by decide)
      · walk_at "rd"
        · exact k _ _ (Int.emod_nonneg _ (by omega)) (Int.emod_lt_of_pos _ (by omega)) ⟨hd1, ⟨cs, hc1, hp, hl⟩, ne, by omega⟩ kp
        all_goals walk_at "sc"
    · walk_at "sc"
abbrev s_law_one : Stmt := topS 24
abbrev N_law_one : List Str := ["_law_deck_here", "_law_items"]
abbrev P_law_one : List Str := ["_law_deck_here", "_law_items"]
theorem sc_law_one : FnScope N_law_one P_law_one (defScope s_law_one) :=
  ⟨rfl, rfl, rfl, by decide +kernel, rfl, by decide +kernel, by decide +kernel⟩
theorem ok_law_one (D : Df K mg "_law_one" s_law_one P_law_one) (B : Blt mg)
    (G_law_draw : Has P w K mg base CX0 "_law_draw" ["_law_deck_here", "_law_many"] 1 spDraw) : Has P w K mg base CX0 "_law_one" P_law_one 2 (spOne K) := by
  refine D.has sc_law_one (fun vs H Q E h => ?_) (fun f cdv A outer s H vs Q E hr h => ?_)
  · rcases h with ⟨d, c, a, n, xs, rfl, _⟩ | ⟨d, c, n, z, rfl, _⟩ <;> rfl
  refine ⟨_, (pss_one (ps_ret (pe_ix ix_seq (pv 1) (pe_f G_law_draw (hr.mono (by omega)) (by rfl) pass0 (pa_cons (pv 0) (pa_cons (pe_callB c_len (by rfl) B.len (by decide +kernel) (pa_cons (pv 1) pa_nil)) pa_nil))) (fun _ _ => rfl)))), ?_⟩
  rcases h with ⟨d, c, a, n, xs, rfl, Dk, hn, hS, h1, h2, h3, h4, k⟩ | ⟨d, c, n, z, rfl, Dk, hn, h3, h4, k⟩
  · walk_at "rd"
    refine spDraw.use Dk hn (by omega) (by omega) fun H1 r r0 r1 D1 k1 => ?_
    have hlt : r.toNat < xs.length := by omega
    refine .inl (r_ixL (sqL_kp k1 (by simp [h1, h2]) hS) (at_of (j := r.toNat) (by omega) (List.getElem?_eq_getElem hlt)) ?_)
    exact k _ r.toNat _ (List.getElem?_eq_getElem hlt) D1 k1
  · have hz : z.length ≤ sizeLine := by rw [sizeLine_eq]; omega
    have hsz : z.cps.toList.length = z.length := by rw [Array.length_toList]; rfl
    walk_at "rd"
    · refine spDraw.use Dk hn (by omega) (by omega) fun H1 r r0 r1 D1 k1 => ?_
      have hlt : r.toNat < z.cps.toList.length := by omega
      refine .inr (.inr (r_ixS (c := z.cps.toList[r.toNat]) hz ?_ ?_))
      · exact at_nn r0 (List.getElem?_eq_getElem hlt)
      · exact k _ _ (List.getElem_mem hlt) D1 k1
    · exact hz
abbrev s_law_item : Stmt := topS 25
abbrev N_law_item : List Str := ["_law_deck_here"]
abbrev P_law_item : List Str := ["_law_deck_here"]
theorem sc_law_item : FnScope N_law_item P_law_item (defScope s_law_item) :=
  ⟨rfl, rfl, rfl, by decide +kernel, rfl, by decide +kernel, by decide +kernel⟩
theorem ok_law_item (D : Df K mg "_law_item" s_law_item P_law_item) (B : Blt mg)
    (G_law_draw : Has P w K mg base CX0 "_law_draw" ["_law_deck_here", "_law_many"] 1 spDraw) (G_law_one : Has P w K mg base CX0 "_law_one" ["_law_deck_here", "_law_items"] 2 (spOne K)) :
    Has P w K mg base CX0 "_law_item" P_law_item 3 spItem := by
  refine D.has sc_law_item (fun vs H Q E h => ?_) (fun f cdv A outer s H vs Q E hr h => ?_)
  · obtain ⟨d, c, n, rfl, _⟩ := h
    rfl
  obtain ⟨d, c, n, rfl, Dk, hn, k⟩ := h
  have n0 := Dk.n0
  refine ⟨_, (pss_one (ps_ret (pe_f G_law_one (hr.mono (by omega)) (by rfl) pass0 (pa_cons (pv 0) (pa_cons (pe_lst (pa_cons pe_int (pa_cons pe_int (pa_cons pe_int (pa_cons pe_int (pa_cons (pe_un un_neg pe_int) (pa_cons pe_int (pa_cons (pe_un un_neg pe_int) (pa_cons pe_int (pa_cons pe_int (pa_cons (pe_un un_neg pe_int) (pa_cons (pe_op op_sub (pe_f G_law_draw (hr.mono (by omega)) (by rfl) pass0 (pa_cons (pv 0) (pa_cons pe_int pa_nil))) pe_int) (pa_cons (pe_op op_pow pe_int pe_int) pa_nil))))))))))))) pa_nil))))), ?_⟩
  walk_at "rd"
  refine spDraw.use Dk (by omega) (by omega) (by omega) fun H1 u u0 u1 D1 k1 => ?_
  walk_at "rd"
  rotate_left
  · exact c_pow (by decide) (by decide) (by decide)
  refine ⟨by walk_at "sz", fun p hp => ?_⟩
  have kp := (Kp.nil (H := H1)).new (o := .lst ([(0 : Int), 0, 0, 1, -1, 2, -3, 4, 6, -12, u - 99, 10 ^ 20].map V.int)) hp
  have fp := D1.fresh hp
  have D2 := D1.kp kp (by simp) (by simp)
  refine spOne.list (xs := [(0 : Int), 0, 0, 1, -1, 2, -3, 4, 6, -12, u - 99, 10 ^ 20].map V.int) D2 (by omega) (SqL.of upd_same) fp.1 fp.2 (by simp) (by simp) fun H3 i x hx D3 k3 => ?_
  rw [List.getElem?_map] at hx
  obtain ⟨y, hy, rfl⟩ := Option.map_eq_some_iff.mp hx
  have hm := List.mem_of_getElem? hy
  have e : n + 2 = n + 1 + 1 := by omega
  refine k H3 y ?_ (e ▸ D3) ((k1.new hp).trans k3)
  simp only [List.mem_cons, List.not_mem_nil, or_false] at hm
  omega
abbrev s_law_vector : Stmt := topS 26
abbrev N_law_vector : List Str := ["_law_deck_here", "_law_length", "_law_k"]
abbrev P_law_vector : List Str := ["_law_deck_here", "_law_length"]
theorem sc_law_vector : FnScope N_law_vector P_law_vector (defScope s_law_vector) :=
  ⟨rfl, rfl, rfl, by decide +kernel, rfl, by decide +kernel, by decide +kernel⟩
theorem ok_law_vector (D : Df K mg "_law_vector" s_law_vector P_law_vector) (B : Blt mg)
    (G_law_item : Has P w K mg base CX0 "_law_item" ["_law_deck_here"] 3 spItem) : Has P w K mg base CX0 "_law_vector" P_law_vector 4 (spVec6 K) := by
  refine D.has sc_law_vector (fun vs H Q E h => ?_) (fun f cdv A outer s H vs Q E hr h => ?_)
  · obtain ⟨d, c, n, m, rfl, _⟩ := h
    rfl
  obtain ⟨d, c, n, m, rfl, Dk, hn, hm, k⟩ := h
  have n0 := Dk.n0
  refine ⟨_, (pss_one (ps_ret (pe_callTy c_tup (by rfl) B.tuple (by decide +kernel) (pa_cons (pe_lc (own := [("_law_k", 2)]) (g := gName 2) (by rfl) sc_law_vector.nd (pi_range1 (by rfl) B.range (pa_cons (pv 1) pa_nil)) (blkOk_by (own := [("_law_k", 2)]) (N := N_law_vector) (sc := defScope s_law_vector) (by decide +kernel)) (fun _ _ _ _ _ => (pg_name (i := 2) sc_law_vector.nd rfl (Or.inl rfl))) (fun _ _ _ _ _ => pts_nil) (fun _ _ _ _ _ => (pe_f G_law_item (hr.mono (by omega)) (by rfl) pass0 (pa_cons (pv 0) pa_nil)))) pa_nil)))), ?_⟩
  walk_at "rd"
  refine r_LcR (by omega) (by omega) fun q hq => ⟨fun i H' => ∃ r : Rw, Deck H' d c (n + 2 * i) ∧ Kp [d, c] H H' ∧ H' q = some (.lst (r.map V.int)) ∧ r.length = i ∧ ∀ x ∈ r, x.natAbs ≤ 10 ^ 20, ?_, ?_, ?_⟩
  · have kq : Kp [] H (upd H q (.lst [])) := Kp.nil.new hq
    exact ⟨[], by simpa using Dk.kp kq (by simp) (by simp), (Kp.refl Dk.ls).new hq, upd_same, rfl, fun x h => by cases h⟩
  · rintro i H1 hi ⟨r, D1, k1, hq1, hl, hb⟩
    have fq := Dk.fresh hq
    walk_at "rd"
    refine ⟨d, c, _, rfl, D1, by omega, fun H2 x hx D2 k2 => ?_⟩
    have hq2 := k2.get hq1 (by simp [fq.1, fq.2])
    walk_at "rd"
    refine r_LcEnd hq2 (by rw [List.length_map, sizeLine_eq]; omega) ⟨r ++ [x], ?_, (k1.trans k2).own hq, by rw [upd_same, List.map_append]; rfl, by rw [List.length_append, hl]; rfl, fun y hy => ?_⟩
    · have D3 := D2.kp (kpW hq2 (o := .lst (r.map V.int ++ [.int x]))) (by simp [Ne.symm fq.1]) (by simp [Ne.symm fq.2])
      have e : n + 2 * (i : Int) + 2 = n + 2 * ((i + 1 : Nat) : Int) := by omega
      exact e ▸ D3
    · rcases List.mem_append.mp hy with hy | hy
      · exact hb y hy
      · rw [List.mem_singleton.mp hy]
        exact hx
  · rintro H1 ⟨r, D1, k1, hq1, hl, hb⟩
    walk_at "rd"
    refine r_tupL (SqL.of hq1) fun t ht => ?_
    have kt : Kp [] H1 (upd H1 t (.tup (r.map V.int))) := Kp.nil.new ht
    exact k _ _ r ⟨t, rfl, SqT.of upd_same⟩ hl hb (D1.kp kt (by simp) (by simp)) (k1.new ht)
abbrev s_law_vectors : Stmt := topS 27
abbrev N_law_vectors : List Str := ["_law_deck_here", "_law_length", "_law_found", "_law_k", "_law_pair", "_law_one_here", "_law_other"]
abbrev P_law_vectors : List Str := ["_law_deck_here", "_law_length"]
theorem sc_law_vectors : FnScope N_law_vectors P_law_vectors (defScope s_law_vectors) :=
  ⟨rfl, rfl, rfl, by decide +kernel, rfl, by decide +kernel, by decide +kernel⟩
theorem ok_law_vectors (D : Df K mg "_law_vectors" s_law_vectors P_law_vectors) (B : Blt mg)
    (G_law_draw : Has P w K mg base CX0 "_law_draw" ["_law_deck_here", "_law_many"] 1 spDraw) (G_law_vector : Has P w K mg base CX0 "_law_vector" ["_law_deck_here", "_law_length"] 4 (spVec6 K)) : Has P w K mg base CX0 "_law_vectors" P_law_vectors 5 (spVecs6 K) := by
  refine D.has sc_law_vectors (fun vs H Q E h => ?_) (fun f cdv A outer s H vs Q E hr h => ?_)
  · obtain ⟨d, c, n, m, rfl, _⟩ := h
    rfl
  obtain ⟨d, c, n, m, rfl, Dk, hn, hm, k⟩ := h
  have n0 := Dk.n0
  refine ⟨_, (pss_cons (ps_setLc (i := 2) (own := [("_law_k", 3)]) (g := gName 3) (by rfl) sc_law_vectors.nd rfl rfl (sw_true rfl rfl rfl (by decide +kernel)) (pi_range1 (by rfl) B.range (pa_cons (pe_f G_law_draw (hr.mono (by omega)) (by rfl) pass0 (pa_cons (pv 0) (pa_cons (pe_op op_add (pe_callB (c_min2 rfl) (by rfl) B.min (by decide +kernel) (pa_cons (pv 1) (pa_cons pe_int pa_nil))) pe_int) pa_nil))) pa_nil)) (blkOk_by (own := [("_law_k", 3)]) (N := N_law_vectors) (sc := defScope s_law_vectors) (by decide +kernel)) (fun _ _ _ _ _ => (pg_name (i := 3) sc_law_vectors.nd rfl (Or.inl rfl))) (fun _ _ _ _ _ => pts_nil) (fun _ _ _ _ _ => (pe_f G_law_vector (hr.mono (by omega)) (by rfl) pass0 (pa_cons (pv 0) (pa_cons (pv 1) pa_nil)))))
      (pss_cons (ps_if (PW.pt (pw_and (pt_cmpR op_gt (pe_callB c_len (by rfl) B.len (by decide +kernel) (pa_cons (pv 2) pa_nil)) pe_int (nomark _)) (pw_and1 (pt_cmpR op_eq (pe_f G_law_draw (hr.mono (by omega)) (by rfl) pass0 (pa_cons (pv 0) (pa_cons pe_int pa_nil))) pe_int (nomark _))))) (pss_cons (ps_set (i := 4) sc_law_vectors.nd rfl (Or.inl rfl) (Zt.pe_listZipT rfl (by rfl) B.list (by rfl) B.zip (pa_cons (pe_ix ix_list (pv 2) pe_int (fun _ _ => rfl)) (pa_cons (pe_ix ix_list (pv 2) pe_int (fun _ _ => rfl)) pa_nil))))
      (pss_one (ps_expr (pe_bm PySem.F.plainAttrs_list PySem.F.slot_list_append PySem.F.type_list_append mt_append (pv 2) (pa_cons (pe_callTy c_tup (by rfl) B.tuple (by decide +kernel) (pa_cons (pe_lc (own := [("_law_one_here", 5), ("_law_other", 6)]) (g := gTup K 2 (gCons (gName 5) (gCons (gName 6) (gNil)))) (by rfl) sc_law_vectors.nd (pi_list (pv 4)) (blkOk_by (own := [("_law_one_here", 5), ("_law_other", 6)]) (N := N_law_vectors) (sc := defScope s_law_vectors) (by decide +kernel)) (fun _ _ _ _ _ => (pg_tupK (K := K) rfl rfl (pgs_cons (pg_name (i := 5) sc_law_vectors.nd rfl (Or.inl rfl)) (pgs_cons (pg_name (i := 6) sc_law_vectors.nd rfl (Or.inl rfl)) pgs_nil)))) (fun _ _ _ _ _ => pts_nil) (fun _ _ _ _ _ => (pe_op op_sub (pe_op op_mulV pe_int (pv 5)) (pe_op op_mulV pe_int (pv 6))))) pa_nil)) pa_nil)))))
        pss_nil)
      (pss_one (ps_ret (pe_callTy c_tup (by rfl) B.tuple (by decide +kernel) (pa_cons (pv 2) pa_nil)))))), ?_⟩
  walk_at "rd"
  refine r_min2 ?_
  walk_at "rd"
  refine spDraw.use Dk (by omega) (by split <;> omega) (by split <;> omega) fun H1 u u0 u1 D1 k1 => ?_
  have u5 : u ≤ 5 := by split at u1 <;> omega
  clear u1
  walk_at "rd"
  refine r_LcR (by omega) (by omega) fun q hq => ⟨fun i H' => ∃ (us : List V) (rs : List Rw) (n' : Int), (Deck H' d c n' ∧ n ≤ n' ∧ n' ≤ n + 1 + 16 * i) ∧ Kp [d, c] H H' ∧ H' q = some (.lst us) ∧ RwV K H' us rs ∧ rs.length = i ∧ LnN m rs ∧ BdN (10 ^ 20) rs, ?_, ?_, ?_⟩
  · have kq : Kp [] H1 (upd H1 q (.lst [])) := Kp.nil.new hq
    exact ⟨[], [], n + 1, ⟨D1.kp kq (by simp) (by simp), by omega, by omega⟩, k1.trans ((Kp.refl D1.ls).new hq), upd_same, RwV.nil, rfl, fun x h => (by cases h), fun x h => (by cases h)⟩
  · rintro i H2 hi ⟨us, rs, n2, ⟨D2, q1, q2⟩, k2, hq2, hR, hl, hln, hb⟩
    have fq := D1.fresh hq
    have hul := hR.len
    walk_at "rd"
    refine ⟨d, c, _, m, rfl, D2, by omega, by omega, fun H3 v r hv hrl hrb D3 k3 => ?_⟩
    have hq3 := k3.get hq2 (by simp [fq.1, fq.2])
    have kw : Kp [q] H3 (upd H3 q (.lst (us ++ [v]))) := kpW hq3
    walk_at "rd"
    refine r_LcEnd hq3 (by rw [sizeLine_eq]; omega) ⟨us ++ [v], rs ++ [r], n2 + 2 * m, ⟨?_, by omega, by omega⟩, (k2.trans k3).own ?_, upd_same, ((hR.kp k3).kp kw).app (RwV.one (hv.kp kw)), by rw [List.length_append, hl]; rfl, fun s hs => ?_, fun s hs => ?_⟩
    · exact D3.kp kw (by simp [Ne.symm fq.1]) (by simp [Ne.symm fq.2])
    · exact k1.free D1.ls hq
    · rcases List.mem_append.mp hs with hs | hs
      · exact hln s hs
      · rw [List.mem_singleton.mp hs]
        exact hrl
    · rcases List.mem_append.mp hs with hs | hs
      · exact hb s hs
      · rw [List.mem_singleton.mp hs]
        exact hrb
  · rintro H2 ⟨us, rs, n2, ⟨D2, q1, q2⟩, k2, hq2, hR, hl, hln, hb⟩
    have fq := D1.fresh hq
    have hq0 : H q = none := k1.free D1.ls hq
    have hul := hR.len
    have fin : ∀ (H' : Hp) (us' : List V) (rs' : List Rw) (n' : Int), Deck H' d c n' → n ≤ n' → n' ≤ n + 200 → Kp [d, c] H H' → H' q = some (.lst us') → RwV K H' us' rs' → Few m rs' → rs'.length ≤ 6 → BdN (5 * 10 ^ 20) rs' →
        ∀ t, H' t = none → Q (.ref t) (upd H' t (.tup us')) := by
      intro H' us' rs' n' D' q1 q2 k' hq' hR' hl' h6 hb' t ht
      have kt : Kp [] H' (upd H' t (.tup us')) := Kp.nil.new ht
      exact k _ t us' rs' n' (SqT.of upd_same) (hR'.kp kt) hl' h6 hb' (D'.kp kt (by simp) (by simp)) q1 q2 (k'.new ht)
    have hb73 : BdN (2 ^ 73) rs := fun s hs x hx => Nat.le_trans (hb s hs x hx) (by decide)
    have few5 : rs.length ≤ 5 → Few m rs := fun h5 => Few.of5 (by omega) hln h5 hb73
    walk_at "rd"
    refine ifd (fun c1 => ?_) (fun c1 => ?_)
    · walk_at "rd"
      refine spDraw.use D2 (by omega) (by omega) (by omega) fun H3 y y0 y1 D3 k3 => ?_
      have hq3 := k3.get hq2 (by simp [fq.1, fq.2])
      have hR3 := hR.kp k3
      walk_at "rd"
      rw [dec_int]
      refine ifd (fun c2 => ?_) (fun c2 => ?_)
      · obtain ⟨v0, v1, us, rfl⟩ : ∃ v0 v1 t, us = v0 :: v1 :: t := by
          match us, c1 with
          | v0 :: v1 :: t, _ => exact ⟨v0, v1, t, rfl⟩
          | [_], c1 => simp at c1
          | [], c1 => simp at c1
        obtain ⟨r0, r1, rs, rfl⟩ : ∃ r0 r1 t, rs = r0 :: r1 :: t := by
          match rs, hul with
          | r0 :: r1 :: t, _ => exact ⟨r0, r1, t, rfl⟩
          | [_], hul => simp at hul
          | [], hul => simp at hul
        have hx0 : atI (v0 :: v1 :: us) 0 = some v0 := atI06 _ _
        have hx1 : atI (v0 :: v1 :: us) 1 = some v1 := atI_nat (j := 1) rfl
        obtain ⟨a0, rfl, ha0⟩ := hR3.all 0 v0 r0 rfl rfl
        obtain ⟨a1, rfl, ha1⟩ := hR3.all 1 v1 r1 rfl rfl
        have l0 : r0.length = m := hln r0 (by simp)
        have l1 : r1.length = m := hln r1 (by simp)
        walk_at "rd"
        refine r_zipT (K := K) ha0 ha1 (by omega) fun H4 pz ts k4 hpz hz4 hz4l tp => ?_
        have hq4 := k4.get hq3 (by simp)
        walk_at "rd"
        have lt0 : (tvec r0 3).length = m := by rw [tvec_len, l0]
        have lr : (vplus (tvec r0 3) r1 (-2)).length = m := vplus_len lt0 l1
        refine r_LcL (SqL.of hz4) fun g hg => ⟨fun i H' => Kp [] H4 H' ∧ H' g = some (.lst (((vplus (tvec r0 3) r1 (-2)).take i).map V.int)), ⟨Kp.nil.new hg, upd_same⟩, fun i H' ⟨z, _⟩ => SqL.of (z.get hz4 (by simp)), ?_, ?_⟩
        · rintro i x H5 hx ⟨k5, hg5⟩
          rw [List.getElem?_map] at hx
          obtain ⟨t, ht, rfl⟩ := Option.map_eq_some_iff.mp hx
          have hit : i < m := by
            have := (List.getElem?_eq_some_iff.mp ht).1
            omega
          have e0 : r0[i]? = some (at0 r0 i) := at0_lt (by omega)
          have e1 : r1[i]? = some (at0 r1 i) := at0_lt (by omega)
          have htp := k5.get (tp i t _ _ ht e0 e1) (by simp)
          have b0 := hb r0 (by simp) _ (List.mem_of_getElem? e0)
          have b1 := hb r1 (by simp) _ (List.mem_of_getElem? e1)
          have hT5 : SqT K H5 t [.int (at0 r0 i), .int (at0 r1 i)] := SqT.of htp
          have er : (vplus (tvec r0 3) r1 (-2))[i]? = some (3 * at0 r0 i - 2 * at0 r1 i) := by
            rw [at0_lt (by omega), vplus_at lt0 l1 hit, tvec_at l0 hit]
            congr 1
            omega
          have htk : (vplus (tvec r0 3) r1 (-2)).take (i + 1) = (vplus (tvec r0 3) r1 (-2)).take i ++ [3 * at0 r0 i - 2 * at0 r1 i] := by rw [List.take_add_one, er]; rfl
          generalize at0 r0 i = x0 at hT5 b0 b1 htk
          generalize at0 r1 i = x1 at hT5 b0 b1 htk
          have g0 : (3 : Int).natAbs.log2 + x0.natAbs.log2 < 134000000 := by
            have := log_lt (x := x0) (k := 70) (Nat.lt_of_le_of_lt b0 (by decide)) (by decide)
            have e3 : (3 : Int).natAbs.log2 = 1 := by decide
            omega
          have g1 : (2 : Int).natAbs.log2 + x1.natAbs.log2 < 134000000 := by
            have := log_lt (x := x1) (k := 70) (Nat.lt_of_le_of_lt b1 (by decide)) (by decide)
            have e3 : (2 : Int).natAbs.log2 = 1 := by decide
            omega
          walk_at "rd"
          rotate_left
          · exact g1
          · exact g0
          refine r_LcEnd hg5 (by rw [List.length_map, List.length_take, sizeLine_eq]; omega) ⟨k5.own hg, ?_⟩
          rw [upd_same, htk, List.map_append]
          rfl
        · rintro H5 ⟨k5, hg5⟩
          rw [List.length_map, hz4l, l0, ← lr, List.take_length] at hg5
          have hrb : ∀ y ∈ vplus (tvec r0 3) r1 (-2), y.natAbs ≤ 5 * 10 ^ 20 := fun y hy => by
            have q := vplus_bd (E := 3 * 10 ^ 20) (F := 10 ^ 20) (fun x hx => by
              obtain ⟨z, hz, rfl⟩ := List.mem_map.mp hx
              rw [Int.natAbs_mul]
              exact Nat.mul_le_mul_left 3 (hb r0 (by simp) z hz)) (hb r1 (by simp)) y hy
            exact Nat.le_trans q (by decide)
          have few6 : Few m (r0 :: r1 :: rs ++ [vplus (tvec r0 3) r1 (-2)]) := Few.of6 (a := r0) (b := r1) (t := 3) (x := -2) (by omega) hln (by omega) hb73 (by simp) (by simp) lr (fun j hj => by rw [vplus_at lt0 l1 hj, tvec_at l0 hj]) fun y hy => Nat.le_trans (hrb y hy) (by decide)
          generalize vplus (tvec r0 3) r1 (-2) = r at hg5 hrb few6 lr
          have hq5 := k5.get hq4 (by simp)
          walk_at "rd"
          refine r_tupL (SqL.of hg5) fun t ht => ?_
          have k6 : Kp [] H5 (upd H5 t (.tup (r.map V.int))) := Kp.nil.new ht
          have t6 : SqT K (upd H5 t (.tup (r.map V.int))) t (r.map V.int) := SqT.of upd_same
          have hq6 := k6.get hq5 (by simp)
          have k36 := (k4.trans k5).trans k6
          generalize upd H5 t (.tup (r.map V.int)) = H6 at k6 t6 hq6 k36 ⊢
          walk_at "rd"
          rotate_left
          · rw [hul, hl, sizeLine_eq]
            omega
          have kw : Kp [q] H6 (upd H6 q (.lst (.ref a0 :: .ref a1 :: us ++ [.ref t]))) := kpW hq6
          have hq7 : upd H6 q (.lst (.ref a0 :: .ref a1 :: us ++ [.ref t])) q = some (.lst (.ref a0 :: .ref a1 :: us ++ [.ref t])) := upd_same
          have D7 := (D3.kp k36 (by simp) (by simp)).kp kw (by simp [Ne.symm fq.1]) (by simp [Ne.symm fq.2])
          have R7 := ((hR3.kp k36).kp kw).app (RwV.one (v := .ref t) (r := r) ⟨t, rfl, sqT_kp kw t6⟩)
          have kk : Kp [d, c] H (upd H6 q (.lst (.ref a0 :: .ref a1 :: us ++ [.ref t]))) := (((k2.trans k3).trans (k36.sub D3.ls (by simp)))).own hq0
          generalize upd H6 q (.lst (.ref a0 :: .ref a1 :: us ++ [.ref t])) = H7 at hq7 D7 R7 kk ⊢
          refine r_tupL (SqL.of hq7) fun t8 ht8 => fin H7 _ (r0 :: r1 :: rs ++ [r]) (n2 + 1) D7 (by omega) (by omega) kk hq7 R7 few6 ?_ (fun s hs => ?_) t8 ht8
          · rw [List.length_append, List.length_singleton]
            exact Nat.succ_le_succ (by omega)
          · rcases List.mem_append.mp hs with hs | hs
            · exact fun x hx => Nat.le_trans (hb s hs x hx) (by decide)
            · rw [List.mem_singleton.mp hs]
              exact hrb
      · walk_at "rd"
        exact r_tupL (SqL.of hq3) fun t ht => fin H3 us rs (n2 + 1) D3 (by omega) (by omega) (k2.trans k3) hq3 hR3 (few5 (by omega)) (by omega) (fun s hs x hx => Nat.le_trans (hb s hs x hx) (by decide)) t ht
    · walk_at "rd"
      exact r_tupL (SqL.of hq2) fun t ht => fin H2 us rs n2 D2 (by omega) (by omega) k2 hq2 hR (few5 (by omega)) (by omega) (fun s hs x hx => Nat.le_trans (hb s hs x hx) (by decide)) t ht
abbrev s_law_all_multiples : Stmt := topS 28
abbrev N_law_all_multiples : List Str := ["_law_length", "_law_by", "_law_at", "_law_k"]
abbrev P_law_all_multiples : List Str := ["_law_length", "_law_by"]
theorem sc_law_all_multiples : FnScope N_law_all_multiples P_law_all_multiples (defScope s_law_all_multiples) :=
  ⟨rfl, rfl, rfl, by decide +kernel, rfl, by decide +kernel, by decide +kernel⟩
theorem ok_law_all_multiples {C : Addr} (D : Df K mg "_law_all_multiples" s_law_all_multiples P_law_all_multiples) (B : Blt mg)
    (GLattice : HasC P w K mg base CX0 "Lattice" C ["self", "length", "vectors"] 36 (spLatB K C)) : Has P w K mg base CX0 "_law_all_multiples" P_law_all_multiples 38 (spAllMul K C) := by
  refine D.has sc_law_all_multiples (fun vs H Q E h => ?_) (fun f cdv A outer s H vs Q E hr h => ?_)
  · obtain ⟨n, q, rfl, _⟩ := h
    rfl
  obtain ⟨n, q, rfl, hn, hq, k⟩ := h
  refine ⟨_, (pss_one (ps_ret (pe_new GLattice (hr.mono (by omega)) (by rfl) pass0 (pa_cons (pv 0) (pa_cons (pe_callTy c_tup (by rfl) B.tuple (by decide +kernel) (pa_cons (pe_lc (own := [("_law_at", 2)]) (g := gName 2) (by rfl) sc_law_all_multiples.nd (pi_range1 (by rfl) B.range (pa_cons (pv 0) pa_nil)) (blkOk_by (own := [("_law_at", 2)]) (N := N_law_all_multiples) (sc := defScope s_law_all_multiples) (by decide +kernel)) (fun _ _ _ _ _ => (pg_name (i := 2) sc_law_all_multiples.nd rfl (Or.inr rfl))) (fun _ _ _ _ _ => pts_nil) (fun _ _ _ _ _ => (pe_callTy (c_tupK (K := K) rfl) (by rfl) B.tuple (by decide +kernel) (pa_cons (pe_lc (own := [("_law_k", 3)]) (g := gName 3) (by rfl) sc_law_all_multiples.nd (pi_range1 (by rfl) B.range (pa_cons (pv 0) pa_nil)) (blkOk_by (own := [("_law_k", 3)]) (N := N_law_all_multiples) (sc := _) (by rfl)) (fun _ _ _ _ _ => (pg_name (i := 3) sc_law_all_multiples.nd rfl (Or.inl rfl))) (fun _ _ _ _ _ => pts_nil) (fun _ _ _ _ _ => (pe_op op_mulV (pv 1) (pe_callTy c_int (by rfl) B.int (by decide +kernel) (pa_cons (pe_cmpR op_eq (pv 3) (pv 2) (nomark _)) pa_nil))))) pa_nil)))) pa_nil)) pa_nil))))), ?_⟩
  walk_at "rd"
  refine r_make ?_
  walk_at "rd"
  refine r_LcR (by omega) (by omega) fun rp hrp => ⟨fun i H' => Kp [] H H' ∧ ∃ vs, H' rp = some (.lst vs) ∧ RwV K H' vs ((List.range i).map fun i => tvec (unitR n i) (q : Nat)), ⟨Kp.nil.new hrp, [], upd_same, RwV.nil⟩, ?_, ?_⟩
  · rintro i H1 hi ⟨k1, vs, hp1, hv1⟩
    walk_at "rd"
    refine r_LcR (by omega) (by omega) fun q2 hq2 => ⟨fun j H' => Kp [] H1 H' ∧ H' q2 = some (.lst (((List.range j).map fun j => (q : Nat) * (if j = i then (1 : Int) else 0)).map V.int)), ⟨Kp.nil.new hq2, upd_same⟩, ?_, ?_⟩
    · rintro j H2 hj ⟨k2, hl2⟩
      walk_at "rd"
      rotate_left
      · have a2 := log_lt (x := ((q : Nat) : Int)) (k := 20) (Nat.lt_of_le_of_lt (by rw [Int.natAbs_natCast]; exact hq) (by decide)) (by decide)
        show ((q : Nat) : Int).natAbs.log2 + (if decide (V.int ((j : Nat) : Int) = V.int ((i : Nat) : Int)) = true then (1 : Int) else 0).natAbs.log2 < 134000000
        have : (if decide (V.int ((j : Nat) : Int) = V.int ((i : Nat) : Int)) = true then (1 : Int) else 0).natAbs.log2 ≤ 1 := by split <;> decide
        omega
      rw [dec_intL]
      refine r_LcEnd hl2 (by rw [List.length_map, List.length_map, List.length_range, sizeLine_eq]; omega) ⟨k2.own hq2, ?_⟩
      rw [upd_same, List.range_succ, List.map_append, List.map_append]
      by_cases c : j = i
      · subst c
        simp
      · have e : decide ((j : Int) = (i : Int)) = false := decide_eq_false (by omega)
        rw [e]
        simp [c]
    · rintro H2 ⟨k2, hl2⟩
      rw [Int.toNat_natCast] at hl2
      walk_at "rd"
      refine r_tupL (SqL.of hl2) fun t3 ht3 => ?_
      have k3 : Kp [] H2 (upd H2 t3 (.tup (((List.range n).map fun j => (q : Nat) * (if j = i then (1 : Int) else 0)).map V.int))) := Kp.nil.new ht3
      have k13 := k2.trans k3
      have hp3 := k13.get hp1 (by simp)
      have hv3 := hv1.kp k13
      have hc3 : VcV K (upd H2 t3 (.tup (((List.range n).map fun j => (q : Nat) * (if j = i then (1 : Int) else 0)).map V.int))) (.ref t3) (tvec (unitR n i) (q : Nat)) := ⟨t3, rfl, by
        unfold tvec unitR
        rw [List.map_map (f := fun j => if j = i then (1 : Int) else 0)]
        exact SqT.of upd_same⟩
      generalize upd H2 t3 (.tup (((List.range n).map fun j => (q : Nat) * (if j = i then (1 : Int) else 0)).map V.int)) = H3 at k3 k13 hp3 hv3 hc3 ⊢
      have kw : Kp [rp] H3 (upd H3 rp (.lst (vs ++ [.ref t3]))) := kpW hp3
      refine r_LcEnd hp3 ?_ ⟨(k1.trans k13).own hrp, vs ++ [.ref t3], upd_same, ?_⟩
      · have := hv1.len
        rw [List.length_map, List.length_range] at this
        rw [sizeLine_eq]
        omega
      · rw [List.range_succ, List.map_append]
        exact (hv3.kp kw).app (RwV.one (hc3.kp kw))
  · rintro H1 ⟨k1, vs, hp1, hv1⟩
    have hv1 : RwV K H1 vs (wideR n (q : Nat)) := hv1
    walk_at "rd"
    refine r_tupL (SqL.of hp1) fun t ht => ?_
    have k2 : Kp [] H1 (upd H1 t (.tup vs)) := Kp.nil.new ht
    have hT2 : SqT K (upd H1 t (.tup vs)) t vs := SqT.of upd_same
    have hR2 := hv1.kp k2
    have k12 := k1.trans k2
    generalize upd H1 t (.tup vs) = H2 at k2 hT2 hR2 k12 ⊢
    walk_at "rd"
    have hq' : ((q : Nat) : Int).natAbs ≤ 2 ^ 5 := by rw [Int.natAbs_natCast]; exact hq
    refine r_lat hT2 hR2 (wide_ln n _) (by omega) (by rw [wide_len]; omega) (wide_ok hn hq') fun H3 z hz0 k3 hL => ?_
    exact k H3 z (k12.trans k3) hL
abbrev s_law_basics : Stmt := topS 29
abbrev N_law_basics : List Str := ["_law_a", "_law_b", "_law_c", "_law_sums", "_law_meets", "_law_taken", "_law_inner"]
abbrev P_law_basics : List Str := ["_law_a", "_law_b", "_law_c"]
theorem sc_law_basics : FnScope N_law_basics P_law_basics (defScope s_law_basics) :=
  ⟨rfl, rfl, rfl, by decide +kernel, rfl, by decide +kernel, by decide +kernel⟩
theorem ok_law_basics {C CO : Addr} (D : Df K mg "_law_basics" s_law_basics P_law_basics) (B : Blt mg) (T : LtT K C) (TE : LtE K C)
    (GA : HasM P w K mg base (L2.CX P w) C "__add__" ["self", "other"] 38 (spAdd K C CO)) (GB : HasM P w K mg base (L2.CX P w) C "__and__" ["self", "other"] 38 (spAnd K C CO))
    (GE : HasM P w K mg base CX0 C "__eq__" ["self", "other"] 1 (spEqL K C)) (GW : HasM P w K mg base (L2.CX P w) C "within" ["self", "other"] 35 (spWithin K C CO)) : Has P w K mg base CX0 "_law_basics" P_law_basics 40 (spBasics K C) := by
  refine D.has sc_law_basics (fun vs H Q E h => ?_) (fun f cdv A outer s H vs Q E hr h => ?_)
  · obtain ⟨a, b, c, n, A1, B1, D1, rfl, _⟩ := h
    rfl
  obtain ⟨a, b, c, n, A1, B1, D1, rfl, hL, hM, hN, la, lb, lc, k⟩ := h
  have cC := T.cl
  have nL := T.nL
  have nB := T.nB
  have sf := TE.sf
  have eA : ∀ {σ : L2.St} {H1 : Hp}, Kp [] H H1 → σ[0]? = some (some (.ref a)) → LatE K C n 7 73 318 σ H1 (tVar 0) A1 := fun k hv => .var hv (hL.kp k (by simp)) la
  have eB : ∀ {σ : L2.St} {H1 : Hp}, Kp [] H H1 → σ[1]? = some (some (.ref b)) → LatE K C n 7 73 318 σ H1 (tVar 1) B1 := fun k hv => .var hv (hM.kp k (by simp)) lb
  have eC : ∀ {σ : L2.St} {H1 : Hp}, Kp [] H H1 → σ[2]? = some (some (.ref c)) → LatE K C n 7 73 318 σ H1 (tVar 2) D1 := fun k hv => .var hv (hN.kp k (by simp)) lc
  refine ⟨_, (pss_cons (ps_set (i := 3) sc_law_basics.nd rfl (Or.inl rfl) (pe_lst (pa_cons (pe_cmpR (op_eqO GE (hr.mono (by omega))) (pe_binX (by rfl) GA sf (hr.mono (by omega)) (fun σ => passAtQ σ) (pv 0) (pv 1)) (pe_binX (by rfl) GA sf (hr.mono (by omega)) (fun σ => passAtQ σ) (pv 1) (pv 0)) (nomark _)) (pa_cons (pe_cmpR (op_eqO GE (hr.mono (by omega))) (pe_binX (by rfl) GA sf (hr.mono (by omega)) (fun σ => passAtQ σ) (pv 0) (pe_binX (by rfl) GA sf (hr.mono (by omega)) (fun σ => passAtQ σ) (pv 1) (pv 2))) (pe_binX (by rfl) GA sf (hr.mono (by omega)) (fun σ => passAtQ σ) (pe_binX (by rfl) GA sf (hr.mono (by omega)) (fun σ => passAtQ σ) (pv 0) (pv 1)) (pv 2)) (nomark _)) (pa_cons (pe_cmpR (op_eqO GE (hr.mono (by omega))) (pe_binX (by rfl) GA sf (hr.mono (by omega)) (fun σ => passAtQ σ) (pv 0) (pv 0)) (pv 0) (nomark _)) pa_nil)))))
      (pss_cons (ps_set (i := 4) sc_law_basics.nd rfl (Or.inl rfl) (pe_lst (pa_cons (pe_cmpR (op_eqO GE (hr.mono (by omega))) (pe_binX (by rfl) GB sf (hr.mono (by omega)) (fun σ => passAtQ σ) (pv 0) (pv 1)) (pe_binX (by rfl) GB sf (hr.mono (by omega)) (fun σ => passAtQ σ) (pv 1) (pv 0)) (nomark _)) (pa_cons (pe_cmpR (op_eqO GE (hr.mono (by omega))) (pe_binX (by rfl) GB sf (hr.mono (by omega)) (fun σ => passAtQ σ) (pv 0) (pe_binX (by rfl) GB sf (hr.mono (by omega)) (fun σ => passAtQ σ) (pv 1) (pv 2))) (pe_binX (by rfl) GB sf (hr.mono (by omega)) (fun σ => passAtQ σ) (pe_binX (by rfl) GB sf (hr.mono (by omega)) (fun σ => passAtQ σ) (pv 0) (pv 1)) (pv 2)) (nomark _)) (pa_cons (pe_cmpR (op_eqO GE (hr.mono (by omega))) (pe_binX (by rfl) GB sf (hr.mono (by omega)) (fun σ => passAtQ σ) (pv 0) (pv 0)) (pv 0) (nomark _)) pa_nil)))))
      (pss_cons (ps_set (i := 5) sc_law_basics.nd rfl (Or.inl rfl) (pe_lst (pa_cons (pe_cmpR (op_eqO GE (hr.mono (by omega))) (pe_binX (by rfl) GB sf (hr.mono (by omega)) (fun σ => passAtQ σ) (pv 0) (pe_binX (by rfl) GA sf (hr.mono (by omega)) (fun σ => passAtQ σ) (pv 0) (pv 1))) (pv 0) (nomark _)) (pa_cons (pe_cmpR (op_eqO GE (hr.mono (by omega))) (pe_binX (by rfl) GA sf (hr.mono (by omega)) (fun σ => passAtQ σ) (pv 0) (pe_binX (by rfl) GB sf (hr.mono (by omega)) (fun σ => passAtQ σ) (pv 0) (pv 1))) (pv 0) (nomark _)) pa_nil))))
      (pss_cons (ps_set (i := 6) sc_law_basics.nd rfl (Or.inl rfl) (pe_lst (pa_cons (pe_m GW cC (hr.mono (by omega)) passQ (pv 0) (pa_cons (pe_binX (by rfl) GA sf (hr.mono (by omega)) (fun σ => passAtQ σ) (pv 0) (pv 1)) pa_nil)) (pa_cons (pe_m GW cC (hr.mono (by omega)) passQ (pe_binX (by rfl) GB sf (hr.mono (by omega)) (fun σ => passAtQ σ) (pv 0) (pv 1)) (pa_cons (pv 0) pa_nil)) (pa_cons (pe_m GW cC (hr.mono (by omega)) passQ (pe_binX (by rfl) GB sf (hr.mono (by omega)) (fun σ => passAtQ σ) (pv 0) (pv 1)) (pa_cons (pe_binX (by rfl) GA sf (hr.mono (by omega)) (fun σ => passAtQ σ) (pv 0) (pv 1)) pa_nil)) pa_nil)))))
      (pss_cons (ps_expr (pe_bm PySem.F.plainAttrs_list PySem.F.slot_list_append PySem.F.type_list_append mt_append (pv 6) (pa_cons (pe_cmpR op_eq (pe_m GW cC (hr.mono (by omega)) passQ (pv 0) (pa_cons (pv 1) pa_nil)) (pe_cmpR (op_eqO GE (hr.mono (by omega))) (pe_binX (by rfl) GA sf (hr.mono (by omega)) (fun σ => passAtQ σ) (pv 0) (pv 1)) (pv 1) (nomark _)) (nomark _)) pa_nil)))
      (pss_cons (ps_expr (pe_bm PySem.F.plainAttrs_list PySem.F.slot_list_append PySem.F.type_list_append mt_append (pv 6) (pa_cons (pe_cmpR op_eq (pe_m GW cC (hr.mono (by omega)) passQ (pv 0) (pa_cons (pv 1) pa_nil)) (pe_cmpR (op_eqO GE (hr.mono (by omega))) (pe_binX (by rfl) GB sf (hr.mono (by omega)) (fun σ => passAtQ σ) (pv 0) (pv 1)) (pv 0) (nomark _)) (nomark _)) pa_nil)))
      (pss_one (ps_ret (pe_op op_cat (pe_op op_cat (pe_op op_cat (pv 3) (pv 4)) (pv 5)) (pv 6)))))))))), ?_⟩
  with_reducible refine r_seq ?_
  with_reducible refine r_asg ?_
  have xA := eA (σ := L2.start N_law_basics [V.ref a, V.ref b, V.ref c]) Kp.nil rfl
  have xB := eB (σ := L2.start N_law_basics [V.ref a, V.ref b, V.ref c]) Kp.nil rfl
  have xC := eC (σ := L2.start N_law_basics [V.ref a, V.ref b, V.ref c]) Kp.nil rfl
  refine r_trues (.cons (.eq T TE (xA.add xB) (xB.add xA) (l_s1 la lb)) (.cons (.eq T TE (xA.add (xB.add xC)) ((xA.add xB).add xC) (l_s2 la lb lc)) (.cons (.eq T TE (xA.add xA) xA (l_s3 la)) .nil))) (by decide) fun H1 p1 k1 f1 ht1 => ?_
  clear xA xB xC
  with_reducible refine r_name ?_
  dsimp only
  with_reducible refine r_seq ?_
  with_reducible refine r_asg ?_
  obtain ⟨σ1, e1⟩ : ∃ σ1 : L2.St, σ1 = (L2.start N_law_basics [V.ref a, V.ref b, V.ref c]).set 3 (some (.ref p1)) := ⟨_, rfl⟩
  have xA := eA (σ := (L2.start N_law_basics [V.ref a, V.ref b, V.ref c]).set 3 (some (.ref p1))) k1 rfl
  have xB := eB (σ := (L2.start N_law_basics [V.ref a, V.ref b, V.ref c]).set 3 (some (.ref p1))) k1 rfl
  have xC := eC (σ := (L2.start N_law_basics [V.ref a, V.ref b, V.ref c]).set 3 (some (.ref p1))) k1 rfl
  refine r_trues (.cons (.eq T TE (xA.and xB) (xB.and xA) (l_m1 la lb)) (.cons (.eq T TE (xA.and (xB.and xC)) ((xA.and xB).and xC) (l_m2 la lb lc)) (.cons (.eq T TE (xA.and xA) xA (l_m3 la)) .nil))) (by decide) fun H2 p2 k2 f2 ht2 => ?_
  clear xA xB xC e1 σ1
  have k02 := k1.trans k2
  have ht1 := ht1.kp k2
  with_reducible refine r_name ?_
  dsimp only
  with_reducible refine r_seq ?_
  with_reducible refine r_asg ?_
  have xA := eA (σ := ((L2.start N_law_basics [V.ref a, V.ref b, V.ref c]).set 3 (some (.ref p1))).set 4 (some (.ref p2))) k02 rfl
  have xB := eB (σ := ((L2.start N_law_basics [V.ref a, V.ref b, V.ref c]).set 3 (some (.ref p1))).set 4 (some (.ref p2))) k02 rfl
  refine r_trues (.cons (.eq T TE (xA.and (xA.add xB)) xA (l_t1 la lb)) (.cons (.eq T TE (xA.add (xA.and xB)) xA (l_t2 la lb)) .nil)) (by decide) fun H3 p3 k3 f3 ht3 => ?_
  clear xA xB
  have k03 := k02.trans k3
  have ht1 := ht1.kp k3
  have ht2 := ht2.kp k3
  with_reducible refine r_name ?_
  dsimp only
  with_reducible refine r_seq ?_
  with_reducible refine r_asg ?_
  have xA := eA (σ := (((L2.start N_law_basics [V.ref a, V.ref b, V.ref c]).set 3 (some (.ref p1))).set 4 (some (.ref p2))).set 5 (some (.ref p3))) k03 rfl
  have xB := eB (σ := (((L2.start N_law_basics [V.ref a, V.ref b, V.ref c]).set 3 (some (.ref p1))).set 4 (some (.ref p2))).set 5 (some (.ref p3))) k03 rfl
  have JJ := (l_j la lb).2
  have MM := (l_m la lb).2
  refine r_trues (.cons (.within xA (xA.add xB) JJ.l1) (.cons (.within (xA.and xB) xA MM.l1) (.cons (.within (xA.and xB) (xA.add xB) (MM.l1.trans JJ.l1)) .nil))) (by decide) fun H4 p4 k4 f4 ht4 => ?_
  clear xA xB
  have k04 := k03.trans k4
  have n1 : p1 ≠ p4 := ne_of_none (show H3 p1 = _ from ht1) f4
  have n2 : p2 ≠ p4 := ne_of_none (show H3 p2 = _ from ht2) f4
  have n3 : p3 ≠ p4 := ne_of_none (show H3 p3 = _ from ht3) f4
  have ht1 := ht1.kp k4
  have ht2 := ht2.kp k4
  have ht3 := ht3.kp k4
  with_reducible refine r_name ?_
  dsimp only
  have n4 : H p4 = none := k03.freeM Ms.nil f4
  have n4 : H p4 = none := k03.freeM Ms.nil f4
  have xA := eA (σ := ((((L2.start N_law_basics [V.ref a, V.ref b, V.ref c]).set 3 (some (.ref p1))).set 4 (some (.ref p2))).set 5 (some (.ref p3))).set 6 (some (.ref p4))) k04 rfl
  have xB := eB (σ := ((((L2.start N_law_basics [V.ref a, V.ref b, V.ref c]).set 3 (some (.ref p1))).set 4 (some (.ref p2))).set 5 (some (.ref p3))).set 6 (some (.ref p4))) k04 rfl
  have L4 : withB n B1 A1 = decide (joinF n A1 B1 = B1) := by rw [Bool.eq_iff_iff, withB_iff la lb, decide_eq_true_eq]; exact l_i4 la lb
  have L5 : withB n B1 A1 = decide (meetF n A1 B1 = A1) := by rw [Bool.eq_iff_iff, withB_iff la lb, decide_eq_true_eq]; exact l_i5 la lb
  with_reducible refine r_seq ?_
  refine s_true rfl ht4 (by decide) (.eqB (.inn xA xB) (.eqD T TE (xA.add xB) xB rfl) L4) fun H5 k5 ht5 => ?_
  clear xA xB
  have k05 := k04.own1 n4 k5
  have ht1 := ht1.kp k5 (by simp [n1])
  have ht2 := ht2.kp k5 (by simp [n2])
  have ht3 := ht3.kp k5 (by simp [n3])
  dsimp only
  have xA := eA (σ := ((((L2.start N_law_basics [V.ref a, V.ref b, V.ref c]).set 3 (some (.ref p1))).set 4 (some (.ref p2))).set 5 (some (.ref p3))).set 6 (some (.ref p4))) k05 rfl
  have xB := eB (σ := ((((L2.start N_law_basics [V.ref a, V.ref b, V.ref c]).set 3 (some (.ref p1))).set 4 (some (.ref p2))).set 5 (some (.ref p3))).set 6 (some (.ref p4))) k05 rfl
  with_reducible refine r_seq ?_
  refine s_true rfl ht5 (by decide) (.eqB (.inn xA xB) (.eqD T TE (xA.and xB) xA rfl) L5) fun H6 k6 ht6 => ?_
  clear xA xB
  have k06 := k05.own1 n4 k6
  have ht1 := ht1.kp k6 (by simp [n1])
  have ht2 := ht2.kp k6 (by simp [n2])
  have ht3 := ht3.kp k6 (by simp [n3])
  walk_at "rd"
  refine r_catT ht1 ht2 (by decide) fun H7 q7 k7 _ ht7 => ?_
  have ht3 := ht3.kp k7
  have ht6 := ht6.kp k7
  walk_at "rd"
  refine r_catT ht7 ht3 (by decide) fun H8 q8 k8 _ ht8 => ?_
  have ht6 := ht6.kp k8
  walk_at "rd"
  refine r_catT ht8 ht6 (by decide) fun H9 q9 k9 _ ht9 => ?_
  exact k H9 q9 _ (k06.trans (k7.trans (k8.trans k9))) ht9 (by decide)
abbrev s_law_more : Stmt := topS 30
abbrev N_law_more : List Str := ["_law_a", "_law_b", "_law_c", "_law_times", "_law_found"]
abbrev P_law_more : List Str := ["_law_a", "_law_b", "_law_c", "_law_times"]
theorem sc_law_more : FnScope N_law_more P_law_more (defScope s_law_more) :=
  ⟨rfl, rfl, rfl, by decide +kernel, rfl, by decide +kernel, by decide +kernel⟩
theorem ok_law_more {C CO : Addr} (D : Df K mg "_law_more" s_law_more P_law_more) (B : Blt mg) (T : LtT K C) (TE : LtE K C)
    (GA : HasM P w K mg base (L2.CX P w) C "__add__" ["self", "other"] 38 (spAdd K C CO)) (GB : HasM P w K mg base (L2.CX P w) C "__and__" ["self", "other"] 38 (spAnd K C CO)) (GMul : HasM P w K mg base CX0 C "__mul__" ["self", "number"] 38 (spMulL K C))
    (GE : HasM P w K mg base CX0 C "__eq__" ["self", "other"] 1 (spEqL K C)) (GW : HasM P w K mg base (L2.CX P w) C "within" ["self", "other"] 35 (spWithin K C CO)) : Has P w K mg base CX0 "_law_more" P_law_more 40 (spMoreL K C) := by
  refine D.has sc_law_more (fun vs H Q E h => ?_) (fun f cdv A outer s H vs Q E hr h => ?_)
  · obtain ⟨a, b, c, n, A1, B1, D1, x, rfl, _⟩ := h
    rfl
  obtain ⟨a, b, c, n, A1, B1, D1, x, rfl, hL, hM, hN, la, lb, lc, hx, k⟩ := h
  have cC := T.cl
  have nL := T.nL
  have nB := T.nB
  have sf := TE.sf
  have rm := TE.rm
  have eA : ∀ {σ : L2.St} {H1 : Hp}, Kp [] H H1 → σ[0]? = some (some (.ref a)) → LatE K C n 7 73 318 σ H1 (tVar 0) A1 := fun k hv => .var hv (hL.kp k (by simp)) la
  have eB : ∀ {σ : L2.St} {H1 : Hp}, Kp [] H H1 → σ[1]? = some (some (.ref b)) → LatE K C n 7 73 318 σ H1 (tVar 1) B1 := fun k hv => .var hv (hM.kp k (by simp)) lb
  have eC : ∀ {σ : L2.St} {H1 : Hp}, Kp [] H H1 → σ[2]? = some (some (.ref c)) → LatE K C n 7 73 318 σ H1 (tVar 2) D1 := fun k hv => .var hv (hN.kp k (by simp)) lc
  have tx : ∀ {σ : L2.St}, σ[3]? = some (some (.int x)) → ∀ (H : Hp) (Q : VK), Q (.int x) H → tVar 3 σ H Q := fun hv H Q q => ⟨_, hv, q⟩
  refine ⟨_, (pss_cons (ps_set (i := 4) sc_law_more.nd rfl (Or.inl rfl) (pe_lst (pa_cons (pe_cmpR (op_eqO GE (hr.mono (by omega))) (pe_binX (by rfl) GA sf (hr.mono (by omega)) (fun σ => passAtQ σ) (pv 0) (pe_binX (by rfl) GB sf (hr.mono (by omega)) (fun σ => passAtQ σ) (pv 1) (pe_binX (by rfl) GA sf (hr.mono (by omega)) (fun σ => passAtQ σ) (pv 0) (pv 2)))) (pe_binX (by rfl) GB sf (hr.mono (by omega)) (fun σ => passAtQ σ) (pe_binX (by rfl) GA sf (hr.mono (by omega)) (fun σ => passAtQ σ) (pv 0) (pv 1)) (pe_binX (by rfl) GA sf (hr.mono (by omega)) (fun σ => passAtQ σ) (pv 0) (pv 2))) (nomark _)) pa_nil)))
      (pss_cons (ps_expr (pe_bm PySem.F.plainAttrs_list PySem.F.slot_list_append PySem.F.type_list_append mt_append (pv 4) (pa_cons (pe_cmpR (op_eqO GE (hr.mono (by omega))) (pe_op (op_mulO GMul sf rm (hr.mono (by omega))) (pe_binX (by rfl) GA sf (hr.mono (by omega)) (fun σ => passAtQ σ) (pv 0) (pv 1)) (pv 3)) (pe_binX (by rfl) GA sf (hr.mono (by omega)) (fun σ => passAtQ σ) (pe_op (op_mulO GMul sf rm (hr.mono (by omega))) (pv 0) (pv 3)) (pe_op (op_mulO GMul sf rm (hr.mono (by omega))) (pv 1) (pv 3))) (nomark _)) pa_nil)))
      (pss_cons (ps_expr (pe_bm PySem.F.plainAttrs_list PySem.F.slot_list_append PySem.F.type_list_append mt_append (pv 4) (pa_cons (pe_cmpR (op_eqO GE (hr.mono (by omega))) (pe_op (op_mulO GMul sf rm (hr.mono (by omega))) (pe_op (op_mulO GMul sf rm (hr.mono (by omega))) (pv 0) (pv 3)) (pe_un un_neg pe_int)) (pe_op (op_mulO GMul sf rm (hr.mono (by omega))) (pv 0) (pv 3)) (nomark _)) pa_nil)))
      (pss_cons (ps_expr (pe_bm PySem.F.plainAttrs_list PySem.F.slot_list_append PySem.F.type_list_append mt_append (pv 4) (pa_cons (pe_m GW cC (hr.mono (by omega)) passQ (pe_op (op_mulO GMul sf rm (hr.mono (by omega))) (pv 0) (pv 3)) (pa_cons (pv 0) pa_nil)) pa_nil)))
      (pss_cons (ps_if (pt_cmpR op_ne (pv 3) pe_int (nomark _)) (pss_one (ps_expr (pe_bm PySem.F.plainAttrs_list PySem.F.slot_list_append PySem.F.type_list_append mt_append (pv 4) (pa_cons (pe_cmpR (op_eqO GE (hr.mono (by omega))) (pe_op (op_mulO GMul sf rm (hr.mono (by omega))) (pe_binX (by rfl) GB sf (hr.mono (by omega)) (fun σ => passAtQ σ) (pv 0) (pv 1)) (pv 3)) (pe_binX (by rfl) GB sf (hr.mono (by omega)) (fun σ => passAtQ σ) (pe_op (op_mulO GMul sf rm (hr.mono (by omega))) (pv 0) (pv 3)) (pe_op (op_mulO GMul sf rm (hr.mono (by omega))) (pv 1) (pv 3))) (nomark _)) pa_nil))))
        pss_nil)
      (pss_one (ps_ret (pv 4)))))))), ?_⟩
  with_reducible refine r_seq ?_
  with_reducible refine r_asg ?_
  have xA := eA (σ := L2.start N_law_more [V.ref a, V.ref b, V.ref c, V.int x]) Kp.nil rfl
  have xB := eB (σ := L2.start N_law_more [V.ref a, V.ref b, V.ref c, V.int x]) Kp.nil rfl
  have xC := eC (σ := L2.start N_law_more [V.ref a, V.ref b, V.ref c, V.int x]) Kp.nil rfl
  refine r_trues (.cons (.eq T TE (xA.add (xB.and (xA.add xC))) ((xA.add xB).and (xA.add xC)) (l_mod la lb lc)) .nil) (by decide) fun H1 p k1 f1 ht1 => ?_
  clear xA xB xC
  with_reducible refine r_name ?_
  dsimp only
  have xA := eA (σ := (L2.start N_law_more [V.ref a, V.ref b, V.ref c, V.int x]).set 4 (some (.ref p))) k1 rfl
  have xB := eB (σ := (L2.start N_law_more [V.ref a, V.ref b, V.ref c, V.int x]).set 4 (some (.ref p))) k1 rfl
  have xT := tx (σ := (L2.start N_law_more [V.ref a, V.ref b, V.ref c, V.int x]).set 4 (some (.ref p))) rfl
  have xM : ∀ (H : Hp) (Q : VK), Q (.int (-1)) H → (tUn (rU fun i => V.int (-i)) (tC (.int 1))) ((L2.start N_law_more [V.ref a, V.ref b, V.ref c, V.int x]).set 4 (some (.ref p))) H Q := fun H Q q => ⟨1, rfl, q⟩
  with_reducible refine r_seq ?_
  refine s_true rfl ht1 (by decide) (.eq T TE ((xA.add xB).mul xT hx) ((xA.mul xT hx).add (xB.mul xT hx)) (l_o2 la lb hx)) fun H2 k2 ht2 => ?_
  clear xA xB xT xM
  have k02 := k1.own1 f1 k2
  dsimp only
  have xA := eA (σ := (L2.start N_law_more [V.ref a, V.ref b, V.ref c, V.int x]).set 4 (some (.ref p))) k02 rfl
  have xB := eB (σ := (L2.start N_law_more [V.ref a, V.ref b, V.ref c, V.int x]).set 4 (some (.ref p))) k02 rfl
  have xT := tx (σ := (L2.start N_law_more [V.ref a, V.ref b, V.ref c, V.int x]).set 4 (some (.ref p))) rfl
  have xM : ∀ (H : Hp) (Q : VK), Q (.int (-1)) H → (tUn (rU fun i => V.int (-i)) (tC (.int 1))) ((L2.start N_law_more [V.ref a, V.ref b, V.ref c, V.int x]).set 4 (some (.ref p))) H Q := fun H Q q => ⟨1, rfl, q⟩
  with_reducible refine r_seq ?_
  refine s_true rfl ht2 (by decide) (.eq T TE ((xA.mul xT hx).mul xM (h := 0) (by decide)) (xA.mul xT hx) (l_o3 la hx)) fun H3 k3 ht3 => ?_
  clear xA xB xT xM
  have k03 := k02.own1 f1 k3
  dsimp only
  have xA := eA (σ := (L2.start N_law_more [V.ref a, V.ref b, V.ref c, V.int x]).set 4 (some (.ref p))) k03 rfl
  have xB := eB (σ := (L2.start N_law_more [V.ref a, V.ref b, V.ref c, V.int x]).set 4 (some (.ref p))) k03 rfl
  have xT := tx (σ := (L2.start N_law_more [V.ref a, V.ref b, V.ref c, V.int x]).set 4 (some (.ref p))) rfl
  have xM : ∀ (H : Hp) (Q : VK), Q (.int (-1)) H → (tUn (rU fun i => V.int (-i)) (tC (.int 1))) ((L2.start N_law_more [V.ref a, V.ref b, V.ref c, V.int x]).set 4 (some (.ref p))) H Q := fun H Q q => ⟨1, rfl, q⟩
  with_reducible refine r_seq ?_
  refine s_true rfl ht3 (by decide) (.within (xA.mul xT hx) xA (l_o4 la hx)) fun H4 k4 ht4 => ?_
  clear xA xB xT xM
  have k04 := k03.own1 f1 k4
  dsimp only
  have xA := eA (σ := (L2.start N_law_more [V.ref a, V.ref b, V.ref c, V.int x]).set 4 (some (.ref p))) k04 rfl
  have xB := eB (σ := (L2.start N_law_more [V.ref a, V.ref b, V.ref c, V.int x]).set 4 (some (.ref p))) k04 rfl
  have xT := tx (σ := (L2.start N_law_more [V.ref a, V.ref b, V.ref c, V.int x]).set 4 (some (.ref p))) rfl
  by_cases c0 : x = 0
  · walk_at "rd"
    rw [show decide (V.int x = V.int 0) = true from decide_eq_true (by rw [c0])]
    refine iteF ?_
    walk_at "rd"
    exact k H4 p _ k04 ht4 (by decide)
  · walk_at "rd"
    rw [show decide (V.int x = V.int 0) = false from decide_eq_false (fun e => c0 (by injection e))]
    refine iteT ?_
    refine s_true rfl ht4 (by decide) (.eq T TE ((xA.and xB).mul xT hx) ((xA.mul xT hx).and (xB.mul xT hx)) (l_o5 la lb hx c0)) fun H5 k5 ht5 => ?_
    walk_at "rd"
    exact k H5 p _ (k04.own1 f1 k5) ht5 (by decide)
abbrev s_law_quiets : Stmt := topS 31
abbrev N_law_quiets : List Str := ["_law_a", "_law_b", "_law_by", "_law_found", "_law_wide"]
abbrev P_law_quiets : List Str := ["_law_a", "_law_b", "_law_by"]
theorem sc_law_quiets : FnScope N_law_quiets P_law_quiets (defScope s_law_quiets) :=
  ⟨rfl, rfl, rfl, by decide +kernel, rfl, by decide +kernel, by decide +kernel⟩
theorem ok_law_quiets {C CO : Addr} (D : Df K mg "_law_quiets" s_law_quiets P_law_quiets) (B : Blt mg) (T : LtT K C) (TE : LtE K C)
    (GA : HasM P w K mg base (L2.CX P w) C "__add__" ["self", "other"] 38 (spAdd K C CO)) (GB : HasM P w K mg base (L2.CX P w) C "__and__" ["self", "other"] 38 (spAnd K C CO)) (GQ : HasM P w K mg base CX0 C "quiet" ["self"] 38 (spQuietL K C)) (GY : HasM P w K mg base CX0 C "quiet_by" ["self", "by"] 38 (spQuietBL K C))
    (GE : HasM P w K mg base CX0 C "__eq__" ["self", "other"] 1 (spEqL K C)) (GW : HasM P w K mg base (L2.CX P w) C "within" ["self", "other"] 35 (spWithin K C CO)) (G_law_all_multiples : Has P w K mg base CX0 "_law_all_multiples" ["_law_length", "_law_by"] 38 (spAllMul K C)) : Has P w K mg base CX0 "_law_quiets" P_law_quiets 40 (spQuiets K C) := by
  refine D.has sc_law_quiets (fun vs H Q E h => ?_) (fun f cdv A outer s H vs Q E hr h => ?_)
  · obtain ⟨a, b, n, q, A1, B1, rfl, _⟩ := h
    rfl
  obtain ⟨a, b, n, q, A1, B1, rfl, hL, hM, la, lb, hq, hq2, k⟩ := h
  have cC := T.cl
  have nL := T.nL
  have nB := T.nB
  have sf := TE.sf
  have n4 := la.n4
  have eA : ∀ {σ : L2.St} {H1 : Hp}, Kp [] H H1 → σ[0]? = some (some (.ref a)) → LatE K C n 7 73 318 σ H1 (tVar 0) A1 := fun k hv => .var hv (hL.kp k (by simp)) la
  have eB : ∀ {σ : L2.St} {H1 : Hp}, Kp [] H H1 → σ[1]? = some (some (.ref b)) → LatE K C n 7 73 318 σ H1 (tVar 1) B1 := fun k hv => .var hv (hM.kp k (by simp)) lb
  have tq : ∀ {σ : L2.St}, σ[2]? = some (some (.int (q : Nat))) → ∀ (H : Hp) (Q : VK), Q (.int (q : Nat)) H → tVar 2 σ H Q := fun hv H Q q => ⟨_, hv, q⟩
  refine ⟨_, (pss_cons (ps_set (i := 3) sc_law_quiets.nd rfl (Or.inl rfl) (pe_lst (pa_cons (pe_cmpR (op_eqO GE (hr.mono (by omega))) (pe_m0 GQ cC (hr.mono (by omega)) pass0 (pe_binX (by rfl) GA sf (hr.mono (by omega)) (fun σ => passAtQ σ) (pv 0) (pv 1))) (pe_binX (by rfl) GB sf (hr.mono (by omega)) (fun σ => passAtQ σ) (pe_m0 GQ cC (hr.mono (by omega)) pass0 (pv 0)) (pe_m0 GQ cC (hr.mono (by omega)) pass0 (pv 1))) (nomark _)) (pa_cons (pe_m GW cC (hr.mono (by omega)) passQ (pv 0) (pa_cons (pe_m0 GQ cC (hr.mono (by omega)) pass0 (pe_m0 GQ cC (hr.mono (by omega)) pass0 (pv 0))) pa_nil)) pa_nil))))
      (pss_cons (ps_expr (pe_bm PySem.F.plainAttrs_list PySem.F.slot_list_append PySem.F.type_list_append mt_append (pv 3) (pa_cons (pe_cmpR (op_eqO GE (hr.mono (by omega))) (pe_m0 GQ cC (hr.mono (by omega)) pass0 (pe_m0 GQ cC (hr.mono (by omega)) pass0 (pe_m0 GQ cC (hr.mono (by omega)) pass0 (pv 0)))) (pe_m0 GQ cC (hr.mono (by omega)) pass0 (pv 0)) (nomark _)) pa_nil)))
      (pss_cons (ps_expr (pe_bm PySem.F.plainAttrs_list PySem.F.slot_list_append PySem.F.type_list_append mt_append (pv 3) (pa_cons (pe_cmpR op_eq (pe_op op_add (pe_callB c_len (by rfl) B.len (by decide +kernel) (pa_cons (pe_fld (pv 0) rfl) pa_nil)) (pe_callB c_len (by rfl) B.len (by decide +kernel) (pa_cons (pe_fld (pe_m0 GQ cC (hr.mono (by omega)) pass0 (pv 0)) rfl) pa_nil))) (pe_fld (pv 0) rfl) (nomark _)) pa_nil)))
      (pss_cons (ps_set (i := 4) sc_law_quiets.nd rfl (Or.inl rfl) (pe_f G_law_all_multiples (hr.mono (by omega)) (by rfl) pass0 (pa_cons (pe_fld (pv 0) rfl) (pa_cons (pv 2) pa_nil))))
      (pss_cons (ps_expr (pe_bm PySem.F.plainAttrs_list PySem.F.slot_list_append PySem.F.type_list_append mt_append (pv 3) (pa_cons (pe_cmpR (op_eqO GE (hr.mono (by omega))) (pe_m GY cC (hr.mono (by omega)) pass0 (pe_m GY cC (hr.mono (by omega)) pass0 (pv 0) (pa_cons (pv 2) pa_nil)) (pa_cons (pv 2) pa_nil)) (pe_binX (by rfl) GA sf (hr.mono (by omega)) (fun σ => passAtQ σ) (pv 0) (pv 4)) (nomark _)) pa_nil)))
      (pss_cons (ps_expr (pe_bm PySem.F.plainAttrs_list PySem.F.slot_list_append PySem.F.type_list_append mt_append (pv 3) (pa_cons (pe_cmpR (op_eqO GE (hr.mono (by omega))) (pe_m GY cC (hr.mono (by omega)) pass0 (pe_binX (by rfl) GA sf (hr.mono (by omega)) (fun σ => passAtQ σ) (pv 0) (pv 1)) (pa_cons (pv 2) pa_nil)) (pe_binX (by rfl) GB sf (hr.mono (by omega)) (fun σ => passAtQ σ) (pe_m GY cC (hr.mono (by omega)) pass0 (pv 0) (pa_cons (pv 2) pa_nil)) (pe_m GY cC (hr.mono (by omega)) pass0 (pv 1) (pa_cons (pv 2) pa_nil))) (nomark _)) pa_nil)))
      (pss_cons (ps_expr (pe_bm PySem.F.plainAttrs_list PySem.F.slot_list_append PySem.F.type_list_append mt_append (pv 3) (pa_cons (pe_m GW cC (hr.mono (by omega)) passQ (pe_m0 GQ cC (hr.mono (by omega)) pass0 (pv 0)) (pa_cons (pe_m GY cC (hr.mono (by omega)) pass0 (pv 0) (pa_cons (pv 2) pa_nil)) pa_nil)) pa_nil)))
      (pss_one (ps_ret (pe_op op_cat (pv 3) (pe_lst (pa_cons (pe_m GW cC (hr.mono (by omega)) passQ (pv 4) (pa_cons (pe_m GY cC (hr.mono (by omega)) pass0 (pv 0) (pa_cons (pv 2) pa_nil)) pa_nil)) pa_nil)))))))))))), ?_⟩
  with_reducible refine r_seq ?_
  with_reducible refine r_asg ?_
  have xA := eA (σ := L2.start N_law_quiets [V.ref a, V.ref b, V.int (q : Nat)]) Kp.nil rfl
  have xB := eB (σ := L2.start N_law_quiets [V.ref a, V.ref b, V.int (q : Nat)]) Kp.nil rfl
  refine r_trues (.cons (.eq T TE (xA.add xB).quiet (xA.quiet.and xB.quiet) (l_q1 la lb)) (.cons (.within xA xA.quiet.quiet (l_q2 la)) .nil)) (by decide) fun H1 p k1 f1 ht1 => ?_
  clear xA xB
  with_reducible refine r_name ?_
  dsimp only
  have xA := eA (σ := (L2.start N_law_quiets [V.ref a, V.ref b, V.int (q : Nat)]).set 3 (some (.ref p))) k1 rfl
  with_reducible refine r_seq ?_
  refine s_true rfl ht1 (by decide) (.eq T TE xA.quiet.quiet.quiet xA.quiet (l_q3 la)) fun H2 k2 ht2 => ?_
  clear xA
  have k02 := k1.own1 f1 k2
  dsimp only
  have xA := eA (σ := (L2.start N_law_quiets [V.ref a, V.ref b, V.int (q : Nat)]).set 3 (some (.ref p))) k02 rfl
  have hL2 := hL.kp k02 (by simp)
  have l4 := l_q4 la
  have n4 := la.n4
  with_reducible refine r_seq ?_
  refine s_true rfl ht2 (by decide) ⟨fun Ha Qa ka qa => ?_⟩ fun H3 k3 ht3 => ?_
  · have hLa := hL2.kp ka (by simp)
    obtain ⟨dx, b1, ws1, hI, hTb, hRb⟩ := id hLa
    have lw := hRb.len
    have lA := la.len
    walk_at "rd"
    refine ⟨a, n, A1, rfl, hLa, by omega, la.ln, by omega, (la.quiet (by decide)).1, fun Hb r kb hQ => ?_⟩
    obtain ⟨dr, b2, ws2, hJ, hTc, hRc⟩ := hQ
    have lw2 := hRc.len
    have hIb := kb.get hI (by simp)
    walk_at "rd"
    rw [show ((ws1.length : Nat) : Int) + ((ws2.length : Nat) : Int) = ((n : Nat) : Int) by omega]
    walk_at "rd"
    rw [show decide (V.int ((n : Nat) : Int) = V.int ((n : Nat) : Int)) = true from decide_eq_true rfl]
    exact qa Hb kb
  clear xA
  have k03 := k02.own1 f1 k3
  dsimp only
  have hL3 := hL.kp k03 (by simp)
  obtain ⟨dx, b1, ws1, hI, hTb, hRb⟩ := id hL3
  with_reducible refine r_seq ?_
  with_reducible refine r_asg ?_
  walk_at "rds"
  refine ⟨n, q, rfl, n4, hq2, fun H4 r k4 hW => ?_⟩
  have k04 := k03.trans k4
  have ht4 := ht3.kp k4
  obtain ⟨lw, _⟩ := l_w (q := ((q : Nat) : Int)) n4 (by rw [Int.natAbs_natCast]; exact hq2)
  have ne : r ≠ p := fun e => by
    obtain ⟨dr, b2, ws2, hJ, _⟩ := id hW
    have q1 : H4 p = _ := ht4
    rw [e, q1] at hJ
    cases hJ
  have eW : ∀ {σ : L2.St} {H1 : Hp}, Kp [p] H4 H1 → σ[4]? = some (some (.ref r)) → LatE K C n 4 5 46 σ H1 (tVar 4) (wideF n (q : Nat)) := fun k hv => .var hv (hW.kp k (by simp [ne])) lw
  have k44 : Kp [p] H4 H4 := Kp.reflM (Ms.cons (show H4 p = _ from ht4) trivial Ms.nil)
  with_reducible refine r_name ?_
  dsimp only
  have xA := eA (σ := ((L2.start N_law_quiets [V.ref a, V.ref b, V.int (q : Nat)]).set 3 (some (.ref p))).set 4 (some (.ref r))) k04 rfl
  have xW := eW (σ := ((L2.start N_law_quiets [V.ref a, V.ref b, V.int (q : Nat)]).set 3 (some (.ref p))).set 4 (some (.ref r))) k44 rfl
  have xT := tq (σ := ((L2.start N_law_quiets [V.ref a, V.ref b, V.int (q : Nat)]).set 3 (some (.ref p))).set 4 (some (.ref r))) rfl
  with_reducible refine r_seq ?_
  refine s_true rfl ht4 (by decide) (.eq T TE ((xA.quietBy xT hq hq2).quietBy xT hq hq2) (xA.add xW) (l_q5 la hq hq2)) fun H5 k5 ht5 => ?_
  clear xA xW xT
  have k45 := k44.trans k5
  have k05 := k04.own1 f1 k5
  dsimp only
  have xA := eA (σ := ((L2.start N_law_quiets [V.ref a, V.ref b, V.int (q : Nat)]).set 3 (some (.ref p))).set 4 (some (.ref r))) k05 rfl
  have xB := eB (σ := ((L2.start N_law_quiets [V.ref a, V.ref b, V.int (q : Nat)]).set 3 (some (.ref p))).set 4 (some (.ref r))) k05 rfl
  have xT := tq (σ := ((L2.start N_law_quiets [V.ref a, V.ref b, V.int (q : Nat)]).set 3 (some (.ref p))).set 4 (some (.ref r))) rfl
  with_reducible refine r_seq ?_
  refine s_true rfl ht5 (by decide) (.eq T TE ((xA.add xB).quietBy xT hq hq2) ((xA.quietBy xT hq hq2).and (xB.quietBy xT hq hq2)) (l_q6 la lb hq hq2)) fun H6 k6 ht6 => ?_
  clear xA xB xT
  have k46 := k45.trans k6
  have k06 := k05.own1 f1 k6
  dsimp only
  have xA := eA (σ := ((L2.start N_law_quiets [V.ref a, V.ref b, V.int (q : Nat)]).set 3 (some (.ref p))).set 4 (some (.ref r))) k06 rfl
  have xT := tq (σ := ((L2.start N_law_quiets [V.ref a, V.ref b, V.int (q : Nat)]).set 3 (some (.ref p))).set 4 (some (.ref r))) rfl
  with_reducible refine r_seq ?_
  refine s_true rfl ht6 (by decide) (.within xA.quiet (xA.quietBy xT hq hq2) (l_q7 la hq hq2)) fun H7 k7 ht7 => ?_
  clear xA xT
  have k47 := k46.trans k7
  have k07 := k06.own1 f1 k7
  have xA := eA (σ := ((L2.start N_law_quiets [V.ref a, V.ref b, V.int (q : Nat)]).set 3 (some (.ref p))).set 4 (some (.ref r))) k07 rfl
  have xW := eW (σ := ((L2.start N_law_quiets [V.ref a, V.ref b, V.int (q : Nat)]).set 3 (some (.ref p))).set 4 (some (.ref r))) k47 rfl
  have xT := tq (σ := ((L2.start N_law_quiets [V.ref a, V.ref b, V.int (q : Nat)]).set 3 (some (.ref p))).set 4 (some (.ref r))) rfl
  dsimp only
  with_reducible refine r_ret ?_
  with_reducible refine r_op ?_
  refine ⟨_, rfl, ?_⟩
  refine r_trues (.cons (.within xW (xA.quietBy xT hq hq2) (l_wq la hq hq2)) .nil) (by decide) fun H8 p8 k8 f8 ht8 => ?_
  refine r_catT (ht7.kp k8) ht8 (by decide) fun H9 q9 k9 _ ht9 => ?_
  exact k H9 q9 _ (k07.trans (k8.trans k9)) ht9 (by decide)
abbrev slaw : Stmt := topS 32
abbrev Nlaw : List Str := ["_law_script", "_law_deck_here", "_law_turn", "_law_length", "_law_rows", "_law_k", "_law_one_here", "_law_other", "_law_third", "_law_vectors_here", "_law_number", "_law_by", "_law_found", "_law_truth"]
abbrev Plaw : List Str := ["_law_script"]
theorem sclaw : FnScope Nlaw Plaw (defScope slaw) :=
  ⟨rfl, rfl, rfl, by decide +kernel, rfl, by decide +kernel, by decide +kernel⟩
theorem ok_law {C : Addr} (D : Df K mg "law" slaw Plaw) (B : Blt mg)
    (GLattice : HasC P w K mg base CX0 "Lattice" C ["self", "length", "vectors"] 36 (spLatB K C))
    (G_law_deck : Has P w K mg base CX0 "_law_deck" ["_law_script"] 1 (spDeck K)) (G_law_draw : Has P w K mg base CX0 "_law_draw" ["_law_deck_here", "_law_many"] 1 spDraw) (G_law_one : Has P w K mg base CX0 "_law_one" ["_law_deck_here", "_law_items"] 2 (spOne K))
    (G_law_vectors : Has P w K mg base CX0 "_law_vectors" ["_law_deck_here", "_law_length"] 5 (spVecs6 K))
    (G_law_basics : Has P w K mg base CX0 "_law_basics" ["_law_a", "_law_b", "_law_c"] 40 (spBasics K C)) (G_law_more : Has P w K mg base CX0 "_law_more" ["_law_a", "_law_b", "_law_c", "_law_times"] 40 (spMoreL K C)) (G_law_quiets : Has P w K mg base CX0 "_law_quiets" ["_law_a", "_law_b", "_law_by"] 40 (spQuiets K C)) : Has P w K mg base CX0 "law" Plaw 41 (spLaw K) := by
  refine D.has sclaw (fun vs H Q E h => ?_) (fun f cdv A outer s H vs Q E hr h => ?_)
  · obtain ⟨a, ns, rfl, _⟩ := h
    rfl
  obtain ⟨a, ns, rfl, hS, hl, k⟩ := h
  refine ⟨_, (pss_cons (ps_set (i := 1) sclaw.nd rfl (Or.inr rfl) (pe_f G_law_deck (hr.mono (by omega)) (by rfl) pass0 (pa_cons (pv 0) pa_nil)))
      (pss_cons (ps_for PassesOwn.never rfl (pi_range1 (by rfl) B.range (pa_cons pe_int pa_nil)) (pg_name (i := 2) sclaw.nd rfl (Or.inl rfl))
        (pss_cons (ps_set (i := 3) sclaw.nd rfl (Or.inr rfl) (pe_f G_law_draw (hr.mono (by omega)) (by rfl) pass0 (pa_cons (pv 1) (pa_cons pe_int pa_nil))))
      (pss_cons (ps_setLc (i := 4) (own := [("_law_k", 5)]) (g := gName 5) (by rfl) sclaw.nd rfl rfl (sw_true rfl rfl rfl (by decide +kernel)) (pi_range1 (by rfl) B.range (pa_cons pe_int pa_nil)) (blkOk_by (own := [("_law_k", 5)]) (N := Nlaw) (sc := defScope slaw) (by decide +kernel)) (fun _ _ _ _ _ => (pg_name (i := 5) sclaw.nd rfl (Or.inl rfl))) (fun _ _ _ _ _ => pts_nil) (fun _ _ _ _ _ => (pe_f G_law_vectors (hr.mono (by omega)) (by rfl) pass0 (pa_cons (pv 1) (pa_cons (pv 3) pa_nil)))))
      (pss_cons (ps_if (pt_cmpR op_eq (pe_f G_law_draw (hr.mono (by omega)) (by rfl) pass0 (pa_cons (pv 1) (pa_cons pe_int pa_nil))) pe_int (nomark _)) (pss_one (ps_asg (pe_op op_catA (pe_slice sl_tupA (pe_ix ix_list (pv 4) pe_int (fun _ _ => rfl)) po_none (po_some pe_int)) (pe_slice sl_tupA (pe_ix ix_list (pv 4) pe_int (fun _ _ => rfl)) (po_some pe_int) po_none)) (pg_sub (pv 4) pe_int set_list)))
        pss_nil)
      (pss_cons (ps_asg (pe_lc (own := [("_law_vectors_here", 9)]) (g := gName 9) (by rfl) sclaw.nd (pi_list (pv 4)) (blkOk_by (own := [("_law_vectors_here", 9)]) (N := Nlaw) (sc := defScope slaw) (by decide +kernel)) (fun _ _ _ _ _ => (pg_name (i := 9) sclaw.nd rfl (Or.inl rfl))) (fun _ _ _ _ _ => pts_nil) (fun _ _ _ _ _ => (pe_new GLattice (hr.mono (by omega)) (by rfl) pass0 (pa_cons (pv 3) (pa_cons (pv 9) pa_nil))))) (pg_unl rfl (pgs_cons (pg_name (i := 6) sclaw.nd rfl (Or.inl rfl)) (pgs_cons (pg_name (i := 7) sclaw.nd rfl (Or.inl rfl)) (pgs_cons (pg_name (i := 8) sclaw.nd rfl (Or.inl rfl)) pgs_nil)))))
      (pss_cons (ps_par (i := 10) (j := 11) (by rfl) sclaw.nd rfl rfl (by decide) rfl rfl (pa_cons (pe_f G_law_one (hr.mono (by omega)) (by rfl) pass0 (pa_cons (pv 1) (pa_cons (pe_lst (pa_cons pe_int (pa_cons pe_int (pa_cons pe_int (pa_cons (pe_un un_neg pe_int) (pa_cons pe_int (pa_cons (pe_op op_pow pe_int pe_int) pa_nil))))))) pa_nil))) (pa_cons (pe_op op_add pe_int (pe_f G_law_draw (hr.mono (by omega)) (by rfl) pass0 (pa_cons (pv 1) (pa_cons pe_int pa_nil)))) pa_nil)) (by rfl))
      (pss_cons (ps_set (i := 12) sclaw.nd rfl (Or.inl rfl) (pe_op op_cat (pe_f G_law_basics (hr.mono (by omega)) (by rfl) pass0 (pa_cons (pv 6) (pa_cons (pv 7) (pa_cons (pv 8) pa_nil)))) (pe_f G_law_more (hr.mono (by omega)) (by rfl) pass0 (pa_cons (pv 6) (pa_cons (pv 7) (pa_cons (pv 8) (pa_cons (pv 10) pa_nil)))))))
      (pss_cons (ps_set (i := 12) sclaw.nd rfl (Or.inl rfl) (pe_op op_cat (pv 12) (pe_f G_law_quiets (hr.mono (by omega)) (by rfl) pass0 (pa_cons (pv 6) (pa_cons (pv 7) (pa_cons (pv 11) pa_nil))))))
      (pss_one (ps_if (pt_cmpR (op_neNil hr.h64) (pe_lc (own := [("_law_truth", 13)]) (g := gName 13) (by rfl) sclaw.nd (pi_list (pv 12)) (blkOk_by (own := [("_law_truth", 13)]) (N := Nlaw) (sc := defScope slaw) (by decide +kernel)) (fun _ _ _ _ _ => (pg_name (i := 13) sclaw.nd rfl (Or.inl rfl))) (fun _ _ _ _ _ => (pts_one (pt_cmpR op_isnot_bl (pv 13) pe_bl (nomark _)))) (fun _ _ _ _ _ => (pv 13))) (pe_lst pa_nil) (nomark _)) (pss_one (ps_ret pe_bl))
        pss_nil))))))))))
      (pss_one (ps_ret pe_bl)))), ?_⟩
  walk_at "rd"
  refine ⟨a, ns, rfl, hS, hl, fun H1 d c hd hc D1 k1 => ?_⟩
  walk_at "rd"
  refine r_ForR (fun i σ H' => ∃ (n' : Int) (x2 x3 x4 x6 x7 x8 x10 x11 x12 : Option V), σ = [some (.ref a), some (.ref d), x2, x3, x4, none, x6, x7, x8, none, x10, x11, x12, none] ∧ Deck H' d c n' ∧ n' ≤ 1000 * i) (by omega) (by omega) ⟨_, none, none, none, none, none, none, none, none, none, rfl, D1, by omega⟩ ?_ ?_
  · rintro i σ H2 hi ⟨n2, x2, x3, x4, x6, x7, x8, x10, x11, x12, rfl, D2, hn2⟩
    clear D1 k1 hd hc
    have n0 := D2.n0
    walk_at "rd"
    refine spDraw.use D2 (by omega) (by omega) (by omega) fun H3 m m0 m1 D3 k3 => ?_
    obtain ⟨m, rfl⟩ : ∃ t : Nat, m = (t : Int) := ⟨m.toNat, by omega⟩
    walk_at "rd"
    refine r_LcR (by omega) (by omega) fun q hq => ⟨fun j H' => ∃ (n' : Int) (vs : List V), Deck H' d c n' ∧ n2 + 1 ≤ n' ∧ n' ≤ n2 + 1 + 200 * j ∧ Kp [d, c] H3 H' ∧ H' q = some (.lst vs) ∧ vs.length = j ∧ ∀ v ∈ vs, FewV K H' m v, ?_, ?_, ?_⟩
    · have kq : Kp [] H3 (upd H3 q (.lst [])) := Kp.nil.new hq
      exact ⟨_, [], D3.kp kq (by simp) (by simp), by omega, by omega, (Kp.refl D3.ls).new hq, upd_same, rfl, fun v h => by cases h⟩
    · rintro j H4 hj ⟨n4, vs, D4, q1, q2, k4, hq4, vl, hvs⟩
      have fq := D3.fresh hq
      walk_at "rd"
      refine ⟨d, c, _, m, rfl, D4, by omega, by omega, fun H5 av us rs n5 hT5 hR5 few _ _ D5 q3 q4 k5 => ?_⟩
      have hq5 := k5.get hq4 (by simp [fq.1, fq.2])
      refine r_LcEnd hq5 (by rw [vl, sizeLine_eq]; omega) ⟨n5, vs ++ [.ref av], ?_, by omega, by omega, (k4.trans k5).own hq, upd_same, by rw [List.length_append, vl]; rfl, fun v hv => ?_⟩
      · exact D5.kp (kpW hq5) (by simp [Ne.symm fq.1]) (by simp [Ne.symm fq.2])
      · rcases List.mem_append.mp hv with hv | hv
        · exact ((hvs v hv).kp k5).kp (kpW hq5)
        · rw [List.mem_singleton.mp hv]
          exact FewV.kp ⟨av, us, rs, rfl, hT5, hR5, few⟩ (kpW hq5)
    · rintro H4 ⟨n4, vs, D4, q1, q2, k4, hq4, vl, hvs⟩
      have fq := D3.fresh hq
      obtain ⟨v0, v1, v2, rfl⟩ : ∃ v0 v1 v2, vs = [v0, v1, v2] := by
        match vs, vl with
        | [v0, v1, v2], _ => exact ⟨v0, v1, v2, rfl⟩
      with_reducible refine r_name ?_
      dsimp only
      with_reducible refine r_seqJ (fun σ' H' => ∃ (n' : Int) (w0 w1 w2 : V), σ' = [some (.ref a), some (.ref d), some (.int (i : Nat)), some (.int (m : Nat)), some (.ref q), none, x6, x7, x8, none, x10, x11, x12, none] ∧ Deck H' d c n' ∧ n2 + 1 ≤ n' ∧ n' ≤ n2 + 700 ∧ H' q = some (.lst [w0, w1, w2]) ∧ FewV K H' m w0 ∧ FewV K H' m w1 ∧ FewV K H' m w2) ?_ ?_
      · intro nx' hnx
        walk_at "rd"
        refine spDraw.use D4 (by omega) (by omega) (by omega) fun H5 y y0 y1 D5 k5 => ?_
        have hq5 := k5.get hq4 (by simp [fq.1, fq.2])
        have f0 := (hvs v0 (by simp)).kp k5
        have f1 := (hvs v1 (by simp)).kp k5
        have f2 := (hvs v2 (by simp)).kp k5
        walk_at "rd"
        rw [dec_int]
        refine ifd (fun c1 => ?_) fun c1 => ?_
        · obtain ⟨b0, us0, rs0, rfl, hT0, hR0, few0⟩ := id f0
          obtain ⟨b1, us1, rs1, rfl, hT1, hR1, few1⟩ := id f1
          walk_at "rd"
          refine r_slTake (n := 1) hT0 fun H6 c6 k6 hT6 => ?_
          have hq6 := k6.get hq5 (by simp)
          have hT16 := sqT_kp k6 hT1
          walk_at "rd"
          refine r_slOne hT16 fun H7 c7 k7 hT7 => ?_
          have hR7 : RwV K H7 (us0.take 1) (rs0.take 1) := ⟨by rw [List.length_take, List.length_take, hR0.len], fun i v r e1 e2 => (hR0.kp (k6.trans k7)).all i v r (by
            rw [List.getElem?_take] at e1
            split at e1
            · exact e1
            · cases e1) (by
            rw [List.getElem?_take] at e2
            split at e2
            · exact e2
            · cases e2)⟩
          have hR17 := (hR1.kp (k6.trans k7)).tail
          have l0 := few0.len
          have l1 := few1.len
          have e0 := hR7.len
          have e1 := hR17.len
          rw [List.length_take, List.length_take] at e0
          rw [List.length_tail, List.length_tail] at e1
          walk_at "rd"
          refine r_catN (sqT_kp k7 hT6) hT7 (by rw [List.length_take, List.length_tail, sizeLine_eq]; omega) fun H8 c8 k8 hT8 => ?_
          have k58 := (k6.trans k7).trans k8
          have hq8 := k58.get hq5 (by simp)
          have fw : FewV K H8 m (.ref c8) := ⟨c8, _, _, rfl, hT8, (hR7.app hR17).kp k8, Few.short (by omega) (LnN.app (fun r hr => few0.ln r (List.mem_of_mem_take hr)) fun r hr => few1.ln r (List.mem_of_mem_tail hr)) (by rw [List.length_append, List.length_take, List.length_tail]; omega) (BdN.app (fun r hr => few0.bd r (List.mem_of_mem_take hr)) fun r hr => few1.bd r (List.mem_of_mem_tail hr))⟩
          have D8 := D5.kp k58 (by simp) (by simp)
          have f0 := f0.kp k58
          have f1 := f1.kp k58
          walk_at "rd"
          have kw : Kp [q] H8 (upd H8 q (.lst ([V.ref b0, .ref b1, v2].set 2 (.ref c8)))) := kpW hq8
          exact hnx _ _ ⟨_, _, _, _, rfl, D8.kp kw (by simp [Ne.symm fq.1]) (by simp [Ne.symm fq.2]), by omega, by omega, upd_same, f0.kp kw, f1.kp kw, fw.kp kw⟩
        · walk_at "rd"
          exact hnx _ _ ⟨_, _, _, _, rfl, D5, by omega, by omega, hq5, f0, f1, f2⟩
      · rintro σ' H5 ⟨n5, w0, w1, w2, rfl, D5, q3, q4, hq5, f0, f1, f2⟩
        clear hvs hq4 D4 k4 vl D3 k3 q1 q2 hq
        walk_at "rd"
        refine r_LcL (SqL.of hq5) fun p hp => ⟨fun j H' => Kp [] H5 H' ∧ ∃ ls : List V, H' p = some (.lst ls) ∧ ls.length = j ∧ ∀ v ∈ ls, LatV K C H' m v, ⟨Kp.nil.new hp, [], upd_same, rfl, fun v h => by cases h⟩, fun j H' ⟨z, _⟩ => SqL.of (z.get hq5 (by simp)), ?_, ?_⟩
        · rintro j v H6 hv ⟨k6, ls, hp6, ll, hls⟩
          have hjl := (List.getElem?_eq_some_iff.mp hv).1
          have fv : FewV K H5 m v := by
            have hm := List.mem_of_getElem? hv
            simp only [List.mem_cons, List.not_mem_nil, or_false] at hm
            rcases hm with rfl | rfl | rfl
            · exact f0
            · exact f1
            · exact f2
          obtain ⟨b, us, rs, rfl, hT, hR, few⟩ := fv.kp k6
          walk_at "rd"
          refine r_make ?_
          walk_at "rd"
          have flen := few.len
          refine r_lat hT hR few.ln few.n30 (by omega) few.ok fun H7 x hx k7 hLx => ?_
          rw [few.eq] at hLx
          have hp7 := k7.get hp6 (by simp)
          have lx : LatV K C H7 m (.ref x) := ⟨x, _, rfl, hLx, few.l0 (by omega)⟩
          refine r_LcEnd hp7 (by rw [ll, sizeLine_eq]; simp at hjl; omega) ⟨(k6.trans k7).own hp, ls ++ [.ref x], upd_same, by rw [List.length_append, ll]; rfl, fun v hv => ?_⟩
          rcases List.mem_append.mp hv with hv | hv
          · exact ((hls v hv).kp k7).kp1 (kpW hp7) hp7
          · rw [List.mem_singleton.mp hv]
            exact lx.kp1 (kpW hp7) hp7
        · rintro H6 ⟨k6, ls, hp6, ll, hls⟩
          have D6 := D5.kp k6 (by simp) (by simp)
          clear f0 f1 f2 hq5 D5 k6 hp
          obtain ⟨z0, z1, z2, rfl⟩ : ∃ z0 z1 z2, ls = [z0, z1, z2] := by
            match ls, ll with
            | [z0, z1, z2], _ => exact ⟨z0, z1, z2, rfl⟩
          obtain ⟨r0, A0, rfl, hL0, l0⟩ := hls z0 (by simp)
          obtain ⟨r1, A1, rfl, hL1, l1⟩ := hls z1 (by simp)
          obtain ⟨r2, A2, rfl, hL2, l2⟩ := hls z2 (by simp)
          clear hls
          refine ⟨p, _, rfl, SqL.of hp6, rfl, ?_⟩
          clear hp6
          walk_at "rd"
          rotate_left
          · exact c_pow (by decide) (by decide) (by decide)
          refine ⟨by walk_at "sz", fun lp hlp => ?_⟩
          have kp := (Kp.nil (H := H6)).new (o := .lst ([(0 : Int), 1, 2, -3, 12, 10 ^ 12].map V.int)) hlp
          have fp := D6.fresh hlp
          have D7 := D6.kp kp (by simp) (by simp)
          refine spOne.list (xs := [(0 : Int), 1, 2, -3, 12, 10 ^ 12].map V.int) D7 (by omega) (SqL.of upd_same) fp.1 fp.2 (by simp) (by simp) fun H7 ix xv hxv D8 k7 => ?_
          rw [List.getElem?_map] at hxv
          obtain ⟨x, hxm, rfl⟩ := Option.map_eq_some_iff.mp hxv
          have hx : x.natAbs ≤ 2 ^ 40 := by
            have hm := List.mem_of_getElem? hxm
            simp only [List.mem_cons, List.not_mem_nil, or_false] at hm
            omega
          have k67 : Kp [d, c] H6 H7 := (kp.sub D6.ls (by simp)).trans k7
          clear D7 kp k7
          walk_at "rd"
          refine spDraw.use D8 (by omega) (by omega) (by omega) fun H8 u u0 u1 D9 k8 => ?_
          obtain ⟨u, rfl⟩ : ∃ t : Nat, u = (t : Int) := ⟨u.toNat, by omega⟩
          have k68 := k67.trans k8
          have hL08 := hL0.kp k68 (hL0.deck D6)
          have hL18 := hL1.kp k68 (hL1.deck D6)
          have hL28 := hL2.kp k68 (hL2.deck D6)
          clear hL0 hL1 hL2 k67 k8 D8 k68 D6 hlp fp
          walk_at "rd"
          have eu : (2 : Int) + ((u : Nat) : Int) = ((2 + u : Nat) : Int) := by omega
          rw [eu]
          walk_at "rd"
          refine ⟨r0, r1, r2, m, A0, A1, A2, rfl, hL08, hL18, hL28, l0, l1, l2, fun H9 p9 n9 k9 ht9 hn9 => ?_⟩
          walk_at "rd"
          refine ⟨r0, r1, r2, m, A0, A1, A2, x, rfl, hL08.kp k9 (by simp), hL18.kp k9 (by simp), hL28.kp k9 (by simp), l0, l1, l2, hx, fun Ha pa na ka hta hna => ?_⟩
          have k8a := k9.trans ka
          refine r_catT (ht9.kp ka) hta (by omega) fun Hb pb kb _ htb => ?_
          have k8b := k8a.trans kb
          walk_at "rd"
          refine ⟨r0, r1, m, 2 + u, A0, A1, rfl, hL08.kp k8b (by simp), hL18.kp k8b (by simp), l0, l1, by omega, by omega, fun Hc pc nc kc htc hnc => ?_⟩
          refine r_catT (htb.kp kc) htc (by omega) fun Hd pd kd _ htd => ?_
          have k8d := (k8b.trans kc).trans kd
          have Dd := D9.kp k8d (by simp) (by simp)
          have htd : Hd pd = some (.lst (List.replicate (n9 + na + nc) (.bl true))) := htd
          clear ht9 hta htb htc k9 ka kb kc kd k8a k8b k8d D9 hL08 hL18 hL28
          walk_at "rd"
          refine r_LcL (SqL.of htd) fun e he => ⟨fun j H' => Kp [] Hd H' ∧ H' e = some (.lst []), ⟨Kp.nil.new he, upd_same⟩, fun j H' ⟨z, _⟩ => SqL.of (z.get htd (by simp)), ?_, ?_⟩
          · rintro j v He hv ⟨ke, hee⟩
            obtain rfl := List.eq_of_mem_replicate (List.mem_of_getElem? hv)
            walk_at "rd"
            refine ⟨true, true, rfl, rfl, ?_⟩
            walk_at "rd"
            refine iteF ?_
            exact ⟨ke, hee⟩
          · rintro He ⟨ke, hee⟩
            have De := Dd.kp ke (by simp) (by simp)
            walk_at "rd"
            refine ⟨by simp [sizeLine_eq], fun z hz => ?_⟩
            have kz : Kp [] He (upd He z (.lst [])) := Kp.nil.new hz
            refine r_neNL (SqL.of (kz.get hee (by simp))) (SqL.of upd_same) ?_
            walk_at "rd"
            exact ⟨_, _, _, _, _, _, _, _, _, _, rfl, De.kp kz (by simp) (by simp), by omega⟩
  · rintro σ H2 ⟨n2, x2, x3, x4, x6, x7, x8, x10, x11, x12, rfl, D2, hn2⟩
    walk_at "rd"
    exact k H2
theorem errc_mk {K : PySem.W.Frag} {h : Heap} {mg : Str → Option Value} {C : Addr} {x : Str} {bm : List Value} (X : K.In h) (G : h.Ns mainGlobals mg) (a : PySem.W.nsIn K mainGlobals x = some (some (.ref C)))
    {nm q : Str} {N : Addr} {bs : List Value} {sn : List Str} {sub : List Value} {ab : Bool} {col : Option Bool} {dd : Option Addr} {m0 m1 m2 m3 m5 : Option Value}
    (xL : K.lookup C = some (excClassObj nm q C N bs bm true sn sub ab col dd m0 m1 m2 m3 m5 "ValueError.__new__")) (rv : PySem.HandSPX.refsVE bm = true)
    (sa : PySem.W.findIn K (.ref C) "__setattr__" = some (some (.builtin "object.__setattr__"))) (ga : PySem.W.findIn K (.ref C) "__getattribute__" = some (some (.builtin "BaseException.__getattribute__"))) (gg : PySem.W.findIn K (.ref C) "__getattr__" = some none)
    (kC : PySem.W.keepIn K (.ref C) = true) (eC : PySem.W.subIn K (.ref C) (.type "BaseException") = some true) (tC : PySem.W.typeIn K (.ref C) = some (.type "type")) (hC : PySem.W.hasDictIn K C = true) : ErrC K mg x C :=
  ⟨⟨⟨nm, q, N, bs, _, sn, sub, ab, col, dd, m0, m1, m2, m3, m5, xL, rv⟩, sa, eC, tC, kC⟩, ⟨ga, gg, eC, hC⟩, PySem.W.mg_of X G a⟩
theorem exm_mk {K : PySem.W.Frag} {S U : Addr} {b : Bool} (h1 : PySem.W.subIn K (.ref S) (.type "BaseException") = some true) (h2 : PySem.W.isClsIn K S = true) (h3 : PySem.W.typeIn K (.ref S) = some (.type "type")) (h4 : PySem.W.subIn K (.ref U) (.ref S) = some b) :
    PySem.W.exmOne K (.ref U) (.ref S) = some b := by
  have e1 : (PySem.W.subIn K (.ref S) (.type "BaseException") == some true) = true := by rw [h1] <;> rfl
  have e2 : ((PySem.W.clsIn K S).isSome && PySem.W.typeIn K (.ref S) == some (.type "type")) = true := by
    have h2' : (PySem.W.clsIn K S).isSome = true := h2
    rw [h2', h3] <;> rfl
  show (if (PySem.W.subIn K (.ref S) (.type "BaseException") == some true) = true then (if ((PySem.W.clsIn K S).isSome && PySem.W.typeIn K (.ref S) == some (.type "type")) = true then PySem.W.subIn K (.ref U) (.ref S) else none) else none) = some b
  rw [if_pos e1, if_pos e2]
  exact h4
/-- the class Lattice in the top -/
structure LtCls (mg : Str → Option Value) (K : PySem.W.Frag) (C : Addr) : Prop where
  T : LtT K C
  mks : PySem.W.makesIn K C = true
  kc : PySem.W.keepIn K (.ref C) = true
  at_ : mg "Lattice" = some (.ref C)
  d0 : DfM K C "__init__" "Lattice.__init__" sLattice___init__ PLattice___init__
  d1 : DfM K C "need_same" "Lattice.need_same" sLattice_need_same PLattice_need_same
  d2 : DfM K C "__mul__" "Lattice.__mul__" sLattice___mul__ PLattice___mul__
  d3 : DfM K C "__eq__" "Lattice.__eq__" sLattice___eq__ PLattice___eq__
  d4 : DfM K C "within" "Lattice.within" sLattice_within PLattice_within
  d5 : DfM K C "__add__" "Lattice.__add__" sLattice___add__ PLattice___add__
  d6 : DfM K C "__and__" "Lattice.__and__" sLattice___and__ PLattice___and__
  d7 : DfM K C "quiet" "Lattice.quiet" sLattice_quiet PLattice_quiet
  d8 : DfM K C "quiet_by" "Lattice.quiet_by" sLattice_quiet_by PLattice_quiet_by
abbrev ErrO (mg : Str → Option Value) (K : PySem.W.Frag) (C : Addr) : Prop := ErrCls mg K "OtherLength" "length" "OtherLength.__init__" sOtherLength___init__ POtherLength___init__ C
theorem k45_has {C CR CO : Addr} (X : LtCls mg K C) (TE : LtE K C) (ER : RErr mg K CR) (EO : ErrO mg K CO) (B : Blt mg) (SP : Seer P base) (gM : ∃ t, mg "MAX_LENGTH" = some (.int 30 t))
    (Dis_integer : Df K mg "is_integer" sis_integer Pis_integer)
    (Dis_vector : Df K mg "is_vector" sis_vector Pis_vector)
    (Dvector_plus : Df K mg "vector_plus" svector_plus Pvector_plus)
    (Dtimes_vector : Df K mg "times_vector" stimes_vector Ptimes_vector)
    (Dlead_of : Df K mg "lead_of" slead_of Plead_of)
    (Dcleared_rows : Df K mg "cleared_rows" scleared_rows Pcleared_rows)
    (Dbasis_of : Df K mg "basis_of" sbasis_of Pbasis_of)
    (Drest_by : Df K mg "rest_by" srest_by Prest_by)
    (Dvector_unit : Df K mg "vector_unit" svector_unit Pvector_unit)
    (Dkernel_of : Df K mg "kernel_of" skernel_of Pkernel_of)
    (Dmeet_of : Df K mg "meet_of" smeet_of Pmeet_of)
    (Dquiet_rows : Df K mg "quiet_rows" squiet_rows Pquiet_rows)
    (D_law_deck : Df K mg "_law_deck" s_law_deck P_law_deck)
    (D_law_draw : Df K mg "_law_draw" s_law_draw P_law_draw)
    (D_law_one : Df K mg "_law_one" s_law_one P_law_one)
    (D_law_item : Df K mg "_law_item" s_law_item P_law_item)
    (D_law_vector : Df K mg "_law_vector" s_law_vector P_law_vector)
    (D_law_vectors : Df K mg "_law_vectors" s_law_vectors P_law_vectors)
    (D_law_all_multiples : Df K mg "_law_all_multiples" s_law_all_multiples P_law_all_multiples)
    (D_law_basics : Df K mg "_law_basics" s_law_basics P_law_basics)
    (D_law_more : Df K mg "_law_more" s_law_more P_law_more)
    (D_law_quiets : Df K mg "_law_quiets" s_law_quiets P_law_quiets)
    (Dlaw : Df K mg "law" slaw Plaw) : Has P w K mg base CX0 "law" Plaw 41 (spLaw K) := by
  obtain ⟨_, gM⟩ := gM
  have E1 := HasE.of EO.E (ok_OtherLength_init (P := P) (w := w) (base := base) EO.d B EO.E.o EO.nf ER.at_ ER.rd ER.sp ER.vV)
  have G1 := ok_is_integer (P := P) (w := w) (base := base) Dis_integer B
  have G2 := ok_is_vector Dis_vector B G1
  have G3 := ok_vector_plus (P := P) (w := w) (base := base) Dvector_plus B
  have G4 := ok_times_vector (P := P) (w := w) (base := base) Dtimes_vector B
  have G5 := ok_lead_of (P := P) (w := w) (base := base) Dlead_of B
  have G6 := ok_cleared_rows Dcleared_rows B SP G3
  have G7 := ok_basis_of Dbasis_of B SP G5 G6 G4 G3
  have G8 := ok_rest_by Drest_by B SP G5 G3
  have G9 := ok_meet_of Dmeet_of B G7 G5
  have GU := ok_vector_unit (P := P) (w := w) (base := base) Dvector_unit B
  have GK := ok_kernel_of Dkernel_of B GU G7 G5
  have GR := ok_quiet_rows Dquiet_rows B GU G4 G7 G5
  have GC := HasC.of6 (ok_Lattice_init X.d0 B X.T gM G1 G2 (G7.imp spBasis_X)) X.mks X.kc X.at_
  have GN := ok_Lattice_same X.d1 B X.T E1
  have GM := ok_Lattice_mul X.d2 B X.T GC G4
  have GE := ok_Lattice_eq (P := P) (w := w) (base := base) X.d3 B X.T TE X.at_
  have GW := ok_Lattice_within X.d4 B X.T GN G8 G5
  have GA := ok_Lattice_add X.d5 B X.T GN GC
  have GB := ok_Lattice_and X.d6 B X.T GN GC G9
  have GQ := ok_Lattice_quiet X.d7 B X.T GC GK
  have GY := ok_Lattice_quiet_by X.d8 B X.T GC GR
  have W1 := ok_law_deck (P := P) (w := w) (base := base) D_law_deck B
  have W2 := ok_law_draw (P := P) (w := w) (base := base) D_law_draw B
  have W3 := ok_law_one D_law_one B W2
  have W4 := ok_law_item D_law_item B W2 W3
  have W5 := ok_law_vector D_law_vector B W4
  have W6 := ok_law_vectors D_law_vectors B W2 W5
  have W7 := ok_law_all_multiples D_law_all_multiples B GC
  have W8 := ok_law_basics D_law_basics B X.T TE GA GB GE GW
  have W9 := ok_law_more D_law_more B X.T TE GA GB GM GE GW
  have Wa := ok_law_quiets D_law_quiets B X.T TE GA GB GQ GY GE GW W7
  exact ok_law Dlaw B GC W1 W2 W3 W6 W8 W9 Wa
end
end Aw
open PySem PySem.W PyProof.Rows in
set_option maxRecDepth 100000 in
set_option maxHeartbeats 0 in
theorem PySem.Challenge.cw_anewread_k45_whole_lattices_obey_laws_holds : PySem.Challenge.rw_anewread_k45_whole_lattices_obey_laws.Holds := by
  w_on; o_law; k_head; (case hw => w_witness2)
  k_fill
  refine Aw.walkS (k := 41) (l := PySem.Challenge.rw_anewread_k45_whole_lattices_obey_laws) (x := "_law_script") rfl rfl rfl ⟨⟨rfl, by decide, by decide⟩, rfl⟩ (fun w h Y => PySem.W.kIn_of Y) ?F ?Q
  case Q => rfl
  case F =>
    intro w mg h KX G base _ _ hSys
    have SP : Aw.Seer PySem.Challenge.pw_anewread_k45_whole_lattices_obey_laws base := ⟨hSys, rfl⟩
    have hSys := hSys.mods.imp fun _ h => h.1
    have Dis_integer : Aw.Df (L2.KOf KX) mg "is_integer" Aw.sis_integer Aw.Pis_integer := by
      unfold L2.KOf
      refine' Aw.df_mk KX G ?a ?l ?c ?k ?b
      (case a => k_is)
      (case l => k_is)
      (case c => k_is)
      (case k => k_is)
      (case b => exact fun _ _ _ _ _ _ us hl => match us, hl with | [_], _ => rfl)
    have Dis_vector : Aw.Df (L2.KOf KX) mg "is_vector" Aw.sis_vector Aw.Pis_vector := by
      unfold L2.KOf
      refine' Aw.df_mk KX G ?a ?l ?c ?k ?b
      (case a => k_is)
      (case l => k_is)
      (case c => k_is)
      (case k => k_is)
      (case b => exact fun _ _ _ _ _ _ us hl => match us, hl with | [_, _], _ => rfl)
    have Dvector_plus : Aw.Df (L2.KOf KX) mg "vector_plus" Aw.svector_plus Aw.Pvector_plus := by
      unfold L2.KOf
      refine' Aw.df_mk KX G ?a ?l ?c ?k ?b
      (case a => k_is)
      (case l => k_is)
      (case c => k_is)
      (case k => k_is)
      (case b => exact fun _ _ _ _ _ _ us hl => match us, hl with | [_, _, _], _ => rfl)
    have Dtimes_vector : Aw.Df (L2.KOf KX) mg "times_vector" Aw.stimes_vector Aw.Ptimes_vector := by
      unfold L2.KOf
      refine' Aw.df_mk KX G ?a ?l ?c ?k ?b
      (case a => k_is)
      (case l => k_is)
      (case c => k_is)
      (case k => k_is)
      (case b => exact fun _ _ _ _ _ _ us hl => match us, hl with | [_, _], _ => rfl)
    have Dlead_of : Aw.Df (L2.KOf KX) mg "lead_of" Aw.slead_of Aw.Plead_of := by
      unfold L2.KOf
      refine' Aw.df_mk KX G ?a ?l ?c ?k ?b
      (case a => k_is)
      (case l => k_is)
      (case c => k_is)
      (case k => k_is)
      (case b => exact fun _ _ _ _ _ _ us hl => match us, hl with | [_], _ => rfl)
    have Dcleared_rows : Aw.Df (L2.KOf KX) mg "cleared_rows" Aw.scleared_rows Aw.Pcleared_rows := by
      unfold L2.KOf
      refine' Aw.df_mk KX G ?a ?l ?c ?k ?b
      (case a => k_is)
      (case l => k_is)
      (case c => k_is)
      (case k => k_is)
      (case b => exact fun _ _ _ _ _ _ us hl => match us, hl with | [_, _], _ => rfl)
    have Dbasis_of : Aw.Df (L2.KOf KX) mg "basis_of" Aw.sbasis_of Aw.Pbasis_of := by
      unfold L2.KOf
      refine' Aw.df_mk KX G ?a ?l ?c ?k ?b
      (case a => k_is)
      (case l => k_is)
      (case c => k_is)
      (case k => k_is)
      (case b => exact fun _ _ _ _ _ _ us hl => match us, hl with | [_, _], _ => rfl)
    have Drest_by : Aw.Df (L2.KOf KX) mg "rest_by" Aw.srest_by Aw.Prest_by := by
      unfold L2.KOf
      refine' Aw.df_mk KX G ?a ?l ?c ?k ?b
      (case a => k_is)
      (case l => k_is)
      (case c => k_is)
      (case k => k_is)
      (case b => exact fun _ _ _ _ _ _ us hl => match us, hl with | [_, _], _ => rfl)
    have Dvector_unit : Aw.Df (L2.KOf KX) mg "vector_unit" Aw.svector_unit Aw.Pvector_unit := by
      unfold L2.KOf
      refine' Aw.df_mk KX G ?a ?l ?c ?k ?b
      (case a => k_is)
      (case l => k_is)
      (case c => k_is)
      (case k => k_is)
      (case b => exact fun _ _ _ _ _ _ us hl => match us, hl with | [_, _], _ => rfl)
    have Dkernel_of : Aw.Df (L2.KOf KX) mg "kernel_of" Aw.skernel_of Aw.Pkernel_of := by
      unfold L2.KOf
      refine' Aw.df_mk KX G ?a ?l ?c ?k ?b
      (case a => k_is)
      (case l => k_is)
      (case c => k_is)
      (case k => k_is)
      (case b => exact fun _ _ _ _ _ _ us hl => match us, hl with | [_, _], _ => rfl)
    have Dmeet_of : Aw.Df (L2.KOf KX) mg "meet_of" Aw.smeet_of Aw.Pmeet_of := by
      unfold L2.KOf
      refine' Aw.df_mk KX G ?a ?l ?c ?k ?b
      (case a => k_is)
      (case l => k_is)
      (case c => k_is)
      (case k => k_is)
      (case b => exact fun _ _ _ _ _ _ us hl => match us, hl with | [_, _, _], _ => rfl)
    have Dquiet_rows : Aw.Df (L2.KOf KX) mg "quiet_rows" Aw.squiet_rows Aw.Pquiet_rows := by
      unfold L2.KOf
      refine' Aw.df_mk KX G ?a ?l ?c ?k ?b
      (case a => k_is)
      (case l => k_is)
      (case c => k_is)
      (case k => k_is)
      (case b => exact fun _ _ _ _ _ _ us hl => match us, hl with | [_, _, _], _ => rfl)
    have D_law_deck : Aw.Df (L2.KOf KX) mg "_law_deck" Aw.s_law_deck Aw.P_law_deck := by
      unfold L2.KOf
      refine' Aw.df_mk KX G ?a ?l ?c ?k ?b
      (case a => k_is)
      (case l => k_is)
      (case c => k_is)
      (case k => k_is)
      (case b => exact fun _ _ _ _ _ _ us hl => match us, hl with | [_], _ => rfl)
    have D_law_draw : Aw.Df (L2.KOf KX) mg "_law_draw" Aw.s_law_draw Aw.P_law_draw := by
      unfold L2.KOf
      refine' Aw.df_mk KX G ?a ?l ?c ?k ?b
      (case a => k_is)
      (case l => k_is)
      (case c => k_is)
      (case k => k_is)
      (case b => exact fun _ _ _ _ _ _ us hl => match us, hl with | [_, _], _ => rfl)
    have D_law_one : Aw.Df (L2.KOf KX) mg "_law_one" Aw.s_law_one Aw.P_law_one := by
      unfold L2.KOf
      refine' Aw.df_mk KX G ?a ?l ?c ?k ?b
      (case a => k_is)
      (case l => k_is)
      (case c => k_is)
      (case k => k_is)
      (case b => exact fun _ _ _ _ _ _ us hl => match us, hl with | [_, _], _ => rfl)
    have D_law_item : Aw.Df (L2.KOf KX) mg "_law_item" Aw.s_law_item Aw.P_law_item := by
      unfold L2.KOf
      refine' Aw.df_mk KX G ?a ?l ?c ?k ?b
      (case a => k_is)
      (case l => k_is)
      (case c => k_is)
      (case k => k_is)
      (case b => exact fun _ _ _ _ _ _ us hl => match us, hl with | [_], _ => rfl)
    have D_law_vector : Aw.Df (L2.KOf KX) mg "_law_vector" Aw.s_law_vector Aw.P_law_vector := by
      unfold L2.KOf
      refine' Aw.df_mk KX G ?a ?l ?c ?k ?b
      (case a => k_is)
      (case l => k_is)
      (case c => k_is)
      (case k => k_is)
      (case b => exact fun _ _ _ _ _ _ us hl => match us, hl with | [_, _], _ => rfl)
    have D_law_vectors : Aw.Df (L2.KOf KX) mg "_law_vectors" Aw.s_law_vectors Aw.P_law_vectors := by
      unfold L2.KOf
      refine' Aw.df_mk KX G ?a ?l ?c ?k ?b
      (case a => k_is)
      (case l => k_is)
      (case c => k_is)
      (case k => k_is)
      (case b => exact fun _ _ _ _ _ _ us hl => match us, hl with | [_, _], _ => rfl)
    have D_law_all_multiples : Aw.Df (L2.KOf KX) mg "_law_all_multiples" Aw.s_law_all_multiples Aw.P_law_all_multiples := by
      unfold L2.KOf
      refine' Aw.df_mk KX G ?a ?l ?c ?k ?b
      (case a => k_is)
      (case l => k_is)
      (case c => k_is)
      (case k => k_is)
      (case b => exact fun _ _ _ _ _ _ us hl => match us, hl with | [_, _], _ => rfl)
    have D_law_basics : Aw.Df (L2.KOf KX) mg "_law_basics" Aw.s_law_basics Aw.P_law_basics := by
      unfold L2.KOf
      refine' Aw.df_mk KX G ?a ?l ?c ?k ?b
      (case a => k_is)
      (case l => k_is)
      (case c => k_is)
      (case k => k_is)
      (case b => exact fun _ _ _ _ _ _ us hl => match us, hl with | [_, _, _], _ => rfl)
    have D_law_more : Aw.Df (L2.KOf KX) mg "_law_more" Aw.s_law_more Aw.P_law_more := by
      unfold L2.KOf
      refine' Aw.df_mk KX G ?a ?l ?c ?k ?b
      (case a => k_is)
      (case l => k_is)
      (case c => k_is)
      (case k => k_is)
      (case b => exact fun _ _ _ _ _ _ us hl => match us, hl with | [_, _, _, _], _ => rfl)
    have D_law_quiets : Aw.Df (L2.KOf KX) mg "_law_quiets" Aw.s_law_quiets Aw.P_law_quiets := by
      unfold L2.KOf
      refine' Aw.df_mk KX G ?a ?l ?c ?k ?b
      (case a => k_is)
      (case l => k_is)
      (case c => k_is)
      (case k => k_is)
      (case b => exact fun _ _ _ _ _ _ us hl => match us, hl with | [_, _, _], _ => rfl)
    have Dlaw : Aw.Df (L2.KOf KX) mg "law" Aw.slaw Aw.Plaw := by
      unfold L2.KOf
      refine' Aw.df_mk KX G ?a ?l ?c ?k ?b
      (case a => k_is)
      (case l => k_is)
      (case c => k_is)
      (case k => k_is)
      (case b => exact fun _ _ _ _ _ _ us hl => match us, hl with | [_], _ => rfl)
    have B : Aw.Blt mg := by
      refine' ⟨PySem.W.mg_none_of KX G ?z0, PySem.W.mg_none_of KX G ?z1, PySem.W.mg_none_of KX G ?z2, PySem.W.mg_none_of KX G ?z3, PySem.W.mg_none_of KX G ?z4, PySem.W.mg_none_of KX G ?z5, PySem.W.mg_none_of KX G ?z6, PySem.W.mg_none_of KX G ?z7, PySem.W.mg_none_of KX G ?z8, PySem.W.mg_none_of KX G ?z9, PySem.W.mg_none_of KX G ?z10, PySem.W.mg_none_of KX G ?z11, PySem.W.mg_none_of KX G ?z12, PySem.W.mg_none_of KX G ?z13, PySem.W.mg_none_of KX G ?z14, PySem.W.mg_none_of KX G ?z15, PySem.W.mg_none_of KX G ?z16, PySem.W.mg_none_of KX G ?z17, PySem.W.mg_none_of KX G ?z18⟩
      all_goals k_is
    have gM : ∃ t, mg "MAX_LENGTH" = some (.int 30 t) := by (refine' Aw.gint_mk KX G ?z; (case z => k_is))
    have XC : ∃ C, Aw.LtCls mg (L2.KOf KX) C ∧ Aw.LtE (L2.KOf KX) C := by
      unfold L2.KOf
      refine' ⟨_, ⟨⟨⟨?c1, ?c2, ?c3, ?c4⟩, Aw.na_mk6 ?n0, Aw.na_mk6 ?n1⟩, ?mk0, ?kc, PySem.W.mg_of KX G ?ta0, Aw.dfm_mk6 ?a0 ?l0 ?e0 ?k0 ?i0 ?b0, Aw.dfm_mk6 ?a1 ?l1 ?e1 ?k1 ?i1 ?b1, Aw.dfm_mk6 ?a2 ?l2 ?e2 ?k2 ?i2 ?b2, Aw.dfm_mk6 ?a3 ?l3 ?e3 ?k3 ?i3 ?b3, Aw.dfm_mk6 ?a4 ?l4 ?e4 ?k4 ?i4 ?b4, Aw.dfm_mk6 ?a5 ?l5 ?e5 ?k5 ?i5 ?b5, Aw.dfm_mk6 ?a6 ?l6 ?e6 ?k6 ?i6 ?b6, Aw.dfm_mk6 ?a7 ?l7 ?e7 ?k7 ?i7 ?b7, Aw.dfm_mk6 ?a8 ?l8 ?e8 ?k8 ?i8 ?b8⟩, ⟨?y0, ?y1, ?y2, ?y3, ?y4, ?y5, ?y6, ?y7, ?y8, ?y9, ?y10, ?y11, ?y12, ?y13, ?y14⟩⟩
      (case ta0 => k_is)
      (case c1 => k_is)
      (case c2 => k_is)
      (case c3 => k_is)
      (case c4 => k_is)
      (case n0 => k_is)
      (case n1 => k_is)
      (case mk0 => k_is)
      (case kc => k_is)
      (case a0 => k_is)
      (case l0 => k_is)
      (case e0 => k_is)
      (case k0 => k_is)
      (case i0 => k_is)
      (case b0 => exact fun _ _ _ _ _ _ us hl => match us, hl with | [_, _, _], _ => rfl)
      (case a1 => k_is)
      (case l1 => k_is)
      (case e1 => k_is)
      (case k1 => k_is)
      (case i1 => k_is)
      (case b1 => exact fun _ _ _ _ _ _ us hl => match us, hl with | [_, _], _ => rfl)
      (case a2 => k_is)
      (case l2 => k_is)
      (case e2 => k_is)
      (case k2 => k_is)
      (case i2 => k_is)
      (case b2 => exact fun _ _ _ _ _ _ us hl => match us, hl with | [_, _], _ => rfl)
      (case a3 => k_is)
      (case l3 => k_is)
      (case e3 => k_is)
      (case k3 => k_is)
      (case i3 => k_is)
      (case b3 => exact fun _ _ _ _ _ _ us hl => match us, hl with | [_, _], _ => rfl)
      (case a4 => k_is)
      (case l4 => k_is)
      (case e4 => k_is)
      (case k4 => k_is)
      (case i4 => k_is)
      (case b4 => exact fun _ _ _ _ _ _ us hl => match us, hl with | [_, _], _ => rfl)
      (case a5 => k_is)
      (case l5 => k_is)
      (case e5 => k_is)
      (case k5 => k_is)
      (case i5 => k_is)
      (case b5 => exact fun _ _ _ _ _ _ us hl => match us, hl with | [_, _], _ => rfl)
      (case a6 => k_is)
      (case l6 => k_is)
      (case e6 => k_is)
      (case k6 => k_is)
      (case i6 => k_is)
      (case b6 => exact fun _ _ _ _ _ _ us hl => match us, hl with | [_, _], _ => rfl)
      (case a7 => k_is)
      (case l7 => k_is)
      (case e7 => k_is)
      (case k7 => k_is)
      (case i7 => k_is)
      (case b7 => exact fun _ _ _ _ _ _ us hl => match us, hl with | [_], _ => rfl)
      (case a8 => k_is)
      (case l8 => k_is)
      (case e8 => k_is)
      (case k8 => k_is)
      (case i8 => k_is)
      (case b8 => exact fun _ _ _ _ _ _ us hl => match us, hl with | [_, _], _ => rfl)
      (case y0 => first | k_is | rfl)
      (case y1 => first | k_is | rfl)
      (case y2 => first | k_is | rfl)
      (case y3 => first | k_is | rfl)
      (case y4 => first | k_is | rfl)
      (case y5 => first | k_is | rfl)
      (case y6 => first | k_is | rfl)
      (case y7 => first | k_is | rfl)
      (case y8 => first | k_is | rfl)
      (case y9 => first | k_is | rfl)
      (case y10 => first | k_is | rfl)
      (case y11 => first | k_is | rfl)
      (case y12 => first | k_is | rfl)
      (case y13 => first | k_is | rfl)
      (case y14 => first | k_is | rfl)
    obtain ⟨C, XC, XL⟩ := XC
    have XE : ∃ CR CT, Aw.RErr mg (L2.KOf KX) CR ∧ Aw.ErrO mg (L2.KOf KX) CT := by
      unfold L2.KOf
      refine' ⟨_, _, ⟨PySem.W.mg_of KX G ?r0, ?r1, ?r2, ?r3⟩, ⟨Aw.errc_mk KX G ?t0 ?t1 ?t2 ?t3 ?t4 ?t5 ?t6 ?t7 ?t8 ?t9, ?t10, Aw.dfm_mk6 ?t11 ?t12 ?t13 ?t14 ?t15 ?t16, Aw.exm_mk ?t17 ?t18 ?t19 ?t20⟩⟩
      (case r0 => k_is)
      (case r1 => k_is)
      (case r2 => k_is)
      (case r3 => k_is)
      (case t0 => first | k_is | rfl)
      (case t1 => first | k_is | rfl)
      (case t2 => decide +kernel)
      (case t3 => first | k_is | rfl)
      (case t4 => first | k_is | rfl)
      (case t5 => first | k_is | rfl)
      (case t6 => first | k_is | rfl)
      (case t7 => first | k_is | rfl)
      (case t8 => first | k_is | rfl)
      (case t9 => first | k_is | rfl)
      (case t10 => first | k_is | rfl)
      (case t11 => first | k_is | rfl)
      (case t12 => first | k_is | rfl)
      (case t13 => first | k_is | rfl)
      (case t14 => first | k_is | rfl)
      (case t15 => first | k_is | rfl)
      (case t16 => exact fun _ _ _ _ _ _ us hl => match us, hl with | [_, _], _ => rfl)
      (case t17 => first | k_is | rfl)
      (case t18 => first | k_is | rfl)
      (case t19 => first | k_is | rfl)
      (case t20 => first | k_is | rfl)
    obtain ⟨CR, CT, XER, XET⟩ := XE
    exact Aw.k45_has (P := PySem.Challenge.pw_anewread_k45_whole_lattices_obey_laws) (w := w) (base := base) XC XL XER XET B SP gM Dis_integer Dis_vector Dvector_plus Dtimes_vector Dlead_of Dcleared_rows Dbasis_of Drest_by Dvector_unit Dkernel_of Dmeet_of Dquiet_rows D_law_deck D_law_draw D_law_one D_law_item D_law_vector D_law_vectors D_law_all_multiples D_law_basics D_law_more D_law_quiets Dlaw
