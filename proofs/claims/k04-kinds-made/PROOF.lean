import PyProof.Rows.All
import Wide.All
import OpenK.AllK
import Wide.FinOn
import KE.KStateDown
import Lean
import HandS.Base
import HandS.Call
import HandS.List
import HandS.Comp
import HandS.Ends
import HandS.Dict
import HandS.Iter
import HandS.Text
import HandS.More
import HandS.Words
import HandS.WordsList
import HandS.WordsDict
import HandS.Exc
import HandS.WordsExc
import HandS.Defaults
import HandS.IsInst
import HandS.Property
import HandS.MakeKw
import HandS.MakeKwOnly
import HandS.Flow
import HandS.Style
import HandS.Head0
import HandS.Head1
import HandS.Head2
import HandS.HeadEnd
import HandS.HeadHook1
import HandS.HeadHook2
import HandS.HeadHook3
import HandS.HeadHook4
import KE.GoesEnum
import HandS.NoneIn
import HandS.TupAny
import PySem.Challenge.RW_gatecrowds_k04_kinds_made
import HandS.Records
set_option Elab.async false
set_option linter.all false
set_option maxRecDepth 100000
set_option maxHeartbeats 4000000
/-! own rules, ahead of all laws -/
namespace G
open PySem PySem.Spec PyProof.Rows L2

/-! ### names of the module -/
theorem pe_gl {X : Cx} {x : Str} {pos : Pos} {v : V} (h : ∃ u, X.mg x = some u ∧ RelV v u) (hg : Gl X x := by rfl)
    (hd : (x == ("__debug__" : Str)) = false := by decide) : PE X (.Name x pos) (tC v) := by
  obtain ⟨u, hm, r⟩ := h
  exact pe_glob hg hm r hd

/-! ### promises that ask that no guard runs -/
structure FnG (P : Program) (w : World) (K : PySem.W.Frag) (mg : Str → Option Value) (base : Heap) (CX : CXT)
    (k : Nat) (f : Addr) (fd : FuncData) (ps : List Str) (sp : Sp) : Prop where
  len : ∀ vs H Q E, sp vs H Q E → vs.length = ps.length
  run : ∀ (A : Around) (outer : List Env) (s : Shared) (H : Hp) (args : Args) (us : List Value) (vs : List V)
    (Q : VK) (E : XK), Room k A → A.guards = some [] → Env0 P w K mg base A outer s H →
    BindsTo s fd args (ps.zip us) → Vals vs us → sp vs H Q E →
    codeAny (model P w) A (.call (.ref f) args) (CR CX outer P w H s Q E) s

section
variable {P : Program} {w : World} {K : PySem.W.Frag} {mg : Str → Option Value} {base : Heap}
variable {CX : CXT} {k : Nat} {f : Addr} {fd : FuncData} {ps : List Str} {sp : Sp}
theorem FnG.of (F : FnOk P w K mg base CX k f fd ps sp) : FnG P w K mg base CX k f fd ps sp :=
  ⟨F.len, fun A o s H args us vs Q E hr _ => F.run A o s H args us vs Q E hr⟩
theorem FnG.mono {j : Nat} (F : FnG P w K mg base CX j f fd ps sp) (h : j ≤ k) : FnG P w K mg base CX k f fd ps sp :=
  ⟨F.len, fun A o s H args us vs Q E hr => F.run A o s H args us vs Q E (hr.mono h)⟩

/-- a def by its body, the body's reading under the knowledge that no guard runs -/
theorem fng_of {name qual : Str} {params : Arguments} {body : List Stmt} {scope : Scope} {dV kV doc pm cdv ct oc : Value}
    {an od : Option Addr} {osl : Array (Option Value)} {N : List Str}
    (lk : K.lookup f = some ⟨oc, od, .func (PySem.W.fnOf name qual params body scope dV kV doc pm an cdv ct), osl⟩)
    (hcd : PySem.W.codeIn K cdv qual = true) (S : FnScope N ps scope)
    (len : ∀ vs H Q E, sp vs H Q E → vs.length = ps.length)
    (hbody : ∀ (A : Around) (outer : List Env) (s : Shared) (H : Hp) (vs : List V) (Q : VK) (E : XK),
      Room k (A.deeper (envOfC qual scope s.heap.objs.size f cdv)) → A.guards = some [] → sp vs H Q E →
      ∃ t, PSs (cxOf CX P w K mg base N qual scope f cdv A outer s H E) body t ∧
        t { nx := fun _ H' => Q .non H', rt := Q } (start N vs) H) :
    FnG P w K mg base CX (k + 1) f (PySem.W.fnOf name qual params body scope dV kV doc pm an cdv ct) ps sp := by
  refine ⟨len, ?_⟩
  intro A outer s H args us vs Q E hr hgd e0 hb r hsp
  have hl := len _ _ _ _ hsp
  have st := fun b o e => (e0.bs b o e).1
  have kin : K.In s.heap := e0.mod.kin.keeps st
  have hlim : s.heap.NoLimit := e0.mod.nolimit.keeps st
  have kinds : ∀ y ∈ ps.zip us, scope.names.lookup y.1 = some .local ∨
      (scope.names.lookup y.1 = some .cell ∧ ((cellsFrom (s.heap.objs.size + 1) scope.names []).lookup y.1).isSome = true) := by
    rintro ⟨n, v⟩ hy
    have hp := S.par n (List.of_mem_zip hy).1
    exact hp.imp id fun q => ⟨q, PySem.W.cellsFrom_some _ _ _ (.inl q)⟩
  refine codeAny_call_function hr.depth (kin _ _ lk) rfl S.co S.gen rfl
    (PySem.W.codeRec_of kin hcd) (hb _ _ _ _ ?_)
  refine wpAny_newFunctionEnv_cells S.kind kinds ?_
  rintro env rfl s1 x
  refine ⟨hlim.keeps x.toInCall.keep, codeAny_func ?_⟩
  obtain ⟨t, ht, hq⟩ := hbody A outer s H vs Q E (hr.deeper _) hgd hsp
  have I0 := inv_start (CX := CX) (E := E) S hr.hd e0 hl r x
  refine wpAny_mono (ht.run [] s1 (start N vs) H _ I0 hq) ?_ (fun e s' hs => hs)
  intro fl s' hs
  cases fl with
  | brk => exact (hs.choose_spec.choose_spec.2).elim
  | cont => exact (hs.choose_spec.choose_spec.2).elim
  | ret u =>
    obtain ⟨v, σ', H', J, rv, q⟩ := hs
    exact ⟨v, H', J.os, J.bare, J.base, J.hok, rv, q⟩
  | next =>
    obtain ⟨σ', H', J, q⟩ := hs
    exact ⟨V.non, H', J.os, J.bare, J.base, J.hok, rfl, q⟩
end

/-- the same of a def as the head tells it -/
theorem okG {P : Program} {w : World} {K : PySem.W.Frag} {mg : Str → Option Value} {base : Heap} {CX : CXT} {k : Nat} {f : Addr}
    {fd : FuncData} {x qual : Str} {params : Arguments} {body : List Stmt} {scope : Scope} {dvs : List V} {kws : List (Str × V)}
    {N ps : List Str} {sp : Sp} (F : FunD K x qual params body scope dvs kws f fd) (S : FnScope N ps scope)
    (len : ∀ vs H Q E, sp vs H Q E → vs.length = ps.length)
    (hbody : ∀ (cdv : Value) (A : Around) (outer : List Env) (s : Shared) (H : Hp) (vs : List V) (Q : VK) (E : XK),
      Room k (A.deeper (envOfC qual scope s.heap.objs.size f cdv)) → A.guards = some [] → sp vs H Q E →
      ∃ t, PSs (cxOf CX P w K mg base N qual scope f cdv A outer s H E) body t ∧
        t { nx := fun _ H' => Q .non H', rt := Q } (start N vs) H) : FnG P w K mg base CX (k + 1) f fd ps sp := by
  obtain ⟨oc, od, dV, kV, doc, pm, an, cdv, ct, osl, rfl, lk, hcd, _, _⟩ := F.ex
  exact fng_of lk hcd S len fun A outer s H vs Q E hr hg hsp => hbody cdv A outer s H vs Q E hr hg hsp

/-! ### a call by name: all that it wants in one -/
/-- the module's name x is a def that keeps sp; dvs fill up behind the written arguments -/
def Cal (P : Program) (w : World) (K : PySem.W.Frag) (mg : Str → Option Value) (base : Heap) (CX : CXT) (k : Nat) (x : Str)
    (dvs : List V) (sp : Sp) : Prop :=
  ∃ f fd ps ds, FnG P w K mg base CX k f fd ps sp ∧ mg x = some (.ref f) ∧ PySem.W.keepIn K (.ref f) = true ∧
    Binds K fd ps ds ∧ Vals dvs ds
theorem Cal.mono {P : Program} {w : World} {K : PySem.W.Frag} {mg : Str → Option Value} {base : Heap} {CX : CXT} {j k : Nat} {x : Str}
    {dvs : List V} {sp : Sp} (C : Cal P w K mg base CX j x dvs sp) (h : j ≤ k) : Cal P w K mg base CX k x dvs sp := by
  obtain ⟨f, fd, ps, ds, F, r⟩ := C
  exact ⟨f, fd, ps, ds, F.mono h, r⟩

/-- the same without a word of guards -/
def CalO (P : Program) (w : World) (K : PySem.W.Frag) (mg : Str → Option Value) (base : Heap) (CX : CXT) (k : Nat) (x : Str)
    (dvs : List V) (sp : Sp) : Prop :=
  ∃ f fd ps ds, FnOk P w K mg base CX k f fd ps sp ∧ mg x = some (.ref f) ∧ PySem.W.keepIn K (.ref f) = true ∧
    Binds K fd ps ds ∧ Vals dvs ds
theorem CalO.cal {P : Program} {w : World} {K : PySem.W.Frag} {mg : Str → Option Value} {base : Heap} {CX : CXT} {k : Nat} {x : Str}
    {dvs : List V} {sp : Sp} (C : CalO P w K mg base CX k x dvs sp) : Cal P w K mg base CX k x dvs sp := by
  obtain ⟨f, fd, ps, ds, F, r⟩ := C
  exact ⟨f, fd, ps, ds, .of F, r⟩
/-- a def without defaults, called with all its arguments -/
theorem CalO.mk {P : Program} {w : World} {K : PySem.W.Frag} {mg : Str → Option Value} {base : Heap} {CX : CXT} {k : Nat} {x qual : Str} {f : Addr} {fd : FuncData}
    {params : Arguments} {body : List Stmt} {scope : Scope} {ps : List Str} {sp : Sp} (F : FunD K x qual params body scope [] [] f fd)
    (ok : FnOk P w K mg base CX k f fd ps sp) (hm : mg x = some (.ref f))
    (h : ∀ (kV doc pm : Value) (an : Option Addr) (cdv ct : Value) (us : List Value), us.length = ps.length → bindArgs (PySem.W.fnOf x qual params body scope .none kV doc pm an cdv ct) ⟨us, []⟩ = pure (ps.zip us)) :
    CalO P w K mg base CX k x [] sp := ⟨f, fd, ps, [], ok, hm, F.kp, F.bindsN h, .nil⟩
theorem Cal.mk {P : Program} {w : World} {K : PySem.W.Frag} {mg : Str → Option Value} {base : Heap} {CX : CXT} {k : Nat} {x qual : Str} {f : Addr} {fd : FuncData}
    {params : Arguments} {body : List Stmt} {scope : Scope} {ps : List Str} {sp : Sp} (F : FunD K x qual params body scope [] [] f fd)
    (ok : FnG P w K mg base CX k f fd ps sp) (hm : mg x = some (.ref f))
    (h : ∀ (kV doc pm : Value) (an : Option Addr) (cdv ct : Value) (us : List Value), us.length = ps.length → bindArgs (PySem.W.fnOf x qual params body scope .none kV doc pm an cdv ct) ⟨us, []⟩ = pure (ps.zip us)) :
    Cal P w K mg base CX k x [] sp := ⟨f, fd, ps, [], ok, hm, F.kp, F.bindsN h, .nil⟩

section
variable {X : Cx} {CX : CXT} {k : Nat} {f : Addr} {fd : FuncData} {ps : List Str} {sp : Sp} {dvs : List V} {ds : List Value}
variable {E : XK} {x : Str} {p pos : Pos} {e : Expr} {es : List Expr} {t : TA}
theorem run_fng {pins : List (Addr × Obj)} {σ : L2.St} {H : Hp} {s : Shared} {Q : VK} {us : List Value} {vs : List V}
    (F : FnG X.prog X.w X.K X.mg X.base CX k f fd ps sp) (hr : Room k X.A) (hgd : X.A.guards = some [])
    (hb : Binds X.K fd ps ds) (hd : Vals dvs ds) (hx : Passes CX X E)
    (I : Inv X pins σ H s) (r : Vals vs us) (h : sp (vs ++ dvs) H Q E) :
    wpAny (model X.prog X.w) X.A (call (.ref f) us) (EP X pins σ Q) X.xe s := by
  have r2 := r.append hd
  have hl := (r2.length.symm.trans (F.len _ _ _ _ h))
  have go := F.run X.A X.stack s H ⟨us, []⟩ (us ++ ds) (vs ++ dvs) Q E hr hgd I.env0 (hb s us I.kIn hl) r2 h
  refine wpAny_call (codeAny_mono go ?_)
  intro r s' hq
  match r, hq with
  | .error e, hq => exact hx pins σ H s e s' I hq
  | .ok (.ret u), hq => exact I.after hq
  | .ok .next, hq => exact hq.elim
  | .ok .brk, hq => exact hq.elim
  | .ok .cont, hq => exact hq.elim
/-- f(e, ..) -/
theorem pe_cal (C : Cal X.prog X.w X.K X.mg X.base CX k x dvs sp) (hr : Room k X.A) (hgd : X.A.guards = some []) (hx : Passes CX X E)
    (ha : PA X (e :: es) t) (hg : Gl X x := by rfl) (hdb : (x == ("__debug__" : Str)) = false := by decide)
    (he : starEach (e :: es) X.env = (false, eval e X.env) :: starEach es X.env := by rfl)
    (hpl : (backTo pos (starEach es X.env)).any (·.1) = false := by rfl) :
    PE X (.Call (.Name x p) (e :: es) [] pos) (tCall sp dvs E t) := by
  obtain ⟨f, fd, ps, ds, F, hm, hk, hb, hd⟩ := C
  refine ⟨?_⟩
  intro pins s σ H Q I h
  refine wpAny_Call_Name_kw (ld_glob I hg hm ?_ hdb)
  refine PySem.W.callWith_K (h₀ := X.base) I.ok.mod.kin hk ?_ he hpl
  refine thn (ha.run pos pins s σ H _ I h) ?_
  rintro us s1 ⟨vs, H1, I1, r, q⟩
  exact ⟨I1.kIn, run_fng F hr hgd hb hd hx I1 r q⟩
theorem pe_calO (C : CalO X.prog X.w X.K X.mg X.base CX k x dvs sp) (hr : Room k X.A) (hx : Passes CX X E)
    (ha : PA X (e :: es) t) (hg : Gl X x := by rfl) (hdb : (x == ("__debug__" : Str)) = false := by decide)
    (he : starEach (e :: es) X.env = (false, eval e X.env) :: starEach es X.env := by rfl)
    (hpl : (backTo pos (starEach es X.env)).any (·.1) = false := by rfl) :
    PE X (.Call (.Name x p) (e :: es) [] pos) (tCall sp dvs E t) := by
  obtain ⟨f, fd, ps, ds, F, hm, hk, hb, hd⟩ := C
  exact pe_call F hr hg hm hk hb hd hx ha hdb he hpl
/-- f() -/
theorem pe_cal0 (C : Cal X.prog X.w X.K X.mg X.base CX k x dvs sp) (hr : Room k X.A) (hgd : X.A.guards = some []) (hx : Passes CX X E)
    (hg : Gl X x := by rfl) (hdb : (x == ("__debug__" : Str)) = false := by decide) :
    PE X (.Call (.Name x p) [] [] pos) (tCall sp dvs E tNil) := by
  obtain ⟨f, fd, ps, ds, F, hm, hk, hb, hd⟩ := C
  refine ⟨?_⟩
  intro pins s σ H Q I h
  refine wpAny_Call_Name_kw (ld_glob I hg hm ?_ hdb)
  exact PySem.W.callWith_K0 I.kIn hk (run_fng (us := []) F hr hgd hb hd hx I .nil h)
end

/-! ### repr of data -/
def rRepr (K : PySem.W.Frag) : List V → Hp → VK → Prop := fun xs H Q => ∃ (x : V) (d : PyData), xs = [x] ∧ Dp K H x d ∧
  d.showable = true ∧ d.hasDict = false ∧ d.depth ≤ 60 ∧ d.shown.length ≤ sizeLine ∧ Q (.str d.shown) H
theorem call_repr {X : Cx} (hgd : X.A.guards = some []) (hu : X.A.units + 64 < cLine) : CallR X (.builtin "repr") (rRepr X.K) := by
  intro pins s σ H xs us Q I r h
  obtain ⟨x, d, rfl, hd, hs, hn, hdp, hz, q⟩ := h
  obtain ⟨u, rfl, rx⟩ := vals1 r
  obtain ⟨as, rd⟩ := Dp.reads I d x u hd rx
  have hsm := PyData.noDict_hsm (as := as) hn
  cases rx' : x with
  | ref a =>
    subst rx'
    obtain rfl : u = Value.ref a := rx
    exact repr_of_reads' rd hs hsm hgd (by omega) (fun _ _ e => e)
      (fun h' t tk hk => ⟨.str d.shown, H, I.kept hk, ⟨_, rfl⟩, q⟩) hz
  | non => subst rx'; cases hd; cases rx; exact PySem.P.repr_of_none ⟨.str _, H, I.tok _, ⟨_, rfl⟩, q⟩
  | bl b => subst rx'; cases hd; cases rx; exact PySem.P.repr_of_bool ⟨.str _, H, I.tok _, ⟨_, rfl⟩, by simpa only [PyData.shown] using q⟩
  | int i =>
    subst rx'; cases hd; obtain ⟨t, rfl⟩ := rx
    exact PySem.P.repr_of_int (by simpa only [PyData.showable, decide_eq_true_eq] using hs) ⟨.str _, H, I.tok _, ⟨_, rfl⟩, by simpa only [PyData.shown] using q⟩
  | str z =>
    subst rx'; cases hd; obtain ⟨t, rfl⟩ := rx
    exact PySem.P.repr_of_str ⟨.str _, H, I.tok _, ⟨_, rfl⟩, by simpa only [PyData.shown] using q⟩ (by simpa only [PyData.shown] using hz)
  | byt b => subst rx'; cases hd
  | flt b => subst rx'; cases hd
  | ty n => subst rx'; cases hd
end G
/-! own rules, second part: instances compared, their truth, attributes as targets, constructors and properties in one -/
namespace G
open PySem PySem.Spec PyProof.Rows L2

/-! ### type of a value, for == -/
theorem type_of {X : Cx} {pins : List (Addr × Obj)} {σ : L2.St} {H : Hp} {s : Shared} {x : V} {u t : Value} {M : Model}
    (I : Inv X pins σ H s) (rx : RelV x u) (ty : TyOf X.K H x t) : PySem.W.Looks M s.heap (typeOf u) t := by
  cases ty with
  | non => cases rx; exact .of_pure rfl
  | bl y => cases rx; exact .of_pure rfl
  | int i => obtain ⟨t, rfl⟩ := rx; exact .of_pure rfl
  | str y => obtain ⟨t, rfl⟩ := rx; exact .of_pure rfl
  | flt y => obtain ⟨t, rfl⟩ := rx; exact .of_pure rfl
  | @lst a xs ea =>
    cases (show u = Value.ref a from rx)
    obtain ⟨_, _, n, _, h1⟩ := (show ObjOk X.prog X.w H s.heap a (.lst xs) from I.hok a _ ea)
    exact (PySem.W.Looks.ld h1).andThen .now
  | @frz a ob xs ea =>
    cases (show u = Value.ref a from rx)
    obtain ⟨_, _, _, n, _, h1⟩ := (show ObjOk X.prog X.w H s.heap a (.frz ob (.lst xs)) from I.hok a _ ea)
    exact (PySem.W.Looks.ld h1).andThen .now
  | @tup a xs ea =>
    cases (show u = Value.ref a from rx)
    obtain ⟨_, _, _, o, h1, h2, _⟩ := (show ObjOk X.prog X.w H s.heap a (.tup xs) from I.hok a _ ea)
    rw [← h2]; exact (PySem.W.Looks.ld h1).andThen .now
  | @dK a kvs ea =>
    cases (show u = Value.ref a from rx)
    obtain ⟨_, _, vs, _, o, es, ep, h1, h2, _⟩ := (show ObjOk X.prog X.w H s.heap a (.dK kvs) from I.hok a _ ea)
    rw [← h2.1]; exact (PySem.W.Looks.ld h1).andThen .now
  | @dT a kvs ea =>
    cases (show u = Value.ref a from rx)
    obtain ⟨_, _, xs, _, o, es, ep, h1, h2, _⟩ := (show ObjOk X.prog X.w H s.heap a (.dT kvs) from I.hok a _ ea)
    rw [← h2.1]; exact (PySem.W.Looks.ld h1).andThen .now
  | @ins a C dx fs ea cl ha hn htk hm =>
    cases (show u = Value.ref a from rx)
    obtain ⟨mA, O, _⟩ := ins_get I.hok ea
    obtain ⟨od, J, _⟩ := O.look
    exact J.type

/-! ### == and != of an instance of a class with its own __eq__ -/
/-- what the class at C wants of its comparison -/
structure EqC (K : PySem.W.Frag) (C f : Addr) : Prop where
  eq : PySem.W.findIn K (.ref C) "__eq__" = some (some (.ref f))
  fn : PySem.W.isFn K (.ref f) = true
  ne : PySem.W.findIn K (.ref C) "__ne__" = some (some (.builtin "object.__ne__"))
  ob : PySem.W.mroIn K C (.type "object") = some true
def rOwnEq (K : PySem.W.Frag) (C : Addr) (sp : Sp) (E : XK) (g : Bool → Bool) : R2 := fun x y H Q => ∃ (a dx : Addr) (fs : List (Str × V)) (t : Value),
  x = .ref a ∧ H a = some (.ins C dx fs) ∧ TyOf K H y t ∧ PySem.W.notFirst K C t = true ∧
  sp [x, y] H (fun v H' => ∃ b, v = .bl b ∧ Q (.bl (g b)) H') E
section
variable {X : Cx} {CX : CXT} {k : Nat} {C f : Addr} {fd : FuncData} {ps : List Str} {sp : Sp} {E : XK}
theorem eq_call {pins : List (Addr × Obj)} {σ : L2.St} {H : Hp} {s : Shared} {A : Around} {x y : V} {v u : Value} {Q : VK} (I : Inv X pins σ H s)
    (Fn : FnOk X.prog X.w X.K X.mg X.base CX k f fd ps sp) (hr : Room k A) (hA : A.frames = some X.stack) (hb : Binds X.K fd ps [])
    (hx : Passes CX X.nox E) (rx : RelV x v) (ry : RelV y u) (h : sp [x, y] H Q E) {E' : Value → Shared → Prop} :
    wpAny (model X.prog X.w) A (call (.ref f) [v, u]) (EP X pins σ Q) E' s := by
  have hl : [v, u].length = ps.length := Fn.len _ _ _ _ h
  have e0 := I.env0
  have e1 : Env0 X.prog X.w X.K X.mg X.base A X.stack s H := ⟨hA, e0.mod, e0.bs, e0.bsz, e0.funs, e0.frf, e0.hok, e0.bare⟩
  have bt := hb s [v, u] I.kIn (by simpa using hl)
  refine wpAny_call (codeAny_mono (Fn.run A X.stack s H ⟨[v, u], []⟩ [v, u] [x, y] Q E hr e1 (by simpa using bt) (.cons rx (.cons ry .nil)) h) ?_)
  intro r s' hq
  match r, hq with
  | .error e, hq => exact (hx pins σ H s e s' (I.wish _) hq).elim
  | .ok (.ret u), hq => exact I.after hq
  | .ok .next, hq => exact hq.elim
  | .ok .brk, hq => exact hq.elim
  | .ok .cont, hq => exact hq.elim
theorem op_eqO (e : EqC X.K C f) (Fn : FnOk X.prog X.w X.K X.mg X.base CX k f fd ps sp) (hr : Room k X.A) (hb : Binds X.K fd ps [])
    (hx : Passes CX X.nox E) : OpR X (compareOp .Eq) (rOwnEq X.K C sp E fun b => b) := by
  intro pins s σ H x y v u Q I rx ry h
  obtain ⟨a, dx, fs, t, rfl, ha, ty, hn, hs⟩ := h
  obtain rfl : v = Value.ref a := rx
  obtain ⟨mA, J, _⟩ := ins_get I.hok ha
  obtain ⟨od, J, _⟩ := J.look
  obtain ⟨m, hF⟩ := I.fr
  show wpAny (model X.prog X.w) X.A (richCompare .Eq (.ref a) u) (EP X pins σ Q) X.xe s
  refine PySem.W.cmp_K (op := .Eq) (tb := t) hr.units0 hF I.ok.mod.kin J (type_of I ry ty) hn e.eq e.fn ?_
  refine wpAny_mono (eq_call (x := V.ref a) (E' := X.xe) I Fn hr I.ok.frames hb hx rfl ry hs) ?_ fun _ _ z => z
  rintro r s' ⟨z, H', I', rz, b, rfl, q⟩
  cases rz
  exact ⟨.bl b, H', I', rfl, q⟩
theorem op_neO (e : EqC X.K C f) (Fn : FnOk X.prog X.w X.K X.mg X.base CX k f fd ps sp) (hr : Room (k + 1) X.A) (hb : Binds X.K fd ps [])
    (hx : Passes CX X.nox E) : OpR X (compareOp .NotEq) (rOwnEq X.K C sp E fun b => !b) := by
  intro pins s σ H x y v u Q I rx ry h
  obtain ⟨a, dx, fs, t, rfl, ha, ty, hn, hs⟩ := h
  obtain rfl : v = Value.ref a := rx
  obtain ⟨mA, J, _⟩ := ins_get I.hok ha
  obtain ⟨od, J, _⟩ := J.look
  have kin := I.kIn
  have un := hr.units
  have one : wpAny (model X.prog X.w) X.A (tryCompare (.ref a) "__ne__" u) (fun r s' => ∃ v, r = some v ∧ EP X pins σ Q v s') X.xe s := by
    have inner : wpAny (model X.prog X.w) X.A.in1 (call (.ref f) [.ref a, u]) (EP X pins σ fun v H' => ∃ b, v = .bl b ∧ Q (.bl (!b)) H') X.xe s :=
      eq_call (x := V.ref a) I Fn hr.in1 (by simpa using I.ok.frames) hb hx rfl ry hs
    have slot : wpAny (model X.prog X.w) X.A (call (.builtin "object.__ne__") [.ref a, u]) (fun v s' => EP X pins σ Q v s' ∧ ∃ b, v = .bool b) X.xe s := by
      refine wpAny_call (codeAny_call_builtin (by decide +kernel) PySem.F.cmpEntry_ne (PySem.W.check_slot PySem.F.cmpKind_ne PySem.F.cmpSplit_ne
        (J.type.andThen (PySem.W.looks_mroIn kin e.ob)) (PySem.F.cmpArgs_ne _ _) ?_))
      unfold Builtin.«object.__ne__»
      refine wpAny_bind (m := slotArgs "__ne__" 1 _) (wpAny_pure ?_)
      refine wpAny_bind (m := cRoomFor _ _) (wpAny_cRoomFor (by show X.A.units + 1 < cLine; omega) ?_)
      refine wpAny_bind (m := callSpecialIfBound? (.ref a) (Str.ofString "__eq__") _) (PySem.W.ifBound_K kin J e.eq e.fn (wpAny_mono inner ?_ fun _ _ z => z))
      rintro r s' ⟨z, H', I', rz, b, rfl, q⟩
      cases rz
      exact wpAny_bind (wpAny_truthy_bool (wpAny_pure ⟨⟨.bl (!b), H', I', rfl, q⟩, _, rfl⟩))
    have bound : wpAny (model X.prog X.w) X.A (callSpecialIfBound? (.ref a) "__ne__" [u]) (fun r s' => ∃ v, r = some v ∧ EP X pins σ Q v s' ∧ ∃ b, v = .bool b) X.xe s := by
      simp only [callSpecialIfBound?, bindSpecialIfBound?]
      refine wpAny_holding (wpAny_bind (wpAny_bind (wpAny_bind (J.type.here ((PySem.W.looks_findIn kin e.ne).here ?_)))))
      have fin : wpAny (model X.prog X.w) X.A (call (.builtin "object.__ne__") ([.ref a] ++ [u]) >>= fun v => pure (some v)) (fun r s' => ∃ v, r = some v ∧ EP X pins σ Q v s' ∧ ∃ b, v = .bool b) X.xe s :=
        wpAny_bind (wpAny_mono slot (fun v s' q => wpAny_pure ⟨v, rfl, q⟩) fun _ _ z => z)
      refine wpAny_bind (wpAny_askSetting (wpAny_ite ?_))
      have bd : bindSpecial (.builtin "object.__ne__") (.ref a) = pure (.builtin "object.__ne__", [.ref a]) := PySem.F.slot_object_ne.bind _
      split
      · exact wpAny_bind ((PySem.W.Looks.of_pure bd).here (wpAny_pure (by exact fin)))
      · exact wpAny_tryCatch (wpAny_bind ((PySem.W.Looks.of_pure bd).here (wpAny_pure (by exact fin))))
    unfold tryCompare
    refine wpAny_bind (wpAny_mono bound ?_ fun _ _ z => z)
    rintro r s' ⟨v, rfl, q, b, rfl⟩
    exact wpAny_pure ⟨_, rfl, q⟩
  show wpAny (model X.prog X.w) X.A (richCompare .NotEq (.ref a) u) (EP X pins σ Q) X.xe s
  unfold richCompare
  simp only [oneThing_ref]
  refine wpAny_holding (wpAny_bind (wpAny_cRoomFor (by omega) ?_))
  refine wpAny_bind (J.type.here (wpAny_bind ((type_of I ry ty).here ?_)))
  split
  · rename_i hne
    have sub : PySem.W.subIn X.K t (.ref C) = some false := by
      rcases Bool.or_eq_true_iff.mp hn with z | z
      · rw [beq_iff_eq.mp z] at hne; simp at hne
      · exact beq_iff_eq.mp z
    refine wpAny_bind ((PySem.W.looks_subIn kin sub).here ?_)
    simp only [Bool.false_eq_true, if_false]
    refine wpAny_bind (wpAny_mono one ?_ fun _ _ z => z)
    rintro r s' ⟨v, rfl, q⟩
    exact wpAny_pure q
  · refine wpAny_bind (wpAny_pure ?_)
    simp only [Bool.false_eq_true, if_false]
    refine wpAny_bind (wpAny_mono one ?_ fun _ _ z => z)
    rintro r s' ⟨v, rfl, q⟩
    exact wpAny_pure q
end

/-! ### truth and length of an instance -/
section
variable {X : Cx} {CX : CXT} {k : Nat} {C f : Addr} {fd : FuncData} {ps : List Str} {sp : Sp} {E : XK}
/-- neither __bool__ nor __len__: true -/
theorem tru_inst (h1 : PySem.W.findIn X.K (.ref C) "__bool__" = some none) (h2 : PySem.W.findIn X.K (.ref C) "__len__" = some none) :
    TruR X (fun x H Q => ∃ (a dx : Addr) (fs : List (Str × V)), x = .ref a ∧ H a = some (.ins C dx fs) ∧ Q true H) := by
  intro pins s σ H x v Q I rx h
  obtain ⟨a, dx, fs, rfl, ha, q⟩ := h
  obtain rfl : v = Value.ref a := rx
  obtain ⟨mA, J, _⟩ := ins_get I.hok ha
  obtain ⟨od, J, _⟩ := J.look
  obtain ⟨m, hF⟩ := I.fr
  exact PySem.W.truthy_K0 hF I.ok.mod.kin J h1 h2 ⟨H, I, q⟩
/-- len(o) by the class's own __len__ -/
theorem call_len_inst (h1 : PySem.W.findIn X.K (.ref C) "__len__" = some (some (.ref f))) (h2 : PySem.W.isFn X.K (.ref f) = true)
    (Fn : FnOk X.prog X.w X.K X.mg X.base CX k f fd ps sp) (hr : Room (k + 1) X.A) (hb : Binds X.K fd ps []) (hx : Passes CX X E) :
    CallR X (.builtin "len") (fun xs H Q => ∃ (a dx : Addr) (fs : List (Str × V)), xs = [.ref a] ∧ H a = some (.ins C dx fs) ∧
      sp [.ref a] H (fun v H' => ∃ n : Int, v = .int n ∧ 0 ≤ n ∧ n < 2 ^ 63 ∧ Q (.int n) H') E) := by
  intro pins s σ H xs us Q I r h
  obtain ⟨a, dx, fs, rfl, ha, hs⟩ := h
  obtain ⟨u, rfl, r1⟩ := vals1 r
  obtain rfl : u = Value.ref a := r1
  obtain ⟨mA, J, _⟩ := ins_get I.hok ha
  obtain ⟨od, J, _⟩ := J.look
  obtain ⟨m, hF⟩ := I.fr
  have hl : [Value.ref a].length = ps.length := Fn.len _ _ _ _ hs
  have e1 : Env0 X.prog X.w X.K X.mg X.base X.A.in1 X.stack s H := I.env0.in1
  have bt := hb s [Value.ref a] I.kIn (by simpa using hl)
  refine PySem.W.len_K hF I.ok.mod.kin J h1 h2 (wpAny_call (codeAny_mono (Fn.run X.A.in1 X.stack s H ⟨[.ref a], []⟩ [.ref a] [.ref a] _ E hr.in1 e1 (by simpa using bt) (.cons rfl .nil) hs) ?_))
  intro r s' hq
  match r, hq with
  | .error e, hq => exact (hx pins σ H s e s' I hq)
  | .ok (.ret w), hq =>
    obtain ⟨v, H', I', rv, n, rfl, n0, n1, q⟩ := I.after hq
    obtain ⟨t, rfl⟩ := rv
    exact ⟨⟨n0, n1⟩, .int n, H', I'.tok _, ⟨_, rfl⟩, q⟩
  | .ok .next, hq => exact hq.elim
  | .ok .brk, hq => exact hq.elim
  | .ok .cont, hq => exact hq.elim
end

/-! ### an attribute as a target -/
def gAttr (K : PySem.W.Frag) (to : TE) (f : Str) : TG := fun v σ H Q => to σ H fun x H1 => ∃ (a C dx : Addr) (fs : List (Str × V)),
  x = .ref a ∧ H1 a = some (.ins C dx fs) ∧ Cls K C ∧ NoAttr K C f ∧ fs.length < 1000 ∧ Q σ (upd H1 a (.ins C dx (putF f v fs)))
theorem pg_attr {X : Cx} {o : Expr} {f : Str} {pos : Pos} {to : TE} (ho : PE X o to)
    (ha : ∀ v, assign (.Attribute o f pos) X.env v = (do
      let ov ← holding [v] (eval o X.env)
      standAt pos.atName
      holding [v, ov] (setAttr ov f v)
      release [v, ov] []) := by intro _; rfl) : PG X (.Attribute o f pos) (gAttr X.K to f) := by
  refine ⟨?_⟩
  intro pins s σ H v u Q I r h
  rw [ha]
  refine wpAny_bind (wpAny_holding (thn (ho.run pins s σ H _ I h) ?_))
  rintro ov s1 ⟨x, H1, I1, rx, a, C, dx, fs, ex, ea, c, n, l, q⟩
  subst ex
  obtain rfl : ov = Value.ref a := rx
  refine wpAny_bind (wpAny_standAt (wpAny_bind (wpAny_holding (setattr_ok I1 ea c n l r ?_))))
  intro s3 I3
  exact wpAny_release ⟨σ, _, I3, q⟩

/-! ### a constructor, a property, a method: all that it wants in one -/
/-- the module's name x is the class at C; its __init__ keeps sp; dvs fill up behind the written arguments -/
def CalC (P : Program) (w : World) (K : PySem.W.Frag) (mg : Str → Option Value) (base : Heap) (CX : CXT) (k : Nat) (x : Str) (C : Addr)
    (dvs : List V) (sp : Sp) : Prop :=
  ∃ f fd ps ds, Mk K C f ∧ FnOk P w K mg base CX k f fd ps sp ∧ mg x = some (.ref C) ∧ Binds K fd ps ds ∧ Vals dvs ds
/-- .. with n written arguments and the keywords ks: gV says how they go to the parameters -/
def CalN (P : Program) (w : World) (K : PySem.W.Frag) (mg : Str → Option Value) (base : Heap) (CX : CXT) (k : Nat) (x : Str) (C : Addr)
    (n : Nat) (ks : List Str) (gV : List V → List V → List V) (sp : Sp) : Prop :=
  ∃ f fd ps g, Mk K C f ∧ FnOk P w K mg base CX k f fd ps sp ∧ mg x = some (.ref C) ∧ KBn K fd ps (n + 1) ks g gV
/-- a property of the class at C that hands back the attribute fld -/
def GetP (P : Program) (w : World) (K : PySem.W.Frag) (mg : Str → Option Value) (base : Heap) (k : Nat) (C : Addr) (f fld : Str) : Prop :=
  ∃ p g fd ps, Cls K C ∧ PropOf K C f p g ∧ FnOk P w K mg base CX0 k g fd ps (getSp C fld) ∧ Binds K fd ps []
def tGet (C : Addr) (fld : Str) (ta : TE) : TE := fun σ H Q => ta σ H fun x H1 => ∃ (a dx : Addr) (fs : List (Str × V)) (v : V),
  x = .ref a ∧ H1 a = some (.ins C dx fs) ∧ fs.lookup fld = some v ∧ Q v H1
section
variable {X : Cx} {CX : CXT} {k n : Nat} {C : Addr} {sp : Sp} {dvs : List V} {ks : List Str} {gV : List V → List V → List V}
variable {E : XK} {x f fld : Str} {p pos : Pos} {e : Expr} {es : List Expr} {kws : List Keyword} {ta : TE} {t tk : TA}
theorem pe_mkc (c : CalC X.prog X.w X.K X.mg X.base CX k x C dvs sp) (hr : Room (k + 1) X.A) (hx : Passes CX X E)
    (ha : PA X (e :: es) t) (hg : Gl X x := by rfl) (hdb : (x == ("__debug__" : Str)) = false := by decide)
    (he : starEach (e :: es) X.env = (false, eval e X.env) :: starEach es X.env := by rfl)
    (hpl : (backTo pos (starEach es X.env)).any (·.1) = false := by rfl) :
    PE X (.Call (.Name x p) (e :: es) [] pos) (tMake C sp dvs E t) := by
  obtain ⟨f, fd, ps, ds, M, Fn, hm, hb, hd⟩ := c
  exact pe_make M Fn hr hg hm hb hd hx ha hdb he hpl
theorem pe_mkn (c : CalN X.prog X.w X.K X.mg X.base CX k x C n ks gV sp) (hr : Room (k + 1) X.A) (hx : Passes CX X E)
    (ha : PA X (e :: es) t) (hkw : PK X kws tk) (hg : Gl X x := by rfl) (hall : (backToKw pos (keywordEach kws X.env)).all (·.1.isSome) = true := by rfl)
    (hks : (backToKw pos (keywordEach kws X.env)).filterMap (·.1) = ks := by rfl) (hdb : (x == ("__debug__" : Str)) = false := by decide)
    (he : starEach (e :: es) X.env = (false, eval e X.env) :: starEach es X.env := by rfl)
    (hpl : ((backTo pos (starEach (e :: es) X.env)).any (·.1) || (backToKw pos (keywordEach kws X.env)).any (·.1.isNone)) = false := by rfl) :
    PE X (.Call (.Name x p) (e :: es) kws pos) (tMakeK C n ks.length sp gV E t tk) := by
  obtain ⟨f, fd, ps, g, M, Fn, hm, hb⟩ := c
  exact pe_makeK M Fn hr hg hm hb hx ha hkw hall hks hdb he hpl
theorem pe_mkn0 (c : CalN X.prog X.w X.K X.mg X.base CX k x C 0 ks gV sp) (hr : Room (k + 1) X.A) (hx : Passes CX X E)
    (hkw : PK X kws tk) (hg : Gl X x := by rfl) (hall : (backToKw pos (keywordEach kws X.env)).all (·.1.isSome) = true := by rfl)
    (hks : (backToKw pos (keywordEach kws X.env)).filterMap (·.1) = ks := by rfl) (hdb : (x == ("__debug__" : Str)) = false := by decide)
    (hpl : ((backTo pos (starEach [] X.env)).any (·.1) || (backToKw pos (keywordEach kws X.env)).any (·.1.isNone)) = false := by rfl) :
    PE X (.Call (.Name x p) [] kws pos) (tMakeK C 0 ks.length sp gV E tNil tk) := by
  obtain ⟨f, fd, ps, g, M, Fn, hm, hb⟩ := c
  exact pe_makeK0 M Fn hr hg hm hb hx hkw hall hks hdb hpl
theorem pe_get (c : GetP X.prog X.w X.K X.mg X.base k C f fld) (hr : Room (k + 1) X.A) (ha : PE X e ta)
    (hab : attributeBase e f X.env (eval e X.env) = eval e X.env := by rfl) : PE X (.Attribute e f pos) (tGet C fld ta) := by
  obtain ⟨p, g, fd, ps, cl, hp, Fn, hb⟩ := c
  refine ⟨?_⟩
  intro pins s σ H Q I h
  refine attr_of hab (thn (ha.run pins s σ H _ I h) ?_)
  rintro u s1 ⟨x, H1, I1, rx, a, dx, fs, v, rfl, ea, el, q⟩
  obtain rfl : u = Value.ref a := rx
  exact getprop_ok (E := E0) I1 ea cl hp Fn hr hb .nil pass0 ⟨a, dx, fs, v, rfl, ea, el, q⟩
end
end G
/-! own rules, third part: heaps behind a pool, loops over anything that stands still, small tactics -/
namespace G
open PySem PySem.Spec PyProof.Rows L2

/-! ### heaps -/
/-- all but what stands at p is as it was -/
def But (p : Addr) (H H' : Hp) : Prop := ∀ q o, q ≠ p → H q = some o → H' q = some o
theorem But.refl (p : Addr) (H : Hp) : But p H H := fun _ _ _ e => e
theorem But.trans {p : Addr} {H H1 H2 : Hp} (a : But p H H1) (b : But p H1 H2) : But p H H2 := fun q o n e => b q o n (a q o n e)
theorem But.of {p : Addr} {H H' : Hp} (a : Same H H') : But p H H' := fun q o _ e => a q o e
theorem But.new {p : Addr} {H H1 : Hp} {q : Addr} {o : HO} (a : But p H H1) (n : H1 q = none) : But p H (upd H1 q o) := fun b u nb e => by
  rw [upd_ne (ne_of_none (a b u nb e) n)]
  exact a b u nb e
theorem But.at {p : Addr} {H H1 : Hp} {o : HO} (a : But p H H1) : But p H (upd H1 p o) := fun b u nb e => by
  rw [upd_ne nb]
  exact a b u nb e
theorem _root_.L2.Same.new {H H1 : Hp} {q : Addr} {o : HO} (a : Same H H1) (n : H1 q = none) : Same H (upd H1 q o) := fun b u e => by
  rw [upd_ne (ne_of_none (a b u e) n)]
  exact a b u e
/-- another object, written: it was new ahead -/
theorem But.own {p : Addr} {H H1 : Hp} {q : Addr} {o : HO} (a : But p H H1) (n : H q = none) : But p H (upd H1 q o) := fun b u nb e => by
  rw [upd_ne (ne_of_none e n)]
  exact a b u nb e
theorem _root_.L2.Same.own {H H1 : Hp} {q : Addr} {o : HO} (a : Same H H1) (n : H q = none) : Same H (upd H1 q o) := fun b u e => by
  rw [upd_ne (ne_of_none e n)]
  exact a b u e
/-- the pool: three whole numbers, none below nought, two of them small -/
def PoolAt (H : Hp) (p : Addr) : Prop := ∃ a b d : Int, H p = some (.lst [.int a, .int b, .int d]) ∧ 0 ≤ a ∧ a < 4294967296 ∧ 0 ≤ b ∧ b < 4294967296 ∧ 0 ≤ d
/-- a pool was drawn from, new things stand -/
structure Pl (p : Addr) (H H' : Hp) : Prop where
  but : But p H H'
  pool : PoolAt H' p
theorem Pl.refl {p : Addr} {H : Hp} (h : PoolAt H p) : Pl p H H := ⟨.refl _ _, h⟩
theorem Pl.trans {p : Addr} {H H1 H2 : Hp} (a : Pl p H H1) (b : Pl p H1 H2) : Pl p H H2 := ⟨a.but.trans b.but, b.pool⟩
theorem PoolAt.new {H : Hp} {p q : Addr} {o : HO} (h : PoolAt H p) (n : H q = none) : PoolAt (upd H q o) p := by
  obtain ⟨a, b, d, e, r⟩ := h
  exact ⟨a, b, d, by rw [upd_ne (ne_of_none e n)]; exact e, r⟩
theorem PoolAt.ne {H : Hp} {p q : Addr} {o : HO} (h : PoolAt H p) (nq : q ≠ p) : PoolAt (upd H q o) p := by
  obtain ⟨a, b, d, e, r⟩ := h
  exact ⟨a, b, d, by rw [upd_ne nq.symm]; exact e, r⟩
theorem Pl.new {p : Addr} {H H1 : Hp} {q : Addr} {o : HO} (a : Pl p H H1) (n : H1 q = none) : Pl p H (upd H1 q o) := ⟨a.but.new n, a.pool.new n⟩
theorem Pl.own {p : Addr} {H H1 : Hp} {q : Addr} {o : HO} (a : Pl p H H1) (n : H q = none) (nq : q ≠ p) : Pl p H (upd H1 q o) := ⟨a.but.own n, a.pool.ne nq⟩
theorem Pl.same {p : Addr} {H H1 H2 : Hp} (a : Pl p H H1) (s : Same H1 H2) : Pl p H H2 := ⟨a.but.trans (.of s), by
  obtain ⟨x, b, d, e, r⟩ := a.pool
  exact ⟨x, b, d, s _ _ e, r⟩⟩
theorem PoolAt.same {p : Addr} {H1 H2 : Hp} (h : PoolAt H1 p) (s : Same H1 H2) : PoolAt H2 p := by
  obtain ⟨x, b, d, e, r⟩ := h
  exact ⟨x, b, d, s _ _ e, r⟩
theorem Pl.get {p q : Addr} {H H1 : Hp} {o : HO} (a : Pl p H H1) (e : H q = some o) (n : q ≠ p) : H1 q = some o := a.but q o n e
/-- what is no list is not the pool -/
def noL : HO → Bool
  | .lst _ => false
  | _ => true
theorem Pl.obj {p q : Addr} {H H1 : Hp} {o : HO} (a : Pl p H H1) (h : PoolAt H p) (e : H q = some o) (n : noL o = true) : H1 q = some o := by
  obtain ⟨x, b, d, e', _⟩ := h
  exact a.get e (ne_of e e' (by rintro rfl; cases n))
theorem Pl.free {p q : Addr} {H H1 : Hp} (a : Pl p H H1) (n : H1 q = none) : H q = none := by
  cases e : H q with
  | none => rfl
  | some o =>
    by_cases hq : q = p
    · obtain ⟨x, b, d, e', _⟩ := a.pool
      rw [hq, e'] at n
      cases n
    · rw [a.get e hq] at n
      cases n
theorem PoolAt.ne_new {H : Hp} {p q : Addr} (h : PoolAt H p) (n : H q = none) : q ≠ p := by
  obtain ⟨x, b, d, e, _⟩ := h
  exact (ne_of_none e n).symm
theorem upd_get {H : Hp} {q g : Addr} {o u : HO} (n : H q = none) (e : H g = some u) : upd H q o g = some u := by
  rw [upd_ne (ne_of_none e n)]
  exact e
theorem _root_.L2.SqL.same {K : PySem.W.Frag} {H H' : Hp} {a : Addr} {xs : List V} (h : SqL K H a xs) (s : Same H H') : SqL K H' a xs := s.seq h
theorem _root_.L2.SqT.same {K : PySem.W.Frag} {H H' : Hp} {a : Addr} {xs : List V} (h : SqT K H a xs) (s : Same H H') : SqT K H' a xs := by
  rcases h with (h | ⟨o, h⟩) | h
  · exact .inl (.inl (s _ _ h))
  · exact .inl (.inr ⟨o, s _ _ h⟩)
  · exact .inr h
theorem _root_.L2.SqT.pl {K : PySem.W.Frag} {p : Addr} {H H' : Hp} {a : Addr} {xs : List V} (h : SqT K H a xs) (r : Pl p H H') (hp : PoolAt H p) : SqT K H' a xs := by
  rcases h with (h | ⟨o, h⟩) | h
  · exact .inl (.inl (r.obj hp h rfl))
  · exact .inl (.inr ⟨o, r.obj hp h rfl⟩)
  · exact .inr h

theorem upd_free {H : Hp} {q p : Addr} {o : HO} (h : upd H q o p = none) : H p = none := by
  by_cases e : p = q
  · rw [e, upd_same] at h; cases h
  · rw [upd_ne e] at h; exact h
theorem upd_free_ne {H : Hp} {q p : Addr} {o : HO} (h : upd H q o p = none) : p ≠ q := fun e => by
  rw [e, upd_same] at h; cases h
theorem same_get {H H1 : Hp} {g : Addr} {u : HO} (s : Same H H1) (e : H g = some u) : H1 g = some u := s _ _ e
/-! ### what is walked and stands still -/
/-- the walk J yields the items xs one by one while Sd holds of the heap -/
structure Wk (J : It) (xs : List V) (Sd : Hp → Prop) : Prop where
  go : ∀ i H, Sd H → i < xs.length → J.go i H
  stop : ∀ i H, Sd H → xs.length ≤ i → J.stop i H
  yld : ∀ i H v H', Sd H → i < xs.length → J.yld i H v H' → H' = H ∧ xs[i]? = some v
theorem wk_list {K : PySem.W.Frag} {a : Addr} (xs : List V) : Wk (Itl K a) xs (fun H => SqL K H a xs) :=
  ⟨fun i H h l => ⟨xs, xs[i], h, by simp [l]⟩, fun i H h l => ⟨xs, h, l⟩, fun i H v H' h _ y => ⟨y.1, y.2 xs h⟩⟩
theorem wk_tup {K : PySem.W.Frag} {a : Addr} (xs : List V) : Wk (Itt K a) xs (fun H => SqT K H a xs) :=
  ⟨fun i H h l => ⟨xs, xs[i], h, by simp [l]⟩, fun i H h l => ⟨xs, h, l⟩, fun i H v H' h _ y => ⟨y.1, y.2 xs h⟩⟩
def signs (x : Str) : List V := x.cps.toList.map fun c => V.str ⟨#[c]⟩
theorem signs_len (x : Str) : (signs x).length = x.cps.size := by simp [signs]
theorem wk_str (x : Str) : Wk (Its x) (signs x) (fun _ => True) :=
  ⟨fun i H _ l => by rw [signs_len] at l; exact l, fun i H _ l => by rw [signs_len] at l; exact l, fun i H v H' _ _ y => by
    obtain ⟨e, c, h, rfl⟩ := y
    refine ⟨e, ?_⟩
    simp only [signs, List.getElem?_map, Array.getElem?_toList, h, Option.map_some]⟩
def rngV (lo : Int) (n : Nat) : List V := (List.range n).map fun (i : Nat) => V.int (lo + (i : Int))
theorem rngV_len (lo : Int) (n : Nat) : (rngV lo n).length = n := by simp [rngV]
theorem wk_range (lo : Int) (n : Nat) : Wk (Itr lo n) (rngV lo n) (fun _ => True) :=
  ⟨fun i H _ l => by rw [rngV_len] at l; exact l, fun i H _ l => by rw [rngV_len] at l; exact l, fun i H v H' _ l y => by
    obtain ⟨e, rfl⟩ := y
    rw [rngV_len] at l
    refine ⟨e, ?_⟩
    simp [rngV, l]⟩

/-- a list comprehension over what stands still -/
theorem lcW {J : It} {xs : List V} {Sd : Hp → Prop} (wk : Wk J xs Sd) {g : TG} {tt : TT} {te : TE} {vs : List Nat} {σ : L2.St} {H1 : Hp} {D : Addr} {Qd : Hp → Prop}
    (Pv : Nat → Hp → Prop) (h0 : Pv 0 (upd H1 D (.lst []))) (hst : ∀ i H, i ≤ xs.length → Pv i H → Sd H)
    (hs : ∀ i x H, xs[i]? = some x → Pv i H → g x (wipe σ vs) H fun σ2 H2 => wipe σ2 vs = wipe σ vs ∧ tt σ2 H2 fun b H3 =>
      if b = true then te σ2 H3 fun y H4 => ∃ acc, H4 D = some (.lst acc) ∧ acc.length < sizeLine ∧ Pv (i + 1) (upd H4 D (.lst (acc ++ [y]))) else Pv (i + 1) H3)
    (hd : ∀ H, Pv xs.length H → Qd H) :
    ∃ W : Nat → Nat → Hp → Prop, (∃ m, W 0 m (upd H1 D (.lst []))) ∧ ∀ i m H, W i m H →
      (J.stop i H ∧ Qd H) ∨ (J.go i H ∧ ∃ Nx : Hp → Prop, (∀ H', Nx H' → ∃ m', m' < m ∧ W (i + 1) m' H') ∧ ∀ x H', J.yld i H x H' →
        g x (wipe σ vs) H' fun σ2 H2 => wipe σ2 vs = wipe σ vs ∧ tt σ2 H2 fun b H3 =>
        if b = true then te σ2 H3 fun y H4 => ∃ acc, H4 D = some (.lst acc) ∧ acc.length < sizeLine ∧ Nx (upd H4 D (.lst (acc ++ [y]))) else Nx H3) := by
  refine ⟨fun i m H => m = xs.length - i ∧ i ≤ xs.length ∧ Pv i H, ⟨xs.length, rfl, Nat.zero_le _, h0⟩, ?_⟩
  rintro i m H ⟨rfl, hi, pv⟩
  have sd := hst i H hi pv
  rcases Nat.lt_or_ge i xs.length with lt | ge
  · refine .inr ⟨wk.go i H sd lt, Pv (i + 1), fun H' q => ⟨xs.length - (i + 1), by omega, rfl, lt, q⟩, ?_⟩
    intro x H' y
    obtain ⟨rfl, hx⟩ := wk.yld i H x H' sd lt y
    exact hs i x _ hx pv
  · have e : i = xs.length := by omega
    subst e
    exact .inl ⟨wk.stop _ H sd ge, hd H pv⟩
/-- a comprehension whose element is a plain function of the item and touches nothing -/
theorem lcP {J : It} {xs : List V} {Sd : Hp → Prop} (wk : Wk J xs Sd) (f : V → V) {g : TG} {te : TE} {vs : List Nat} {σ : L2.St} {H1 : Hp} {D : Addr} {Qd : Hp → Prop}
    (hst : ∀ acc, Sd (upd H1 D (.lst acc))) (hz : xs.length < sizeLine)
    (hs : ∀ (i : Nat) (x : V) (acc : List V) (Q : VK), xs[i]? = some x → Q (f x) (upd H1 D (.lst acc)) → g x (wipe σ vs) (upd H1 D (.lst acc)) fun σ2 H2 => wipe σ2 vs = wipe σ vs ∧ te σ2 H2 Q)
    (hd : Qd (upd H1 D (.lst (xs.map f)))) :
    ∃ W : Nat → Nat → Hp → Prop, (∃ m, W 0 m (upd H1 D (.lst []))) ∧ ∀ i m H, W i m H →
      (J.stop i H ∧ Qd H) ∨ (J.go i H ∧ ∃ Nx : Hp → Prop, (∀ H', Nx H' → ∃ m', m' < m ∧ W (i + 1) m' H') ∧ ∀ x H', J.yld i H x H' →
        g x (wipe σ vs) H' fun σ2 H2 => wipe σ2 vs = wipe σ vs ∧ tYes σ2 H2 fun b H3 =>
        if b = true then te σ2 H3 fun y H4 => ∃ acc, H4 D = some (.lst acc) ∧ acc.length < sizeLine ∧ Nx (upd H4 D (.lst (acc ++ [y]))) else Nx H3) := by
  refine lcW wk (fun i H => H = upd H1 D (.lst ((xs.take i).map f))) (by simp) (fun i H _ e => by rw [e]; exact hst _) ?_ (fun H e => by rw [e, List.take_length]; exact hd)
  rintro i x H hx rfl
  have lt : i < xs.length := (List.getElem?_eq_some_iff.mp hx).1
  have tk : (xs.take (i + 1)).map f = (xs.take i).map f ++ [f x] := by
    rw [List.take_add_one, hx, List.map_append]
    rfl
  have h := hs i x ((xs.take i).map f) (fun y H4 => ∃ acc, H4 D = some (.lst acc) ∧ acc.length < sizeLine ∧ upd H4 D (.lst (acc ++ [y])) = upd H1 D (.lst ((xs.take (i + 1)).map f))) hx
    ⟨_, upd_same, by rw [List.length_map, List.length_take]; omega, by rw [upd_upd, tk]⟩
  exact h
/-- a for over what stands still -/
theorem forW {J : It} {xs : List V} {Sd : Hp → Prop} (wk : Wk J xs Sd) {g : TG} {tb : TS} {D : Ends} {σ : L2.St} {H : Hp} (Pv : Nat → L2.St → Hp → Prop) (h0 : Pv 0 σ H)
    (hst : ∀ i σ H, i ≤ xs.length → Pv i σ H → Sd H)
    (hs : ∀ i x σ H, xs[i]? = some x → Pv i σ H → g x σ H fun σ2 H2 => tb { D with nx := Pv (i + 1), ct := Pv (i + 1), bk := D.nx } σ2 H2) (hd : ∀ σ H, Pv xs.length σ H → D.nx σ H) :
    ∃ W : Nat → Nat → L2.St → Hp → Prop, (∃ m, W 0 m σ H) ∧ ∀ i m σ H, W i m σ H →
      (J.stop i H ∧ D.nx σ H) ∨ (J.go i H ∧ ∃ N : L2.St → Hp → Prop, (∀ σ' H', N σ' H' → ∃ m', m' < m ∧ W (i + 1) m' σ' H') ∧
        ∀ x H', J.yld i H x H' → g x σ H' fun σ2 H2 => tb { D with nx := N, ct := N, bk := D.nx } σ2 H2) := by
  refine ⟨fun i m σ H => m = xs.length - i ∧ i ≤ xs.length ∧ Pv i σ H, ⟨xs.length, rfl, Nat.zero_le _, h0⟩, ?_⟩
  rintro i m σ H ⟨rfl, hi, pv⟩
  have sd := hst i σ H hi pv
  rcases Nat.lt_or_ge i xs.length with lt | ge
  · refine .inr ⟨wk.go i H sd lt, Pv (i + 1), fun σ' H' q => ⟨xs.length - (i + 1), by omega, rfl, lt, q⟩, ?_⟩
    intro x H' y
    obtain ⟨rfl, hx⟩ := wk.yld i H x H' sd lt y
    exact hs i x σ _ hx pv
  · have e : i = xs.length := by omega
    subst e
    exact .inl ⟨wk.stop _ H sd ge, hd σ H pv⟩

/-! ### tests -/
theorem iteD {p A B : Prop} [Decidable p] (h1 : p → A) (h2 : ¬ p → B) : if decide p = true then A else B := by
  by_cases h : p
  · rw [decide_eq_true h]; exact iteT (h1 h)
  · rw [decide_eq_false h]; exact iteF (h2 h)
theorem iteND {p A B : Prop} [Decidable p] (h1 : ¬ p → A) (h2 : p → B) : if (!decide p) = true then A else B := by
  by_cases h : p
  · rw [decide_eq_true h]; exact iteF (h2 h)
  · rw [decide_eq_false h]; exact iteT (h1 h)
theorem iteB {b : Bool} {A B : Prop} (h1 : b = true → A) (h2 : b = false → B) : if b = true then A else B := by
  cases b
  · exact iteF (h2 rfl)
  · exact iteT (h1 rfl)
theorem iteNB {b : Bool} {A B : Prop} (h1 : b = false → A) (h2 : b = true → B) : if (!b) = true then A else B := by
  cases b
  · exact iteT (h1 rfl)
  · exact iteF (h2 rfl)
theorem iteKT {b : Bool} {A B : Prop} (h : b = true) (x : A) : if b = true then A else B := by rw [h]; exact iteT x
theorem iteKF {b : Bool} {A B : Prop} (h : b = false) (x : B) : if b = true then A else B := by rw [h]; exact iteF x
/-- the wished end, by an equation of what comes back -/
theorem ret_eq {Q : VK} {H : Hp} {v u : V} (h : Q v H) (e : v = u) : Q u H := e ▸ h
theorem str_len (z : Str) : z.length = z.cps.toList.length := by
  show z.cps.size = _
  simp
theorem cat_len (x y : Str) : (x ++ y).length = x.length + y.length := by
  rw [str_len, str_len, str_len, ← List.length_append]
  show (x.cps ++ y.cps).toList.length = _
  rw [Array.toList_append]
end G
/-! own rules, fourth part: what the head tells -/
namespace G
open PySem PySem.Spec PyProof.Rows L2
/-! ### the head: He's facts, a list of further Bools, the getters of properties -/
/-- the property f of the class named c, its getter -/
def prA (K : PySem.W.Frag) (c f : Str) : Addr := match PySem.W.findIn K (.ref (He.ga K c)) f with
  | some (some (.ref p)) => p
  | _ => 0
def grA (K : PySem.W.Frag) (p : Addr) (T : String) : Addr := match PySem.W.recIn K p T with
  | some (.ref g :: _) => g
  | _ => 0
/-- one getter: its class, its name, the def -/
structure GetD where
  cls : Str
  name : Str
  kind : String
  params : Arguments
  body : List Stmt
  scope : Scope
def GetD.at (d : GetD) (K : PySem.W.Frag) : Addr := grA K (prA K d.cls d.name) d.kind
abbrev ObsF : Type := Option (Str × Str × Arguments × FuncBody × Scope × Addr × List (Str × Addr) × Value × Addr)
def obsF (K : PySem.W.Frag) (a : Addr) : ObsF := match K.lookup a with
  | some ⟨_, _, .func fd, _⟩ => some (fd.name, fd.qualname, fd.params, fd.body, fd.scope, fd.globals, fd.closure, fd.defaults, fd.builtins)
  | _ => none
def GetD.qual (d : GetD) : Str := d.cls ++ ("." ++ d.name)
def GetD.val (d : GetD) : ObsF := some (d.name, d.qual, d.params, .stmts d.body, d.scope, mainGlobals, [], .none, builtinsNs)
def GetD.ok (d : GetD) (K : PySem.W.Frag) : Bool :=
  decide (PySem.W.findIn K (.ref (He.ga K d.cls)) d.name = some (some (.ref (prA K d.cls d.name)))) &&
  (decide (PySem.W.specialIn K (.ref (prA K d.cls d.name)) "__get__" = some (some (.builtin (d.kind ++ ".__get__")))) &&
  (decide (PySem.W.takesIn K (.ref (prA K d.cls d.name)) = some true) &&
  ((match PySem.W.recIn K (prA K d.cls d.name) d.kind with
    | some (.ref g :: _) => decide (g = d.at K)
    | _ => false) &&
  (match K.lookup (d.at K) with
    | some ⟨_, _, .func fd, _⟩ => PySem.W.codeIn K fd.code d.qual
    | _ => false))))
theorem GetD.prop {d : GetD} {K : PySem.W.Frag} (hk : d.kind = "property") (h : d.ok K = true) : PropOf K (He.ga K d.cls) d.name (prA K d.cls d.name) (d.at K) := by
  obtain ⟨h1, h⟩ := He.ba h
  obtain ⟨h2, h⟩ := He.ba h
  obtain ⟨h3, h⟩ := He.ba h
  obtain ⟨h4, _⟩ := He.ba h
  refine ⟨of_decide_eq_true h1, ?_, of_decide_eq_true h3, ?_⟩
  · have e := of_decide_eq_true h2
    rw [hk] at e
    exact e
  · rw [hk] at h4
    split at h4
    · rename_i g r e
      have eg : g = d.at K := of_decide_eq_true h4
      exact ⟨r, by rw [e, eg]⟩
    · cases h4
theorem GetD.fn {d : GetD} {K : PySem.W.Frag} (e : obsF K (d.at K) = d.val) (h : d.ok K = true) :
    ∃ oc od osl kV doc pm an cdv ct, K.lookup (d.at K) = some ⟨oc, od, .func (PySem.W.fnOf d.name d.qual d.params d.body d.scope .none kV doc pm an cdv ct), osl⟩ ∧ PySem.W.codeIn K cdv d.qual = true := by
  obtain ⟨_, h⟩ := He.ba h
  obtain ⟨_, h⟩ := He.ba h
  obtain ⟨_, h⟩ := He.ba h
  obtain ⟨_, c⟩ := He.ba h
  unfold obsF at e
  cases q : K.lookup (d.at K) with
  | none => rw [q] at c; cases c
  | some o =>
    obtain ⟨oc, od, dt, osl⟩ := o
    rw [q] at c e
    cases dt with
    | func fd =>
      obtain ⟨a1, a2, a3, a4, a5, a6, a7, a8, a9, a10, a11, a12, a13, a14, a15⟩ := fd
      have e2 : (some (a1, a2, a3, a4, a5, a6, a7, a8, a15) : ObsF) = some (d.name, d.qual, d.params, .stmts d.body, d.scope, mainGlobals, [], .none, builtinsNs) := e
      simp only [Option.some.injEq, Prod.mk.injEq] at e2
      obtain ⟨rfl, rfl, rfl, rfl, rfl, rfl, rfl, rfl, rfl⟩ := e2
      exact ⟨oc, od, osl, a9, a10, a11, a12, a13, a14, rfl, c⟩
    | _ => cases c
abbrev AlG : Type := He.AlD × Bool × List ObsF
def obsK (fa : List He.Fa) (fn : List He.DefD) (gs : List GetD) (ex : List (PySem.W.Frag → Bool)) (K : PySem.W.Frag) : AlG :=
  (He.obsD fa fn K, (ex.all fun f => f K) && gs.all fun d => d.ok K, gs.map fun d => obsF K (d.at K))
def valK (fn : List He.DefD) (gs : List GetD) : AlG := (He.valD fn, true, gs.map GetD.val)
def obsKG (n : Nat) (fa : List He.Fa) (fn : List He.DefD) (gs : List GetD) (ex : List (PySem.W.Frag → Bool)) (g : Addr → Option Obj) : AlG :=
  obsK fa fn gs ex (He.frG g (He.asD g n))
def SaysG (fa : List He.Fa) (fn : List He.DefD) (gs : List GetD) (ex : List (PySem.W.Frag → Bool)) (K : PySem.W.Frag) : Prop := obsK fa fn gs ex K = valK fn gs
def hookG (n : Nat) (fa : List He.Fa) (fn : List He.DefD) (gs : List GetD) (ex : List (PySem.W.Frag → Bool)) : PySem.W.Hook where
  α := AlG
  obs := fun s => obsKG n fa fn gs ex s.heap.get?
  val := fun _ => valK fn gs
  says := fun _ h => ∃ K : PySem.W.Frag, K.In h ∧ SaysG fa fn gs ex K
  of := fun _ _ e => ⟨_, He.frG_in, e⟩
  keeps := fun _ _ _ ⟨K, hK, c⟩ k => ⟨K, PySem.W.Frag.In.keeps hK k, c⟩
theorem obsKG_eq {n : Nat} {fa : List He.Fa} {fn : List He.DefD} {gs : List GetD} {ex : List (PySem.W.Frag → Bool)} {g : Addr → Option Obj} {s : Shared}
    (h : ∀ a, g a = s.heap.get? a) : obsKG n fa fn gs ex g = (hookG n fa fn gs ex).obs s := by
  have e : g = s.heap.get? := funext h
  rw [e]
  rfl
section
variable {fa : List He.Fa} {fn : List He.DefD} {gs : List GetD} {ex : List (PySem.W.Frag → Bool)} {K : PySem.W.Frag}
theorem SaysG.d (c : SaysG fa fn gs ex K) : He.SaysD fa fn K := congrArg (fun z : AlG => z.1) c
theorem SaysG.more (c : SaysG fa fn gs ex K) (i : Nat) {f : PySem.W.Frag → Bool} (h : ex[i]? = some f := by rfl) : f K = true := by
  have c1 := (He.ba (show ((ex.all fun f => f K) && gs.all fun d => d.ok K) = true from congrArg (fun z : AlG => z.2.1) c)).1
  exact List.all_eq_true.mp c1 f (List.mem_of_getElem? h)
theorem SaysG.getter (c : SaysG fa fn gs ex K) (i : Nat) {d : GetD} (h : gs[i]? = some d := by rfl) : d.ok K = true ∧ obsF K (d.at K) = d.val := by
  have c1 := (He.ba (show ((ex.all fun f => f K) && gs.all fun d => d.ok K) = true from congrArg (fun z : AlG => z.2.1) c)).2
  have e : gs.map (fun d => obsF K (d.at K)) = gs.map GetD.val := congrArg (fun z : AlG => z.2.2) c
  refine ⟨List.all_eq_true.mp c1 d (List.mem_of_getElem? h), ?_⟩
  have e2 : (gs.map fun d => obsF K (d.at K))[i]? = (gs.map GetD.val)[i]? := by rw [e]
  rw [List.getElem?_map, List.getElem?_map, h] at e2
  exact Option.some.inj e2
end
/-! ### what the walk wants of a class -/
def btys : List String := ["NoneType", "bool", "int", "str", "list", "tuple", "dict"]
/-- for isinstance and == -/
structure ClsI (K : PySem.W.Frag) (C : Addr) : Prop where
  ha : PySem.W.findIn K (.ref C) "__class__" = some (some (.builtin "object.__class__"))
  hn : PySem.W.specialIn K (.builtin "object.__class__") "__get__" = some (some (.builtin "getset_descriptor.__get__"))
  htk : PySem.W.takesIn K (.builtin "object.__class__") = some true
  hm : PySem.W.mroIn K C (.type "object") = some true
  me : PySem.W.kitOne K (.ref C) (.ref C) = some true
  /-- a built-in thing is none of it -/
  bt : ∀ t ∈ btys, PySem.W.kitOne K (.type t) (.ref C) = some false
  /-- it is no built-in thing -/
  tb : ∀ t ∈ btys, PySem.W.kitOne K (.ref C) (.type t) = some false
  nf : ∀ t ∈ btys, PySem.W.notFirst K C (.type t) = true
def clsIB (c : Str) (K : PySem.W.Frag) : Bool :=
  decide (PySem.W.findIn K (.ref (He.ga K c)) "__class__" = some (some (.builtin "object.__class__"))) &&
  (decide (PySem.W.specialIn K (.builtin "object.__class__") "__get__" = some (some (.builtin "getset_descriptor.__get__"))) &&
  (decide (PySem.W.takesIn K (.builtin "object.__class__") = some true) &&
  (decide (PySem.W.mroIn K (He.ga K c) (.type "object") = some true) &&
  (decide (PySem.W.kitOne K (.ref (He.ga K c)) (.ref (He.ga K c)) = some true) &&
  ((btys.all fun t => decide (PySem.W.kitOne K (.type t) (.ref (He.ga K c)) = some false)) &&
  ((btys.all fun t => decide (PySem.W.kitOne K (.ref (He.ga K c)) (.type t) = some false)) &&
  (btys.all fun t => PySem.W.notFirst K (He.ga K c) (.type t))))))))
theorem clsI_of {c : Str} {K : PySem.W.Frag} (h : clsIB c K = true) : ClsI K (He.ga K c) := by
  obtain ⟨h1, h⟩ := He.ba h
  obtain ⟨h2, h⟩ := He.ba h
  obtain ⟨h3, h⟩ := He.ba h
  obtain ⟨h4, h⟩ := He.ba h
  obtain ⟨h5, h⟩ := He.ba h
  obtain ⟨h6, h⟩ := He.ba h
  obtain ⟨h7, h8⟩ := He.ba h
  exact ⟨of_decide_eq_true h1, of_decide_eq_true h2, of_decide_eq_true h3, of_decide_eq_true h4, of_decide_eq_true h5,
    fun t ht => of_decide_eq_true (List.all_eq_true.mp h6 t ht), fun t ht => of_decide_eq_true (List.all_eq_true.mp h7 t ht), fun t ht => List.all_eq_true.mp h8 t ht⟩
/-- an instance's type -/
theorem ClsI.ty {K : PySem.W.Frag} {C : Addr} (c : ClsI K C) (cl : Cls K C) {H : Hp} {a dx : Addr} {fs : List (Str × V)} (e : H a = some (.ins C dx fs)) : TyOf K H (.ref a) (.ref C) :=
  .ins e cl c.ha c.hn c.htk c.hm
/-- two unlike classes -/
structure ClsJ (K : PySem.W.Frag) (C D : Addr) : Prop where
  no : PySem.W.kitOne K (.ref C) (.ref D) = some false
  nf : PySem.W.notFirst K C (.ref D) = true
def clsJB (c d : Str) (K : PySem.W.Frag) : Bool :=
  decide (PySem.W.kitOne K (.ref (He.ga K c)) (.ref (He.ga K d)) = some false) && PySem.W.notFirst K (He.ga K c) (.ref (He.ga K d))
theorem clsJ_of {c d : Str} {K : PySem.W.Frag} (h : clsJB c d K = true) : ClsJ K (He.ga K c) (He.ga K d) := by
  obtain ⟨h1, h2⟩ := He.ba h
  exact ⟨of_decide_eq_true h1, h2⟩
def eqCB (c : Str) (K : PySem.W.Frag) : Bool :=
  decide (PySem.W.findIn K (.ref (He.ga K c)) "__eq__" = some (some (.ref (He.ma K (He.ga K c) "__eq__")))) &&
  (PySem.W.isFn K (.ref (He.ma K (He.ga K c) "__eq__")) &&
  (decide (PySem.W.findIn K (.ref (He.ga K c)) "__ne__" = some (some (.builtin "object.__ne__"))) &&
  decide (PySem.W.mroIn K (He.ga K c) (.type "object") = some true)))
theorem eqC_of {c : Str} {K : PySem.W.Frag} (h : eqCB c K = true) : EqC K (He.ga K c) (He.ma K (He.ga K c) "__eq__") := by
  obtain ⟨h1, h⟩ := He.ba h
  obtain ⟨h2, h⟩ := He.ba h
  obtain ⟨h3, h4⟩ := He.ba h
  exact ⟨of_decide_eq_true h1, h2, of_decide_eq_true h3, of_decide_eq_true h4⟩
/-- the class has no attribute of that name at all -/
def noB (c f : Str) (K : PySem.W.Frag) : Bool := decide (PySem.W.findIn K (.ref (He.ga K c)) f = some none)
theorem no_of {c f : Str} {K : PySem.W.Frag} (h : noB c f K = true) : PySem.W.findIn K (.ref (He.ga K c)) f = some none := of_decide_eq_true h
def lenB (c : Str) (K : PySem.W.Frag) : Bool :=
  decide (PySem.W.findIn K (.ref (He.ga K c)) "__len__" = some (some (.ref (He.ma K (He.ga K c) "__len__")))) && PySem.W.isFn K (.ref (He.ma K (He.ga K c) "__len__"))
theorem len_of {c : Str} {K : PySem.W.Frag} (h : lenB c K = true) : PySem.W.findIn K (.ref (He.ga K c)) "__len__" = some (some (.ref (He.ma K (He.ga K c) "__len__"))) ∧
    PySem.W.isFn K (.ref (He.ma K (He.ga K c) "__len__")) = true := by
  obtain ⟨h1, h2⟩ := He.ba h
  exact ⟨of_decide_eq_true h1, h2⟩
/-- an empty tuple stands at a -/
def noneIn (K : PySem.W.Frag) (a : Addr) : Bool := match K.lookup a with
  | some ⟨.type "tuple", _, .seq its _, _⟩ => its.size == 0
  | _ => false
theorem noneIn_of {K : PySem.W.Frag} {a : Addr} (h : noneIn K a = true) : ∀ H, SqT K H a [] := by
  intro H
  unfold noneIn at h
  split at h
  · rename_i d its n sl e
    have z : its = #[] := Array.eq_empty_of_size_eq_zero (eq_of_beq h)
    subst z
    exact .inr ⟨_, _, _, e, rfl, rfl, Nat.zero_le _, .nil⟩
  · cases h
/-- the getter's promise -/
theorem getP_of {P : Program} {w : World} {K : PySem.W.Frag} {mg : Str → Option Value} {base : Heap} {d : GetD} {fld : Str} {p1 p2 p3 : Pos}
    (e : obsF K (d.at K) = d.val) (h : d.ok K = true) (hk : d.kind = "property") (cl : Cls K (He.ga K d.cls)) (na : NoAttr K (He.ga K d.cls) fld)
    (S : FnScope ["self"] ["self"] d.scope) (hb : d.body = [.Return (some (.Attribute (.Name "self" p1) fld p2)) p3])
    (hbind : ∀ (kV doc pm : Value) (an : Option Addr) (cdv ct : Value) (us : List Value), us.length = 1 → bindArgs (PySem.W.fnOf d.name d.qual d.params d.body d.scope .none kV doc pm an cdv ct) ⟨us, []⟩ = pure ((["self"] : List Str).zip us)) :
    GetP P w K mg base 1 (He.ga K d.cls) d.name fld := by
  obtain ⟨oc, od, osl, kV, doc, pm, an, cdv, ct, lk, hcd⟩ := d.fn e h
  exact ⟨_, _, _, ["self"], cl, d.prop hk h, fn_getter lk hcd S rfl hb cl na, .all (hbind kV doc pm an cdv ct)⟩
end G
/-! own rules, fourth part: x, *more = a list; enumerate over a tuple -/
namespace G
open PySem PySem.Spec PyProof.Rows L2

/-! ### x, .., *more = a list -/
theorem star_run {P : Program} {w : World} {A : Around} {E : Value → Shared → Prop} {s : Shared} {l : Addr} {its : Array Value} {k : Nat} {Q : List Value → Shared → Prop}
    (pl : s.heap.IsList l its) (calm : A.handled = none) (hk : k ≤ its.size) (hz : its.size ≤ sizeLine)
    (q : ∀ (hp : Heap) (tk : Nat), (∀ b o, s.heap.get? b = some o → hp.get? b = some o) →
      Q (its.toList.take k ++ [.ref hp.objs.size]) { s with heap := hp.push { cls := .type "list", data := .seq (its.toList.drop k).toArray }, toks := tk }) :
    wpAny (model P w) A (unpackItems (.ref l) (k + 1) (some k)) Q E s := by
  have apart : l ≠ s.heap.objs.size := by
    obtain ⟨o, e, _⟩ := pl
    exact Nat.ne_of_lt (Heap.lt_size e)
  unfold unpackItems notIterableAtAll
  refine wpAny_bind (wpAny_bind (wpAny_specialOf pl.typeIs slot_list_iter.lookup (wpAny_pure ?_)))
  simp only [Bool.false_eq_true, if_false]
  refine wpAny_bind (wpAny_holding (wpAny_pyIter_list pl (wpAny_bind (wpAny_holding (PySem.W.kun_draw apart k 0 _ _ ⟨_, Heap.get?_push_size _ rfl, rfl, rfl⟩ (pl.push _) (by omega) fun h1 it1 sb1 => ?_)))))
  have pl1 : h1.IsList l its := (pl.push _).extBut sb1.extBut apart
  rw [Nat.zero_add] at it1
  obtain ⟨o1, e1, _⟩ := id it1
  obtain ⟨o2, e2, _⟩ := id pl1
  rw [List.drop_zero]
  have tl : (its.toList.take k).length = k := by
    rw [List.length_take, Array.length_toList]
    omega
  rw [if_neg (show ¬ ((its.toList.take k).length < k) by rw [tl]; omega)]
  refine wpAny_bind (wpAny_holding (PySem.W.kun_collect (s := { s with heap := h1 }) (T := "list_iterator") (.inr (.inr (.inl rfl)))
    (Walks.list (A := A.in1) calm s.heap.objs.size l apart its) (fun j u st => st.1.typeIs) (k := k) hk ⟨it1, pl1⟩ (Heap.lt_size e1) (Heap.lt_size e2) (fun h2 tk keep => ?_) hz))
  have ze : k + 1 - 1 - k = 0 := by omega
  have dl : (its.toList.drop k).length - (k + 1 - 1 - k) = (its.toList.drop k).length := by omega
  show wpAny _ _ (if (its.toList.drop k).length < k + 1 - 1 - k then _ else _) _ _ _
  rw [if_neg (by omega)]
  show wpAny _ _ (newList ((its.toList.drop k).take ((its.toList.drop k).length - (k + 1 - 1 - k))) >>= fun d =>
    pure (its.toList.take k ++ [d] ++ (its.toList.drop k).drop ((its.toList.drop k).length - (k + 1 - 1 - k)))) _ _ _
  rw [dl, List.take_length, List.drop_length]
  have old : ∀ b o, s.heap.get? b = some o → h2.get? b = some o := fun b o e => keep b o (Nat.ne_of_lt (Heap.lt_size e))
    (sb1.extBut b o (Nat.ne_of_lt (Heap.lt_size e)) (Heap.get?_push_of_some _ e))
  refine wpAny_bind (wpAny_newList (wpAny_pure ?_) (by rw [List.length_drop, Array.length_toList]; omega))
  rw [List.append_nil]
  exact q h2 tk old
def gStar (K : PySem.W.Frag) (k : Nat) (t : TGs) : TG := fun v σ H Q => ∃ a xs, v = .ref a ∧ SqL K H a xs ∧ k ≤ xs.length ∧
  ∀ D, H D = none → t (xs.take k ++ [.ref D]) σ (upd H D (.lst (xs.drop k))) Q
section
variable {X : Cx} {pos p : Pos} {e : Expr} {es : List Expr} {t : TG} {u : TGs} {k kk : Nat}
theorem pgs_star (h1 : PG X e t) (h2 : PGs X es u)
    (hs : (assignEach (.Starred e p :: es) X.env).map (·.2) = assign e X.env :: (assignEach es X.env).map (·.2) := by rfl) : PGs X (.Starred e p :: es) (gCons t u) := by
  refine ⟨fun pins s σ H vs us Q I r h => ?_⟩
  obtain ⟨v, vr, rfl, h⟩ := h
  cases r with
  | cons r rr =>
    rw [hs]
    refine assignInOrder_cons (thn (h1.run pins s σ H _ _ _ I r h) ?_)
    rintro _ s1 ⟨σ1, H1, I1, q1⟩
    exact h2.run pins s1 σ1 H1 _ _ Q I1 rr q1
theorem vals_take : ∀ {xs : List V} {us : List Value} (n : Nat), Vals xs us → Vals (xs.take n) (us.take n)
  | [], _, n, r => by cases r; rw [List.take_nil, List.take_nil]; exact .nil
  | _ :: _, _, 0, r => by rw [List.take_zero, List.take_zero]; exact .nil
  | _ :: _, _, n + 1, r => by
    cases r with
    | cons r rr => exact .cons r (vals_take n rr)
theorem vals_drop : ∀ {xs : List V} {us : List Value} (n : Nat), Vals xs us → Vals (xs.drop n) (us.drop n)
  | [], _, n, r => by cases r; rw [List.drop_nil, List.drop_nil]; exact .nil
  | _ :: _, _, 0, r => by rw [List.drop_zero, List.drop_zero]; exact r
  | _ :: _, _, n + 1, r => by
    cases r with
    | cons r rr => exact vals_drop n rr
theorem vals_app : ∀ {xs ys : List V} {us vs : List Value}, Vals xs us → Vals ys vs → Vals (xs ++ ys) (us ++ vs)
  | [], _, _, _, r, r' => by cases r; exact r'
  | _ :: _, _, _, _, r, r' => by
    cases r with
    | cons r rr => exact .cons r (vals_app rr r')
theorem pg_star (hc : X.calm = true) (h : PGs X es u) (hn : (assignEach es X.env).length = k + 1 := by rfl)
    (hst : (assignEach es X.env).findIdx? (·.1) = some k := by rfl) : PG X (.Tuple es kk pos) (gStar X.K k u) := by
  refine ⟨fun pins s σ H v w Q I r hw => ?_⟩
  obtain ⟨a, xs, rfl, hq, hl, hw⟩ := hw
  cases r
  obtain ⟨its, rv, pl, hz⟩ := I.list hq
  have el := rv.length
  rw [PyProof.Rows.assign_Tuple]
  refine wpAny_bind (wpAny_standAt ?_)
  unfold unpack
  rw [hn, hst]
  refine wpAny_bind (wpAny_holding (star_run pl.isList (I.ok.hd hc) (by rw [List.size_toArray]; omega) (by rw [List.size_toArray]; omega) fun hp tk keep => ?_))
  have I1 : Inv X pins σ H { s with heap := hp, toks := tk } := I.kept keep
  have fr : H hp.objs.size = none := I1.hok.fresh (Nat.le_refl _)
  have I2 : Inv X pins σ (upd H hp.objs.size (.lst (xs.drop k))) { s with heap := hp.push { cls := .type "list", data := .seq (its.drop k).toArray }, toks := tk } :=
    I1.laid (t' := tk) (fun b u e => Heap.get?_push_of_some _ e) (Nat.le_refl _)
      ⟨by rw [List.length_drop]; omega, its.drop k, 0, vals_drop k rv, Heap.get?_push_size _ rfl⟩
  exact h.run pins _ σ _ _ _ Q I2 (vals_app (vals_take k rv) (.cons (show RelV (V.ref hp.objs.size) (Value.ref hp.objs.size) from rfl) .nil)) (hw _ fr)
end

/-! ### enumerate(a tuple) -/
theorem enum_meets {v : Value} {o : Obj} {Hs : Heap → Prop} (B : Begins v o Hs) :
    Meets (Builtin.«enumerate.__new__» ⟨[.type "enumerate", v], []⟩) (fun _ R s => Hs s.heap ∧ R (.ok (.ret (.ref (s.heap.push o).objs.size)))
      { s with heap := (s.heap.push o).push { cls := .type "enumerate", data := .fields #[.none, .bool false, .ref s.heap.objs.size, rawInt 0, .none, .none] } }) :=
  .of_wp fun prog w A R s h => by
    obtain ⟨hp, g, d, tk, os⟩ := s
    obtain ⟨h1, h⟩ := h
    have sub := sub_enumerate
    have it : ∀ {A' : Around} {E : Value → Shared → Prop} {Q : Value → Shared → Prop}, Q (.ref hp.objs.size) ⟨hp.push o, g, d, tk, os⟩ →
        wpAny (model prog w) A' (pyIter v) Q E ⟨hp, g, d, tk, os⟩ := fun q => B.iter prog w _ _ ⟨hp, g, d, tk, os⟩ _ h1 q
    wp_walk using it
    refine wpAny_stack_any fun st => wpAny_pure ?_
    split
    · rename_i c _ _ _ _ _
      cases (c == Value.type "enumerate")
      · wp_walk using it
        exact ⟨_, rfl, h⟩
      · wp_walk using it
        exact ⟨_, rfl, h⟩
    · wp_walk using it
      exact ⟨_, rfl, h⟩
theorem enum_made {P : Program} {w : World} {A : Around} {E : Value → Shared → Prop} {s : Shared} {v : Value} {o : Obj} {Hs : Heap → Prop} {Q : Value → Shared → Prop}
    (B : Begins v o Hs) (h1 : Hs s.heap) (q : ∀ hp, IsEnum hp (s.heap.objs.size + 1) s.heap.objs.size 0 .none → hp.get? s.heap.objs.size = some o →
      (∀ b u, s.heap.get? b = some u → hp.get? b = some u) → Q (.ref (s.heap.objs.size + 1)) { s with heap := hp }) :
    wpAny (model P w) A (call (.type "enumerate") [v]) Q E s := by
  refine callType_new F.called_enumerate (by decide) (F.typeCall_enumerate_1 _) (F.newCall_enumerate_1 _) (fun obj => F.args_object_init_2 obj _) F.entry_enumerate_new (enum_meets B) ⟨h1, ?_⟩
  have z : (s.heap.push o).objs.size = s.heap.objs.size + 1 := Heap.size_push ..
  show _ ∧ _
  rw [z]
  have en : IsEnum ((s.heap.push o).push { cls := .type "enumerate", data := .fields #[.none, .bool false, .ref s.heap.objs.size, rawInt 0, .none, .none] })
      (s.heap.objs.size + 1) s.heap.objs.size 0 .none := by
    have x := Heap.get?_push_size (s.heap.push o) (o := { cls := .type "enumerate", data := .fields #[.none, .bool false, .ref s.heap.objs.size, rawInt 0, .none, .none] }) rfl
    rw [z] at x
    exact x
  exact ⟨⟨_, en, rfl⟩, q _ en (Heap.get?_push_of_some _ (Heap.get?_push_size _ B.free)) fun b u x => Heap.get?_push_of_some _ (Heap.get?_push_of_some _ x)⟩
/-- the tuple at a, each item in a new pair -/
def ItE (K : PySem.W.Frag) (a : Addr) : It :=
  ⟨fun i H => ∃ (xs : List V) (x : V), SqT K H a xs ∧ xs[i]? = some x,
    fun i H v H' => ∃ T x, v = .ref T ∧ H T = none ∧ H' = upd H T (.tup [.int (i : Nat), x]) ∧ ∀ xs, SqT K H a xs → xs[i]? = some x,
    fun i H => ∃ xs : List V, SqT K H a xs ∧ xs.length ≤ i⟩
theorem enum_end {P : Program} {w : World} {A : Around} {E : Value → Shared → Prop} {s : Shared} {e it t : Addr} {i : Nat} {c : Int} {its : Array Value} {old : Value} {Q : Option Value → Shared → Prop}
    (hh : A.handled = none) (he : IsEnum s.heap e it c old) (hit : s.heap.IsTupleIter it t i) (tp : s.heap.IsTuple t its) (lt : its.size ≤ i)
    (q : ∀ hp, Heap.ExtBut it s.heap hp → Q none { s with heap := hp }) : wpAny (model P w) A (pyNext (.ref e)) Q E s := by
  have T : s.TypeIs (.ref e) "enumerate" := ⟨_, he, rfl⟩
  unfold pyNext
  refine wpAny_bind (wpAny_attempt (wpAny_callSpecial?_slot (name := Str.ofString "__next__") T F.slot_enumerate_next (wpAny_call_entry F.slot_enumerate_next T F.entry_enumerate_next ?_ (F.args_enumerate_next_1 _))))
  show wpAny _ A.in1 (field (.ref e) 2 >>= _) _ _ s
  refine wpAny_bind (wpAny_field he rfl (x := .ref it) rfl (wpAny_bind (wpAny_nextOf_tuple_end hh hit tp (by simp; omega) fun hp x eb ob => ?_)))
  obtain ⟨o, ho, hc⟩ := ob
  exact wpAny_bind (wpAny_isInstance (T := "StopIteration") (b := true) ⟨o, ho, hc⟩ isSubtype_stop (wpAny_pure (q _ eb)))
theorem enum_turn {P : Program} {w : World} {K : PySem.W.Frag} {elts : List Expr} {kk : Nat} {tpos : Pos} (a e it : Addr) :
    Turn P w K (.Tuple elts kk tpos) (ItE K a) [e, it] e (fun i h => (∃ old, IsEnum h e it ((i : Nat) : Int) old) ∧ h.IsTupleIter it a i ∧ e ≠ it ∧ a ≠ it ∧ a ≠ e) where
  mem := List.mem_cons_self
  obj := fun i h st b hb => by
    obtain ⟨⟨old, he⟩, ⟨o, ho, hc, hd⟩, _⟩ := st
    rcases List.mem_cons.mp hb with rfl | hb
    · exact ⟨_, he, fun v q => nomatch q⟩
    · rw [List.mem_singleton.mp hb]
      exact ⟨o, ho, fun v q => by rw [hd] at q; cases q⟩
  keep := fun i h h' st k => ⟨st.1.elim fun old he => ⟨old, k e (by simp) _ he⟩, st.2.1.at fun o q => k it (by simp) o q, st.2.2⟩
  item := by
    rintro X rfl rfl rfl calm i pins s σ H E I hf ⟨⟨old, he⟩, hit, ne, ai, ae⟩ ⟨xs, x, hq, hx⟩
    obtain ⟨its, rv, tp, hz⟩ := I.tuple hq
    obtain ⟨u, hu, ru⟩ := rv.get hx
    have el := Heap.lt_size he
    have tp' : s.heap.IsTuple a its.toArray := tp
    have il : it < s.heap.objs.size := by
      obtain ⟨_, q, _⟩ := hit
      exact Heap.lt_size q
    have lt : i < its.toArray.size := by
      rw [List.size_toArray]
      exact (List.getElem?_eq_some_iff.mp hu).1
    refine PySem.wpAny_pyNext_enum_itemC (Draws.tuple (A := X.A.in1) (I.ok.hd calm) it a ai its.toArray) he ⟨hit, tp'⟩ lt ne (by simp [ne, ae.symm]) fun x2 hp tk hx2 ho st2 hT hsz hk => ?_
    have ex : x2 = u := by
      have h3 : its[i]? = some x2 := by simpa using hx2
      rw [hu] at h3
      exact (Option.some.inj h3).symm
    subst ex
    refine ⟨_, rfl, wpAny_letOwnedTupleGo_enum (s := { s with heap := hp, toks := tk + 1 }) ho fun hp2 he2 sb => ?_⟩
    have hT2 : hp2.get? s.heap.objs.size = some { cls := .type "tuple", data := .seq #[.int i tk, x2] } := (sb.2 _ (Nat.ne_of_gt el)).trans hT
    have pair : ObjOk X.prog X.w (upd H s.heap.objs.size (.tup [.int (i : Nat), x])) hp2 s.heap.objs.size (.tup [.int (i : Nat), x]) :=
      ⟨by show 2 ≤ sizeLine; decide, [.int i tk, x2], .cons ⟨_, rfl⟩ (.cons ru .nil), ⟨_, hT2, rfl, _, rfl⟩⟩
    have I1 : Inv X pins σ (upd H s.heap.objs.size (.tup [.int (i : Nat), x])) { s with heap := hp2, toks := tk + 1 } :=
      I.turnedNew (ch := [e, it]) (fun b ob hb q => (sb.2 b fun z => hb (by simp [z])).trans (hk b ob (fun z => hb (by simp [z])) (fun z => hb (by simp [z])) q)) hf (Nat.le_refl _) pair
    have e1 : ((i + 1 : Nat) : Int) = (i : Int) + 1 := by omega
    refine ⟨.ref s.heap.objs.size, _, I1, rfl, ⟨_, x, rfl, I.hok.fresh (Nat.le_refl _), rfl, fun ys hy => by rw [I.tuple_inj hy hq]; exact hx⟩,
      ⟨⟨x2, by rw [e1]; exact he2⟩, st2.1.at fun o q => (sb.2 it ne.symm).trans q, ne, ai, ae⟩, fun b hb => ?_⟩
    have lb : b < s.heap.objs.size := by
      rcases List.mem_cons.mp hb with rfl | hb
      · exact el
      · rw [List.mem_singleton.mp hb]
        exact il
    rw [upd_ne (Nat.ne_of_lt lb)]
    exact (hf b hb).1
  done := by
    rintro X rfl rfl rfl calm i pins s σ H E I hf ⟨⟨old, he⟩, hit, ne, ai, ae⟩ ⟨xs, hq, hx⟩
    obtain ⟨its, rv, tp, hz⟩ := I.tuple hq
    obtain ⟨f0, f1, f2, f3, f4, f5⟩ := hf it (by simp)
    have tp' : s.heap.IsTuple a its.toArray := tp
    have ln := rv.length
    exact enum_end (I.ok.hd calm) he hit tp' (by simp; omega) fun hp eb => ⟨rfl, I.turned (t' := s.toks) (fun b o hb q => eb b o hb q) f0 f1 f3 f4 f5⟩
  self := fun A i s Q E st h => st.1.elim fun _ he => wpAny_pyIter_enum he h
def iEnumT (K : PySem.W.Frag) (ta : TA) : TI := fun σ H R => ta σ H fun vs H1 => ∃ a xs, vs = [.ref a] ∧ SqT K H1 a xs ∧ R (ItE K a) H1
theorem pi_enumT {X : Cx} {e : Expr} {ta : TA} {p pos tpos : Pos} {elts : List Expr} {kk : Nat} (hg : Gl X "enumerate") (hm : X.mg "enumerate" = none) (ha : PA X [e] ta)
    (hs : starEach [e] X.env = [(false, eval e X.env)] := by rfl) : PI X (.Tuple elts kk tpos) (.Call (.Name "enumerate" p) [e] [] pos) (iEnumT X.K ta) := by
  refine ⟨fun pins s σ H R I h => ?_⟩
  refine Call_ (ld_blt I hg hm boot_enumerate (PyProof.Rows.callWith_type1 (thn (ha.run pos pins s σ H _ I h) ?_) hs rfl))
  rintro us s1 ⟨vs, H1, I1, r1, a, xs, rfl, hq, q⟩
  obtain ⟨u, rfl, r⟩ := vals1 r1
  obtain rfl : u = Value.ref a := r
  obtain ⟨its, rv, tp, hz⟩ := I1.tuple hq
  have tp' : s1.heap.IsTuple a its.toArray := tp
  have la : a < s1.heap.objs.size := by
    obtain ⟨o, e, _⟩ := tp
    exact Heap.lt_size e
  refine enum_made (begins_tuple a its.toArray) tp' fun hp en ti keep => wpAny_pyIter_enum en ?_
  refine ⟨s1.heap.objs.size + 1, [s1.heap.objs.size + 1, s1.heap.objs.size], _, _, H1, rfl, I1.kept (t' := s1.toks) keep, enum_turn a (s1.heap.objs.size + 1) s1.heap.objs.size,
    ⟨⟨.none, en⟩, ⟨_, ti, rfl, rfl⟩, Nat.succ_ne_self _, Nat.ne_of_lt la, Nat.ne_of_lt (Nat.lt_succ_of_lt la)⟩, fun b hb => ?_, q⟩
  have le : s1.heap.objs.size ≤ b := by
    rcases List.mem_cons.mp hb with rfl | hb
    · exact Nat.le_add_right _ _
    · rw [List.mem_singleton.mp hb]
      exact Nat.le_refl _
  exact I1.fpOk le (I1.hok.fresh le)
/-- a for over enumerate of a tuple that stands still -/
theorem forE {K : PySem.W.Frag} {a : Addr} {xs : List V} {g : TG} {tb : TS} {D : Ends} {σ : L2.St} {H : Hp} (Pv : Nat → L2.St → Hp → Prop) (h0 : Pv 0 σ H)
    (hst : ∀ i σ H, i ≤ xs.length → Pv i σ H → SqT K H a xs)
    (hs : ∀ i x σ H T, xs[i]? = some x → Pv i σ H → H T = none → g (.ref T) σ (upd H T (.tup [.int (i : Nat), x])) fun σ2 H2 => tb { D with nx := Pv (i + 1), ct := Pv (i + 1), bk := D.nx } σ2 H2)
    (hd : ∀ σ H, Pv xs.length σ H → D.nx σ H) :
    ∃ W : Nat → Nat → L2.St → Hp → Prop, (∃ m, W 0 m σ H) ∧ ∀ i m σ H, W i m σ H →
      ((ItE K a).stop i H ∧ D.nx σ H) ∨ ((ItE K a).go i H ∧ ∃ N : L2.St → Hp → Prop, (∀ σ' H', N σ' H' → ∃ m', m' < m ∧ W (i + 1) m' σ' H') ∧
        ∀ x H', (ItE K a).yld i H x H' → g x σ H' fun σ2 H2 => tb { D with nx := N, ct := N, bk := D.nx } σ2 H2) := by
  refine ⟨fun i m σ H => m = xs.length - i ∧ i ≤ xs.length ∧ Pv i σ H, ⟨xs.length, rfl, Nat.zero_le _, h0⟩, ?_⟩
  rintro i m σ H ⟨rfl, hi, pv⟩
  have sd := hst i σ H hi pv
  rcases Nat.lt_or_ge i xs.length with lt | ge
  · refine .inr ⟨⟨xs, xs[i], sd, by simp [lt]⟩, Pv (i + 1), fun σ' H' q => ⟨xs.length - (i + 1), by omega, rfl, lt, q⟩, ?_⟩
    rintro v H' ⟨T, x, rfl, nT, rfl, hx⟩
    exact hs i x σ H T (hx xs sd) pv nT
  · have e : i = xs.length := by omega
    subst e
    exact .inl ⟨⟨xs, sd, ge⟩, hd σ H pv⟩
/-! ### inside a comprehension the library's K is the outer one -/
section
variable {X : Cx} {K : PySem.W.Frag} {e : Expr} {f : Str} {pos : Pos} {ta : TE}
theorem pe_fldK (hK : X.K = K) (he : PE X e ta) (hb : attributeBase e f X.env (eval e X.env) = eval e X.env) : PE X (.Attribute e f pos) (tFld K ta f) := hK ▸ pe_fld he hb
theorem ixK {r : PySem.W.Frag → R2} (hK : X.K = K) (h : IxR X (r X.K)) : IxR X (r K) := hK ▸ h
theorem opK {r : PySem.W.Frag → R2} {op : Value → Value → Sem Value} (hK : X.K = K) (h : OpR X op (r X.K)) : OpR X op (r K) := hK ▸ h
theorem crK {r : PySem.W.Frag → List V → Hp → VK → Prop} {c : Value} (hK : X.K = K) (h : CallR X c (r X.K)) : CallR X c (r K) := hK ▸ h
theorem pg_tupK {es : List Expr} {k n : Nat} {t : TGs} (hK : X.K = K) (hc : X.calm = true) (h : PGs X es t)
    (hn : (assignEach es X.env).length = n := by rfl) (hst : (assignEach es X.env).findIdx? (·.1) = none := by rfl) : PG X (.Tuple es k pos) (gTup K n t) := hK ▸ pg_tup hc h hn hst
end
/-- behind a constructor all that was ahead of it still stands -/
theorem made_same {H H' : Hp} {x dx : Addr} {o1 o2 : HO} (nx : H x = none) (nd : H dx = none) (b : But x (upd (upd H dx o1) x o2) H') : Same H H' := fun q o e => by
  have h1 : q ≠ x := ne_of_none e nx
  refine b q o h1 ?_
  rw [upd_ne h1, upd_ne (ne_of_none e nd)]
  exact e
/-- a comprehension over nothing -/
theorem lcE {J : It} {Sd : Hp → Prop} (wk : Wk J [] Sd) {g : TG} {tt : TT} {te : TE} {vs : List Nat} {σ : L2.St} {H1 : Hp} {D : Addr} {Qd : Hp → Prop}
    (hst : Sd (upd H1 D (.lst []))) (hd : Qd (upd H1 D (.lst []))) :
    ∃ W : Nat → Nat → Hp → Prop, (∃ m, W 0 m (upd H1 D (.lst []))) ∧ ∀ i m H, W i m H →
      (J.stop i H ∧ Qd H) ∨ (J.go i H ∧ ∃ Nx : Hp → Prop, (∀ H', Nx H' → ∃ m', m' < m ∧ W (i + 1) m' H') ∧ ∀ x H', J.yld i H x H' →
        g x (wipe σ vs) H' fun σ2 H2 => wipe σ2 vs = wipe σ vs ∧ tt σ2 H2 fun b H3 =>
        if b = true then te σ2 H3 fun y H4 => ∃ acc, H4 D = some (.lst acc) ∧ acc.length < sizeLine ∧ Nx (upd H4 D (.lst (acc ++ [y]))) else Nx H3) :=
  lcW wk (fun i H => H = upd H1 D (.lst [])) rfl (fun i H _ e => e ▸ hst) (fun i x H hx _ => by simp at hx) (fun H e => e ▸ hd)
theorem sqT_ty {K : PySem.W.Frag} {H : Hp} {a : Addr} {xs : List V} (h : SqT K H a xs) : TyX K H (.ref a) (.type "tuple") := by
  rcases h with (h | ⟨o, h⟩) | ⟨o, its, n, h, c, _⟩
  · exact .base (.tup h)
  · exact .fTuple h
  · exact .kTuple h c
theorem But.same {p : Addr} {H H1 H2 : Hp} (a : But p H H1) (b : Same H1 H2) : But p H H2 := a.trans (.of b)
end G
/-! own rules, fifth part: the law's call at the head's end, for promises that ask that no guard runs -/
namespace G
open PySem PySem.Spec PyProof.Rows L2
section
variable {P : Program} {w : World} {K : PySem.W.Frag} {mg mb : Str → Option Value} {CX : CXT} {k : Nat}
variable {fa sa : Addr} {fd : FuncData} {x : Str} {sp : Sp} {s : Shared} {us : List Value} {ns : List Int}
/-- what the judge wants of the call's end -/
abbrev LawEnd (s : Shared) : Result → Shared → Prop := fun r t => r = .ok (.ret (.bool true)) ∧ OldK s.heap t.heap ∧ t.os = s.os ∧ AllBare t.gens
/-- the law's promise in an abstract heap where at most the script at sa stands -/
theorem law_core (H : Hp) (only : Only H) (seq : SqL K H sa (ns.map V.int)) (ok : HOk P w H s.heap) (one : ∀ b, H b ≠ none → b = sa) (out : H sa ≠ none → K.lookup sa = none)
    (kin : K.In s.heap) (gl : s.heap.Ns mainGlobals mg) (bl : s.heap.Ns builtinsNs mb) (bb : ∀ y : Str, y ≠ "__name__" → mb y = bootBuiltins y) (lim : s.heap.NoLimit) (gens : s.gens = #[])
    (obj : s.heap.get? sa = some { cls := .type "list", data := .seq us.toArray }) (room : Room k callerA)
    (F : ∀ base : Heap, K.In base → base.Ns mainGlobals mg → FnG P w K mg base CX k fa fd [x] sp) (bind : ∀ (t : Shared) (u : Value), BindsTo t fd ⟨[u], []⟩ [(x, u)])
    (keeps : sp [.ref sa] H (fun v _ => v = .bl true) fun _ _ _ => False) (noX : ∀ e t, CX [] H s (fun _ _ _ => False) e t → False) :
    codeAny (model P w) callerA (.call (.ref fa) ⟨[.ref sa], []⟩) (LawEnd s) s := by
  -- what is no sequence is not the script
  have free : ∀ {b : Addr} {o : Obj}, s.heap.get? b = some o → (∀ i n, o.data ≠ .seq i n) → H b = none := by
    intro b o e d
    cases hb : H b with
    | none => rfl
    | some u =>
      have z : b = sa := one b (by simp [hb])
      rw [z, obj] at e
      exact absurd rfl (Option.some.inj e ▸ d us.toArray 0)
  have sees : ∀ {b : Addr} {m : Str → Option Value}, s.heap.Ns b m → (hidT s.heap H).Ns b m := by
    rintro b m ⟨o, es, ep, e, d, r⟩
    exact ⟨o, es, ep, hidT_get e (free e fun i n z => by rw [d] at z; cases z), d, r⟩
  have kinB : K.In (hidT s.heap H) := by
    intro b o e
    refine hidT_get (kin b o e) ?_
    cases hb : H b with
    | none => rfl
    | some u =>
      have z : b = sa := one b (by simp [hb])
      subst z
      rw [out (by simp [hb])] at e
      cases e
  obtain ⟨mc, c1, c2⟩ := id lim
  have md : Mod K mg (hidT s.heap H) := ⟨kinB, sees gl, ⟨mb, sees bl, bb⟩, mc, sees c1, c2⟩
  have none_in : ∀ b : Addr, b ∉ ([] : List Addr) := fun b z => nomatch z
  have env : Env0 P w K mg (hidT s.heap H) callerA [] s H :=
    ⟨rfl, md, fun b o e => of_hidT e, Nat.le_of_eq (hidT_size _ _), trivial, fun b z => absurd (show b ∈ ([] : List Addr) from z) (none_in b), ok, .of_eq gens⟩
  have run := (F _ kinB (sees gl)).run callerA [] s H ⟨[.ref sa], []⟩ [.ref sa] [.ref sa] _ _ room rfl env (bind s (.ref sa)) (.cons rfl .nil) keeps
  refine codeAny_mono run ?_
  rintro (e | fl) t h
  · exact (noX e t h).elim
  cases fl with
  | ret u =>
    obtain ⟨v, H', os, bare, un, ok', rv, hv⟩ := h
    obtain rfl : v = V.bl true := hv
    obtain rfl : u = Value.bool true := rv
    refine ⟨rfl, .of_keep fun b o e => ?_, os, bare⟩
    cases hb : H b with
    | none => exact un.keep b o e hb (fun z => none_in b z) (by simp)
    | some u =>
      obtain ⟨ob, xs, z⟩ := (only b).resolve_left (by simp [hb])
      obtain ⟨e1, _⟩ := ok b _ z
      obtain ⟨e2, _⟩ := ok' b _ (un.frzs b ob _ z)
      rw [e] at e1
      exact (Option.some.inj e1) ▸ e2
  | next => exact h.elim
  | brk => exact h.elim
  | cont => exact h.elim
theorem law_callG (kin : K.In s.heap) (gl : s.heap.Ns mainGlobals mg) (bl : s.heap.Ns builtinsNs mb) (bb : ∀ y : Str, y ≠ "__name__" → mb y = bootBuiltins y) (lim : s.heap.NoLimit) (gens : s.gens = #[])
    (obj : s.heap.get? sa = some { cls := .type "list", data := .seq us.toArray }) (iv : IntsAre us ns) (fits : ns.length ≤ sizeLine) (room : Room k callerA)
    (F : ∀ base : Heap, K.In base → base.Ns mainGlobals mg → FnG P w K mg base CX k fa fd [x] sp) (bind : ∀ (t : Shared) (u : Value), BindsTo t fd ⟨[u], []⟩ [(x, u)])
    (keeps : ∀ H : Hp, Only H → SqL K H sa (ns.map V.int) → sp [.ref sa] H (fun v _ => v = .bl true) fun _ _ _ => False) (noX : ∀ H e t, CX [] H s (fun _ _ _ => False) e t → False) :
    codeAny (model P w) callerA (.call (.ref fa) ⟨[.ref sa], []⟩) (LawEnd s) s := by
  have vs := vals_ints iv
  have ln := iv.length
  cases own : K.lookup sa with
  | some o =>
    have e := kin sa o own
    rw [obj] at e
    obtain rfl := Option.some.inj e
    have o1 : Only fun _ => none := fun _ => .inl rfl
    have q1 : SqL K (fun _ => none) sa (ns.map V.int) := .inr ⟨_, us.toArray, _, own, rfl, rfl, rfl, by simpa [ln] using fits, by simpa using vs⟩
    exact law_core _ o1 q1 (fun b u z => nomatch z) (fun b z => absurd rfl z) (fun z => absurd rfl z) kin gl bl bb lim gens obj room F bind (keeps _ o1 q1) (noX _)
  | none =>
    let H : Hp := fun b => if b = sa then some (.frz { cls := .type "list", data := .seq us.toArray } (.lst (ns.map V.int))) else none
    have at1 : H sa = some (.frz { cls := .type "list", data := .seq us.toArray } (.lst (ns.map V.int))) := if_pos rfl
    have at0 : ∀ b, b ≠ sa → H b = none := fun b h => if_neg h
    have o1 : Only H := by
      intro b
      by_cases h : b = sa
      · subst h
        exact .inr ⟨_, _, at1⟩
      · exact .inl (at0 b h)
    have q1 : SqL K H sa (ns.map V.int) := .inl (.inr ⟨_, at1⟩)
    refine law_core H o1 q1 ?_ ?_ (fun _ => own) kin gl bl bb lim gens obj room F bind (keeps H o1 q1) (noX H)
    · intro b u z
      by_cases h : b = sa
      · subst h
        rw [at1] at z
        obtain rfl := Option.some.inj z
        exact ⟨obj, by rw [List.length_map]; exact fits, us, _, vs, obj⟩
      · rw [at0 b h] at z
        cases z
    · intro b z
      by_cases h : b = sa
      · exact h
      · exact absurd (at0 b h) z
end
/-- the walk of a law -/
theorem walkG {l : PySem.W.OpenLaw} {n k : Nat} {q : Program} {loose : List Str} {XP : (Str → Option Value) → Heap → Prop} {YP : World → Heap → Prop} {d : DefRec} {CX : CXT} {x : Str}
    (most : l.most = some n) (fits : n ≤ sizeLine) (dfl : d.params.defaults = []) (room : Room k callerA)
    (F : ∀ (w : World) (mg : Str → Option Value) (fa : Addr) (h : Heap), YP w h → h.Ns mainGlobals mg → mg d.name = some (.ref fa) →
      ∃ (K : PySem.W.Frag) (fd : FuncData) (sp : Sp), K.In h ∧ (∀ (s : Shared) (u : Value), BindsTo s fd ⟨[u], []⟩ [(x, u)]) ∧
        (∀ (H : Hp) (a : Addr) (ns : List Int), ns.length ≤ n → Only H → SqL K H a (ns.map V.int) → sp [.ref a] H (fun v _ => v = .bl true) fun _ _ _ => False) ∧
        ∀ base : Heap, K.In base → base.Ns mainGlobals mg → FnG l.prog w K mg base CX k fa fd [x] sp)
    (noX : ∀ (H : Hp) (s : Shared) (e : Value) (s' : Shared), CX [] H s (fun _ _ _ => False) e s' → False) :
    PySem.W.WalkO q loose XP YP l.row.toRowW d [] (fun f vs => PySem.call f vs) := by
  refine Att.attach_call most dfl ?_
  intro w s0 s1 mg mb fa o pm cd doc sa us ns G Y ho hd hcd hmg obj iv len gens
  obtain ⟨K, fd, sp, kin, bind, keeps, Fk⟩ := F w mg fa _ Y G.T.g hmg
  exact law_callG kin G.T.g G.T.b G.T.builtins G.T.nolimit gens obj iv (Nat.le_trans len fits) room Fk bind (fun H o1 q1 => keeps H sa ns len o1 q1) fun H e t => noX H s1 e t
end G
/-! own rules, sixth part: the truth of an instance by its own __len__ -/
namespace G
open PySem PySem.Spec PyProof.Rows L2
section
variable {X : Cx} {CX : CXT} {k : Nat} {C f : Addr} {fd : FuncData} {ps : List Str} {sp : Sp} {E : XK}
theorem tru_len (h0 : PySem.W.findIn X.K (.ref C) "__bool__" = some none) (h1 : PySem.W.findIn X.K (.ref C) "__len__" = some (some (.ref f))) (h2 : PySem.W.isFn X.K (.ref f) = true)
    (Fn : FnOk X.prog X.w X.K X.mg X.base CX k f fd ps sp) (hr : Room (k + 1) X.A) (hb : Binds X.K fd ps []) (hx : Passes CX X E) :
    TruR X (fun x H Q => ∃ (a dx : Addr) (fs : List (Str × V)), x = .ref a ∧ H a = some (.ins C dx fs) ∧
      sp [.ref a] H (fun v H' => ∃ n : Int, v = .int n ∧ 0 ≤ n ∧ n < 2 ^ 63 ∧ Q (n != 0) H') E) := by
  intro pins s σ H x v Q I rx h
  obtain ⟨a, dx, fs, rfl, ha, hs⟩ := h
  obtain rfl : v = Value.ref a := rx
  obtain ⟨mA, J, _⟩ := ins_get I.hok ha
  obtain ⟨od, J, _⟩ := J.look
  have kin := I.kIn
  have hl : [Value.ref a].length = ps.length := Fn.len _ _ _ _ hs
  have bt := hb s [Value.ref a] kin (by simpa using hl)
  have body : wpAny (model X.prog X.w) X.A.in1 (call (.ref f) [.ref a]) (EP X pins σ fun v H' => ∃ n : Int, v = .int n ∧ 0 ≤ n ∧ n < 2 ^ 63 ∧ Q (n != 0) H') X.xe s := by
    refine wpAny_call (codeAny_mono (Fn.run X.A.in1 X.stack s H ⟨[.ref a], []⟩ [.ref a] [.ref a] _ E hr.in1 I.env0.in1 (by simpa using bt) (.cons rfl .nil) hs) ?_)
    intro r s' hq
    match r, hq with
    | .error e, hq => exact (hx pins σ H s e s' I hq)
    | .ok (.ret w), hq => exact I.after hq
    | .ok .next, hq => exact hq.elim
    | .ok .brk, hq => exact hq.elim
    | .ok .cont, hq => exact hq.elim
  have key : wpAny (model X.prog X.w) X.A (runValue (.builtin "len" ⟨[.ref a], []⟩)) (fun r s' => ∃ (n : Int) (t : Tok), r = .int n t ∧ ∃ H', Inv X pins σ H' s' ∧ Q (n != 0) H') X.xe s := by
    refine wpAny_runValue (codeAny_builtin entry_len ?_)
    rw [Around.under_plainId plain_len _]
    unfold Builtin.«len»
    refine wpAny_bind (m := oneArg "len" _) (wpAny_pure ?_)
    refine wpAny_bind (m := callSpecial? (.ref a) (Str.ofString "__len__")) (PySem.W.special_fn kin J h1 (beq_iff_eq.mp h2) (wpAny_mono body ?_ fun _ _ z => z))
    rintro r s' ⟨z, H', I', rz, n, rfl, n0, n1, q⟩
    obtain ⟨t, rfl⟩ := rz
    refine wpAny_bind (wpAny_holding (wpAny_pure ?_))
    refine wpAny_bind (wpAny_letGo ?_)
    show wpAny _ _ (if n < 0 then _ else _) _ _ _
    rw [if_neg (by omega)]
    show wpAny _ _ (if n ≥ 2 ^ 63 then _ else _) _ _ _
    rw [if_neg (by omega)]
    exact wpAny_bind (wpAny_mkInt (wpAny_pure ⟨n, _, rfl, H', I'.tok _, q⟩))
  show wpAny (model X.prog X.w) X.A (truthy (.ref a)) _ X.xe s
  unfold truthy
  refine wpAny_bind (m := callSpecial? (.ref a) (Str.ofString "__bool__")) (wpAny_bind (wpAny_bind (J.type.here ((PySem.W.looks_findIn kin h0).here (wpAny_pure ?_)))))
  refine wpAny_bind (wpAny_bind (J.type.here ((PySem.W.looks_findIn kin h1).here ?_)))
  refine wpAny_bind (wpAny_mono key ?_ fun _ _ z => z)
  rintro r s' ⟨n, t, rfl, H', I', q⟩
  exact wpAny_pure ⟨H', I', q⟩
end
end G
/-! own rules: a tuple read backwards by t[::-1]; what a text of texts measures -/
namespace G
open PySem PySem.Spec PyProof.Rows L2
section
variable {prog : Program} {w : World} {A : Around} {E : Value → Shared → Prop} {s : Shared}
theorem adjust_back (n : Nat) : Builtin.Slice.sliceAdjust none none (-1) (n : Int) = ((n : Int) - 1, -1) := rfl
theorem places_back (n : Nat) : Builtin.Slice.slicePlaces ((n : Int) - 1) (-1) (-1) = n := by
  unfold Builtin.Slice.slicePlaces
  have h1 : ¬ ((-1 : Int) > 0) := by omega
  simp only [h1, if_false]
  rw [show (-(-1) : Int) = 1 by decide, Int.ediv_one]
  split <;> omega
theorem sliceApplied_back {sl : Addr} {vl vu vs : Value} {n : Nat} {Q : Int × Int × Nat → Shared → Prop} (hs : s.heap.IsSliceOf sl vl vu vs) (pl : IsPart vl none) (pu : IsPart vu none)
    (ps : IsPart vs (some (-1))) (h : Q ((n : Int) - 1, -1, n) s) : wpAny (model prog w) A (Builtin.Slice.sliceApplied (.ref sl) (pure (n : Int))) Q E s := by
  obtain ⟨os, hos, hcs, hds⟩ := id hs
  unfold Builtin.Slice.sliceApplied Builtin.Slice.sliceFields
  refine wpAny_bind (wpAny_bind (wpAny_field hos hds (x := vl) rfl (wpAny_bind (wpAny_field hos hds (x := vu) rfl (wpAny_bind (wpAny_field hos hds (x := vs) rfl (wpAny_pure ?_)))))))
  refine wpAny_bind (HT.slicePart_ ps ?_)
  show wpAny _ _ (if ((-1 : Int) == 0) = true then _ else _) _ _ s
  rw [if_neg (by decide)]
  refine wpAny_bind (HT.slicePart_ pl (wpAny_bind (HT.slicePart_ pu (wpAny_bind (wpAny_pure ?_)))))
  show wpAny _ _ (match Builtin.Slice.sliceAdjust none none (-1) (n : Int) with | (lo, hi) => pure (lo, (-1 : Int), Builtin.Slice.slicePlaces lo hi (-1))) _ _ s
  rw [adjust_back n]
  show wpAny _ _ (pure ((n : Int) - 1, (-1 : Int), Builtin.Slice.slicePlaces ((n : Int) - 1) (-1) (-1))) _ _ s
  rw [places_back]
  exact wpAny_pure h
theorem pick_back (xs : Array Value) : ((List.range xs.size).filterMap fun (k : Nat) => xs[((xs.size : Int) - 1 + (k : Int) * (-1)).toNat]?).toArray = xs.toList.reverse.toArray := by
  congr 1
  have e : (List.range xs.size).filterMap (fun (k : Nat) => xs[((xs.size : Int) - 1 + (k : Int) * (-1)).toNat]?) = ((List.range xs.size).map fun k => xs.size - 1 - k).filterMap (xs[·]?) := by
    rw [List.filterMap_map]
    have go : ∀ l : List Nat, (∀ k ∈ l, k < xs.size) → l.filterMap (fun (k : Nat) => xs[((xs.size : Int) - 1 + (k : Int) * (-1)).toNat]?) = l.filterMap ((fun x => xs[x]?) ∘ fun k => xs.size - 1 - k) := by
      intro l
      induction l with
      | nil => intro _; rfl
      | cons k l ih =>
        intro h
        have hk := h k List.mem_cons_self
        have e : ((xs.size : Int) - 1 + (k : Int) * (-1)).toNat = xs.size - 1 - k := by omega
        rw [List.filterMap_cons, List.filterMap_cons, ih fun j hj => h j (List.mem_cons_of_mem _ hj), e]
        rfl
    exact go _ fun k hk => List.mem_range.mp hk
  rw [e, PySem.W.krv_range, List.filterMap_reverse, PySem.W.krv_all]
theorem getItem_tuple_back {t sl : Addr} {items : Array Value} {vl vu vs : Value} {Q : Value → Shared → Prop} (ht : IsTup s.heap t items) (hs : s.heap.IsSliceOf sl vl vu vs)
    (pl : IsPart vl none) (pu : IsPart vu none) (ps : IsPart vs (some (-1)))
    (h : Q (.ref s.heap.objs.size) { s with heap := s.heap.push { cls := .type "tuple", data := .seq items.toList.reverse.toArray } })
    (hsz : items.size ≤ sizeLine) : wpAny (model prog w) A (getItem (.ref t) (.ref sl)) Q E s := by
  have hz : sizeOk (.seq items.toList.reverse.toArray) := by
    show items.toList.reverse.toArray.size ≤ sizeLine
    rw [List.size_toArray, List.length_reverse, Array.length_toList]
    exact hsz
  obtain ⟨os, hos, hcs, hds⟩ := id hs
  have hTs : s.TypeIs (.ref sl) "slice" := ⟨os, hos, hcs⟩
  unfold getItem
  try with_reducible refine wpAny_holding ?_
  first | refine wpAny_bind (wpAny_pure ?_) | skip
  refine wpAny_bind (wpAny_sequenceKey ht.typeIs (by decide) ?_)
  refine wpAny_bind (wpAny_callSpecial?_slot (name := Str.ofString "__getitem__") ht.typeIs PyProof.Rows.slot_tuple_getitem
    (wpAny_call_entry PyProof.Rows.slot_tuple_getitem ht.typeIs entry_tuple_getitem ?_ (args_tuple_getitem _ _)))
  show wpAny _ _ (Builtin.Tuple.tupleItemsOf (.ref t) >>= _) _ _ s
  refine wpAny_bind (tupleItemsOf_ ht ?_)
  refine wpAny_bind (wpAny_typeOf hTs ?_)
  rw [if_pos (by decide)]
  refine wpAny_bind (sliceApplied_back hs pl pu ps ?_)
  have hno : ¬ (((items.size : Int) - 1 == 0 && (-1 : Int) == 1 && items.size == items.size) = true) := by
    intro q
    rw [Bool.and_eq_true, Bool.and_eq_true] at q
    exact absurd q.1.2 (by decide)
  show wpAny _ _ (if ((items.size : Int) - 1 == 0 && (-1 : Int) == 1 && items.size == items.size) = true then _ else _) _ _ s
  rw [if_neg hno, pick_back]
  first
    | exact wpAny_bind (m := Builtin.Tuple.tupleExact _) (wpAny_newObj_type (wpAny_pure ⟨_, rfl, wpAny_pure h⟩) hz)
    | exact wpAny_bind (m := Builtin.Tuple.tupleExact _) (wpAny_newObj_type (wpAny_bind (wpAny_pure (wpAny_pure ⟨_, rfl, wpAny_pure h⟩))) hz)
end
def tRevT (K : PySem.W.Frag) (te : TE) : TE := fun σ H Q => te σ H fun x H1 => ∃ a xs, x = .ref a ∧ SqT K H1 a xs ∧ ∀ p, H1 p = none → Q (.ref p) (upd H1 p (.tup xs.reverse))
theorem pe_revT {X : Cx} {e : Expr} {te : TE} {k : Nat} {p1 p2 p3 pos : Pos} (he : PE X e te) : PE X (.Subscript e (.Slice none none (some (.UnaryOp .USub (.Constant (.int 1) k p1) p2)) p3) pos) (tRevT X.K te) := by
  refine ⟨fun pins s σ H Q I h => ?_⟩
  refine Subscript_ (thn (he.run pins s σ H _ I h) fun v s1 ⟨x, H1, I1, r1, q1⟩ => ?_)
  obtain ⟨a, xs, ex, hx, q⟩ := q1
  subst ex
  cases r1
  have hst : PO X (some (.UnaryOp .USub (.Constant (.int 1) k p1) p2)) (tPart (tUn (rU fun i => .int (-i)) (tC (.int 1)))) := po_some (pe_un un_neg pe_int)
  refine wpAny_Slice (thn (po_none.run pins s1 σ H1 (fun o H2 => o = none ∧ H2 = H1) I1 ⟨rfl, rfl⟩) fun vl s2 ⟨l, H2, I2, pl, el, e2⟩ => ?_)
  subst el e2
  refine thn (po_none.run pins s2 σ H2 (fun o H3 => o = none ∧ H3 = H2) I2 ⟨rfl, rfl⟩) fun vu s3 ⟨u, H3, I3, pu, eu, e3⟩ => ?_
  subst eu e3
  refine thn (hst.run pins s3 σ H3 (fun o H4 => o = some (-1) ∧ H4 = H3) I3 ⟨1, rfl, -1, rfl, rfl, rfl⟩) fun vs s4 ⟨o, H4, I4, ps, eo, e4⟩ => ?_
  subst eo e4
  have I5 : Inv X pins σ H4 { s4 with heap := s4.heap.push { cls := .type "slice", data := .fields #[vl, vu, vs] } } := I4.kept (t' := s4.toks) fun b ob q => Heap.get?_push_of_some _ q
  obtain ⟨its, r, ht, hz⟩ := I5.tuple hx
  have hlen := r.length
  have ht' : IsTup (s4.heap.push { cls := .type "slice", data := .fields #[vl, vu, vs] }) a its.toArray := ht
  show wpAny (model X.prog X.w) X.A (subscriptTail e (.Slice none none (some (.UnaryOp .USub (.Constant (.int 1) k p1) p2)) p3) (.ref a) (.ref s4.heap.objs.size)) (EP X pins σ Q) X.xe { s4 with heap := s4.heap.push { cls := .type "slice", data := .fields #[vl, vu, vs] } }
  refine tail_any (ops := [.ref a, .ref s4.heap.objs.size]) ht'.typeIs PyProof.Rows.slot_tuple_getitem.lookup ?_ (by with_unfolding_all rfl)
  refine getItem_tuple_back (items := its.toArray) ht' (Heap.IsSliceOf.new _ vl vu vs) pl pu ps ?_ (by rw [List.size_toArray]; omega)
  refine ⟨.ref _, _, I5.laid (t' := s4.toks) (o := .tup xs.reverse) (fun b ob q => Heap.get?_push_of_some _ q) (Nat.le_refl _) ?_, rfl, q _ (I5.hok.fresh (Nat.le_refl _))⟩
  exact ⟨by rw [List.length_reverse]; exact hz, _, r.reverse, IsTup.new _ _⟩
/-! ### slices and sums of tuples, whatever stands -/
theorem cut_whole {xs : List V} {lo hi : Option Int} (h : HT.sIx xs.length 0 lo = 0 ∧ HT.sIx xs.length xs.length hi = xs.length) : cutV xs lo hi = xs := by
  unfold cutV
  rw [h.1, h.2, List.drop_zero, Nat.sub_zero]
  exact List.take_of_length_le (Nat.le_refl _)
theorem sl_both {H : Hp} {a : Addr} {xs : List V} {lo hi : Option Int} {Q : VK} (ha : H a = some (.tup xs))
    (q : ∀ H' p, Same H H' → H' p = some (.tup (cutV xs lo hi)) → Q (.ref p) H') :
    (HT.sIx xs.length 0 lo = 0 ∧ HT.sIx xs.length xs.length hi = xs.length → Q (.ref a) H) ∧
    (¬ (HT.sIx xs.length 0 lo = 0 ∧ HT.sIx xs.length xs.length hi = xs.length) → ∀ p, H p = none → Q (.ref p) (upd H p (.tup (cutV xs lo hi)))) :=
  ⟨fun h => q H a (.refl _) (by rw [cut_whole h]; exact ha), fun _ p np => q _ p ((Same.refl _).new np) upd_same⟩
theorem cat_both {H : Hp} {a b : Addr} {xs ys : List V} {Q : VK} (ha : H a = some (.tup xs)) (hb : H b = some (.tup ys))
    (q : ∀ H' p, Same H H' → H' p = some (.tup (xs ++ ys)) → Q (.ref p) H') :
    (xs = [] → Q (.ref b) H) ∧ (xs ≠ [] → ys = [] → Q (.ref a) H) ∧ (xs ≠ [] → ys ≠ [] → ∀ p, H p = none → Q (.ref p) (upd H p (.tup (xs ++ ys)))) :=
  ⟨fun h => q H b (.refl _) (by rw [h]; exact hb), fun _ h => q H a (.refl _) (by rw [h, List.append_nil]; exact ha), fun _ _ p np => q _ p ((Same.refl _).new np) upd_same⟩
def rSlB (K : PySem.W.Frag) : V → Option Int → Option Int → Hp → VK → Prop := fun x lo hi H Q => ∃ a xs, x = .ref a ∧ H a = some (.tup xs) ∧
  ∀ H' p, Same H H' → H' p = some (.tup (cutV xs lo hi)) → Q (.ref p) H'
theorem sl_tupB {X : Cx} : SlR X (rSlB X.K) := by
  intro pins s σ H x v vl vu lo hi sl Q I rx hs pl pu h
  obtain ⟨a, xs, rfl, ha, q⟩ := h
  exact sl_tupA pins s σ H _ v vl vu lo hi sl Q I rx hs pl pu ⟨a, xs, rfl, SqT.of ha, (sl_both ha q).1, (sl_both ha q).2⟩
def rCatB (K : PySem.W.Frag) : R2 := fun x y H Q => ∃ a b xs ys, x = .ref a ∧ y = .ref b ∧ H a = some (.tup xs) ∧ H b = some (.tup ys) ∧ xs.length + ys.length ≤ sizeLine ∧
  ∀ H' p, Same H H' → H' p = some (.tup (xs ++ ys)) → Q (.ref p) H'
theorem op_catB {X : Cx} : OpR X (binaryOp .Add) (rCatB X.K) := by
  intro pins s σ H x y v u Q I rx ry h
  obtain ⟨a, b, xs, ys, rfl, rfl, ha, hb, hz, q⟩ := h
  obtain ⟨q0, q1, q2⟩ := cat_both ha hb q
  exact op_catA pins s σ H _ _ v u Q I rx ry ⟨a, b, xs, ys, rfl, rfl, SqT.of ha, SqT.of hb, hz, q0, q1, q2⟩
end G
namespace G
open PySem PySem.Spec PyProof.Rows L2
def top (i : Nat) : Stmt := PySem.Challenge.pw_gatecrowds_k04_kinds_made.main.body.getD i (.Pass ⟨0, 0, 0, 0⟩)
abbrev s_InvalidName___init__ : Stmt := inClass (top 2) 0
abbrev n_InvalidName___init__ : List Str := ["self", "given"]
theorem sc_InvalidName___init__ : FnScope n_InvalidName___init__ ["self", "given"] (defScope s_InvalidName___init__) := ⟨rfl, rfl, rfl, by decide +kernel, rfl, by decide +kernel, by decide +kernel⟩
abbrev s_InvalidFlag___init__ : Stmt := inClass (top 3) 0
abbrev n_InvalidFlag___init__ : List Str := ["self", "given"]
theorem sc_InvalidFlag___init__ : FnScope n_InvalidFlag___init__ ["self", "given"] (defScope s_InvalidFlag___init__) := ⟨rfl, rfl, rfl, by decide +kernel, rfl, by decide +kernel, by decide +kernel⟩
abbrev s_InvalidRows___init__ : Stmt := inClass (top 4) 0
abbrev n_InvalidRows___init__ : List Str := ["self", "index"]
theorem sc_InvalidRows___init__ : FnScope n_InvalidRows___init__ ["self", "index"] (defScope s_InvalidRows___init__) := ⟨rfl, rfl, rfl, by decide +kernel, rfl, by decide +kernel, by decide +kernel⟩
abbrev s_InvalidMembers___init__ : Stmt := inClass (top 5) 0
abbrev n_InvalidMembers___init__ : List Str := ["self", "index"]
theorem sc_InvalidMembers___init__ : FnScope n_InvalidMembers___init__ ["self", "index"] (defScope s_InvalidMembers___init__) := ⟨rfl, rfl, rfl, by decide +kernel, rfl, by decide +kernel, by decide +kernel⟩
abbrev s_is_name : Stmt := top 12
abbrev n_is_name : List Str := ["value", "sign"]
theorem sc_is_name : FnScope n_is_name ["value"] (defScope s_is_name) := ⟨rfl, rfl, rfl, by decide +kernel, rfl, by decide +kernel, by decide +kernel⟩
abbrev s_Row___init__ : Stmt := inClass (top 16) 0
abbrev n_Row___init__ : List Str := ["self", "text", "label", "word", "gate", "value", "goals"]
theorem sc_Row___init__ : FnScope n_Row___init__ ["self", "text", "label", "word", "gate", "value", "goals"] (defScope s_Row___init__) := ⟨rfl, rfl, rfl, by decide +kernel, rfl, by decide +kernel, by decide +kernel⟩
abbrev s_digit_of : Stmt := top 17
abbrev n_digit_of : List Str := ["word"]
theorem sc_digit_of : FnScope n_digit_of ["word"] (defScope s_digit_of) := ⟨rfl, rfl, rfl, by decide +kernel, rfl, by decide +kernel, by decide +kernel⟩
abbrev s_row_of_words : Stmt := top 18
abbrev n_row_of_words : List Str := ["text", "label", "words", "word", "more", "goal"]
theorem sc_row_of_words : FnScope n_row_of_words ["text", "label", "words"] (defScope s_row_of_words) := ⟨rfl, rfl, rfl, by decide +kernel, rfl, by decide +kernel, by decide +kernel⟩
abbrev s_has_right_parts : Stmt := top 19
abbrev n_has_right_parts : List Str := ["row", "at"]
theorem sc_has_right_parts : FnScope n_has_right_parts ["row"] (defScope s_has_right_parts) := ⟨rfl, rfl, rfl, by decide +kernel, rfl, by decide +kernel, by decide +kernel⟩
abbrev s_parsed_row : Stmt := top 20
abbrev n_parsed_row : List Str := ["text", "label", "sign", "rest", "row"]
theorem sc_parsed_row : FnScope n_parsed_row ["text"] (defScope s_parsed_row) := ⟨rfl, rfl, rfl, by decide +kernel, rfl, by decide +kernel, by decide +kernel⟩
abbrev s_leads_within : Stmt := top 21
abbrev n_leads_within : List Str := ["row", "many", "goal"]
theorem sc_leads_within : FnScope n_leads_within ["row", "many"] (defScope s_leads_within) := ⟨rfl, rfl, rfl, by decide +kernel, rfl, by decide +kernel, by decide +kernel⟩
abbrev s_Gate___init__ : Stmt := inClass (top 23) 0
abbrev n_Gate___init__ : List Str := ["self", "name", "within"]
theorem sc_Gate___init__ : FnScope n_Gate___init__ ["self", "name", "within"] (defScope s_Gate___init__) := ⟨rfl, rfl, rfl, by decide +kernel, rfl, by decide +kernel, by decide +kernel⟩
abbrev s_Gate_name : Stmt := inClass (top 23) 1
abbrev n_Gate_name : List Str := ["self"]
theorem sc_Gate_name : FnScope n_Gate_name ["self"] (defScope s_Gate_name) := ⟨rfl, rfl, rfl, by decide +kernel, rfl, by decide +kernel, by decide +kernel⟩
abbrev s_Gate_within : Stmt := inClass (top 23) 2
abbrev n_Gate_within : List Str := ["self"]
theorem sc_Gate_within : FnScope n_Gate_within ["self"] (defScope s_Gate_within) := ⟨rfl, rfl, rfl, by decide +kernel, rfl, by decide +kernel, by decide +kernel⟩
abbrev s_Gate___eq__ : Stmt := inClass (top 23) 3
abbrev n_Gate___eq__ : List Str := ["self", "other"]
theorem sc_Gate___eq__ : FnScope n_Gate___eq__ ["self", "other"] (defScope s_Gate___eq__) := ⟨rfl, rfl, rfl, by decide +kernel, rfl, by decide +kernel, by decide +kernel⟩
abbrev s_Kind___init__ : Stmt := inClass (top 24) 0
abbrev n_Kind___init__ : List Str := ["self", "name", "rows", "many", "members"]
theorem sc_Kind___init__ : FnScope n_Kind___init__ ["self", "name", "rows", "many", "members"] (defScope s_Kind___init__) := ⟨rfl, rfl, rfl, by decide +kernel, rfl, by decide +kernel, by decide +kernel⟩
abbrev s_Kind_name : Stmt := inClass (top 24) 1
abbrev n_Kind_name : List Str := ["self"]
theorem sc_Kind_name : FnScope n_Kind_name ["self"] (defScope s_Kind_name) := ⟨rfl, rfl, rfl, by decide +kernel, rfl, by decide +kernel, by decide +kernel⟩
abbrev s_Kind_rows : Stmt := inClass (top 24) 2
abbrev n_Kind_rows : List Str := ["self"]
theorem sc_Kind_rows : FnScope n_Kind_rows ["self"] (defScope s_Kind_rows) := ⟨rfl, rfl, rfl, by decide +kernel, rfl, by decide +kernel, by decide +kernel⟩
abbrev s_Kind_many : Stmt := inClass (top 24) 3
abbrev n_Kind_many : List Str := ["self"]
theorem sc_Kind_many : FnScope n_Kind_many ["self"] (defScope s_Kind_many) := ⟨rfl, rfl, rfl, by decide +kernel, rfl, by decide +kernel, by decide +kernel⟩
abbrev s_Kind_members : Stmt := inClass (top 24) 4
abbrev n_Kind_members : List Str := ["self"]
theorem sc_Kind_members : FnScope n_Kind_members ["self"] (defScope s_Kind_members) := ⟨rfl, rfl, rfl, by decide +kernel, rfl, by decide +kernel, by decide +kernel⟩
abbrev s_Kind___eq__ : Stmt := inClass (top 24) 5
abbrev n_Kind___eq__ : List Str := ["self", "other"]
theorem sc_Kind___eq__ : FnScope n_Kind___eq__ ["self", "other"] (defScope s_Kind___eq__) := ⟨rfl, rfl, rfl, by decide +kernel, rfl, by decide +kernel, by decide +kernel⟩
abbrev s_Kind___len__ : Stmt := inClass (top 24) 6
abbrev n_Kind___len__ : List Str := ["self"]
theorem sc_Kind___len__ : FnScope n_Kind___len__ ["self"] (defScope s_Kind___len__) := ⟨rfl, rfl, rfl, by decide +kernel, rfl, by decide +kernel, by decide +kernel⟩
abbrev s_parsed_rows : Stmt := top 25
abbrev n_parsed_rows : List Str := ["rows", "found", "index", "text", "row"]
theorem sc_parsed_rows : FnScope n_parsed_rows ["rows"] (defScope s_parsed_rows) := ⟨rfl, rfl, rfl, by decide +kernel, rfl, by decide +kernel, by decide +kernel⟩
abbrev s_check_members : Stmt := top 26
abbrev n_check_members : List Str := ["members", "index", "name"]
theorem sc_check_members : FnScope n_check_members ["members"] (defScope s_check_members) := ⟨rfl, rfl, rfl, by decide +kernel, rfl, by decide +kernel, by decide +kernel⟩
abbrev s__law_pool : Stmt := top 28
abbrev n__law_pool : List Str := ["_law_script", "_law_k", "_law_cell", "_law_digits"]
theorem sc__law_pool : FnScope n__law_pool ["_law_script", "_law_k"] (defScope s__law_pool) := ⟨rfl, rfl, rfl, by decide +kernel, rfl, by decide +kernel, by decide +kernel⟩
abbrev s__law_draw : Stmt := top 29
abbrev n__law_draw : List Str := ["_law_pool_here", "_law_most", "_law_digit"]
theorem sc__law_draw : FnScope n__law_draw ["_law_pool_here", "_law_most"] (defScope s__law_draw) := ⟨rfl, rfl, rfl, by decide +kernel, rfl, by decide +kernel, by decide +kernel⟩
abbrev s__law_tag : Stmt := top 30
abbrev n__law_tag : List Str := ["_law_pool_here", "_law_words", "_law_signs", "_law_size", "_law_k"]
theorem sc__law_tag : FnScope n__law_tag ["_law_pool_here"] (defScope s__law_tag) := ⟨rfl, rfl, rfl, by decide +kernel, rfl, by decide +kernel, by decide +kernel⟩
abbrev s__law_new : Stmt := top 31
abbrev n__law_new : List Str := ["_law_pool_here", "_law_taken", "_law_tag_here", "_law_spare", "_law_other_here"]
theorem sc__law_new : FnScope n__law_new ["_law_pool_here", "_law_taken"] (defScope s__law_new) := ⟨rfl, rfl, rfl, by decide +kernel, rfl, by decide +kernel, by decide +kernel⟩
abbrev s__law_line : Stmt := top 32
abbrev n__law_line : List Str := ["_law_pool_here", "_law_tags_here", "_law_most", "_law_way", "_law_tag_here", "_law_worth", "_law_goal", "_law_mark", "_law_goals", "_law_k"]
theorem sc__law_line : FnScope n__law_line ["_law_pool_here", "_law_tags_here", "_law_most"] (defScope s__law_line) := ⟨rfl, rfl, rfl, by decide +kernel, rfl, by decide +kernel, by decide +kernel⟩
abbrev s__law_lines : Stmt := top 33
abbrev n__law_lines : List Str := ["_law_pool_here", "_law_tags_here", "_law_most", "_law_k"]
theorem sc__law_lines : FnScope n__law_lines ["_law_pool_here", "_law_tags_here"] (defScope s__law_lines) := ⟨rfl, rfl, rfl, by decide +kernel, rfl, by decide +kernel, by decide +kernel⟩
abbrev s__law_is : Stmt := top 34
abbrev n__law_is : List Str := ["_law_mine", "_law_due"]
theorem sc__law_is : FnScope n__law_is ["_law_mine", "_law_due"] (defScope s__law_is) := ⟨rfl, rfl, rfl, by decide +kernel, rfl, by decide +kernel, by decide +kernel⟩
abbrev s__law_tags : Stmt := top 35
abbrev n__law_tags : List Str := ["_law_pool_here", "_law_most", "_law_tags_here", "_law_k"]
theorem sc__law_tags : FnScope n__law_tags ["_law_pool_here", "_law_most"] (defScope s__law_tags) := ⟨rfl, rfl, rfl, by decide +kernel, rfl, by decide +kernel, by decide +kernel⟩
abbrev s__law_other : Stmt := top 36
abbrev n__law_other : List Str := ["_law_pool_here", "_law_due", "_law_tag_here", "_law_lines_here", "_law_plural", "_law_begun", "_law_way", "_law_at"]
theorem sc__law_other : FnScope n__law_other ["_law_pool_here", "_law_due"] (defScope s__law_other) := ⟨rfl, rfl, rfl, by decide +kernel, rfl, by decide +kernel, by decide +kernel⟩
abbrev s__law_right : Stmt := top 37
abbrev n__law_right : List Str := ["_law_pool_here", "_law_tags_here", "_law_plural", "_law_tag_here", "_law_due", "_law_far", "_law_one", "_law_two", "_law_same", "_law_others", "_law_thing"]
theorem sc__law_right : FnScope n__law_right ["_law_pool_here"] (defScope s__law_right) := ⟨rfl, rfl, rfl, by decide +kernel, rfl, by decide +kernel, by decide +kernel⟩
abbrev s_law : Stmt := top 38
abbrev n_law : List Str := ["_law_script", "_law_k", "_law_pool_here", "_law_turn"]
theorem sc_law : FnScope n_law ["_law_script"] (defScope s_law) := ⟨rfl, rfl, rfl, by decide +kernel, rfl, by decide +kernel, by decide +kernel⟩
/-- the keyword-only default x of the def at f, if it is an object -/
def kwdAt (f : Str × Option Str) (x : Str) (K : PySem.W.Frag) : Addr := match K.lookup (He.fAd K f) with
  | some ⟨_, _, .func fd, _⟩ => (match fd.kwdefaults with
    | .ref D => (match PySem.W.nsIn K D x with
      | some (some (.ref a)) => a
      | _ => 0)
    | _ => 0)
  | _ => 0
def d_is_name : He.DefD := ⟨("is_name", none), "is_name", "is_name", defArgs s_is_name, defBody s_is_name, defScope s_is_name, [], []⟩
def d_Row___init__ : He.DefD := ⟨("Row", some "__init__"), "__init__", "Row.__init__", defArgs s_Row___init__, defBody s_Row___init__, defScope s_Row___init__, [], [("gate", .non), ("value", .non), ("goals", .adr (kwdAt ("Row", some "__init__") "goals"))]⟩
def d_digit_of : He.DefD := ⟨("digit_of", none), "digit_of", "digit_of", defArgs s_digit_of, defBody s_digit_of, defScope s_digit_of, [], []⟩
def d_row_of_words : He.DefD := ⟨("row_of_words", none), "row_of_words", "row_of_words", defArgs s_row_of_words, defBody s_row_of_words, defScope s_row_of_words, [], []⟩
def d_has_right_parts : He.DefD := ⟨("has_right_parts", none), "has_right_parts", "has_right_parts", defArgs s_has_right_parts, defBody s_has_right_parts, defScope s_has_right_parts, [], []⟩
def d_parsed_row : He.DefD := ⟨("parsed_row", none), "parsed_row", "parsed_row", defArgs s_parsed_row, defBody s_parsed_row, defScope s_parsed_row, [], []⟩
def d_leads_within : He.DefD := ⟨("leads_within", none), "leads_within", "leads_within", defArgs s_leads_within, defBody s_leads_within, defScope s_leads_within, [], []⟩
def d_Gate___init__ : He.DefD := ⟨("Gate", some "__init__"), "__init__", "Gate.__init__", defArgs s_Gate___init__, defBody s_Gate___init__, defScope s_Gate___init__, [.non], []⟩
def d_Gate___eq__ : He.DefD := ⟨("Gate", some "__eq__"), "__eq__", "Gate.__eq__", defArgs s_Gate___eq__, defBody s_Gate___eq__, defScope s_Gate___eq__, [], []⟩
def d_Kind___init__ : He.DefD := ⟨("Kind", some "__init__"), "__init__", "Kind.__init__", defArgs s_Kind___init__, defBody s_Kind___init__, defScope s_Kind___init__, [], [("many", .bl false), ("members", .adr (kwdAt ("Kind", some "__init__") "members"))]⟩
def d_Kind___eq__ : He.DefD := ⟨("Kind", some "__eq__"), "__eq__", "Kind.__eq__", defArgs s_Kind___eq__, defBody s_Kind___eq__, defScope s_Kind___eq__, [], []⟩
def d_Kind___len__ : He.DefD := ⟨("Kind", some "__len__"), "__len__", "Kind.__len__", defArgs s_Kind___len__, defBody s_Kind___len__, defScope s_Kind___len__, [], []⟩
def d_parsed_rows : He.DefD := ⟨("parsed_rows", none), "parsed_rows", "parsed_rows", defArgs s_parsed_rows, defBody s_parsed_rows, defScope s_parsed_rows, [], []⟩
def d_check_members : He.DefD := ⟨("check_members", none), "check_members", "check_members", defArgs s_check_members, defBody s_check_members, defScope s_check_members, [], []⟩
def d__law_pool : He.DefD := ⟨("_law_pool", none), "_law_pool", "_law_pool", defArgs s__law_pool, defBody s__law_pool, defScope s__law_pool, [], []⟩
def d__law_draw : He.DefD := ⟨("_law_draw", none), "_law_draw", "_law_draw", defArgs s__law_draw, defBody s__law_draw, defScope s__law_draw, [], []⟩
def d__law_tag : He.DefD := ⟨("_law_tag", none), "_law_tag", "_law_tag", defArgs s__law_tag, defBody s__law_tag, defScope s__law_tag, [], []⟩
def d__law_new : He.DefD := ⟨("_law_new", none), "_law_new", "_law_new", defArgs s__law_new, defBody s__law_new, defScope s__law_new, [], []⟩
def d__law_line : He.DefD := ⟨("_law_line", none), "_law_line", "_law_line", defArgs s__law_line, defBody s__law_line, defScope s__law_line, [], []⟩
def d__law_lines : He.DefD := ⟨("_law_lines", none), "_law_lines", "_law_lines", defArgs s__law_lines, defBody s__law_lines, defScope s__law_lines, [], []⟩
def d__law_is : He.DefD := ⟨("_law_is", none), "_law_is", "_law_is", defArgs s__law_is, defBody s__law_is, defScope s__law_is, [], []⟩
def d__law_tags : He.DefD := ⟨("_law_tags", none), "_law_tags", "_law_tags", defArgs s__law_tags, defBody s__law_tags, defScope s__law_tags, [], []⟩
def d__law_other : He.DefD := ⟨("_law_other", none), "_law_other", "_law_other", defArgs s__law_other, defBody s__law_other, defScope s__law_other, [], []⟩
def d__law_right : He.DefD := ⟨("_law_right", none), "_law_right", "_law_right", defArgs s__law_right, defBody s__law_right, defScope s__law_right, [], []⟩
def d_law : He.DefD := ⟨("law", none), "law", "law", defArgs s_law, defBody s_law, defScope s_law, [], []⟩
structure Tx (K : PySem.W.Frag) (mg : Str → Option Value) : Prop where
  f_isinstance : mg "isinstance" = none
  f_str : mg "str" = none
  f_len : mg "len" = none
  f_all : mg "all" = none
  f_int : mg "int" = none
  f_tuple : mg "tuple" = none
  f_range : mg "range" = none
  f_enumerate : mg "enumerate" = none
  f_sum : mg "sum" = none
  f_abs : mg "abs" = none
  f_divmod : mg "divmod" = none
  f_repr : mg "repr" = none
  f_max : mg "max" = none
  f_min : mg "min" = none
  g_MOST_ROWS : ∃ u, mg "MOST_ROWS" = some u ∧ RelV (.int 10) u
  g_MOST_VALUE : ∃ u, mg "MOST_VALUE" = some u ∧ RelV (.int 3) u
  g_LONGEST_NAME : ∃ u, mg "LONGEST_NAME" = some u ∧ RelV (.int 8) u
  g_LETTERS : ∃ u, mg "LETTERS" = some u ∧ RelV (.str "abcdefghijklmnopqrstuvwxyz") u
  g_SIGNS : ∃ u, mg "SIGNS" = some u ∧ RelV (.str "abcdefghijklmnopqrstuvwxyz0123456789") u
  g_DIGITS : ∃ u, mg "DIGITS" = some u ∧ RelV (.str "0123456789") u
  g_MOST_GOALS : ∃ u, mg "MOST_GOALS" = some u ∧ RelV (.int 4) u
  g_WrongValue : ∃ u, mg "WrongValue" = some u ∧ RelV (.ref (He.ga K "WrongValue")) u
  g_InvalidName : ∃ u, mg "InvalidName" = some u ∧ RelV (.ref (He.ga K "InvalidName")) u
  g_InvalidFlag : ∃ u, mg "InvalidFlag" = some u ∧ RelV (.ref (He.ga K "InvalidFlag")) u
  g_InvalidRows : ∃ u, mg "InvalidRows" = some u ∧ RelV (.ref (He.ga K "InvalidRows")) u
  g_InvalidMembers : ∃ u, mg "InvalidMembers" = some u ∧ RelV (.ref (He.ga K "InvalidMembers")) u
  g_Row : ∃ u, mg "Row" = some u ∧ RelV (.ref (He.ga K "Row")) u
  c_Row : Cls K (He.ga K "Row")
  na_Row_goal : NoAttr K (He.ga K "Row") "goal"
  na_Row_text : NoAttr K (He.ga K "Row") "text"
  na_Row_label : NoAttr K (He.ga K "Row") "label"
  na_Row_word : NoAttr K (He.ga K "Row") "word"
  na_Row_gate : NoAttr K (He.ga K "Row") "gate"
  na_Row_value : NoAttr K (He.ga K "Row") "value"
  na_Row_goals : NoAttr K (He.ga K "Row") "goals"
  mk_Row : Mk K (He.ga K "Row") (He.ma K (He.ga K "Row") "__init__")
  g_Gate : ∃ u, mg "Gate" = some u ∧ RelV (.ref (He.ga K "Gate")) u
  c_Gate : Cls K (He.ga K "Gate")
  na_Gate_called : NoAttr K (He.ga K "Gate") "called"
  na_Gate_outer : NoAttr K (He.ga K "Gate") "outer"
  mk_Gate : Mk K (He.ga K "Gate") (He.ma K (He.ga K "Gate") "__init__")
  g_Kind : ∃ u, mg "Kind" = some u ∧ RelV (.ref (He.ga K "Kind")) u
  c_Kind : Cls K (He.ga K "Kind")
  na_Kind_called : NoAttr K (He.ga K "Kind") "called"
  na_Kind_texts : NoAttr K (He.ga K "Kind") "texts"
  na_Kind_parsed : NoAttr K (He.ga K "Kind") "parsed"
  na_Kind_any_number : NoAttr K (He.ga K "Kind") "any_number"
  na_Kind_begun : NoAttr K (He.ga K "Kind") "begun"
  mk_Kind : Mk K (He.ga K "Kind") (He.ma K (He.ga K "Kind") "__init__")
  n_is_name : mg "is_name" = some (.ref (He.ga K "is_name"))
  n_digit_of : mg "digit_of" = some (.ref (He.ga K "digit_of"))
  n_row_of_words : mg "row_of_words" = some (.ref (He.ga K "row_of_words"))
  n_has_right_parts : mg "has_right_parts" = some (.ref (He.ga K "has_right_parts"))
  n_parsed_row : mg "parsed_row" = some (.ref (He.ga K "parsed_row"))
  n_leads_within : mg "leads_within" = some (.ref (He.ga K "leads_within"))
  n_parsed_rows : mg "parsed_rows" = some (.ref (He.ga K "parsed_rows"))
  n_check_members : mg "check_members" = some (.ref (He.ga K "check_members"))
  n__law_pool : mg "_law_pool" = some (.ref (He.ga K "_law_pool"))
  n__law_draw : mg "_law_draw" = some (.ref (He.ga K "_law_draw"))
  n__law_tag : mg "_law_tag" = some (.ref (He.ga K "_law_tag"))
  n__law_new : mg "_law_new" = some (.ref (He.ga K "_law_new"))
  n__law_line : mg "_law_line" = some (.ref (He.ga K "_law_line"))
  n__law_lines : mg "_law_lines" = some (.ref (He.ga K "_law_lines"))
  n__law_is : mg "_law_is" = some (.ref (He.ga K "_law_is"))
  n__law_tags : mg "_law_tags" = some (.ref (He.ga K "_law_tags"))
  n__law_other : mg "_law_other" = some (.ref (He.ga K "_law_other"))
  n__law_right : mg "_law_right" = some (.ref (He.ga K "_law_right"))
  n_law : mg "law" = some (.ref (He.ga K "law"))
  i_Row : ClsI K (He.ga K "Row")
  nb_Row : PySem.W.findIn K (.ref (He.ga K "Row")) "__bool__" = some none
  nl_Row : PySem.W.findIn K (.ref (He.ga K "Row")) "__len__" = some none
  j_Row_Gate : ClsJ K (He.ga K "Row") (He.ga K "Gate")
  j_Row_Kind : ClsJ K (He.ga K "Row") (He.ga K "Kind")
  i_Gate : ClsI K (He.ga K "Gate")
  e_Gate : EqC K (He.ga K "Gate") (He.ma K (He.ga K "Gate") "__eq__")
  nb_Gate : PySem.W.findIn K (.ref (He.ga K "Gate")) "__bool__" = some none
  nl_Gate : PySem.W.findIn K (.ref (He.ga K "Gate")) "__len__" = some none
  j_Gate_Row : ClsJ K (He.ga K "Gate") (He.ga K "Row")
  j_Gate_Kind : ClsJ K (He.ga K "Gate") (He.ga K "Kind")
  i_Kind : ClsI K (He.ga K "Kind")
  e_Kind : EqC K (He.ga K "Kind") (He.ma K (He.ga K "Kind") "__eq__")
  nb_Kind : PySem.W.findIn K (.ref (He.ga K "Kind")) "__bool__" = some none
  l_Kind : PySem.W.findIn K (.ref (He.ga K "Kind")) "__len__" = some (some (.ref (He.ma K (He.ga K "Kind") "__len__"))) ∧ PySem.W.isFn K (.ref (He.ma K (He.ga K "Kind") "__len__")) = true
  j_Kind_Row : ClsJ K (He.ga K "Kind") (He.ga K "Row")
  j_Kind_Gate : ClsJ K (He.ga K "Kind") (He.ga K "Gate")
  kt_Row___init___goals : ∀ H, SqT K H (kwdAt ("Row", some "__init__") "goals" K) []
  kt_Kind___init___members : ∀ H, SqT K H (kwdAt ("Kind", some "__init__") "members" K) []
  p_Gate_name : ∀ (P : Program) (w : World) (base : Heap), GetP P w K mg base 1 (He.ga K "Gate") "name" "called"
  p_Gate_within : ∀ (P : Program) (w : World) (base : Heap), GetP P w K mg base 1 (He.ga K "Gate") "within" "outer"
  p_Kind_name : ∀ (P : Program) (w : World) (base : Heap), GetP P w K mg base 1 (He.ga K "Kind") "name" "called"
  p_Kind_rows : ∀ (P : Program) (w : World) (base : Heap), GetP P w K mg base 1 (He.ga K "Kind") "rows" "texts"
  p_Kind_many : ∀ (P : Program) (w : World) (base : Heap), GetP P w K mg base 1 (He.ga K "Kind") "many" "any_number"
  p_Kind_members : ∀ (P : Program) (w : World) (base : Heap), GetP P w K mg base 1 (He.ga K "Kind") "members" "begun"
  d_is_name : ∃ fd, FunD K d_is_name.name d_is_name.qual d_is_name.params d_is_name.body d_is_name.scope (d_is_name.dvs K) (d_is_name.kws K) (He.fAd K d_is_name.at_) fd
  d_Row___init__ : ∃ fd, FunD K d_Row___init__.name d_Row___init__.qual d_Row___init__.params d_Row___init__.body d_Row___init__.scope (d_Row___init__.dvs K) (d_Row___init__.kws K) (He.fAd K d_Row___init__.at_) fd
  d_digit_of : ∃ fd, FunD K d_digit_of.name d_digit_of.qual d_digit_of.params d_digit_of.body d_digit_of.scope (d_digit_of.dvs K) (d_digit_of.kws K) (He.fAd K d_digit_of.at_) fd
  d_row_of_words : ∃ fd, FunD K d_row_of_words.name d_row_of_words.qual d_row_of_words.params d_row_of_words.body d_row_of_words.scope (d_row_of_words.dvs K) (d_row_of_words.kws K) (He.fAd K d_row_of_words.at_) fd
  d_has_right_parts : ∃ fd, FunD K d_has_right_parts.name d_has_right_parts.qual d_has_right_parts.params d_has_right_parts.body d_has_right_parts.scope (d_has_right_parts.dvs K) (d_has_right_parts.kws K) (He.fAd K d_has_right_parts.at_) fd
  d_parsed_row : ∃ fd, FunD K d_parsed_row.name d_parsed_row.qual d_parsed_row.params d_parsed_row.body d_parsed_row.scope (d_parsed_row.dvs K) (d_parsed_row.kws K) (He.fAd K d_parsed_row.at_) fd
  d_leads_within : ∃ fd, FunD K d_leads_within.name d_leads_within.qual d_leads_within.params d_leads_within.body d_leads_within.scope (d_leads_within.dvs K) (d_leads_within.kws K) (He.fAd K d_leads_within.at_) fd
  d_Gate___init__ : ∃ fd, FunD K d_Gate___init__.name d_Gate___init__.qual d_Gate___init__.params d_Gate___init__.body d_Gate___init__.scope (d_Gate___init__.dvs K) (d_Gate___init__.kws K) (He.fAd K d_Gate___init__.at_) fd
  d_Gate___eq__ : ∃ fd, FunD K d_Gate___eq__.name d_Gate___eq__.qual d_Gate___eq__.params d_Gate___eq__.body d_Gate___eq__.scope (d_Gate___eq__.dvs K) (d_Gate___eq__.kws K) (He.fAd K d_Gate___eq__.at_) fd
  d_Kind___init__ : ∃ fd, FunD K d_Kind___init__.name d_Kind___init__.qual d_Kind___init__.params d_Kind___init__.body d_Kind___init__.scope (d_Kind___init__.dvs K) (d_Kind___init__.kws K) (He.fAd K d_Kind___init__.at_) fd
  d_Kind___eq__ : ∃ fd, FunD K d_Kind___eq__.name d_Kind___eq__.qual d_Kind___eq__.params d_Kind___eq__.body d_Kind___eq__.scope (d_Kind___eq__.dvs K) (d_Kind___eq__.kws K) (He.fAd K d_Kind___eq__.at_) fd
  d_Kind___len__ : ∃ fd, FunD K d_Kind___len__.name d_Kind___len__.qual d_Kind___len__.params d_Kind___len__.body d_Kind___len__.scope (d_Kind___len__.dvs K) (d_Kind___len__.kws K) (He.fAd K d_Kind___len__.at_) fd
  d_parsed_rows : ∃ fd, FunD K d_parsed_rows.name d_parsed_rows.qual d_parsed_rows.params d_parsed_rows.body d_parsed_rows.scope (d_parsed_rows.dvs K) (d_parsed_rows.kws K) (He.fAd K d_parsed_rows.at_) fd
  d_check_members : ∃ fd, FunD K d_check_members.name d_check_members.qual d_check_members.params d_check_members.body d_check_members.scope (d_check_members.dvs K) (d_check_members.kws K) (He.fAd K d_check_members.at_) fd
  d__law_pool : ∃ fd, FunD K d__law_pool.name d__law_pool.qual d__law_pool.params d__law_pool.body d__law_pool.scope (d__law_pool.dvs K) (d__law_pool.kws K) (He.fAd K d__law_pool.at_) fd
  d__law_draw : ∃ fd, FunD K d__law_draw.name d__law_draw.qual d__law_draw.params d__law_draw.body d__law_draw.scope (d__law_draw.dvs K) (d__law_draw.kws K) (He.fAd K d__law_draw.at_) fd
  d__law_tag : ∃ fd, FunD K d__law_tag.name d__law_tag.qual d__law_tag.params d__law_tag.body d__law_tag.scope (d__law_tag.dvs K) (d__law_tag.kws K) (He.fAd K d__law_tag.at_) fd
  d__law_new : ∃ fd, FunD K d__law_new.name d__law_new.qual d__law_new.params d__law_new.body d__law_new.scope (d__law_new.dvs K) (d__law_new.kws K) (He.fAd K d__law_new.at_) fd
  d__law_line : ∃ fd, FunD K d__law_line.name d__law_line.qual d__law_line.params d__law_line.body d__law_line.scope (d__law_line.dvs K) (d__law_line.kws K) (He.fAd K d__law_line.at_) fd
  d__law_lines : ∃ fd, FunD K d__law_lines.name d__law_lines.qual d__law_lines.params d__law_lines.body d__law_lines.scope (d__law_lines.dvs K) (d__law_lines.kws K) (He.fAd K d__law_lines.at_) fd
  d__law_is : ∃ fd, FunD K d__law_is.name d__law_is.qual d__law_is.params d__law_is.body d__law_is.scope (d__law_is.dvs K) (d__law_is.kws K) (He.fAd K d__law_is.at_) fd
  d__law_tags : ∃ fd, FunD K d__law_tags.name d__law_tags.qual d__law_tags.params d__law_tags.body d__law_tags.scope (d__law_tags.dvs K) (d__law_tags.kws K) (He.fAd K d__law_tags.at_) fd
  d__law_other : ∃ fd, FunD K d__law_other.name d__law_other.qual d__law_other.params d__law_other.body d__law_other.scope (d__law_other.dvs K) (d__law_other.kws K) (He.fAd K d__law_other.at_) fd
  d__law_right : ∃ fd, FunD K d__law_right.name d__law_right.qual d__law_right.params d__law_right.body d__law_right.scope (d__law_right.dvs K) (d__law_right.kws K) (He.fAd K d__law_right.at_) fd
  d_law : ∃ fd, FunD K d_law.name d_law.qual d_law.params d_law.body d_law.scope (d_law.dvs K) (d_law.kws K) (He.fAd K d_law.at_) fd
def fa : List He.Fa := [.free "isinstance", .free "str", .free "len", .free "all", .free "int", .free "tuple", .free "range", .free "enumerate", .free "sum", .free "abs", .free "divmod", .free "repr", .free "max", .free "min", .int "MOST_ROWS" 10, .int "MOST_VALUE" 3, .int "LONGEST_NAME" 8, .str "LETTERS" "abcdefghijklmnopqrstuvwxyz", .str "SIGNS" "abcdefghijklmnopqrstuvwxyz0123456789", .str "DIGITS" "0123456789", .int "MOST_GOALS" 4, .glo "WrongValue", .glo "InvalidName", .glo "InvalidFlag", .glo "InvalidRows", .glo "InvalidMembers", .glo "Row", .cls "Row", .noat "Row" "goal", .noat "Row" "text", .noat "Row" "label", .noat "Row" "word", .noat "Row" "gate", .noat "Row" "value", .noat "Row" "goals", .mkr "Row", .glo "Gate", .cls "Gate", .noat "Gate" "called", .noat "Gate" "outer", .mkr "Gate", .glo "Kind", .cls "Kind", .noat "Kind" "called", .noat "Kind" "texts", .noat "Kind" "parsed", .noat "Kind" "any_number", .noat "Kind" "begun", .mkr "Kind", .glo "is_name", .glo "digit_of", .glo "row_of_words", .glo "has_right_parts", .glo "parsed_row", .glo "leads_within", .glo "parsed_rows", .glo "check_members", .glo "_law_pool", .glo "_law_draw", .glo "_law_tag", .glo "_law_new", .glo "_law_line", .glo "_law_lines", .glo "_law_is", .glo "_law_tags", .glo "_law_other", .glo "_law_right", .glo "law"]
def fn : List He.DefD := [d_is_name, d_Row___init__, d_digit_of, d_row_of_words, d_has_right_parts, d_parsed_row, d_leads_within, d_Gate___init__, d_Gate___eq__, d_Kind___init__, d_Kind___eq__, d_Kind___len__, d_parsed_rows, d_check_members, d__law_pool, d__law_draw, d__law_tag, d__law_new, d__law_line, d__law_lines, d__law_is, d__law_tags, d__law_other, d__law_right, d_law]
def exs : List (PySem.W.Frag → Bool) := [clsIB "Row", noB "Row" "__bool__", noB "Row" "__len__", clsJB "Row" "Gate", clsJB "Row" "Kind", clsIB "Gate", eqCB "Gate", noB "Gate" "__bool__", noB "Gate" "__len__", clsJB "Gate" "Row", clsJB "Gate" "Kind", clsIB "Kind", eqCB "Kind", noB "Kind" "__bool__", lenB "Kind", clsJB "Kind" "Row", clsJB "Kind" "Gate", (fun K => noneIn K (kwdAt ("Row", some "__init__") "goals" K)), (fun K => noneIn K (kwdAt ("Kind", some "__init__") "members" K))]
def gets : List GetD := [⟨"Gate", "name", "property", defArgs s_Gate_name, defBody s_Gate_name, defScope s_Gate_name⟩, ⟨"Gate", "within", "property", defArgs s_Gate_within, defBody s_Gate_within, defScope s_Gate_within⟩, ⟨"Kind", "name", "property", defArgs s_Kind_name, defBody s_Kind_name, defScope s_Kind_name⟩, ⟨"Kind", "rows", "property", defArgs s_Kind_rows, defBody s_Kind_rows, defScope s_Kind_rows⟩, ⟨"Kind", "many", "property", defArgs s_Kind_many, defBody s_Kind_many, defScope s_Kind_many⟩, ⟨"Kind", "members", "property", defArgs s_Kind_members, defBody s_Kind_members, defScope s_Kind_members⟩]
theorem tx_of {K : PySem.W.Frag} {h : Heap} {mg : Str → Option Value} (X : K.In h) (G : h.Ns mainGlobals mg) (cg : SaysG fa fn gets exs K) : Tx K mg := by
  have c := cg.d
  exact {
    f_isinstance := He.free_ok X G (c.fact 0 rfl)
    f_str := He.free_ok X G (c.fact 1 rfl)
    f_len := He.free_ok X G (c.fact 2 rfl)
    f_all := He.free_ok X G (c.fact 3 rfl)
    f_int := He.free_ok X G (c.fact 4 rfl)
    f_tuple := He.free_ok X G (c.fact 5 rfl)
    f_range := He.free_ok X G (c.fact 6 rfl)
    f_enumerate := He.free_ok X G (c.fact 7 rfl)
    f_sum := He.free_ok X G (c.fact 8 rfl)
    f_abs := He.free_ok X G (c.fact 9 rfl)
    f_divmod := He.free_ok X G (c.fact 10 rfl)
    f_repr := He.free_ok X G (c.fact 11 rfl)
    f_max := He.free_ok X G (c.fact 12 rfl)
    f_min := He.free_ok X G (c.fact 13 rfl)
    g_MOST_ROWS := (He.int_ok X G (c.fact 14 rfl)).elim fun t e => ⟨_, e, t, rfl⟩
    g_MOST_VALUE := (He.int_ok X G (c.fact 15 rfl)).elim fun t e => ⟨_, e, t, rfl⟩
    g_LONGEST_NAME := (He.int_ok X G (c.fact 16 rfl)).elim fun t e => ⟨_, e, t, rfl⟩
    g_LETTERS := (He.str_ok X G (c.fact 17 rfl)).elim fun t e => ⟨_, e, t, rfl⟩
    g_SIGNS := (He.str_ok X G (c.fact 18 rfl)).elim fun t e => ⟨_, e, t, rfl⟩
    g_DIGITS := (He.str_ok X G (c.fact 19 rfl)).elim fun t e => ⟨_, e, t, rfl⟩
    g_MOST_GOALS := (He.int_ok X G (c.fact 20 rfl)).elim fun t e => ⟨_, e, t, rfl⟩
    g_WrongValue := ⟨_, He.glo_ok X G (c.fact 21 rfl), rfl⟩
    g_InvalidName := ⟨_, He.glo_ok X G (c.fact 22 rfl), rfl⟩
    g_InvalidFlag := ⟨_, He.glo_ok X G (c.fact 23 rfl), rfl⟩
    g_InvalidRows := ⟨_, He.glo_ok X G (c.fact 24 rfl), rfl⟩
    g_InvalidMembers := ⟨_, He.glo_ok X G (c.fact 25 rfl), rfl⟩
    g_Row := ⟨_, He.glo_ok X G (c.fact 26 rfl), rfl⟩
    c_Row := He.cls_ok (c.fact 27 rfl)
    na_Row_goal := He.noat_ok (c.fact 28 rfl)
    na_Row_text := He.noat_ok (c.fact 29 rfl)
    na_Row_label := He.noat_ok (c.fact 30 rfl)
    na_Row_word := He.noat_ok (c.fact 31 rfl)
    na_Row_gate := He.noat_ok (c.fact 32 rfl)
    na_Row_value := He.noat_ok (c.fact 33 rfl)
    na_Row_goals := He.noat_ok (c.fact 34 rfl)
    mk_Row := He.mkr_ok (c.fact 35 rfl)
    g_Gate := ⟨_, He.glo_ok X G (c.fact 36 rfl), rfl⟩
    c_Gate := He.cls_ok (c.fact 37 rfl)
    na_Gate_called := He.noat_ok (c.fact 38 rfl)
    na_Gate_outer := He.noat_ok (c.fact 39 rfl)
    mk_Gate := He.mkr_ok (c.fact 40 rfl)
    g_Kind := ⟨_, He.glo_ok X G (c.fact 41 rfl), rfl⟩
    c_Kind := He.cls_ok (c.fact 42 rfl)
    na_Kind_called := He.noat_ok (c.fact 43 rfl)
    na_Kind_texts := He.noat_ok (c.fact 44 rfl)
    na_Kind_parsed := He.noat_ok (c.fact 45 rfl)
    na_Kind_any_number := He.noat_ok (c.fact 46 rfl)
    na_Kind_begun := He.noat_ok (c.fact 47 rfl)
    mk_Kind := He.mkr_ok (c.fact 48 rfl)
    n_is_name := He.glo_ok X G (c.fact 49 rfl)
    n_digit_of := He.glo_ok X G (c.fact 50 rfl)
    n_row_of_words := He.glo_ok X G (c.fact 51 rfl)
    n_has_right_parts := He.glo_ok X G (c.fact 52 rfl)
    n_parsed_row := He.glo_ok X G (c.fact 53 rfl)
    n_leads_within := He.glo_ok X G (c.fact 54 rfl)
    n_parsed_rows := He.glo_ok X G (c.fact 55 rfl)
    n_check_members := He.glo_ok X G (c.fact 56 rfl)
    n__law_pool := He.glo_ok X G (c.fact 57 rfl)
    n__law_draw := He.glo_ok X G (c.fact 58 rfl)
    n__law_tag := He.glo_ok X G (c.fact 59 rfl)
    n__law_new := He.glo_ok X G (c.fact 60 rfl)
    n__law_line := He.glo_ok X G (c.fact 61 rfl)
    n__law_lines := He.glo_ok X G (c.fact 62 rfl)
    n__law_is := He.glo_ok X G (c.fact 63 rfl)
    n__law_tags := He.glo_ok X G (c.fact 64 rfl)
    n__law_other := He.glo_ok X G (c.fact 65 rfl)
    n__law_right := He.glo_ok X G (c.fact 66 rfl)
    n_law := He.glo_ok X G (c.fact 67 rfl)
    d_is_name := c.def_ 0 rfl
    d_Row___init__ := c.def_ 1 rfl
    d_digit_of := c.def_ 2 rfl
    d_row_of_words := c.def_ 3 rfl
    d_has_right_parts := c.def_ 4 rfl
    d_parsed_row := c.def_ 5 rfl
    d_leads_within := c.def_ 6 rfl
    d_Gate___init__ := c.def_ 7 rfl
    d_Gate___eq__ := c.def_ 8 rfl
    d_Kind___init__ := c.def_ 9 rfl
    d_Kind___eq__ := c.def_ 10 rfl
    d_Kind___len__ := c.def_ 11 rfl
    d_parsed_rows := c.def_ 12 rfl
    d_check_members := c.def_ 13 rfl
    d__law_pool := c.def_ 14 rfl
    d__law_draw := c.def_ 15 rfl
    d__law_tag := c.def_ 16 rfl
    d__law_new := c.def_ 17 rfl
    d__law_line := c.def_ 18 rfl
    d__law_lines := c.def_ 19 rfl
    d__law_is := c.def_ 20 rfl
    d__law_tags := c.def_ 21 rfl
    d__law_other := c.def_ 22 rfl
    d__law_right := c.def_ 23 rfl
    d_law := c.def_ 24 rfl
    i_Row := clsI_of (cg.more 0 rfl)
    nb_Row := no_of (cg.more 1 rfl)
    nl_Row := no_of (cg.more 2 rfl)
    j_Row_Gate := clsJ_of (cg.more 3 rfl)
    j_Row_Kind := clsJ_of (cg.more 4 rfl)
    i_Gate := clsI_of (cg.more 5 rfl)
    e_Gate := eqC_of (cg.more 6 rfl)
    nb_Gate := no_of (cg.more 7 rfl)
    nl_Gate := no_of (cg.more 8 rfl)
    j_Gate_Row := clsJ_of (cg.more 9 rfl)
    j_Gate_Kind := clsJ_of (cg.more 10 rfl)
    i_Kind := clsI_of (cg.more 11 rfl)
    e_Kind := eqC_of (cg.more 12 rfl)
    nb_Kind := no_of (cg.more 13 rfl)
    l_Kind := len_of (cg.more 14 rfl)
    j_Kind_Row := clsJ_of (cg.more 15 rfl)
    j_Kind_Gate := clsJ_of (cg.more 16 rfl)
    kt_Row___init___goals := noneIn_of (cg.more 17 rfl)
    kt_Kind___init___members := noneIn_of (cg.more 18 rfl)
    p_Gate_name := fun P w base => getP_of (d := ⟨"Gate", "name", "property", defArgs s_Gate_name, defBody s_Gate_name, defScope s_Gate_name⟩) (cg.getter 0 rfl).2 (cg.getter 0 rfl).1 rfl (He.cls_ok (c.fact 37 rfl)) (He.noat_ok (c.fact 38 rfl)) sc_Gate_name rfl fun _ _ _ _ _ _ us hl => match us, hl with | [_], _ => rfl
    p_Gate_within := fun P w base => getP_of (d := ⟨"Gate", "within", "property", defArgs s_Gate_within, defBody s_Gate_within, defScope s_Gate_within⟩) (cg.getter 1 rfl).2 (cg.getter 1 rfl).1 rfl (He.cls_ok (c.fact 37 rfl)) (He.noat_ok (c.fact 39 rfl)) sc_Gate_within rfl fun _ _ _ _ _ _ us hl => match us, hl with | [_], _ => rfl
    p_Kind_name := fun P w base => getP_of (d := ⟨"Kind", "name", "property", defArgs s_Kind_name, defBody s_Kind_name, defScope s_Kind_name⟩) (cg.getter 2 rfl).2 (cg.getter 2 rfl).1 rfl (He.cls_ok (c.fact 42 rfl)) (He.noat_ok (c.fact 43 rfl)) sc_Kind_name rfl fun _ _ _ _ _ _ us hl => match us, hl with | [_], _ => rfl
    p_Kind_rows := fun P w base => getP_of (d := ⟨"Kind", "rows", "property", defArgs s_Kind_rows, defBody s_Kind_rows, defScope s_Kind_rows⟩) (cg.getter 3 rfl).2 (cg.getter 3 rfl).1 rfl (He.cls_ok (c.fact 42 rfl)) (He.noat_ok (c.fact 44 rfl)) sc_Kind_rows rfl fun _ _ _ _ _ _ us hl => match us, hl with | [_], _ => rfl
    p_Kind_many := fun P w base => getP_of (d := ⟨"Kind", "many", "property", defArgs s_Kind_many, defBody s_Kind_many, defScope s_Kind_many⟩) (cg.getter 4 rfl).2 (cg.getter 4 rfl).1 rfl (He.cls_ok (c.fact 42 rfl)) (He.noat_ok (c.fact 46 rfl)) sc_Kind_many rfl fun _ _ _ _ _ _ us hl => match us, hl with | [_], _ => rfl
    p_Kind_members := fun P w base => getP_of (d := ⟨"Kind", "members", "property", defArgs s_Kind_members, defBody s_Kind_members, defScope s_Kind_members⟩) (cg.getter 5 rfl).2 (cg.getter 5 rfl).1 rfl (He.cls_ok (c.fact 42 rfl)) (He.noat_ok (c.fact 47 rfl)) sc_Kind_members rfl fun _ _ _ _ _ _ us hl => match us, hl with | [_], _ => rfl
  }
abbrev R : PySem.W.OpenRow := PySem.W.OpenLaw.row PySem.Challenge.rw_gatecrowds_k04_kinds_made
abbrev hk : PySem.W.Hook := hookG 6 fa fn gets exs
def ob (s : PySem.W.SharedT) : AlG := obsKG 6 fa fn gets exs (HandSHeadRun.getT s)
theorem ob_eq (s : PySem.W.SharedT) : ob s = hk.obs s.abs := obsKG_eq (HandSHeadRun.getT_eq s)
def names : List PySem.Str := (["WrongValue", "InvalidName", "InvalidFlag", "InvalidRows", "InvalidMembers", "MOST_ROWS", "MOST_VALUE", "LONGEST_NAME", "LETTERS", "SIGNS", "is_name", "DIGITS", "MOST_GOALS", "Row", "digit_of", "row_of_words", "has_right_parts", "parsed_row", "leads_within", "Gate"] : List PySem.Str) ++ (["Kind", "parsed_rows", "check_members", "_law_pool", "_law_draw", "_law_tag", "_law_new", "_law_line", "_law_lines", "_law_is", "_law_tags", "_law_other", "_law_right"] : List PySem.Str)
theorem run (w : World) : HandSHeadRun.RunEq R (PySem.W.view R.prog [38]) hk ob 20000 names w := by
  intro os
  kernel_rfl
end G
/-! ### small tactics -/
local macro_rules | `(tactic| walk_at "g hp") => `(tactic| first
  | assumption
  | exact L2.upd_same
  | (refine G.upd_get (by assumption) ?_; walk_at "g hp")
  | (refine G.same_get (by assumption) ?_; walk_at "g hp")
  | (refine G.Pl.obj (by assumption) (by walk_at "g pool") ?_ rfl; walk_at "g hp")
  | (refine G.Pl.get (by assumption) ?_ (by walk_at "g ne"); walk_at "g hp"))
local macro_rules | `(tactic| walk_at "g but") => `(tactic| first
  | assumption
  | exact G.But.refl _ _
  | exact L2.Same.refl _
  | (refine G.But.at ?_; walk_at "g but")
  | (refine G.But.new ?_ (by assumption); walk_at "g but")
  | (refine L2.Same.new ?_ (by assumption); walk_at "g but")
  | (refine G.Pl.new ?_ (by assumption); walk_at "g but")
  | (refine G.Pl.own ?_ (by assumption) (by walk_at "g ne"); walk_at "g but")
  | (refine G.Pl.same ?_ (by assumption); walk_at "g but")
  | (refine G.Pl.trans ?_ (by assumption); walk_at "g but")
  | (refine G.But.same ?_ (by assumption); walk_at "g but")
  | (refine G.But.of ?_; walk_at "g but")
  | (refine L2.Same.trans ?_ (by assumption); walk_at "g but")
  | (refine G.Pl.refl ?_; walk_at "g pool"))
local macro_rules | `(tactic| walk_at "g ne") => `(tactic| first
  | assumption
  | (refine G.PoolAt.ne_new ?_ (by assumption); walk_at "g pool"))
local macro_rules | `(tactic| walk_at "g pool") => `(tactic| first
  | assumption
  | exact G.Pl.pool (by assumption)
  | (refine G.PoolAt.new ?_ (by assumption); walk_at "g pool")
  | (refine G.PoolAt.same ?_ (by assumption); walk_at "g pool"))
local macro_rules | `(tactic| walk_at "g and") => `(tactic| first
  | (show (_ : Int) < _; omega)
  | exact rfl
  | assumption
  | exact L2.upd_same
  | exact ⟨_, rfl⟩
  | exact L2.ClsV.ty _
  | exact L2.ClsV.own _
  | exact L2.TyX.base (L2.TyOf.str _)
  | exact L2.TyX.base (L2.TyOf.int _)
  | exact L2.TyX.base (L2.TyOf.bl _)
  | exact L2.TyX.base L2.TyOf.non
  | exact L2.kit_ty (by decide +kernel)
  | exact L2.SqL.of (by walk_at "g hp")
  | exact L2.SqT.of (by walk_at "g hp")
  | exact Or.inl (by assumption)
  | exact Or.inr (by assumption)
  | exact Or.inr ((show ∀ H, L2.SqT _ H _ _ by assumption) _)
  | exact (show ∀ H, L2.SqT _ H _ _ by assumption) _
  | exact G.sqT_ty (by assumption)
  | exact G.sqT_ty ((show ∀ H, L2.SqT _ H _ _ by assumption) _)
  | exact Or.inl (L2.SqL.of (by walk_at "g hp"))
  | exact Or.inr (L2.SqT.of (by walk_at "g hp"))
  | walk_at "g pool"
  | (show (_ : Int) < _; decide)
  | (show (_ : Int) < _; omega)
  | (show (_ : Int) ≤ _; omega)
  | exact ⟨by decide, by decide, by decide⟩
  | exact ⟨by decide, by decide⟩
  | exact ⟨by omega, by omega⟩
  | exact Or.inl ⟨by omega, by omega⟩
  | exact Or.inr ⟨by omega, by omega⟩
  | (show (_ : Int) ≤ _; decide)
  | (show (_ : Nat) ≤ _; exact Nat.le_of_ble_eq_true rfl)
  | (show (_ : Nat) < _; exact Nat.le_of_ble_eq_true rfl)
  | (show (_ : Nat) ≤ _; omega)
  | (show (_ : Nat) ≤ _; simp only [G.cat_len]; omega)
  | walk_at "g hp")
local macro_rules | `(tactic| walk_at "rd") => `(tactic| repeat (first
  | (apply And.intro; (focus (walk_at "g and")))
  | (refine L2.iteT ?_)
  | (refine Or.inl ⟨_, rfl, ?_⟩)
  | (refine Or.inr ⟨_, rfl, ?_⟩)
  | (refine L2.iteF ?_)
  | (refine G.iteKT (by decide +kernel) ?_)
  | (refine G.iteKF (by decide +kernel) ?_)
  | (apply Exists.intro (α := L2.V))
  | (apply Exists.intro (α := Int))
  | (apply Exists.intro (α := PySem.Str))
  | (apply Exists.intro (α := Bool))
  | (apply Exists.intro (α := PySem.Value))
  | (apply Exists.intro (α := PySem.Addr))
  | (apply Exists.intro (α := List L2.V))
  | (apply Exists.intro (α := List (PySem.Str × L2.V)))
  | (apply Exists.intro (α := Nat))
  | (apply Exists.intro (α := List PySem.Str))
  | (apply Exists.intro (α := List Bool))
  | (apply Exists.intro (α := List Nat))
  ))

namespace G
open PySem PySem.Spec PyProof.Rows L2
/-! ### names -/
def lettersS : Str := "abcdefghijklmnopqrstuvwxyz"
def signsS : Str := "abcdefghijklmnopqrstuvwxyz0123456789"
def isLetter (c : Nat) : Bool := decide (c ∈ lettersS.cps.toList)
def isSign (c : Nat) : Bool := decide (c ∈ signsS.cps.toList)
def isNameL (l : List Nat) : Bool := decide (1 ≤ l.length) && decide (l.length ≤ 8) && isLetter (l.headD 0) && l.all isSign
def isNameS (z : Str) : Bool := isNameL z.cps.toList
theorem isNameS_eq (z : Str) : isNameS z = (decide (1 ≤ z.length) && decide (z.length ≤ 8) && isLetter (z.cps.toList.headD 0) && z.cps.toList.all isSign) := by
  unfold isNameS isNameL
  rw [str_len]
theorem at_head {c : Nat} {r : List Nat} : atI (c :: r) 0 = some c := atI_nat (j := 0) rfl
def fSign : V → V
  | .str s => .bl (isSign (s.cps.getD 0 0))
  | _ => .non
theorem signs_map (z : Str) : (signs z).map fSign = (z.cps.toList.map isSign).map V.bl := by
  unfold signs
  rw [List.map_map, List.map_map]
  rfl
theorem all_map {α : Type} (l : List α) (f : α → Bool) : (l.map f).all id = l.all f := by
  induction l with
  | nil => rfl
  | cons a l ih => simp
section
variable {P : Program} {w : World} {K : PySem.W.Frag} {mg : Str → Option Value} {base : Heap} {CX : CXT}
def spIsName (K : PySem.W.Frag) : Sp := fun vs H Q _ => ∃ x : V, vs = [x] ∧
  ((∃ z : Str, x = .str z ∧ z.length ≤ sizeLine ∧ ∀ H', Same H H' → Q (.bl (isNameS z)) H') ∨
   (∃ t, TyX K H x t ∧ PySem.W.kitOne K t (.type "str") = some false ∧ Q (.bl false) H))
theorem ok_is_name {f : Addr} {fd : FuncData} {dvs : List V} {kws : List (Str × V)} (T : Tx K mg)
    (F : FunD K "is_name" "is_name" (defArgs s_is_name) (defBody s_is_name) (defScope s_is_name) dvs kws f fd) :
    FnOk P w K mg base CX 1 f fd ["value"] (spIsName K) := by
  refine F.ok sc_is_name (fun vs H Q E h => ?_) (fun cdv A outer s H vs Q E hr h => ?_)
  · obtain ⟨x, rfl, _⟩ := h
    rfl
  · obtain ⟨x, rfl, h⟩ := h
    refine ⟨_, PSs.nox (pss_cons (ps_if (PW.pt (pw_or (pt_not (pt_val (pe_callB call_isi rfl T.f_isinstance (by decide +kernel) (pa_cons (pv 0) (pa_cons (pe_bltn (v := .ty "str") (u := .type "str") rfl T.f_str (by decide +kernel) rfl) pa_nil))))) (pw_or1 (pt_not (pt_chain op_le op_le pe_int (pe_callB call_len_str rfl T.f_len (by decide +kernel) (pa_cons (pv 0) pa_nil)) (pe_gl T.g_LONGEST_NAME)))))) (pss_one (ps_ret pe_bl)) pss_nil)
    (pss_one (ps_ret (pe_and (pe_cmpR op_in_sign (pe_ix ix_str (pv 0) pe_int (fun _ _ => rfl)) (pe_gl T.g_LETTERS) rfl) (pe_one (pe_callB (cr_all rfl) rfl T.f_all (by decide +kernel) (pa_cons (pe_lc (own := [("sign", 1)]) (g := gName 1) (tt := tYes) rfl sc_is_name.nd (pi_str (pv 0)) (blkOk_by (own := [("sign", 1)]) (N := n_is_name) (sc := defScope s_is_name) (by decide +kernel)) (fun _ _ _ _ _ => (pg_name (i := 1) sc_is_name.nd rfl (Or.inl rfl))) (fun _ _ _ _ _ => pts_nil) (fun _ _ _ _ _ => (pe_cmpR op_in_sign (pv 1) (pe_gl T.g_SIGNS) rfl))) pa_nil))))))), ?_⟩
    rcases h with ⟨z, rfl, hz, q⟩ | ⟨t, ty, ek, q⟩
    · -- a text
      walk_at "rd"
      refine iteD (fun h1 => ?_) (fun h1 => ?_)
      · walk_at "rd"
        refine iteND (fun h2 => ?_) (fun h2 => ?_)
        · have e : isNameS z = false := by
            rw [isNameS_eq, decide_eq_false (show ¬ z.length ≤ 8 by omega)]
            simp
          exact ret_eq (q H (Same.refl H)) (by rw [e])
        · obtain ⟨c, r, ez⟩ : ∃ c r, z.cps.toList = c :: r := by
            rw [str_len] at h1
            cases e : z.cps.toList with
            | nil => rw [e] at h1; simp at h1
            | cons c r => exact ⟨c, r, rfl⟩
          walk_at "rd"
          apply And.intro
          · rw [ez]
            exact at_head
          walk_at "rd"
          refine iteD (fun h3 => ?_) (fun h3 => ?_)
          · walk_at "rd"
            intro D nD
            refine lcP (wk_str z) fSign (fun _ => trivial) (by rw [signs_len]; have := str_len z; simp at this; rw [sizeLine_eq]; omega) ?_ ?_
            · intro i x acc Q' hx hq
              obtain ⟨u, hu, rfl⟩ : ∃ u, z.cps.toList[i]? = some u ∧ x = V.str ⟨#[u]⟩ := by
                unfold signs at hx
                rw [List.getElem?_map] at hx
                cases e : z.cps.toList[i]? with
                | none => rw [e] at hx; cases hx
                | some u => rw [e] at hx; exact ⟨u, rfl, (Option.some.inj hx).symm⟩
              walk_at "rd"
              exact hq
            · refine ⟨D, z.cps.toList.map isSign, rfl, SqL.of ?_, ?_⟩
              · rw [signs_map]; exact upd_same
              · have e : isNameS z = (z.cps.toList.map isSign).all id := by
                  rw [isNameS_eq, all_map, decide_eq_true (show 1 ≤ z.length by omega), decide_eq_true (show z.length ≤ 8 by omega), ez]
                  have hl : isLetter c = true := decide_eq_true h3
                  simp [hl]
                exact ret_eq (q _ ((Same.refl H).new nD)) (by rw [e])
          · have e : isNameS z = false := by
              rw [isNameS_eq, ez]
              have hl : isLetter c = false := decide_eq_false h3
              simp [hl]
            exact ret_eq (q H (Same.refl H)) (by rw [e])
      · walk_at "rd"
        have e : isNameS z = false := by
          rw [isNameS_eq, decide_eq_false (show ¬ 1 ≤ z.length by omega)]
          simp
        exact ret_eq (q H (Same.refl H)) (by rw [e])
    · walk_at "rd"
      exact q
theorem c_is_name (T : Tx K mg) : CalO P w K mg base CX 1 "is_name" [] (spIsName K) := by
  obtain ⟨fd, F⟩ := T.d_is_name
  exact .mk F (ok_is_name T F) T.n_is_name fun _ _ _ _ _ _ us hl => match us, hl with | [_], _ => rfl
/-! ### gates -/
abbrev cG (K : PySem.W.Frag) : Addr := He.ga K "Gate"
def gateF (n w : V) : List (Str × V) := [("called", n), ("outer", w)]
theorem gate_put {n w : V} : putF "outer" w (putF "called" n []) = gateF n w := by
  show (if ("called" : Str) = "outer" then _ else _) = _
  rw [if_neg (by decide +kernel)]
  rfl
/-- a name, or None -/
def NameOr (w : V) : Prop := w = .non ∨ ∃ z, w = .str z ∧ z.length ≤ sizeLine ∧ isNameS z = true
def spGate (K : PySem.W.Frag) : Sp := fun vs H Q _ => ∃ (p dx : Addr) (n : Str) (w : V), vs = [.ref p, .str n, w] ∧ H p = some (.ins (cG K) dx []) ∧
  n.length ≤ sizeLine ∧ isNameS n = true ∧ NameOr w ∧
  ∀ H', But p H H' → H' p = some (.ins (cG K) dx (gateF (.str n) w)) → Q .non H'
theorem ok_Gate {f : Addr} {fd : FuncData} {dvs : List V} {kws : List (Str × V)} (T : Tx K mg)
    (F : FunD K "__init__" "Gate.__init__" (defArgs s_Gate___init__) (defBody s_Gate___init__) (defScope s_Gate___init__) dvs kws f fd) :
    FnOk P w K mg base CX0 2 f fd ["self", "name", "within"] (spGate K) := by
  have c_is_name : CalO P w K mg base CX0 1 "is_name" [] (spIsName K) := c_is_name T
  refine F.ok sc_Gate___init__ (fun vs H Q E h => ?_) (fun cdv A outer s H vs Q E hr h => ?_)
  · obtain ⟨p, dx, n, w, rfl, _⟩ := h
    rfl
  · obtain ⟨p, dx, n, w, rfl, hp, hn, vn, hw, q⟩ := h
    refine ⟨_, PSs.nox (pss_cons (ps_if (pt_not (pt_val (pe_calO c_is_name (hr.mono (by decide)) pass0 (pa_cons (pv 1) pa_nil)))) (pss_one ps_never) pss_nil)
    (pss_cons (ps_if (PW.pt (pw_and (pt_cmpR op_notN (pv 2) pe_non (nomark _)) (pw_and1 (pt_not (pt_val (pe_calO c_is_name (hr.mono (by decide)) pass0 (pa_cons (pv 2) pa_nil))))))) (pss_one ps_never) pss_nil)
    (pss_one (ps_asg (pe_tup (pa_cons (pv 1) (pa_cons (pv 2) pa_nil))) (pg_tup rfl (pgs_cons (pg_attr (pv 0)) (pgs_cons (pg_attr (pv 0)) pgs_nil))))))), ?_⟩
    have cl := T.c_Gate
    have n1 := T.na_Gate_called
    have n2 := T.na_Gate_outer
    walk_at "rd"
    intro H1 s1
    rw [vn]
    rcases hw with rfl | ⟨z, rfl, hz, vz⟩
    · walk_at "rd"
      intro t nt
      walk_at "rd"
      refine q _ (by walk_at "g but") ?_
      rw [upd_same, gate_put]
    · walk_at "rd"
      intro H2 s2
      rw [vz]
      walk_at "rd"
      intro t nt
      walk_at "rd"
      refine q _ (by walk_at "g but") ?_
      rw [upd_same, gate_put]
theorem gate_called {n w : V} : (gateF n w).lookup ("called" : Str) = some n := rfl
theorem gate_outer {n w : V} : (gateF n w).lookup ("outer" : Str) = some w := rfl
theorem scal_nameOr {w w' : V} (h : NameOr w) (h' : NameOr w') : scal w w' = true := by
  rcases h with rfl | ⟨z, rfl, _⟩ <;> rcases h' with rfl | ⟨z', rfl, _⟩ <;> rfl
def spGateEq (K : PySem.W.Frag) : Sp := fun vs H Q _ => ∃ (a dx : Addr) (n : Str) (w y : V), vs = [.ref a, y] ∧ H a = some (.ins (cG K) dx (gateF (.str n) w)) ∧ NameOr w ∧
  ((∃ (b dx' : Addr) (n' : Str) (w' : V), y = .ref b ∧ H b = some (.ins (cG K) dx' (gateF (.str n') w')) ∧ NameOr w' ∧ Q (.bl (decide (n = n') && decide (w = w'))) H) ∨
   (∃ t, TyX K H y t ∧ PySem.W.kitOne K t (.ref (cG K)) = some false ∧ Q (.bl false) H))
theorem ok_Gate_eq {f : Addr} {fd : FuncData} {dvs : List V} {kws : List (Str × V)} (T : Tx K mg)
    (F : FunD K "__eq__" "Gate.__eq__" (defArgs s_Gate___eq__) (defBody s_Gate___eq__) (defScope s_Gate___eq__) dvs kws f fd) :
    FnOk P w K mg base CX 1 f fd ["self", "other"] (spGateEq K) := by
  refine F.ok sc_Gate___eq__ (fun vs H Q E h => ?_) (fun cdv A outer s H vs Q E hr h => ?_)
  · obtain ⟨a, dx, n, w, y, rfl, _⟩ := h
    rfl
  · obtain ⟨a, dx, n, w', y, rfl, ha, hw, h⟩ := h
    have cl := T.c_Gate
    have ci := T.i_Gate
    have n1 := T.na_Gate_called
    have n2 := T.na_Gate_outer
    have me := ci.me
    refine ⟨_, PSs.nox (pss_one (ps_ret (pe_and (pe_callB call_isi rfl T.f_isinstance (by decide +kernel) (pa_cons (pv 1) (pa_cons (pe_gl T.g_Gate) pa_nil))) (pe_and (pe_cmpR op_eq (pe_fld (pv 0) rfl) (pe_fld (pv 1) rfl) (nomark _)) (pe_one (pe_cmpR op_eq (pe_fld (pv 0) rfl) (pe_fld (pv 1) rfl) (nomark _))))))), ?_⟩
    rcases h with ⟨b, dx', n', w'', rfl, hb, hw', q⟩ | ⟨t, ty, ek, q⟩
    · have ty : TyX K H (.ref b) (.ref (cG K)) := .base (ci.ty cl hb)
      have sc := scal_nameOr hw hw'
      walk_at "rd"
      refine iteD (fun h1 => ?_) (fun h1 => ?_)
      · walk_at "rd"
        refine ret_eq q ?_
        have e : n = n' := by injection h1
        rw [decide_eq_true e, Bool.true_and]
      · refine ret_eq q ?_
        have e : ¬ n = n' := fun z => h1 (by rw [z])
        rw [decide_eq_false e, Bool.false_and]
    · walk_at "rd"
      exact q
end
end G
namespace G
open PySem PySem.Spec PyProof.Rows L2
/-! ### the draws -/
theorem cut_take (xs : List V) (k : Nat) : cutV xs none (some (k : Int)) = xs.take k := by
  unfold cutV
  rw [HT.sIx_none, HT.sIx_nat]
  simp only [List.drop_zero, Nat.sub_zero]
  rcases Nat.le_total k xs.length with h | h
  · rw [Nat.min_eq_left h]
  · rw [Nat.min_eq_right h, List.take_of_length_le (Nat.le_refl _), List.take_of_length_le h]
section
variable {P : Program} {w : World} {K : PySem.W.Frag} {mg : Str → Option Value} {base : Heap} {CX : CXT}
def spPool (K : PySem.W.Frag) : Sp := fun vs H Q _ => ∃ (a : Addr) (ns : List Int) (k : Int), vs = [.ref a, .int k] ∧ SqL K H a (ns.map V.int) ∧
  ns.length ≤ 63 ∧ 0 ≤ k ∧ k ≤ 100 ∧ ∀ H' p, Same H H' → H p = none → PoolAt H' p → Q (.ref p) H'
theorem ok_pool {f : Addr} {fd : FuncData} {dvs : List V} {kws : List (Str × V)} (T : Tx K mg)
    (F : FunD K "_law_pool" "_law_pool" (defArgs s__law_pool) (defBody s__law_pool) (defScope s__law_pool) dvs kws f fd) :
    FnG P w K mg base CX 1 f fd ["_law_script", "_law_k"] (spPool K) := by
  refine okG F sc__law_pool (fun vs H Q E h => ?_) (fun cdv A outer s H vs Q E hr hgd h => ?_)
  · obtain ⟨a, ns, k, rfl, _⟩ := h
    rfl
  · obtain ⟨a, ns, k, rfl, ha, hl, k0, k1, q⟩ := h
    have hu := hr.units
    refine ⟨_, PSs.nox (pss_cons (ps_set (i := 2) sc__law_pool.nd rfl (Or.inl rfl) (pe_ifExp (pt_cmpR op_lt (pv 1) (pe_callB call_len_seq rfl T.f_len (by decide +kernel) (pa_cons (pv 0) pa_nil)) (nomark _)) (pe_ix ix_list (pv 0) (pv 1) (fun _ _ => rfl)) (pe_op op_add (pe_op op_mod (pe_callTy call_int1 rfl T.f_int (by decide +kernel) (pa_cons (pe_callB (cr_sum rfl) rfl T.f_sum (by decide +kernel) (pa_cons (pe_slice sl_list (pv 0) po_none (po_some pe_int)) pa_nil)) pa_nil)) pe_int) (pe_op op_mul (pe_op op_mul pe_int (pv 1)) (pv 1)))))
    (pss_cons (ps_set (i := 3) sc__law_pool.nd rfl (Or.inl rfl) (pe_ifExp (pt_cmpR op_ge (pe_callB call_abs rfl T.f_abs (by decide +kernel) (pa_cons (pv 2) pa_nil)) (pe_op op_pow pe_int pe_int) (nomark _)) (pe_callB call_abs rfl T.f_abs (by decide +kernel) (pa_cons (pv 2) pa_nil)) pe_int))
    (pss_one (ps_ret (pe_lst (pa_cons (pe_op op_mod (pe_callTy call_int1 rfl T.f_int (by decide +kernel) (pa_cons (pv 2) pa_nil)) pe_int) (pa_cons (pe_op op_add (pe_op op_mod (pe_callTy call_int1 rfl T.f_int (by decide +kernel) (pa_cons (pe_op op_add (pv 2) (pe_op op_mul pe_int (pv 1))) pa_nil)) pe_int) pe_int) (pa_cons (pv 3) pa_nil)))))))), ?_⟩
    walk_at "rd"
    refine iteD (fun h1 => ?_) (fun h1 => ?_)
    · rw [List.length_map] at h1
      obtain ⟨v, hv⟩ : ∃ v, ns[k.toNat]? = some v := ⟨_, List.getElem?_eq_getElem (by omega)⟩
      walk_at "rd"
      apply And.intro
      · exact at_of (j := k.toNat) (v := V.int v) (by omega) (by rw [List.getElem?_map, hv]; rfl)
      walk_at "rd"
      refine iteD (fun h2 => ?_) (fun h2 => ?_)
      all_goals
        walk_at "rd"
        intro p np
        refine q _ p (by walk_at "g but") np ⟨_, _, _, upd_same, by omega, by omega, by omega, by omega, ?_⟩
        try split
        all_goals omega
    · walk_at "rd"
      intro l nl
      walk_at "rd"
      refine ⟨ns.take 4, rfl, SqL.of ?_, ?_⟩
      · rw [upd_same, show (4 : Int) = ((4 : Nat) : Int) from rfl, cut_take, List.map_take]
      walk_at "rd"
      refine iteD (fun h2 => ?_) (fun h2 => ?_)
      all_goals
        walk_at "rd"
        intro p np
        refine q _ p (by walk_at "g but") (upd_free np) ⟨_, _, _, upd_same, by omega, by omega, by omega, by omega, ?_⟩
        try split
        all_goals omega
def spDraw : Sp := fun vs H Q _ => ∃ (p : Addr) (m : Int), vs = [.ref p, .int m] ∧ 0 < m ∧ m < 1073741824 ∧ PoolAt H p ∧
  ∀ H' r, Pl p H H' → 0 ≤ r → r < m → Q (.int r) H'
theorem ok_draw {f : Addr} {fd : FuncData} {dvs : List V} {kws : List (Str × V)} (T : Tx K mg)
    (F : FunD K "_law_draw" "_law_draw" (defArgs s__law_draw) (defBody s__law_draw) (defScope s__law_draw) dvs kws f fd) :
    FnG P w K mg base CX 1 f fd ["_law_pool_here", "_law_most"] spDraw := by
  refine okG F sc__law_draw (fun vs H Q E h => ?_) (fun cdv A outer s H vs Q E hr hgd h => ?_)
  · obtain ⟨p, m, rfl, _⟩ := h
    rfl
  · obtain ⟨p, m, rfl, m0, m1, ⟨a, b, d, hp, a0, a1, b0, b1, d0⟩, q⟩ := h
    have hu := hr.units
    refine ⟨_, PSs.nox (pss_cons (ps_asg (pe_op op_mod (pe_callTy call_int1 rfl T.f_int (by decide +kernel) (pa_cons (pe_op op_add (pe_op op_add (pe_op op_mul (pe_ix ix_list (pv 0) pe_int (fun _ _ => rfl)) pe_int) (pe_ix ix_list (pv 0) pe_int (fun _ _ => rfl))) pe_int) pa_nil)) pe_int) (pg_sub (pv 0) pe_int set_list))
    (pss_cons (ps_asg (pe_op op_mod (pe_callTy call_int1 rfl T.f_int (by decide +kernel) (pa_cons (pe_op op_add (pe_op op_add (pe_op op_mul (pe_ix ix_list (pv 0) pe_int (fun _ _ => rfl)) pe_int) (pe_op op_fdiv (pe_ix ix_list (pv 0) pe_int (fun _ _ => rfl)) pe_int)) pe_int) pa_nil)) pe_int) (pg_sub (pv 0) pe_int set_list))
    (pss_cons (ps_if (pt_cmpR op_gt (pe_ix ix_list (pv 0) pe_int (fun _ _ => rfl)) pe_int (nomark _)) (pss_cons (ps_asg (pe_callB call_divmod rfl T.f_divmod (by decide +kernel) (pa_cons (pe_ix ix_list (pv 0) pe_int (fun _ _ => rfl)) (pa_cons (pv 1) pa_nil))) (pg_tup rfl (pgs_cons (pg_sub (pv 0) pe_int set_list) (pgs_cons (pg_name (i := 2) sc__law_draw.nd rfl (Or.inl rfl)) pgs_nil))))
    (pss_one (ps_ret (pv 2)))) pss_nil)
    (pss_one (ps_ret (pe_op op_mod (pe_callTy call_int1 rfl T.f_int (by decide +kernel) (pa_cons (pe_op op_add (pe_op op_fdiv (pe_ix ix_list (pv 0) pe_int (fun _ _ => rfl)) pe_int) (pe_op op_fdiv (pe_ix ix_list (pv 0) pe_int (fun _ _ => rfl)) pe_int)) pa_nil)) (pv 1))))))), ?_⟩
    walk_at "rd"
    refine iteD (fun h1 => ?_) (fun h1 => ?_)
    · walk_at "rd"
      intro t nt
      walk_at "rd"
      refine q _ _ ⟨by walk_at "g but", _, _, _, upd_same, ?_⟩ (Int.emod_nonneg _ (by omega)) (Int.emod_lt_of_pos _ m0)
      have := Int.ediv_nonneg d0 (Int.le_of_lt m0)
      refine ⟨?_, ?_, ?_, ?_, ?_⟩ <;> omega
    · walk_at "rd"
      refine q _ _ ⟨by walk_at "g but", _, _, _, upd_same, ?_⟩ (Int.emod_nonneg _ (by omega)) (Int.emod_lt_of_pos _ m0)
      refine ⟨?_, ?_, ?_, ?_, ?_⟩ <;> omega

theorem c_pool (T : Tx K mg) : Cal P w K mg base CX 1 "_law_pool" [] (spPool K) := by
  obtain ⟨fd, F⟩ := T.d__law_pool
  exact .mk F (ok_pool T F) T.n__law_pool fun _ _ _ _ _ _ us hl => match us, hl with | [_, _], _ => rfl
theorem c_draw (T : Tx K mg) : Cal P w K mg base CX 1 "_law_draw" [] spDraw := by
  obtain ⟨fd, F⟩ := T.d__law_draw
  exact .mk F (ok_draw T F) T.n__law_draw fun _ _ _ _ _ _ us hl => match us, hl with | [_, _], _ => rfl
/-! ### drawn names -/
def tagWords : List Str := ["gate", "in", "of", "one", "many", "join", "drop", "arrive", "wait", "else", "look", "anew", "over", "go", "end"]
theorem tagWords_ok : (tagWords.all fun z => isNameS z && decide (z.length ≤ 8)) = true := by decide +kernel
theorem at_any {α : Type} {xs : List α} {z : Int} {j : Nat} {v : α} (e : z = (j : Int)) (h : xs[j]? = some v) : atI xs z = some v := by
  rw [e]
  exact atI_nat h
theorem word_at {r : Int} (h0 : 0 ≤ r) (h1 : r < 15) : ∃ z, atI (tagWords.map V.str) r = some (.str z) ∧ isNameS z = true ∧ z.length ≤ 8 := by
  have lt : r.toNat < tagWords.length := by show r.toNat < 15; omega
  have e : tagWords[r.toNat]? = some (tagWords[r.toNat]) := List.getElem?_eq_getElem lt
  have h := List.all_eq_true.mp tagWords_ok _ (List.getElem_mem lt)
  obtain ⟨h2, h3⟩ := Bool.and_eq_true_iff.mp h
  exact ⟨tagWords[r.toNat], at_any (z := r) (j := r.toNat) (by omega) (by rw [List.getElem?_map, e]; rfl), h2, of_decide_eq_true h3⟩
theorem signs_ok : (signsS.cps.toList.all isSign) = true := by decide +kernel
theorem letters_ok : ((signsS.cps.toList.take 26).all isLetter) = true := by decide +kernel
theorem sign_at {r : Int} (h0 : 0 ≤ r) (h1 : r < 36) : ∃ c, atI signsS.cps.toList r = some c ∧ isSign c = true ∧ (r < 26 → isLetter c = true) := by
  have hl : signsS.cps.toList.length = 36 := by decide +kernel
  have lt : r.toNat < signsS.cps.toList.length := by omega
  have e : signsS.cps.toList[r.toNat]? = some (signsS.cps.toList[r.toNat]) := List.getElem?_eq_getElem lt
  refine ⟨signsS.cps.toList[r.toNat], at_any (z := r) (j := r.toNat) (by omega) e, List.all_eq_true.mp signs_ok _ (List.getElem_mem lt), fun h => ?_⟩
  refine List.all_eq_true.mp letters_ok _ ?_
  rw [List.mem_take_iff_getElem]
  exact ⟨r.toNat, by omega, rfl⟩
theorem letter_at {r : Int} (h0 : 0 ≤ r) (h1 : r < 26) : ∃ c, atI lettersS.cps.toList r = some c ∧ isLetter c = true := by
  have hl : lettersS.cps.toList.length = 26 := by decide +kernel
  have lt : r.toNat < lettersS.cps.toList.length := by omega
  have e : lettersS.cps.toList[r.toNat]? = some (lettersS.cps.toList[r.toNat]) := List.getElem?_eq_getElem lt
  exact ⟨lettersS.cps.toList[r.toNat], at_any (z := r) (j := r.toNat) (by omega) e, decide_eq_true (List.getElem_mem lt)⟩
theorem letter_sign {c : Nat} (h : isLetter c = true) : isSign c = true := by
  have sub : (lettersS.cps.toList.all isSign) = true := by decide +kernel
  exact List.all_eq_true.mp sub c (of_decide_eq_true h)
def one (c : Nat) : Str := ⟨#[c]⟩
theorem joinL_ones : ∀ cs : List Nat, TL.joinL [] (cs.map fun c => [c]) = cs
  | [] => rfl
  | [c] => rfl
  | c :: d :: r => by
    show [c] ++ ([] ++ TL.joinL [] ((d :: r).map fun c => [c])) = c :: d :: r
    rw [joinL_ones (d :: r)]
    rfl
theorem join_ones (cs : List Nat) : (Txt.join Str.empty (cs.map one)).cps.toList = cs := by
  rw [TL.join_eq]
  have h := TL.tl_join Str.empty (cs.map one)
  rw [List.map_map] at h
  exact h.trans (joinL_ones cs)
theorem name_cons {c : Nat} {cs : List Nat} (h : isLetter c = true) (hs : cs.all isSign = true) (hl : cs.length ≤ 7) {z : Str} (e : z.cps.toList = c :: cs) : isNameS z = true ∧ z.length ≤ 8 := by
  refine ⟨?_, by rw [str_len, e, List.length_cons]; omega⟩
  unfold isNameS isNameL
  rw [e, decide_eq_true (show 1 ≤ (c :: cs).length by simp), decide_eq_true (show (c :: cs).length ≤ 8 by rw [List.length_cons]; omega)]
  simp only [List.headD_cons, h, List.all_cons, letter_sign h, hs, Bool.and_self]
/-- None, or a name that is short -/
def NameOr8 (v : V) : Prop := v = .non ∨ ∃ z, v = .str z ∧ z.length ≤ 8 ∧ isNameS z = true
def spTag : Sp := fun vs H Q _ => ∃ p : Addr, vs = [.ref p] ∧ PoolAt H p ∧ ∀ H' z, Pl p H H' → isNameS z = true → z.length ≤ 8 → Q (.str z) H'
theorem ok_tag {f : Addr} {fd : FuncData} {dvs : List V} {kws : List (Str × V)} (T : Tx K mg)
    (F : FunD K "_law_tag" "_law_tag" (defArgs s__law_tag) (defBody s__law_tag) (defScope s__law_tag) dvs kws f fd) :
    FnG P w K mg base CX0 2 f fd ["_law_pool_here"] spTag := by
  have c__law_draw : Cal P w K mg base CX0 1 "_law_draw" [] spDraw := c_draw T
  refine okG F sc__law_tag (fun vs H Q E h => ?_) (fun cdv A outer s H vs Q E hr hgd h => ?_)
  · obtain ⟨p, rfl, _⟩ := h
    rfl
  · obtain ⟨p, rfl, hp, q⟩ := h
    have hu := hr.units
    refine ⟨_, PSs.nox (pss_cons (ps_if (pt_cmpR op_eq (pe_cal c__law_draw (hr.mono (by decide)) hgd pass0 (pa_cons (pv 0) (pa_cons pe_int pa_nil))) pe_int (nomark _)) (pss_cons (ps_set (i := 1) sc__law_tag.nd rfl (Or.inl rfl) (pe_lst (pa_cons pe_str (pa_cons pe_str (pa_cons pe_str (pa_cons pe_str (pa_cons pe_str (pa_cons pe_str (pa_cons pe_str (pa_cons pe_str (pa_cons pe_str (pa_cons pe_str (pa_cons pe_str (pa_cons pe_str (pa_cons pe_str pa_nil)))))))))))))))
    (pss_one (ps_ret (pe_ix ix_list (pe_op op_cat (pv 1) (pe_lst (pa_cons pe_str (pa_cons pe_str pa_nil)))) (pe_cal c__law_draw (hr.mono (by decide)) hgd pass0 (pa_cons (pv 0) (pa_cons pe_int pa_nil))) (fun _ _ => rfl))))) pss_nil)
    (pss_cons (ps_asg (pe_tup (pa_cons pe_str (pa_cons (pe_cal c__law_draw (hr.mono (by decide)) hgd pass0 (pa_cons (pv 0) (pa_cons pe_int pa_nil))) pa_nil))) (pg_tup rfl (pgs_cons (pg_name (i := 2) sc__law_tag.nd rfl (Or.inr rfl)) (pgs_cons (pg_name (i := 3) sc__law_tag.nd rfl (Or.inl rfl)) pgs_nil))))
    (pss_one (ps_ret (pe_op op_add_str (pe_ix ix_str (pv 2) (pe_cal c__law_draw (hr.mono (by decide)) hgd pass0 (pa_cons (pv 0) (pa_cons pe_int pa_nil))) (fun _ _ => rfl)) (pe_join pe_str (pe_lc (own := [("_law_k", 4)]) (g := gName 4) (tt := tYes) rfl sc__law_tag.nd (pi_range1 rfl T.f_range (pa_cons (pv 3) pa_nil)) (blkOk_by (own := [("_law_k", 4)]) (N := n__law_tag) (sc := defScope s__law_tag) (by decide +kernel)) (fun _ _ _ _ _ => (pg_name (i := 4) sc__law_tag.nd rfl (Or.inl rfl))) (fun _ _ _ _ _ => pts_nil) (fun _ _ _ _ _ => (pe_ix ix_str (pv 2) (pe_cal c__law_draw (hr.mono (by decide)) hgd pass0 (pa_cons (pv 0) (pa_cons pe_int pa_nil))) (fun _ _ => rfl)))))))))), ?_⟩
    walk_at "rd"
    intro H1 r r1 r0 rm
    walk_at "rd"
    refine iteD (fun h1 => ?_) (fun h1 => ?_)
    · walk_at "rd"
      intro l1 n1
      walk_at "rd"
      intro l2 n2
      walk_at "rd"
      intro l3 n3
      walk_at "rd"
      intro H2 r2 s2 r20 r21
      obtain ⟨z, hz, vz, lz⟩ := word_at r20 r21
      walk_at "rd"
      exact q _ _ (by walk_at "g but") vz lz
    · walk_at "rd"
      intro H2 sz r2 sz0 szm
      walk_at "rd"
      intro t nt
      walk_at "rd"
      intro H3 at1 r3 at0 atm
      obtain ⟨c, hc, lc⟩ := sign_at at0 (show at1 < 36 by omega)
      walk_at "rd"
      intro D nD
      refine lcW (wk_range 0 sz.toNat) (fun i H => Pl p H3 H ∧ ∃ cs : List Nat, H D = some (.lst ((cs.map one).map V.str)) ∧ cs.length = i ∧ cs.all isSign = true)
        ⟨by walk_at "g but", [], upd_same, rfl, rfl⟩ (fun _ _ _ _ => trivial) ?_ ?_
      · rintro i x H4 hx ⟨pl4, cs, hD, hl, ha⟩
        have hi := (List.getElem?_eq_some_iff.mp hx).1
        rw [rngV_len] at hi
        walk_at "rd"
        intro H5 r5 pl5 r50 r51
        obtain ⟨c5, hc5, sc5, _⟩ := sign_at r50 r51
        walk_at "rd"
        refine ⟨by rw [List.length_map, List.length_map, hl]; show i < 16777216; omega, by walk_at "g but", cs ++ [c5], ?_, ?_, ?_⟩
        · rw [upd_same, List.map_append, List.map_append]
          rfl
        · rw [List.length_append, hl]
          rfl
        · rw [List.all_append, ha]
          simp [sc5]
      · rintro H4 ⟨pl4, cs, hD, hl, ha⟩
        rw [rngV_len] at hl
        have hz := join_ones cs
        have hc := name_cons (lc.2 atm) ha (by omega) (z := one c ++ Txt.join (Str.ofString "") (cs.map one)) (by
          show (#[c] ++ _).toList = _
          rw [Array.toList_append]
          exact congrArg (c :: ·) hz)
        have hs : ((cs.map one).map fun x => x.length).sum = cs.length := by
          rw [List.map_map]
          clear hz hc hl ha hD
          induction cs with
          | nil => rfl
          | cons d r ih => rw [List.map_cons, List.sum_cons, ih, List.length_cons]; show 1 + _ = _; omega
        walk_at "rd"
        refine ⟨by rw [hs, List.length_map]; show cs.length + cs.length * 0 ≤ _; omega, ?_⟩
        walk_at "rd"
        exact ⟨by have h8 : _ ≤ 8 := hc.2; exact Nat.le_trans (Nat.le_of_eq (cat_len _ _).symm) (Nat.le_trans h8 (by decide)), q _ _ (by walk_at "g but") hc.1 hc.2⟩
theorem c_tag (T : Tx K mg) : Cal P w K mg base CX0 2 "_law_tag" [] spTag := by
  obtain ⟨fd, F⟩ := T.d__law_tag
  exact .mk F (ok_tag T F) T.n__law_tag fun _ _ _ _ _ _ us hl => match us, hl with | [_], _ => rfl
end
end G
namespace G
open PySem PySem.Spec PyProof.Rows L2
theorem name_form {z : Str} (h : isNameS z = true) : ∃ c r, z.cps.toList = c :: r ∧ isLetter c = true ∧ r.all isSign = true ∧ r.length ≤ 7 := by
  rw [isNameS_eq, str_len] at h
  simp only [Bool.and_eq_true, decide_eq_true_eq] at h
  obtain ⟨⟨⟨h1, h2⟩, h3⟩, h4⟩ := h
  cases e : z.cps.toList with
  | nil => rw [e] at h1; simp at h1
  | cons c r =>
    rw [e] at h2 h3 h4
    rw [List.all_cons, Bool.and_eq_true] at h4
    exact ⟨c, r, rfl, h3, h4.2, by rw [List.length_cons] at h2; omega⟩
theorem cat_list (x y : Str) : (x ++ y).cps.toList = x.cps.toList ++ y.cps.toList := by
  show (x.cps ++ y.cps).toList = _
  rw [Array.toList_append]
/-! ### rows as texts -/
def digS (k : Nat) : Str := ⟨#[48 + k]⟩
def fourW : List Str := ["join", "drop", "look", "anew"]
inductive RW
  | one (w g : Str)
  | arr (g : Str) (d : Nat)
  | wai (g : Str) (k : Nat)
  | ovr (g : Str) (d k : Nat)
  | go (ks : List Nat)
  | fin
def Nm (z : Str) : Prop := isNameS z = true ∧ z.length ≤ 8
def RW.words : RW → List Str
  | .one w g => [w, g]
  | .arr g d => ["arrive", g, digS d]
  | .wai g k => ["wait", g, "else", digS k]
  | .ovr g d k => ["over", g, digS d, digS k]
  | .go ks => "go" :: ks.map digS
  | .fin => ["end"]
def RW.goals : RW → List Nat
  | .wai _ k => [k]
  | .ovr _ _ k => [k]
  | .go ks => ks
  | _ => []
/-- a row by the grammar, its values small -/
def RW.Ok : RW → Prop
  | .one w g => w ∈ fourW ∧ Nm g
  | .arr g d => Nm g ∧ d < 4
  | .wai g k => Nm g ∧ k < 10
  | .ovr g d k => Nm g ∧ d < 4 ∧ k < 10
  | .go ks => ks ≠ [] ∧ ks.length ≤ 4 ∧ (∀ k ∈ ks, k < 10) ∧ ks.Pairwise (· < ·)
  | .fin => True
def rwText (r : RW) : Str := Txt.join " " r.words
def rowText : Option Str → RW → Str
  | none, r => rwText r
  | some l, r => l ++ ": " ++ rwText r
/-- only letters and figures -/
def Plain (z : Str) : Prop := ∀ c ∈ z.cps.toList, isSign c = true
theorem nm_plain {z : Str} (h : Nm z) : Plain z := by
  obtain ⟨c, r, e, hc, hr, _⟩ := name_form h.1
  intro d hd
  rw [e] at hd
  rcases List.mem_cons.mp hd with rfl | hd
  · exact letter_sign hc
  · exact List.all_eq_true.mp hr d hd
theorem dig_plain {k : Nat} (h : k < 10) : Plain (digS k) := by
  have a : ∀ k : Fin 10, isSign (48 + k.val) = true := by decide +kernel
  intro c hc
  have e : c = 48 + k := by simpa [digS] using hc
  rw [e]
  exact a ⟨k, h⟩
theorem lit_plain : ∀ z ∈ (["join", "drop", "look", "anew", "arrive", "wait", "else", "over", "go", "end"] : List Str), Plain z := by
  have a : (["join", "drop", "look", "anew", "arrive", "wait", "else", "over", "go", "end"] : List Str).all (fun z => z.cps.toList.all isSign) = true := by decide +kernel
  intro z hz c hc
  exact List.all_eq_true.mp (List.all_eq_true.mp a z hz) c hc
theorem words_plain {r : RW} (h : r.Ok) : ∀ z ∈ r.words, Plain z ∧ z.length ≤ 8 := by
  have short : ∀ z ∈ (["join", "drop", "look", "anew", "arrive", "wait", "else", "over", "go", "end"] : List Str), z.length ≤ 8 := by decide +kernel
  have dl : ∀ k, (digS k).length ≤ 8 := fun k => by show 1 ≤ 8; decide
  have lit : ∀ z ∈ (["join", "drop", "look", "anew", "arrive", "wait", "else", "over", "go", "end"] : List Str), Plain z ∧ z.length ≤ 8 := fun z hz => ⟨lit_plain z hz, short z hz⟩
  have nm : ∀ g, Nm g → Plain g ∧ g.length ≤ 8 := fun g hg => ⟨nm_plain hg, hg.2⟩
  have dg : ∀ k, k < 10 → Plain (digS k) ∧ (digS k).length ≤ 8 := fun k hk => ⟨dig_plain hk, dl k⟩
  intro z hz
  cases r with
  | one w g =>
    obtain ⟨hw, hg⟩ := h
    rcases List.mem_cons.mp hz with rfl | hz
    · exact lit z (by simp only [fourW, List.mem_cons, List.not_mem_nil, or_false] at hw; rcases hw with rfl | rfl | rfl | rfl <;> simp)
    · rw [List.mem_singleton.mp hz]; exact nm g hg
  | arr g d =>
    obtain ⟨hg, hd⟩ := h
    simp only [RW.words, List.mem_cons, List.not_mem_nil, or_false] at hz
    rcases hz with rfl | rfl | rfl
    · exact lit _ (by simp)
    · exact nm _ hg
    · exact dg _ (by omega)
  | wai g k =>
    obtain ⟨hg, hd⟩ := h
    simp only [RW.words, List.mem_cons, List.not_mem_nil, or_false] at hz
    rcases hz with rfl | rfl | rfl | rfl
    · exact lit _ (by simp)
    · exact nm _ hg
    · exact lit _ (by simp)
    · exact dg _ (by omega)
  | ovr g d k =>
    obtain ⟨hg, hd, hk⟩ := h
    simp only [RW.words, List.mem_cons, List.not_mem_nil, or_false] at hz
    rcases hz with rfl | rfl | rfl | rfl
    · exact lit _ (by simp)
    · exact nm _ hg
    · exact dg _ (by omega)
    · exact dg _ (by omega)
  | go ks =>
    obtain ⟨_, _, hk, _⟩ := h
    rcases List.mem_cons.mp hz with rfl | hz
    · exact lit _ (by simp)
    · obtain ⟨k, hm, rfl⟩ := List.mem_map.mp hz
      exact dg k (hk k hm)
  | fin =>
    rw [List.mem_singleton.mp hz]
    exact lit _ (by simp)
theorem words_few {r : RW} (h : r.Ok) : r.words ≠ [] ∧ r.words.length ≤ 5 := by
  cases r with
  | go ks => exact ⟨by simp [RW.words], by show (ks.map digS).length + 1 ≤ 5; rw [List.length_map]; have := h.2.1; omega⟩
  | _ => exact ⟨by simp [RW.words], by simp [RW.words]⟩
theorem joinL_mem {S : List Nat} : ∀ {ps : List (List Nat)} {c : Nat}, c ∈ TL.joinL S ps → c ∈ S ∨ ∃ p ∈ ps, c ∈ p
  | [], c, h => by cases h
  | [p], c, h => .inr ⟨p, List.mem_singleton.mpr rfl, h⟩
  | p :: q :: r, c, h => by
    have h' : c ∈ p ++ (S ++ TL.joinL S (q :: r)) := h
    rcases List.mem_append.mp h' with h | h
    · exact .inr ⟨p, List.mem_cons_self, h⟩
    rcases List.mem_append.mp h with h | h
    · exact .inl h
    rcases joinL_mem h with h | ⟨p', hp, h⟩
    · exact .inl h
    · exact .inr ⟨p', List.mem_cons_of_mem _ hp, h⟩
theorem joinL_len {S : List Nat} (hS : S.length ≤ 1) : ∀ {ps : List (List Nat)}, (∀ p ∈ ps, p.length ≤ 8) → (TL.joinL S ps).length ≤ 9 * ps.length
  | [], _ => Nat.zero_le _
  | [p], h => by have := h p (List.mem_singleton.mpr rfl); show p.length ≤ 9 * 1; omega
  | p :: q :: r, h => by
    have h1 := h p List.mem_cons_self
    have h2 := joinL_len hS (ps := q :: r) fun z hz => h z (List.mem_cons_of_mem _ hz)
    show (p ++ (S ++ TL.joinL S (q :: r))).length ≤ 9 * ((q :: r).length + 1)
    rw [List.length_append, List.length_append]
    omega
theorem rwText_list (r : RW) : (rwText r).cps.toList = TL.joinL [32] (r.words.map TL.tl) := by
  unfold rwText
  rw [TL.join_eq]
  exact TL.tl_join _ _
theorem rwText_len {r : RW} (h : r.Ok) : (rwText r).length ≤ 45 := by
  rw [str_len, rwText_list]
  have h2 := (words_few h).2
  have h1 := joinL_len (S := [32]) (by decide) (ps := r.words.map TL.tl) (by
    intro p hp
    obtain ⟨z, hz, rfl⟩ := List.mem_map.mp hp
    have := (words_plain h z hz).2
    rw [str_len] at this
    exact this)
  rw [List.length_map] at h1
  omega
theorem plain_not {z : Str} (h : Plain z) {c : Nat} (hc : isSign c = false) : c ∉ z.cps.toList := fun hm => by
  rw [h c hm] at hc
  cases hc
theorem rwText_split {r : RW} (h : r.Ok) : Txt.split (rwText r) (Str.ofString " ") = r.words :=
  TL.split_join (y := Str.ofString " ") (s := 32) (S := []) (by decide +kernel) (by decide +kernel) (words_few h).1 fun z hz => plain_not (words_plain h z hz).1 (by decide +kernel)
theorem rwText_colon {r : RW} (h : r.Ok) : 58 ∉ (rwText r).cps.toList := by
  rw [rwText_list]
  intro hm
  rcases joinL_mem hm with h1 | ⟨p, hp, h1⟩
  · exact absurd h1 (by decide)
  · obtain ⟨z, hz, rfl⟩ := List.mem_map.mp hp
    exact plain_not (words_plain h z hz).1 (by decide +kernel) h1
theorem rowText_part0 {r : RW} (h : r.Ok) : Txt.partition (rowText none r) (Str.ofString ": ") = (rwText r, Str.empty, Str.empty) :=
  TL.partition_none (y := Str.ofString ": ") (s := 58) (S := [32]) (by decide +kernel) (rwText_colon h)
theorem rowText_part1 {l : Str} {r : RW} (hl : Nm l) : Txt.partition (rowText (some l) r) (Str.ofString ": ") = (l, Str.ofString ": ", rwText r) :=
  TL.partition_app (y := Str.ofString ": ") (s := 58) (S := [32]) (by decide +kernel) (plain_not (nm_plain hl) (by decide +kernel))
theorem rowText_len {l : Option Str} {r : RW} (h : r.Ok) (hl : ∀ z, l = some z → Nm z) : (rowText l r).length ≤ 55 := by
  have h1 := rwText_len h
  cases l with
  | none => exact Nat.le_trans h1 (by decide)
  | some z =>
    have h2 := (hl z rfl).2
    show (z ++ Str.ofString ": " ++ rwText r).length ≤ 55
    rw [cat_len, cat_len, show (Str.ofString ": ").length = 2 from by decide +kernel]
    omega
end G
namespace G
open PySem PySem.Spec PyProof.Rows L2
section
variable {P : Program} {w : World} {K : PySem.W.Frag} {mg : Str → Option Value} {base : Heap} {CX : CXT}
/-! ### rows as objects -/
abbrev cR (K : PySem.W.Frag) : Addr := He.ga K "Row"
abbrev rowGo (K : PySem.W.Frag) : V := .ref (kwdAt ("Row", some "__init__") "goals" K)
def intV (gs : List Nat) : List V := gs.map fun (k : Nat) => V.int (k : Int)
/-- a tuple of goals: new, or the one that stands for none -/
def GoAt (K : PySem.W.Frag) (H : Hp) (g : Addr) (gs : List Nat) : Prop := H g = some (.tup (intV gs)) ∨ (gs = [] ∧ ∀ H, SqT K H g [])
theorem GoAt.sq {H : Hp} {g : Addr} {gs : List Nat} (h : GoAt K H g gs) : SqT K H g (intV gs) := by
  rcases h with h | ⟨rfl, h⟩
  · exact SqT.of h
  · exact h H
theorem GoAt.same {H H' : Hp} {g : Addr} {gs : List Nat} (h : GoAt K H g gs) (s : Same H H') : GoAt K H' g gs := by
  rcases h with h | h
  · exact .inl (s _ _ h)
  · exact .inr h
theorem GoAt.but {H H' : Hp} {g p C dx : Addr} {fs : List (Str × V)} {gs : List Nat} (h : GoAt K H g gs) (hp : H p = some (.ins C dx fs)) (s : But p H H') : GoAt K H' g gs := by
  rcases h with h | h
  · exact .inl (s _ _ (ne_of h hp (by rintro h; cases h)) h)
  · exact .inr h
def goalV (gs : List Nat) : V := match gs with
  | [] => .non
  | k :: _ => .int (k : Int)
abbrev rowFs (tx la wo ga va : V) (g : Addr) (gs : List Nat) : List (Str × V) := [("text", tx), ("label", la), ("word", wo), ("gate", ga), ("value", va), ("goals", .ref g), ("goal", goalV gs)]
def spRow (K : PySem.W.Frag) : Sp := fun vs H Q _ => ∃ (p dx g : Addr) (tx la wo ga va : V) (gs : List Nat), vs = [.ref p, tx, la, wo, ga, va, .ref g] ∧ H p = some (.ins (cR K) dx []) ∧ GoAt K H g gs ∧
  ∀ H', But p H H' → H' p = some (.ins (cR K) dx (rowFs tx la wo ga va g gs)) → Q .non H'
theorem ok_Row {f : Addr} {fd : FuncData} {dvs : List V} {kws : List (Str × V)} (T : Tx K mg)
    (F : FunD K "__init__" "Row.__init__" (defArgs s_Row___init__) (defBody s_Row___init__) (defScope s_Row___init__) dvs kws f fd) :
    FnOk P w K mg base CX 1 f fd ["self", "text", "label", "word", "gate", "value", "goals"] (spRow K) := by
  refine F.ok sc_Row___init__ (fun vs H Q E h => ?_) (fun cdv A outer s H vs Q E hr h => ?_)
  · obtain ⟨p, dx, g, tx, la, wo, ga, va, gs, rfl, _⟩ := h
    rfl
  · obtain ⟨p, dx, g, tx, la, wo, ga, va, gs, rfl, hp, hg, q⟩ := h
    have cl := T.c_Row
    have n1 := T.na_Row_text
    have n2 := T.na_Row_label
    have n3 := T.na_Row_word
    have n4 := T.na_Row_gate
    have n5 := T.na_Row_value
    have n6 := T.na_Row_goals
    have n7 := T.na_Row_goal
    refine ⟨_, PSs.nox (pss_cons (ps_asg (pe_tup (pa_cons (pv 1) (pa_cons (pv 2) (pa_cons (pv 3) pa_nil)))) (pg_tup rfl (pgs_cons (pg_attr (pv 0)) (pgs_cons (pg_attr (pv 0)) (pgs_cons (pg_attr (pv 0)) pgs_nil)))))
    (pss_cons (ps_asg (pe_tup (pa_cons (pv 4) (pa_cons (pv 5) (pa_cons (pv 6) pa_nil)))) (pg_tup rfl (pgs_cons (pg_attr (pv 0)) (pgs_cons (pg_attr (pv 0)) (pgs_cons (pg_attr (pv 0)) pgs_nil)))))
    (pss_one (ps_fld (pv 0) (pe_ifExp (pt_cmpR op_gt (pe_callB call_len_seq rfl T.f_len (by decide +kernel) (pa_cons (pv 6) pa_nil)) pe_int (nomark _)) (pe_ix ix_tup (pv 6) pe_int (fun _ _ => rfl)) pe_non) rfl)))), ?_⟩
    walk_at "rd"
    intro t nt
    walk_at "rd"
    intro t2 nt2
    walk_at "rd"
    refine ⟨Or.inr (hg.but hp (by walk_at "g but")).sq, ?_⟩
    cases gs with
    | nil =>
      walk_at "rd"
      refine q _ (by walk_at "g but") ?_
      rw [upd_same]
      rfl
    | cons k r =>
      walk_at "rd"
      refine iteD (fun _ => ?_) (fun h => absurd (show (0 : Int) < ((List.length (intV r) + 1 : Nat) : Int) by omega) h)
      walk_at "rd"
      refine ⟨(hg.but hp (by walk_at "g but")).sq, at_any (v := V.int (k : Int)) (j := 0) rfl rfl, ?_⟩
      walk_at "rd"
      refine q _ (by walk_at "g but") ?_
      rw [upd_same]
      rfl
theorem c_Row_3 (T : Tx K mg) : CalC P w K mg base CX 1 "Row" (cR K) [.non, .non, rowGo K] (spRow K) := by
  obtain ⟨fd, F⟩ := T.d_Row___init__
  obtain ⟨ds, rd, hb⟩ := F.binds0 (ps := ["self", "text", "label", "word", "gate", "value", "goals"]) 4 (fun h => absurd (show 3 = 0 from congrArg List.length h) (by decide)) rfl (fun D doc pm an cdv ct us ks l1 l2 => match us, ks, l1, l2 with
    | [_, _, _, _], [_, _, _], _, _ => ⟨_, _, _, _, _, _, rfl, rfl, _, _, _, _, _, _, rfl, rfl, _, _, _, _, _, _, rfl, rfl, rfl⟩)
  obtain ⟨u, hm, ru⟩ := T.g_Row
  obtain rfl : u = Value.ref (cR K) := ru
  exact ⟨_, fd, _, ds, T.mk_Row, ok_Row T F, hm, hb, rd⟩
def gWM {α : Type} (us mv ws : List α) : List α := us ++ (ws ++ mv)
def gMW {α : Type} (us mv ws : List α) : List α := us ++ (mv ++ ws)
def gWMW {α : Type} (us mv ws : List α) : List α := us ++ (ws.take 1 ++ (mv ++ ws.drop 1))
theorem c_Row_3_gate (T : Tx K mg) : CalN P w K mg base CX 1 "Row" (cR K) 3 ["gate"] (fun vs zs => gWM vs [.non, rowGo K] zs) (spRow K) := by
  obtain ⟨fd, F⟩ := T.d_Row___init__
  obtain ⟨mv, hb⟩ := F.kbinds0 (ps := ["self", "text", "label", "word", "gate", "value", "goals"]) 4 ["gate"] [("value", .non), ("goals", rowGo K)] gWM (fun h => absurd (show 3 = 0 from congrArg List.length h) (by decide))
    (fun q hq => (List.mem_cons.mp hq).elim (fun e => e ▸ .tail _ (.head _)) fun hq => List.mem_singleton.mp hq ▸ .tail _ (.tail _ (.head _)))
    (fun r1 r2 r3 => vals_app r1 (vals_app r3 r2)) (fun D doc pm an cdv ct us mv ws l1 l2 l3 => match us, mv, ws, l1, l2, l3 with
    | [_, _, _, _], [_, _], [_], _, _, _ => ⟨_, _, _, _, _, _, rfl, rfl, _, _, _, _, _, _, rfl, rfl, rfl⟩)
  obtain ⟨u, hm, ru⟩ := T.g_Row
  obtain rfl : u = Value.ref (cR K) := ru
  exact ⟨_, fd, _, _, T.mk_Row, ok_Row T F, hm, hb⟩
theorem c_Row_3_gate_value (T : Tx K mg) : CalN P w K mg base CX 1 "Row" (cR K) 3 ["gate", "value"] (fun vs zs => gWM vs [rowGo K] zs) (spRow K) := by
  obtain ⟨fd, F⟩ := T.d_Row___init__
  obtain ⟨mv, hb⟩ := F.kbinds0 (ps := ["self", "text", "label", "word", "gate", "value", "goals"]) 4 ["gate", "value"] [("goals", rowGo K)] gWM (fun h => absurd (show 3 = 0 from congrArg List.length h) (by decide))
    (fun q hq => List.mem_singleton.mp hq ▸ .tail _ (.tail _ (.head _)))
    (fun r1 r2 r3 => vals_app r1 (vals_app r3 r2)) (fun D doc pm an cdv ct us mv ws l1 l2 l3 => match us, mv, ws, l1, l2, l3 with
    | [_, _, _, _], [_], [_, _], _, _, _ => ⟨_, _, _, _, _, _, rfl, rfl, rfl⟩)
  obtain ⟨u, hm, ru⟩ := T.g_Row
  obtain rfl : u = Value.ref (cR K) := ru
  exact ⟨_, fd, _, _, T.mk_Row, ok_Row T F, hm, hb⟩
theorem c_Row_3_gate_goals (T : Tx K mg) : CalN P w K mg base CX 1 "Row" (cR K) 3 ["gate", "goals"] (fun vs zs => gWMW vs [.non] zs) (spRow K) := by
  obtain ⟨fd, F⟩ := T.d_Row___init__
  obtain ⟨mv, hb⟩ := F.kbinds0 (ps := ["self", "text", "label", "word", "gate", "value", "goals"]) 4 ["gate", "goals"] [("value", .non)] gWMW (fun h => absurd (show 3 = 0 from congrArg List.length h) (by decide))
    (fun q hq => List.mem_singleton.mp hq ▸ .tail _ (.head _))
    (fun r1 r2 r3 => vals_app r1 (vals_app (vals_take 1 r3) (vals_app r2 (vals_drop 1 r3)))) (fun D doc pm an cdv ct us mv ws l1 l2 l3 => match us, mv, ws, l1, l2, l3 with
    | [_, _, _, _], [_], [_, _], _, _, _ => ⟨_, _, _, _, _, _, rfl, rfl, rfl⟩)
  obtain ⟨u, hm, ru⟩ := T.g_Row
  obtain rfl : u = Value.ref (cR K) := ru
  exact ⟨_, fd, _, _, T.mk_Row, ok_Row T F, hm, hb⟩
theorem c_Row_3_gate_value_goals (T : Tx K mg) : CalN P w K mg base CX 1 "Row" (cR K) 3 ["gate", "value", "goals"] (fun vs zs => gWM vs [] zs) (spRow K) := by
  obtain ⟨fd, F⟩ := T.d_Row___init__
  obtain ⟨mv, hb⟩ := F.kbinds0 (ps := ["self", "text", "label", "word", "gate", "value", "goals"]) 4 ["gate", "value", "goals"] [] gWM (fun h => absurd (show 3 = 0 from congrArg List.length h) (by decide))
    (fun q hq => nomatch hq)
    (fun r1 r2 r3 => vals_app r1 (vals_app r3 r2)) (fun D doc pm an cdv ct us mv ws l1 l2 l3 => match us, mv, ws, l1, l2, l3 with
    | [_, _, _, _], [], [_, _, _], _, _, _ => rfl)
  obtain ⟨u, hm, ru⟩ := T.g_Row
  obtain rfl : u = Value.ref (cR K) := ru
  exact ⟨_, fd, _, _, T.mk_Row, ok_Row T F, hm, hb⟩
theorem c_Row_3_goals (T : Tx K mg) : CalN P w K mg base CX 1 "Row" (cR K) 3 ["goals"] (fun vs zs => gMW vs [.non, .non] zs) (spRow K) := by
  obtain ⟨fd, F⟩ := T.d_Row___init__
  obtain ⟨mv, hb⟩ := F.kbinds0 (ps := ["self", "text", "label", "word", "gate", "value", "goals"]) 4 ["goals"] [("gate", .non), ("value", .non)] gMW (fun h => absurd (show 3 = 0 from congrArg List.length h) (by decide))
    (fun q hq => (List.mem_cons.mp hq).elim (fun e => e ▸ .head _) fun hq => List.mem_singleton.mp hq ▸ .tail _ (.head _))
    (fun r1 r2 r3 => vals_app r1 (vals_app r2 r3)) (fun D doc pm an cdv ct us mv ws l1 l2 l3 => match us, mv, ws, l1, l2, l3 with
    | [_, _, _, _], [_, _], [_], _, _, _ => ⟨_, _, _, _, _, _, rfl, rfl, _, _, _, _, _, _, rfl, rfl, rfl⟩)
  obtain ⟨u, hm, ru⟩ := T.g_Row
  obtain rfl : u = Value.ref (cR K) := ru
  exact ⟨_, fd, _, _, T.mk_Row, ok_Row T F, hm, hb⟩
theorem dig_in {k : Nat} (h : k < 10) : 48 + k ∈ (Str.ofString "0123456789").cps.toList := by
  have a : ∀ k : Fin 10, 48 + k.val ∈ (Str.ofString "0123456789").cps.toList := by decide +kernel
  exact a ⟨k, h⟩
theorem dig_int {k : Nat} (h : k < 10) : PySem.intText? (digS k) = some (k : Int) := by
  have a : ∀ k : Fin 10, PySem.intText? (digS k.val) = some (k.val : Int) := by decide +kernel
  exact a ⟨k, h⟩
def spDigit : Sp := fun vs H Q _ => ∃ k : Nat, vs = [.str (digS k)] ∧ k < 10 ∧ Q (.int (k : Int)) H
theorem ok_digit_of {f : Addr} {fd : FuncData} {dvs : List V} {kws : List (Str × V)} (T : Tx K mg)
    (F : FunD K "digit_of" "digit_of" (defArgs s_digit_of) (defBody s_digit_of) (defScope s_digit_of) dvs kws f fd) :
    FnOk P w K mg base CX 1 f fd ["word"] spDigit := by
  refine F.ok sc_digit_of (fun vs H Q E h => ?_) (fun cdv A outer s H vs Q E hr h => ?_)
  · obtain ⟨k, rfl, _⟩ := h
    rfl
  · obtain ⟨k, rfl, hk, q⟩ := h
    have hi := dig_int hk
    refine ⟨_, PSs.nox (pss_one (ps_ret (pe_ifExp (PW.pt (pw_and (pt_cmpR op_eq (pe_callB call_len_str rfl T.f_len (by decide +kernel) (pa_cons (pv 0) pa_nil)) pe_int (nomark _)) (pw_and1 (pt_cmpR op_in_sign (pv 0) (pe_gl T.g_DIGITS) rfl)))) (pe_callTy call_int_str rfl T.f_int (by decide +kernel) (pa_cons (pv 0) pa_nil)) pe_non))), ?_⟩
    walk_at "rd"
    refine iteD (fun _ => ?_) (fun h => absurd (dig_in hk) h)
    exact ⟨_, rfl, _, _, rfl, hi, show 1 ≤ 640 by decide, q⟩
theorem c_digit_of (T : Tx K mg) : CalO P w K mg base CX 1 "digit_of" [] spDigit := by
  obtain ⟨fd, F⟩ := T.d_digit_of
  exact .mk F (ok_digit_of T F) T.n_digit_of fun _ _ _ _ _ _ us hl => match us, hl with | [_], _ => rfl
def fDig : V → V
  | .str s => .int (((s.cps.getD 0 0 : Nat) : Int) - 48)
  | _ => .non
theorem fDig_dig (k : Nat) : fDig (.str (digS k)) = .int (k : Int) := by
  show V.int (((48 + k : Nat) : Int) - 48) = _
  congr 1
  omega
theorem fDig_map (ks : List Nat) : ((ks.map digS).map V.str).map fDig = intV ks := by
  rw [List.map_map, List.map_map]
  exact List.map_congr_left fun k _ => fDig_dig k
def RW.wordS : RW → Str
  | .one w _ => w
  | .arr _ _ => "arrive"
  | .wai _ _ => "wait"
  | .ovr _ _ _ => "over"
  | .go _ => "go"
  | .fin => "end"
def RW.gateV : RW → V
  | .one _ g => .str g
  | .arr g _ => .str g
  | .wai g _ => .str g
  | .ovr g _ _ => .str g
  | _ => .non
def RW.valV : RW → V
  | .arr _ d => .int (d : Int)
  | .ovr _ d _ => .int (d : Int)
  | _ => .non
def spRowOf (K : PySem.W.Frag) : Sp := fun vs H Q _ => ∃ (a : Addr) (tx la : V) (R : RW), vs = [tx, la, .ref a] ∧ H a = some (.lst (R.words.map V.str)) ∧ R.Ok ∧
  ∀ H' r dx g, Same H H' → H' r = some (.ins (cR K) dx (rowFs tx la (.str R.wordS) R.gateV R.valV g R.goals)) → GoAt K H' g R.goals → Q (.ref r) H'
theorem ok_row_of_words {f : Addr} {fd : FuncData} {dvs : List V} {kws : List (Str × V)} (T : Tx K mg)
    (F : FunD K "row_of_words" "row_of_words" (defArgs s_row_of_words) (defBody s_row_of_words) (defScope s_row_of_words) dvs kws f fd) :
    FnOk P w K mg base CX0 3 f fd ["text", "label", "words"] (spRowOf K) := by
  have c_Row_3 : CalC P w K mg base CX0 1 "Row" (cR K) [.non, .non, rowGo K] (spRow K) := c_Row_3 T
  have c_Row_3_gate : CalN P w K mg base CX0 1 "Row" (cR K) 3 ["gate"] (fun vs zs => gWM vs [.non, rowGo K] zs) (spRow K) := c_Row_3_gate T
  have c_Row_3_gate_value : CalN P w K mg base CX0 1 "Row" (cR K) 3 ["gate", "value"] (fun vs zs => gWM vs [rowGo K] zs) (spRow K) := c_Row_3_gate_value T
  have c_Row_3_gate_goals : CalN P w K mg base CX0 1 "Row" (cR K) 3 ["gate", "goals"] (fun vs zs => gWMW vs [.non] zs) (spRow K) := c_Row_3_gate_goals T
  have c_Row_3_gate_value_goals : CalN P w K mg base CX0 1 "Row" (cR K) 3 ["gate", "value", "goals"] (fun vs zs => gWM vs [] zs) (spRow K) := c_Row_3_gate_value_goals T
  have c_Row_3_goals : CalN P w K mg base CX0 1 "Row" (cR K) 3 ["goals"] (fun vs zs => gMW vs [.non, .non] zs) (spRow K) := c_Row_3_goals T
  have c_digit_of : CalO P w K mg base CX0 1 "digit_of" [] spDigit := c_digit_of T
  refine F.ok sc_row_of_words (fun vs H Q E h => ?_) (fun cdv A outer s H vs Q E hr h => ?_)
  · obtain ⟨a, tx, la, R, rfl, _⟩ := h
    rfl
  · obtain ⟨a, tx, la, R, rfl, ha, ok, q⟩ := h
    have hu := hr.units
    refine ⟨_, PSs.nox (pss_cons (ps_asg (pv 2) (pg_star (k := 1) rfl (pgs_cons (pg_name (i := 3) sc_row_of_words.nd rfl (Or.inl rfl)) (pgs_star (pg_name (i := 4) sc_row_of_words.nd rfl (Or.inl rfl)) pgs_nil))))
    (pss_cons (ps_if (PW.pt (pw_and (pt_cmpR op_in_seq (pv 3) (pe_tup (pa_cons pe_str (pa_cons pe_str (pa_cons pe_str (pa_cons pe_str pa_nil))))) rfl) (pw_and1 (pt_cmpR op_eq (pe_callB call_len_seq rfl T.f_len (by decide +kernel) (pa_cons (pv 4) pa_nil)) pe_int (nomark _))))) (pss_one (ps_ret (pe_mkn c_Row_3_gate (hr.mono (by decide)) pass0 (pa_cons (pv 0) (pa_cons (pv 1) (pa_cons (pv 3) pa_nil))) (pk_cons (pe_ix ix_list (pv 4) pe_int (fun _ _ => rfl)) pk_nil)))) pss_nil)
    (pss_cons (ps_if (PW.pt (pw_and (pt_cmpR op_eq (pv 3) pe_str (nomark _)) (pw_and1 (pt_cmpR op_eq (pe_callB call_len_seq rfl T.f_len (by decide +kernel) (pa_cons (pv 4) pa_nil)) pe_int (nomark _))))) (pss_one (ps_ret (pe_mkn c_Row_3_gate_value (hr.mono (by decide)) pass0 (pa_cons (pv 0) (pa_cons (pv 1) (pa_cons (pv 3) pa_nil))) (pk_cons (pe_ix ix_list (pv 4) pe_int (fun _ _ => rfl)) (pk_cons (pe_calO c_digit_of (hr.mono (by decide)) pass0 (pa_cons (pe_ix ix_list (pv 4) pe_int (fun _ _ => rfl)) pa_nil)) pk_nil))))) pss_nil)
    (pss_cons (ps_if (PW.pt (pw_and (pt_cmpR op_eq (pv 3) pe_str (nomark _)) (pw_and (pt_cmpR op_eq (pe_callB call_len_seq rfl T.f_len (by decide +kernel) (pa_cons (pv 4) pa_nil)) pe_int (nomark _)) (pw_and1 (pt_cmpR op_eq (pe_ix ix_list (pv 4) pe_int (fun _ _ => rfl)) pe_str (nomark _)))))) (pss_one (ps_ret (pe_mkn c_Row_3_gate_goals (hr.mono (by decide)) pass0 (pa_cons (pv 0) (pa_cons (pv 1) (pa_cons (pv 3) pa_nil))) (pk_cons (pe_ix ix_list (pv 4) pe_int (fun _ _ => rfl)) (pk_cons (pe_tup (pa_cons (pe_calO c_digit_of (hr.mono (by decide)) pass0 (pa_cons (pe_ix ix_list (pv 4) pe_int (fun _ _ => rfl)) pa_nil)) pa_nil)) pk_nil))))) pss_nil)
    (pss_cons (ps_if (PW.pt (pw_and (pt_cmpR op_eq (pv 3) pe_str (nomark _)) (pw_and1 (pt_cmpR op_eq (pe_callB call_len_seq rfl T.f_len (by decide +kernel) (pa_cons (pv 4) pa_nil)) pe_int (nomark _))))) (pss_one (ps_ret (pe_mkn c_Row_3_gate_value_goals (hr.mono (by decide)) pass0 (pa_cons (pv 0) (pa_cons (pv 1) (pa_cons (pv 3) pa_nil))) (pk_cons (pe_ix ix_list (pv 4) pe_int (fun _ _ => rfl)) (pk_cons (pe_calO c_digit_of (hr.mono (by decide)) pass0 (pa_cons (pe_ix ix_list (pv 4) pe_int (fun _ _ => rfl)) pa_nil)) (pk_cons (pe_tup (pa_cons (pe_calO c_digit_of (hr.mono (by decide)) pass0 (pa_cons (pe_ix ix_list (pv 4) pe_int (fun _ _ => rfl)) pa_nil)) pa_nil)) pk_nil)))))) pss_nil)
    (pss_cons (ps_if (PW.pt (pw_and (pt_cmpR op_eq (pv 3) pe_str (nomark _)) (pw_and1 (pt_chain op_le op_le pe_int (pe_callB call_len_seq rfl T.f_len (by decide +kernel) (pa_cons (pv 4) pa_nil)) (pe_gl T.g_MOST_GOALS))))) (pss_one (ps_ret (pe_mkn c_Row_3_goals (hr.mono (by decide)) pass0 (pa_cons (pv 0) (pa_cons (pv 1) (pa_cons (pv 3) pa_nil))) (pk_cons (pe_callTy call_tuple_of rfl T.f_tuple (by decide +kernel) (pa_cons (pe_lc (own := [("goal", 5)]) (g := gName 5) (tt := tYes) rfl sc_row_of_words.nd (pi_list (pv 4)) (blkOk_by (own := [("goal", 5)]) (N := n_row_of_words) (sc := defScope s_row_of_words) (by decide +kernel)) (fun _ _ _ _ _ => (pg_name (i := 5) sc_row_of_words.nd rfl (Or.inl rfl))) (fun _ _ _ _ _ => pts_nil) (fun _ _ _ _ _ => (pe_calO c_digit_of (hr.mono (by decide)) pass0 (pa_cons (pv 5) pa_nil)))) pa_nil)) pk_nil)))) pss_nil)
    (pss_one (ps_ret (pe_ifExp (pt_cmpR (op_eqD hu) (pv 2) (pe_lst (pa_cons pe_str pa_nil)) (nomark _)) (pe_mkc c_Row_3 (hr.mono (by decide)) pass0 (pa_cons (pv 0) (pa_cons (pv 1) (pa_cons (pv 3) pa_nil)))) pe_non))))))))), ?_⟩
    have kt := T.kt_Row___init___goals
    cases R with
    | one w g =>
      obtain ⟨hw, hg⟩ := ok
      simp only [fourW, List.mem_cons, List.not_mem_nil, or_false] at hw
      rcases hw with rfl | rfl | rfl | rfl
      all_goals
        walk_at "rd"
        intro D nD
        walk_at "rd"
        intro p1 np1
        walk_at "rd"
        intro x dx nx nd ne
        refine ⟨x, dx, _, tx, la, _, _, _, [], rfl, upd_same, .inr ⟨rfl, kt⟩, fun H' b e => ⟨rfl, q H' x dx _ (L2.Same.trans ?_ (made_same nx nd b)) e (.inr ⟨rfl, kt⟩)⟩⟩
        walk_at "g but"
    | arr g d =>
      have hd : d < 10 := by have := ok.2; omega
      walk_at "rd"
      intro D nD
      walk_at "rd"
      intro p1 np1
      walk_at "rd"
      intro x dx nx nd ne
      refine ⟨x, dx, _, tx, la, _, _, _, [], rfl, upd_same, .inr ⟨rfl, kt⟩, fun H' b e => ⟨rfl, q H' x dx _ (L2.Same.trans ?_ (made_same nx nd b)) e (.inr ⟨rfl, kt⟩)⟩⟩
      walk_at "g but"
    | wai g k =>
      have hk : k < 10 := ok.2
      walk_at "rd"
      intro D nD
      walk_at "rd"
      intro p1 np1
      walk_at "rd"
      intro t nt
      walk_at "rd"
      intro x dx nx nd ne
      have go : ∀ o, GoAt K (upd (upd (upd _ t (.tup (intV [k]))) dx (.own x)) x o) t [k] := fun o => .inl (upd_get ((upd_ne ne.symm).trans nx) (upd_get nd upd_same))
      refine ⟨x, dx, _, tx, la, _, _, _, [k], rfl, upd_same, go _, fun H' b e => ⟨rfl, q H' x dx _ (L2.Same.trans ?_ (made_same nx nd b)) e ((go _).but upd_same b)⟩⟩
      walk_at "g but"
    | ovr g d k =>
      have hd : d < 10 := by have := ok.2.1; omega
      have hk : k < 10 := ok.2.2
      walk_at "rd"
      intro D nD
      walk_at "rd"
      intro p1 np1
      walk_at "rd"
      intro t nt
      walk_at "rd"
      intro x dx nx nd ne
      have go : ∀ o, GoAt K (upd (upd (upd _ t (.tup (intV [k]))) dx (.own x)) x o) t [k] := fun o => .inl (upd_get ((upd_ne ne.symm).trans nx) (upd_get nd upd_same))
      refine ⟨x, dx, _, tx, la, _, _, _, [k], rfl, upd_same, go _, fun H' b e => ⟨rfl, q H' x dx _ (L2.Same.trans ?_ (made_same nx nd b)) e ((go _).but upd_same b)⟩⟩
      walk_at "g but"
    | go ks =>
      obtain ⟨k0, k4, kd, kp⟩ := ok
      have el : (List.drop 1 (List.map V.str (RW.go ks).words)).length = ks.length := by simp [RW.words]
      have k1 : 0 < ks.length := List.length_pos_iff.mpr k0
      walk_at "rd"
      intro D nD
      walk_at "rd"
      intro p1 np1
      walk_at "rd"
      refine iteD (fun _ => ?_) (fun h => absurd (show (1 : Int) ≤ ((List.length _ : Nat) : Int) by rw [el]; omega) h)
      walk_at "rd"
      refine iteD (fun _ => ?_) (fun h => absurd (show ((List.length _ : Nat) : Int) ≤ 4 by rw [el]; omega) h)
      walk_at "rd"
      refine ⟨⟨(ks.map digS).map V.str, SqL.of (upd_get np1 upd_same)⟩, ?_⟩
      intro D2 nD2
      refine lcP (wk_list ((ks.map digS).map V.str)) fDig (fun acc => SqL.of (upd_get nD2 (upd_get np1 upd_same))) (by rw [List.length_map, List.length_map]; show ks.length < 16777216; omega) ?_ ?_
      · intro i y acc Q' hx hq
        obtain ⟨z, hz, rfl⟩ := List.mem_map.mp (List.mem_of_getElem? hx)
        obtain ⟨k, hm, rfl⟩ := List.mem_map.mp hz
        have hk := kd k hm
        rw [fDig_dig] at hq
        walk_at "rd"
        exact hq
      · rw [fDig_map]
        refine ⟨D2, intV ks, rfl, .inl ⟨SqL.of upd_same, fun t nt => ?_⟩⟩
        walk_at "rd"
        intro x dx nx nd ne
        have go : ∀ o, GoAt K (upd (upd (upd _ t (.tup (intV ks))) dx (.own x)) x o) t ks := fun o => .inl (upd_get ((upd_ne ne.symm).trans nx) (upd_get nd upd_same))
        refine ⟨x, dx, _, tx, la, _, _, _, ks, rfl, upd_same, go _, fun H' b e => ⟨rfl, q H' x dx _ (L2.Same.trans ?_ (made_same nx nd b)) e ((go _).but upd_same b)⟩⟩
        walk_at "g but"
    | fin =>
      walk_at "rd"
      intro D nD
      walk_at "rd"
      intro p1 np1
      walk_at "rd"
      intro p2 np2
      walk_at "rd"
      refine ⟨.list [.str "end"], .list [.str "end"], .lst (.inl (.inl (by walk_at "g hp"))) (.cons (.str _) .nil), .lst (.inl (.inl upd_same)) (.cons (.str _) .nil), by decide +kernel, by decide +kernel, ?_⟩
      walk_at "rd"
      intro x dx nx nd ne
      refine ⟨x, dx, _, tx, la, _, _, _, [], rfl, upd_same, .inr ⟨rfl, kt⟩, fun H' b e => ⟨rfl, q H' x dx _ (L2.Same.trans ?_ (made_same nx nd b)) e (.inr ⟨rfl, kt⟩)⟩⟩
      walk_at "g but"
end
end G
namespace G
open PySem PySem.Spec PyProof.Rows L2
theorem rng_at {lo : Int} {n i : Nat} {x : V} (h : (rngV lo n)[i]? = some x) : x = .int (lo + (i : Int)) ∧ i < n := by
  have lt := (List.getElem?_eq_some_iff.mp h).1
  rw [rngV_len] at lt
  refine ⟨?_, lt⟩
  unfold rngV at h
  rw [List.getElem?_map, List.getElem?_range lt] at h
  exact (Option.some.inj h).symm
/-- a resting place -/
theorem mid1 {t1 t2 : TS} {D : Ends} {σ : L2.St} {H : Hp} (M : L2.St → Hp → Prop) (h2 : ∀ σ' H', M σ' H' → t2 D σ' H')
    (h1 : ∀ u : TS, (∀ σ' H', M σ' H' → u D σ' H') → tSeq t1 u D σ H) : tSeq t1 t2 D σ H := h1 t2 h2
theorem mid3 {t1 t2 t3 t4 : TS} {D : Ends} {σ : L2.St} {H : Hp} (M : L2.St → Hp → Prop) (h2 : ∀ σ' H', M σ' H' → t4 D σ' H')
    (h1 : ∀ u : TS, (∀ σ' H', M σ' H' → u D σ' H') → tSeq t1 (tSeq t2 (tSeq t3 u)) D σ H) : tSeq t1 (tSeq t2 (tSeq t3 t4)) D σ H := h1 t4 h2
theorem mid6 {t1 t2 t3 t4 t5 t6 t7 : TS} {D : Ends} {σ : L2.St} {H : Hp} (M : L2.St → Hp → Prop) (h2 : ∀ σ' H', M σ' H' → t7 D σ' H')
    (h1 : ∀ u : TS, (∀ σ' H', M σ' H' → u D σ' H') → tSeq t1 (tSeq t2 (tSeq t3 (tSeq t4 (tSeq t5 (tSeq t6 u))))) D σ H) :
    tSeq t1 (tSeq t2 (tSeq t3 (tSeq t4 (tSeq t5 (tSeq t6 t7))))) D σ H := h1 t7 h2
section
variable {P : Program} {w : World} {K : PySem.W.Frag} {mg : Str → Option Value} {base : Heap} {CX : CXT}
theorem gate_ok {R : RW} (ok : R.Ok) : R.gateV = .non ∨ ∃ z, R.gateV = .str z ∧ Nm z := by
  cases R with
  | one w g => exact .inr ⟨g, rfl, ok.2⟩
  | arr g d => exact .inr ⟨g, rfl, ok.1⟩
  | wai g k => exact .inr ⟨g, rfl, ok.1⟩
  | ovr g d k => exact .inr ⟨g, rfl, ok.1⟩
  | go ks => exact .inl rfl
  | fin => exact .inl rfl
theorem val_ok {R : RW} (ok : R.Ok) : inV (.str R.wordS) [.str "arrive", .str "over"] = false ∨ ∃ d : Nat, R.valV = .int (d : Int) ∧ d < 4 := by
  cases R with
  | one w g =>
    have h := ok.1
    simp only [fourW, List.mem_cons, List.not_mem_nil, or_false] at h
    rcases h with rfl | rfl | rfl | rfl
    · exact .inl (show inV (.str "join") [.str "arrive", .str "over"] = false by decide +kernel)
    · exact .inl (show inV (.str "drop") [.str "arrive", .str "over"] = false by decide +kernel)
    · exact .inl (show inV (.str "look") [.str "arrive", .str "over"] = false by decide +kernel)
    · exact .inl (show inV (.str "anew") [.str "arrive", .str "over"] = false by decide +kernel)
  | arr g d => exact .inr ⟨d, rfl, ok.2⟩
  | wai g k => exact .inl (show inV (.str "wait") [.str "arrive", .str "over"] = false by decide +kernel)
  | ovr g d k => exact .inr ⟨d, rfl, ok.2.1⟩
  | go ks => exact .inl (show inV (.str "go") [.str "arrive", .str "over"] = false by decide +kernel)
  | fin => exact .inl (show inV (.str "end") [.str "arrive", .str "over"] = false by decide +kernel)
theorem goals_ok {R : RW} (ok : R.Ok) : R.goals.length ≤ 4 ∧ R.goals.Pairwise (· < ·) := by
  cases R with
  | go ks => exact ⟨ok.2.1, ok.2.2.2⟩
  | one w g => exact ⟨Nat.zero_le _, .nil⟩
  | arr g d => exact ⟨Nat.zero_le _, .nil⟩
  | fin => exact ⟨Nat.zero_le _, .nil⟩
  | wai g k => exact ⟨(by decide : 1 ≤ 4), List.pairwise_singleton ..⟩
  | ovr g d k => exact ⟨(by decide : 1 ≤ 4), List.pairwise_singleton ..⟩
theorem none_in (gs : List Nat) : inV .non (intV gs) = false := by
  unfold inV intV
  rw [List.any_eq_false]
  intro x hx
  obtain ⟨k, _, rfl⟩ := List.mem_map.mp hx
  exact fun h => nomatch (show false = true from h)
theorem flat_ints (gs : List Nat) : (intV gs).all flatV = true := by
  rw [List.all_eq_true]
  intro x hx
  obtain ⟨k, _, rfl⟩ := List.mem_map.mp hx
  rfl
def LabOk (la : V) : Prop := la = .non ∨ ∃ z, la = .str z ∧ Nm z
def spHas (K : PySem.W.Frag) : Sp := fun vs H Q _ => ∃ (r dx g : Addr) (tx la : V) (R : RW), vs = [.ref r] ∧
  H r = some (.ins (cR K) dx (rowFs tx la (.str R.wordS) R.gateV R.valV g R.goals)) ∧ GoAt K H g R.goals ∧ R.Ok ∧ LabOk la ∧ ∀ H', Same H H' → Q (.bl true) H'
theorem ok_has_right_parts {f : Addr} {fd : FuncData} {dvs : List V} {kws : List (Str × V)} (T : Tx K mg)
    (F : FunD K "has_right_parts" "has_right_parts" (defArgs s_has_right_parts) (defBody s_has_right_parts) (defScope s_has_right_parts) dvs kws f fd) :
    FnOk P w K mg base CX0 2 f fd ["row"] (spHas K) := by
  have c_is_name : CalO P w K mg base CX0 1 "is_name" [] (spIsName K) := c_is_name T
  refine F.ok sc_has_right_parts (fun vs H Q E h => ?_) (fun cdv A outer s H vs Q E hr h => ?_)
  · obtain ⟨r, dx, g, tx, la, R, rfl, _⟩ := h
    rfl
  · obtain ⟨r, dx, g, tx, la, R, rfl, ha, hg, ok, hla, q⟩ := h
    have hu := hr.units
    have cl := T.c_Row
    have n2 := T.na_Row_label
    have n3 := T.na_Row_word
    have n4 := T.na_Row_gate
    have n5 := T.na_Row_value
    have n6 := T.na_Row_goals
    refine ⟨_, PSs.nox (pss_cons (ps_if (PW.pt (pw_and (pt_cmpR op_notN (pe_fld (pv 0) rfl) pe_non (nomark _)) (pw_and1 (pt_not (pt_val (pe_calO c_is_name (hr.mono (by decide)) pass0 (pa_cons (pe_fld (pv 0) rfl) pa_nil))))))) (pss_one (ps_ret pe_bl)) pss_nil)
    (pss_cons (ps_if (PW.pt (pw_and (pt_cmpR op_notN (pe_fld (pv 0) rfl) pe_non (nomark _)) (pw_and1 (pt_not (pt_val (pe_calO c_is_name (hr.mono (by decide)) pass0 (pa_cons (pe_fld (pv 0) rfl) pa_nil))))))) (pss_one (ps_ret pe_bl)) pss_nil)
    (pss_cons (ps_if (PW.pt (pw_and (pt_cmpR op_in_seq (pe_fld (pv 0) rfl) (pe_tup (pa_cons pe_str (pa_cons pe_str pa_nil))) rfl) (pw_and1 (PW.pt (pw_or (pt_cmpR op_isN (pe_fld (pv 0) rfl) pe_non (nomark _)) (pw_or1 (pt_cmpR op_gt (pe_fld (pv 0) rfl) (pe_gl T.g_MOST_VALUE) (nomark _)))))))) (pss_one (ps_ret pe_bl)) pss_nil)
    (pss_cons (ps_if (pt_cmpR op_in_seq pe_non (pe_fld (pv 0) rfl) rfl) (pss_one (ps_ret pe_bl)) pss_nil)
    (pss_one (ps_ret (pe_callB (cr_all rfl) rfl T.f_all (by decide +kernel) (pa_cons (pe_lc (own := [("at", 1)]) (g := gName 1) (tt := tYes) rfl sc_has_right_parts.nd (pi_range1 rfl T.f_range (pa_cons (pe_op op_sub (pe_callB call_len_seq rfl T.f_len (by decide +kernel) (pa_cons (pe_fld (pv 0) rfl) pa_nil)) pe_int) pa_nil)) (blkOk_by (own := [("at", 1)]) (N := n_has_right_parts) (sc := defScope s_has_right_parts) (by decide +kernel)) (fun _ _ _ _ _ => (pg_name (i := 1) sc_has_right_parts.nd rfl (Or.inl rfl))) (fun _ _ _ _ _ => pts_nil) (fun _ _ _ _ _ => (pe_cmpR op_lt (pe_ix (ixK (K := K) (r := rIxT) rfl ix_tup) (pe_fldK (K := K) rfl (pv 0) rfl) (pv 1) (fun _ _ => rfl)) (pe_ix (ixK (K := K) (r := rIxT) rfl ix_tup) (pe_fldK (K := K) rfl (pv 0) rfl) (pe_op op_add (pv 1) pe_int) (fun _ _ => rfl)) (nomark _)))) pa_nil)))))))), ?_⟩
    refine mid1 (fun σ' H' => σ' = [some (.ref r), none] ∧ Same H H') ?_ (fun u rest => ?_)
    rotate_left
    · rcases hla with rfl | ⟨z, rfl, nz⟩
      · walk_at "rd"
        exact rest _ _ ⟨rfl, by walk_at "g but"⟩
      · have zl : z.length ≤ sizeLine := Nat.le_trans nz.2 (by decide)
        walk_at "rd"
        intro H1 s1
        rw [nz.1]
        walk_at "rd"
        exact rest _ _ ⟨rfl, by walk_at "g but"⟩
    rintro σ1 H1 ⟨rfl, s1⟩
    refine mid1 (fun σ' H' => σ' = [some (.ref r), none] ∧ Same H H') ?_ (fun u rest => ?_)
    rotate_left
    · have ha1 := s1 _ _ ha
      rcases gate_ok ok with e | ⟨z, e, nz⟩
      · rw [e] at ha1
        walk_at "rd"
        exact rest _ _ ⟨rfl, by walk_at "g but"⟩
      · have zl : z.length ≤ sizeLine := Nat.le_trans nz.2 (by decide)
        rw [e] at ha1
        walk_at "rd"
        intro H2 s2
        rw [nz.1]
        walk_at "rd"
        exact rest _ _ ⟨rfl, by walk_at "g but"⟩
    rintro σ2 H2 ⟨rfl, s2⟩
    refine mid1 (fun σ' H' => σ' = [some (.ref r), none] ∧ Same H H') ?_ (fun u rest => ?_)
    rotate_left
    · have ha2 := s2 _ _ ha
      walk_at "rd"
      intro p1 np1
      walk_at "rd"
      rcases val_ok ok with e | ⟨d, e, hd⟩
      · rw [e]
        walk_at "rd"
        exact rest _ _ ⟨rfl, by walk_at "g but"⟩
      · rw [e] at ha2
        refine iteB (fun _ => ?_) (fun _ => ?_)
        · walk_at "rd"
          refine iteD (fun h => absurd h (by omega)) (fun _ => ?_)
          walk_at "rd"
          exact rest _ _ ⟨rfl, by walk_at "g but"⟩
        · walk_at "rd"
          exact rest _ _ ⟨rfl, by walk_at "g but"⟩
    rintro σ3 H3 ⟨rfl, s3⟩
    have ha3 := s3 _ _ ha
    have hg3 := hg.same s3
    obtain ⟨g4, gp⟩ := goals_ok ok
    have il : (intV R.goals).length = R.goals.length := List.length_map ..
    walk_at "rd"
    refine ⟨Or.inr hg3.sq, rfl, flat_ints _, ?_⟩
    rw [none_in]
    walk_at "rd"
    refine ⟨Or.inr hg3.sq, ?_⟩
    walk_at "rd"
    intro D nD
    refine lcP (wk_range 0 _) (fun _ => V.bl true) (fun _ => trivial) (by rw [rngV_len]; show _ < 16777216; omega) ?_ ?_
    · intro i x acc Q' hx hq
      obtain ⟨rfl, hi⟩ := rng_at hx
      rw [il] at hi
      have h1 : i < R.goals.length := by omega
      have h2 : i + 1 < R.goals.length := by omega
      have sq : SqT K (upd H3 D (.lst acc)) g (intV R.goals) := (hg3.same ((Same.refl _).new nD)).sq
      have ha4 : upd H3 D (.lst acc) r = _ := upd_get nD ha3
      have e1 : atI (intV R.goals) (0 + (i : Int)) = some (.int ((R.goals[i] : Nat) : Int)) := at_any (j := i) (by omega) (by simp [intV, h1])
      have e2 : atI (intV R.goals) (0 + (i : Int) + 1) = some (.int ((R.goals[i + 1] : Nat) : Int)) := at_any (j := i + 1) (by omega) (by simp [intV, h2])
      have lt := List.pairwise_iff_getElem.mp gp i (i + 1) h1 h2 (by omega)
      walk_at "rd"
      refine ret_eq hq ?_
      exact congrArg V.bl (decide_eq_true (show ((R.goals[i] : Nat) : Int) < ((R.goals[i + 1] : Nat) : Int) by omega)).symm
    · refine ⟨D, List.replicate (((intV R.goals).length : Int) - 1).toNat true, rfl, SqL.of ?_, ret_eq (q _ (by walk_at "g but")) (by simp)⟩
      rw [upd_same, List.map_replicate, List.map_const', rngV_len]
theorem c_has_right_parts (T : Tx K mg) : CalO P w K mg base CX0 2 "has_right_parts" [] (spHas K) := by
  obtain ⟨fd, F⟩ := T.d_has_right_parts
  exact .mk F (ok_has_right_parts T F) T.n_has_right_parts fun _ _ _ _ _ _ us hl => match us, hl with | [_], _ => rfl
theorem c_row_of_words (T : Tx K mg) : CalO P w K mg base CX0 3 "row_of_words" [] (spRowOf K) := by
  obtain ⟨fd, F⟩ := T.d_row_of_words
  exact .mk F (ok_row_of_words T F) T.n_row_of_words fun _ _ _ _ _ _ us hl => match us, hl with | [_, _, _], _ => rfl
def spLeads (K : PySem.W.Frag) : Sp := fun vs H Q _ => ∃ (r dx g : Addr) (tx la : V) (R : RW) (m : Int), vs = [.ref r, .int m] ∧
  H r = some (.ins (cR K) dx (rowFs tx la (.str R.wordS) R.gateV R.valV g R.goals)) ∧ GoAt K H g R.goals ∧ R.goals.length ≤ 4 ∧ (∀ k ∈ R.goals, (k : Int) < m) ∧ ∀ H', Same H H' → Q (.bl true) H'
theorem ok_leads_within {f : Addr} {fd : FuncData} {dvs : List V} {kws : List (Str × V)} (T : Tx K mg)
    (F : FunD K "leads_within" "leads_within" (defArgs s_leads_within) (defBody s_leads_within) (defScope s_leads_within) dvs kws f fd) :
    FnOk P w K mg base CX 1 f fd ["row", "many"] (spLeads K) := by
  refine F.ok sc_leads_within (fun vs H Q E h => ?_) (fun cdv A outer s H vs Q E hr h => ?_)
  · obtain ⟨r, dx, g, tx, la, R, m, rfl, _⟩ := h
    rfl
  · obtain ⟨r, dx, g, tx, la, R, m, rfl, ha, hg, g4, lt, q⟩ := h
    have hu := hr.units
    have cl := T.c_Row
    have n6 := T.na_Row_goals
    refine ⟨_, PSs.nox (pss_one (ps_ret (pe_callB (cr_all rfl) rfl T.f_all (by decide +kernel) (pa_cons (pe_lc (own := [("goal", 2)]) (g := gName 2) (tt := tYes) rfl sc_leads_within.nd (pi_tup (pe_fld (pv 0) rfl)) (blkOk_by (own := [("goal", 2)]) (N := n_leads_within) (sc := defScope s_leads_within) (by decide +kernel)) (fun _ _ _ _ _ => (pg_name (i := 2) sc_leads_within.nd rfl (Or.inl rfl))) (fun _ _ _ _ _ => pts_nil) (fun _ _ _ _ _ => (pe_cmpR op_lt (pv 2) (pv 1) (nomark _)))) pa_nil)))), ?_⟩
    walk_at "rd"
    refine ⟨⟨_, hg.sq⟩, ?_⟩
    intro D nD
    have il : (intV R.goals).length = R.goals.length := List.length_map ..
    refine lcP (wk_tup (intV R.goals)) (fun _ => V.bl true) (fun acc => (hg.same ((Same.refl _).new nD)).sq) (by rw [il]; show _ < 16777216; omega) ?_ ?_
    · intro i x acc Q' hx hq
      obtain ⟨k, hk, rfl⟩ := List.mem_map.mp (List.mem_of_getElem? hx)
      walk_at "rd"
      exact ret_eq hq (congrArg V.bl (decide_eq_true (lt k hk)).symm)
    · refine ⟨D, List.replicate (intV R.goals).length true, rfl, SqL.of ?_, ret_eq (q _ (by walk_at "g but")) (by simp)⟩
      rw [upd_same, List.map_replicate, List.map_const']
theorem c_leads_within (T : Tx K mg) : CalO P w K mg base CX 1 "leads_within" [] (spLeads K) := by
  obtain ⟨fd, F⟩ := T.d_leads_within
  exact .mk F (ok_leads_within T F) T.n_leads_within fun _ _ _ _ _ _ us hl => match us, hl with | [_, _], _ => rfl
def labV : Option Str → V
  | none => .non
  | some z => .str z
def spParsed (K : PySem.W.Frag) : Sp := fun vs H Q _ => ∃ (l : Option Str) (R : RW), vs = [.str (rowText l R)] ∧ R.Ok ∧ (∀ z, l = some z → Nm z) ∧
  ∀ H' r dx g, Same H H' → H' r = some (.ins (cR K) dx (rowFs (.str (rowText l R)) (labV l) (.str R.wordS) R.gateV R.valV g R.goals)) → GoAt K H' g R.goals → Q (.ref r) H'
theorem ok_parsed_row {f : Addr} {fd : FuncData} {dvs : List V} {kws : List (Str × V)} (T : Tx K mg)
    (F : FunD K "parsed_row" "parsed_row" (defArgs s_parsed_row) (defBody s_parsed_row) (defScope s_parsed_row) dvs kws f fd) :
    FnOk P w K mg base CX0 4 f fd ["text"] (spParsed K) := by
  have c_row_of_words : CalO P w K mg base CX0 3 "row_of_words" [] (spRowOf K) := c_row_of_words T
  have c_has_right_parts : CalO P w K mg base CX0 2 "has_right_parts" [] (spHas K) := c_has_right_parts T
  refine F.ok sc_parsed_row (fun vs H Q E h => ?_) (fun cdv A outer s H vs Q E hr h => ?_)
  · obtain ⟨l, R, rfl, _⟩ := h
    rfl
  · obtain ⟨l, R, rfl, ok, lo, q⟩ := h
    have hu := hr.units
    have l1 : (rowText l R).length ≤ sizeLine := Nat.le_trans (rowText_len ok lo) (by decide)
    have l2 : (rwText R).length + 2 ≤ sizeLine := Nat.le_trans (Nat.add_le_add_right (rwText_len ok) 2) (by decide)
    have e2 := rwText_split ok
    refine ⟨_, PSs.nox (pss_cons (ps_if (pt_not (pt_val (pe_callB call_isi rfl T.f_isinstance (by decide +kernel) (pa_cons (pv 0) (pa_cons (pe_bltn (v := .ty "str") (u := .type "str") rfl T.f_str (by decide +kernel) rfl) pa_nil))))) (pss_one (ps_ret pe_non)) pss_nil)
    (pss_cons (ps_asg (pe_partition (pv 0) pe_str) (pg_tup rfl (pgs_cons (pg_name (i := 1) sc_parsed_row.nd rfl (Or.inl rfl)) (pgs_cons (pg_name (i := 2) sc_parsed_row.nd rfl (Or.inl rfl)) (pgs_cons (pg_name (i := 3) sc_parsed_row.nd rfl (Or.inl rfl)) pgs_nil)))))
    (pss_cons (ps_if (pt_cmpR op_eq (pv 2) pe_str (nomark _)) (pss_one (ps_par (i := 1) (j := 3) rfl sc_parsed_row.nd rfl rfl (by decide) rfl rfl (pa_cons pe_non (pa_cons (pv 0) pa_nil)) (by rfl))) pss_nil)
    (pss_cons (ps_set (i := 4) sc_parsed_row.nd rfl (Or.inl rfl) (pe_calO c_row_of_words (hr.mono (by decide)) pass0 (pa_cons (pv 0) (pa_cons (pv 1) (pa_cons (pe_split (pv 3) pe_str) pa_nil)))))
    (pss_one (ps_ret (pe_ifExp (PW.pt (pw_and (pt_cmpR op_notN (pv 4) pe_non (nomark _)) (pw_and1 (pt_val (pe_calO c_has_right_parts (hr.mono (by decide)) pass0 (pa_cons (pv 4) pa_nil)))))) (pv 4) pe_non))))))), ?_⟩
    cases l with
    | none =>
      have e1 := rowText_part0 ok
      walk_at "rd"
      intro p np
      rw [e1]
      walk_at "rd"
      have e3 : Txt.split (rowText none R) (Str.ofString " ") = R.words := e2
      rw [e3]
      intro p2 np2
      walk_at "rd"
      refine ⟨R, rfl, upd_same, ok, fun H' r dx g s' hr' hg' => ?_⟩
      walk_at "rd"
      refine ⟨R, rfl, hr', hg', ok, .inl rfl, fun H2 s2 => ?_⟩
      walk_at "rd"
      refine q H2 r dx g ?_ (s2 _ _ hr') (hg'.same s2)
      refine L2.Same.trans (L2.Same.trans ?_ s') s2
      walk_at "g but"
    | some z =>
      have e1 := rowText_part1 (r := R) (lo z rfl)
      walk_at "rd"
      intro p np
      rw [e1]
      walk_at "rd"
      have e3 : Txt.split (z, Str.ofString ": ", rwText R).snd.snd (Str.ofString " ") = R.words := e2
      rw [e3]
      intro p2 np2
      walk_at "rd"
      refine ⟨R, rfl, upd_same, ok, fun H' r dx g s' hr' hg' => ?_⟩
      walk_at "rd"
      refine ⟨R, rfl, hr', hg', ok, .inr ⟨z, rfl, lo z rfl⟩, fun H2 s2 => ?_⟩
      walk_at "rd"
      refine q H2 r dx g ?_ (s2 _ _ hr') (hg'.same s2)
      refine L2.Same.trans (L2.Same.trans ?_ s') s2
      walk_at "g but"
end
end G
namespace G
open PySem PySem.Spec PyProof.Rows L2
/-- a row as it is told: the label, the words -/
abbrev RwT := Option Str × RW
def RwT.text (q : RwT) : Str := rowText q.1 q.2
def rowsV (rs : List RwT) : List V := rs.map fun q => V.str q.text
structure RowsOk (rs : List RwT) : Prop where
  one : 1 ≤ rs.length
  ten : rs.length ≤ 10
  ok : ∀ q ∈ rs, q.2.Ok ∧ (∀ z, q.1 = some z → Nm z) ∧ ∀ k ∈ q.2.goals, k < rs.length
section
variable {P : Program} {w : World} {K : PySem.W.Frag} {mg : Str → Option Value} {base : Heap} {CX : CXT}
def RowIn (K : PySem.W.Frag) (H : Hp) (a : Addr) (q : RwT) : Prop := ∃ dx g, H a = some (.ins (cR K) dx (rowFs (.str q.text) (labV q.1) (.str q.2.wordS) q.2.gateV q.2.valV g q.2.goals)) ∧ GoAt K H g q.2.goals
theorem RowIn.same {H H' : Hp} {a : Addr} {q : RwT} (h : RowIn K H a q) (s : Same H H') : RowIn K H' a q := by
  obtain ⟨dx, g, e, o⟩ := h
  exact ⟨dx, g, s _ _ e, o.same s⟩
theorem GoAt.lst {H : Hp} {g D : Addr} {gs : List Nat} {xs : List V} {o : HO} (h : GoAt K H g gs) (hD : H D = some (.lst xs)) : GoAt K (upd H D o) g gs := by
  rcases h with h | h
  · exact .inl (by rw [upd_ne (ne_of h hD (by intro e; cases e))]; exact h)
  · exact .inr h
theorem RowIn.lst {H : Hp} {a D : Addr} {q : RwT} {xs : List V} {o : HO} (h : RowIn K H a q) (hD : H D = some (.lst xs)) : RowIn K (upd H D o) a q := by
  obtain ⟨dx, g, e, go⟩ := h
  exact ⟨dx, g, by rw [upd_ne (ne_of e hD (by intro e; cases e))]; exact e, go.lst hD⟩
/-- the rows as objects, one by one -/
def RowsIn (K : PySem.W.Frag) (H : Hp) (as : List Addr) (rs : List RwT) : Prop := as.length = rs.length ∧ ∀ (i : Nat) (a : Addr) (q : RwT), as[i]? = some a → rs[i]? = some q → RowIn K H a q
theorem RowsIn.same {H H' : Hp} {as : List Addr} {rs : List RwT} (h : RowsIn K H as rs) (s : Same H H') : RowsIn K H' as rs :=
  ⟨h.1, fun i a q h1 h2 => (h.2 i a q h1 h2).same s⟩
theorem RowsIn.lst {H : Hp} {as : List Addr} {rs : List RwT} {D : Addr} {xs : List V} {o : HO} (h : RowsIn K H as rs) (hD : H D = some (.lst xs)) : RowsIn K (upd H D o) as rs :=
  ⟨h.1, fun i a q h1 h2 => (h.2 i a q h1 h2).lst hD⟩
theorem RowsIn.snoc {H : Hp} {as : List Addr} {rs : List RwT} {a : Addr} {q : RwT} (h : RowsIn K H as rs) (r : RowIn K H a q) : RowsIn K H (as ++ [a]) (rs ++ [q]) := by
  refine ⟨by simp [h.1], fun i b u h1 h2 => ?_⟩
  rcases Nat.lt_trichotomy i as.length with lt | rfl | gt
  · rw [List.getElem?_append_left lt] at h1
    rw [List.getElem?_append_left (by rw [← h.1]; exact lt)] at h2
    exact h.2 i b u h1 h2
  · rw [List.getElem?_append_right (Nat.le_refl _), Nat.sub_self] at h1
    rw [List.getElem?_append_right (by rw [h.1]; exact Nat.le_refl _), h.1, Nat.sub_self] at h2
    cases Option.some.inj h1
    cases Option.some.inj h2
    exact r
  · rw [List.getElem?_eq_none (by simp; omega)] at h1
    cases h1
def spRows (K : PySem.W.Frag) : Sp := fun vs H Q _ => ∃ (t : Addr) (rs : List RwT), vs = [.ref t] ∧ H t = some (.tup (rowsV rs)) ∧ RowsOk rs ∧
  ∀ H' p as, Same H H' → H' p = some (.tup (as.map V.ref)) → RowsIn K H' as rs → Q (.ref p) H'
theorem ok_parsed_rows {f : Addr} {fd : FuncData} {dvs : List V} {kws : List (Str × V)} (T : Tx K mg)
    (F : FunD K "parsed_rows" "parsed_rows" (defArgs s_parsed_rows) (defBody s_parsed_rows) (defScope s_parsed_rows) dvs kws f fd) :
    FnOk P w K mg base CX0 5 f fd ["rows"] (spRows K) := by
  have c_parsed_row : CalO P w K mg base CX0 4 "parsed_row" [] (spParsed K) := by
    obtain ⟨fd, F⟩ := T.d_parsed_row
    exact .mk F (ok_parsed_row T F) T.n_parsed_row fun _ _ _ _ _ _ us hl => match us, hl with | [_], _ => rfl
  have c_leads_within : CalO P w K mg base CX0 1 "leads_within" [] (spLeads K) := c_leads_within T
  refine F.ok sc_parsed_rows (fun vs H Q E h => ?_) (fun cdv A outer s H vs Q E hr h => ?_)
  · obtain ⟨t, rs, rfl, _⟩ := h
    rfl
  · obtain ⟨t, rs, rfl, ht, ok, q⟩ := h
    have hu := hr.units
    have ht0 : SqT K H t (rowsV rs) := SqT.of ht
    have rl : (rowsV rs).length = rs.length := List.length_map ..
    have o1 := ok.one
    have o2 := ok.ten
    refine ⟨_, PSs.nox (pss_cons (ps_if (PW.pt (pw_or (pt_not (pt_val (pe_callB call_isi rfl T.f_isinstance (by decide +kernel) (pa_cons (pv 0) (pa_cons (pe_bltn (v := .ty "tuple") (u := .type "tuple") rfl T.f_tuple (by decide +kernel) rfl) pa_nil))))) (pw_or1 (pt_cmpR op_eq (pe_callB call_len_seq rfl T.f_len (by decide +kernel) (pa_cons (pv 0) pa_nil)) pe_int (nomark _))))) (pss_one ps_never) pss_nil)
    (pss_cons (ps_set (i := 1) sc_parsed_rows.nd rfl (Or.inl rfl) (pe_lst pa_nil))
    (pss_cons (ps_for PassesOwn.never rfl (pi_enumT rfl T.f_enumerate (pa_cons (pe_slice sl_tupA (pv 0) po_none (po_some (pe_gl T.g_MOST_ROWS))) pa_nil)) (pg_tup rfl (pgs_cons (pg_name (i := 2) sc_parsed_rows.nd rfl (Or.inl rfl)) (pgs_cons (pg_name (i := 3) sc_parsed_rows.nd rfl (Or.inl rfl)) pgs_nil)))
      (pss_cons (ps_set (i := 4) sc_parsed_rows.nd rfl (Or.inl rfl) (pe_calO c_parsed_row (hr.mono (by decide)) pass0 (pa_cons (pv 3) pa_nil)))
    (pss_cons (ps_if (PW.pt (pw_or (pt_cmpR op_isN (pv 4) pe_non (nomark _)) (pw_or1 (pt_not (pt_val (pe_calO c_leads_within (hr.mono (by decide)) pass0 (pa_cons (pv 4) (pa_cons (pe_callB call_len_seq rfl T.f_len (by decide +kernel) (pa_cons (pv 0) pa_nil)) pa_nil)))))))) (pss_one ps_never) pss_nil)
    (pss_one (ps_expr (pe_bm PySem.F.plainAttrs_list PySem.F.slot_list_append PySem.F.type_list_append mt_append (pv 1) (pa_cons (pv 4) pa_nil)))))))
    (pss_cons (ps_if (pt_cmpR op_gt (pe_callB call_len_seq rfl T.f_len (by decide +kernel) (pa_cons (pv 0) pa_nil)) (pe_gl T.g_MOST_ROWS) (nomark _)) (pss_one ps_never) pss_nil)
    (pss_one (ps_ret (pe_callTy call_tuple_of rfl T.f_tuple (by decide +kernel) (pa_cons (pv 1) pa_nil)))))))), ?_⟩
    walk_at "rd"
    refine iteD (fun h => absurd h (by intro h; have := V.int.inj h; omega)) (fun _ => ?_)
    walk_at "rd"
    intro D nD
    walk_at "rd"
    have ht' : SqT K (upd H D (.lst [])) t (rowsV rs) := SqT.of (upd_get nD ht)
    have wh : HT.sIx (rowsV rs).length 0 none = 0 ∧ HT.sIx (rowsV rs).length (rowsV rs).length (some 10) = (rowsV rs).length :=
      ⟨HT.sIx_none .., by rw [show (10 : Int) = ((10 : Nat) : Int) from rfl, HT.sIx_nat]; omega⟩
    refine ⟨fun _ => ?_, fun h => absurd wh h⟩
    walk_at "rd"
    refine forE (xs := rowsV rs) (fun i σ H' => Same H H' ∧ ∃ (as : List Addr) (a b c : Option V), σ = [some (.ref t), some (.ref D), a, b, c] ∧ H' D = some (.lst (as.map V.ref)) ∧ RowsIn K H' as (rs.take i))
      ⟨by walk_at "g but", [], none, none, none, rfl, upd_same, rfl, fun i a q h _ => by simp at h⟩ (fun i σ H' _ pv => SqT.of (pv.1 _ _ ht)) ?_ ?_
    · rintro i x σ H' T hx ⟨s', as, a, b, c, rfl, hD, hi⟩ nT
      obtain ⟨u, hu2, rfl⟩ : ∃ u, rs[i]? = some u ∧ V.str u.text = x := by
        unfold rowsV at hx
        rw [List.getElem?_map] at hx
        cases e : rs[i]? with
        | none => rw [e] at hx; cases hx
        | some u => rw [e] at hx; exact ⟨u, rfl, Option.some.inj hx⟩
      obtain ⟨k1, k2, k3⟩ := ok.ok u (List.mem_of_getElem? hu2)
      obtain ⟨g4, _⟩ := goals_ok k1
      walk_at "rd"
      have k4 : ∀ k ∈ u.2.goals, (k : Int) < (((rowsV rs).length : Nat) : Int) := fun k hk => by have := k3 k hk; omega
      have al : as.length = i := by
        have lt := (List.getElem?_eq_some_iff.mp hu2).1
        rw [hi.1, List.length_take]
        omega
      refine ⟨u.1, u.2, rfl, k1, k2, fun H2 r dx g s2 hr2 hg2 => ?_⟩
      walk_at "rd"
      refine ⟨u.2, _, rfl, hr2, hg2, g4, k4, fun H3 s3 => ?_⟩
      walk_at "rd"
      have hD3 : H3 D = some (.lst (as.map V.ref)) := s3 _ _ (s2 _ _ (upd_get nT hD))
      have s4 : Same H' H3 := ((((Same.refl H').new nT).trans s2).trans s3)
      have fr : H3 r = _ := s3 _ _ hr2
      refine ⟨.inl ⟨rfl, _, SqL.of hD3⟩, ?_⟩
      refine ⟨_, rfl, ?_⟩
      refine ⟨D, as.map V.ref, .ref r, rfl, rfl, hD3, by rw [List.length_map, al]; show i < 16777216; have := (List.getElem?_eq_some_iff.mp hu2).1; omega, ?_⟩
      have tk : rs.take (i + 1) = rs.take i ++ [u] := by rw [List.take_add_one, hu2]; rfl
      refine ⟨L2.Same.own (s'.trans s4) nD, as ++ [r], _, _, _, rfl, by rw [upd_same, List.map_append]; rfl, ?_⟩
      rw [tk]
      exact ((hi.same s4).lst hD3).snoc (RowIn.lst ⟨dx, g, fr, hg2.same s3⟩ hD3)
    · rintro σ H' ⟨s', as, a, b, c, rfl, hD, hi⟩
      have al : (as.map V.ref).length = rs.length := by
        rw [List.length_map, hi.1, List.take_of_length_le (by omega)]
      walk_at "rd"
      refine iteD (fun h => absurd h (by omega)) (fun _ => ?_)
      walk_at "rd"
      refine .inl ⟨SqL.of hD, fun l nl => q _ l as (by walk_at "g but") upd_same ?_⟩
      rw [rl, List.take_of_length_le (Nat.le_refl _)] at hi
      exact hi.same ((Same.refl _).new nl)
end
end G
namespace G
open PySem PySem.Spec PyProof.Rows L2
section
variable {P : Program} {w : World} {K : PySem.W.Frag} {mg : Str → Option Value} {base : Heap} {CX : CXT}
/-! ### members -/
def MemAt (K : PySem.W.Frag) (H : Hp) (m : Addr) (ms : List Str) : Prop := H m = some (.tup (ms.map V.str)) ∨ (ms = [] ∧ ∀ H, SqT K H m [])
theorem MemAt.sq {H : Hp} {m : Addr} {ms : List Str} (h : MemAt K H m ms) : SqT K H m (ms.map V.str) := by
  rcases h with h | ⟨rfl, h⟩
  · exact SqT.of h
  · exact h H
theorem MemAt.same {H H' : Hp} {m : Addr} {ms : List Str} (h : MemAt K H m ms) (s : Same H H') : MemAt K H' m ms := by
  rcases h with h | h
  · exact .inl (s _ _ h)
  · exact .inr h
theorem MemAt.but {H H' : Hp} {m p C dx : Addr} {fs : List (Str × V)} {ms : List Str} (h : MemAt K H m ms) (hp : H p = some (.ins C dx fs)) (s : But p H H') : MemAt K H' m ms := by
  rcases h with h | h
  · exact .inl (s _ _ (ne_of h hp (by intro e; cases e)) h)
  · exact .inr h
structure MemOk (ms : List Str) : Prop where
  nm : ∀ z ∈ ms, Nm z
  nd : ms.Nodup
  few : ms.length ≤ 1000
theorem flat_strs (ms : List Str) : (ms.map V.str).all flatV = true := by
  rw [List.all_eq_true]
  intro x hx
  obtain ⟨k, _, rfl⟩ := List.mem_map.mp hx
  rfl
theorem inV_strs (z : Str) (ms : List Str) : inV (.str z) (ms.map V.str) = decide (z ∈ ms) := by
  unfold inV
  rw [List.any_map]
  have e : (ms.any ((fun y => eqV y (.str z)) ∘ V.str)) = ms.any fun y => decide (y = z) := List.any_congr rfl fun y => by
    show eqV (.str y) (.str z) = decide (y = z)
    by_cases e : y = z
    · subst e
      simp [eqV]
    · simp [eqV, e]
  rw [e]
  by_cases h : z ∈ ms
  · rw [decide_eq_true h, List.any_eq_true]
    exact ⟨z, h, by simp⟩
  · rw [decide_eq_false h, List.any_eq_false]
    intro y hy
    simp only [decide_eq_true_eq]
    intro e
    exact h (e ▸ hy)
def spMembers (K : PySem.W.Frag) : Sp := fun vs H Q _ => ∃ (m : Addr) (ms : List Str), vs = [.ref m] ∧ MemAt K H m ms ∧ MemOk ms ∧ ∀ H', Same H H' → Q .non H'
theorem ok_check_members {f : Addr} {fd : FuncData} {dvs : List V} {kws : List (Str × V)} (T : Tx K mg)
    (F : FunD K "check_members" "check_members" (defArgs s_check_members) (defBody s_check_members) (defScope s_check_members) dvs kws f fd) :
    FnOk P w K mg base CX0 2 f fd ["members"] (spMembers K) := by
  have c_is_name : CalO P w K mg base CX0 1 "is_name" [] (spIsName K) := c_is_name T
  refine F.ok sc_check_members (fun vs H Q E h => ?_) (fun cdv A outer s H vs Q E hr h => ?_)
  · obtain ⟨m, ms, rfl, _⟩ := h
    rfl
  · obtain ⟨m, ms, rfl, hm, ok, q⟩ := h
    have hu := hr.units
    have sq0 := hm.sq
    refine ⟨_, PSs.nox (pss_cons (ps_if (pt_not (pt_val (pe_callB call_isi rfl T.f_isinstance (by decide +kernel) (pa_cons (pv 0) (pa_cons (pe_bltn (v := .ty "tuple") (u := .type "tuple") rfl T.f_tuple (by decide +kernel) rfl) pa_nil))))) (pss_one ps_never) pss_nil)
    (pss_one (ps_for PassesOwn.never rfl (pi_enumT rfl T.f_enumerate (pa_cons (pv 0) pa_nil)) (pg_tup rfl (pgs_cons (pg_name (i := 1) sc_check_members.nd rfl (Or.inl rfl)) (pgs_cons (pg_name (i := 2) sc_check_members.nd rfl (Or.inl rfl)) pgs_nil)))
      (pss_one (ps_if (PW.pt (pw_or (pt_not (pt_val (pe_calO c_is_name (hr.mono (by decide)) pass0 (pa_cons (pv 2) pa_nil)))) (pw_or1 (pt_cmpR op_in_seq (pv 2) (pe_slice sl_tupA (pv 0) po_none (po_some (pv 1))) rfl)))) (pss_one ps_never) pss_nil))))), ?_⟩
    walk_at "rd"
    refine forE (xs := ms.map V.str) (fun i σ H' => Same H H' ∧ ∃ a b : Option V, σ = [some (.ref m), a, b]) ⟨.refl _, none, none, rfl⟩ (fun i σ H' _ pv => (hm.same pv.1).sq) ?_ (fun σ H' pv => q _ pv.1)
    rintro i x σ H1 T2 hx ⟨s1, a, b, rfl⟩ nT
    have lt := (List.getElem?_eq_some_iff.mp hx).1
    rw [List.length_map] at lt
    rw [List.getElem?_map, List.getElem?_eq_getElem lt] at hx
    obtain rfl := Option.some.inj hx
    have nz := ok.nm _ (List.getElem_mem lt)
    have zl : (ms[i]).length ≤ sizeLine := Nat.le_trans nz.2 (by decide)
    walk_at "rd"
    intro H2 s2
    rw [nz.1]
    have sq2 := (hm.same ((s1.new nT).trans s2)).sq
    walk_at "rd"
    refine ⟨fun h => absurd h.2 ?_, fun _ p np => ?_⟩
    · rw [HT.sIx_nat, List.length_map]
      omega
    have ni : inV (.str ms[i]) (cutV (ms.map V.str) none (some (i : Int))) = false := by
      rw [cut_take, ← List.map_take, inV_strs]
      refine decide_eq_false fun h => ?_
      obtain ⟨j, hj, e⟩ := List.mem_take_iff_getElem.mp h
      exact List.pairwise_iff_getElem.mp ok.nd j i (by omega) lt (by omega) e
    have fl : True → (cutV (ms.map V.str) none (some (i : Int))).all flatV = true := by
      intro _
      rw [cut_take, ← List.map_take]
      exact flat_strs _
    walk_at "rd"
    refine ⟨fl trivial, ?_⟩
    rw [ni]
    walk_at "rd"
    exact ⟨by walk_at "g but", _, _, rfl⟩
theorem c_check_members (T : Tx K mg) : CalO P w K mg base CX0 2 "check_members" [] (spMembers K) := by
  obtain ⟨fd, F⟩ := T.d_check_members
  exact .mk F (ok_check_members T F) T.n_check_members fun _ _ _ _ _ _ us hl => match us, hl with | [_], _ => rfl
end
end G
namespace G
open PySem PySem.Spec PyProof.Rows L2
section
variable {P : Program} {w : World} {K : PySem.W.Frag} {mg : Str → Option Value} {base : Heap} {CX : CXT}
/-! ### kinds -/
abbrev cK (K : PySem.W.Frag) : Addr := He.ga K "Kind"
abbrev kindMe (K : PySem.W.Frag) : V := .ref (kwdAt ("Kind", some "__init__") "members" K)
abbrev kindF (n : Str) (t pr : Addr) (b : Bool) (m : Addr) : List (Str × V) := [("called", .str n), ("texts", .ref t), ("parsed", .ref pr), ("any_number", .bl b), ("begun", .ref m)]
theorem RowIn.but {H H' : Hp} {a p C dx : Addr} {q : RwT} (h : RowIn K H a q) (hp : H p = some (.ins C dx [])) (s : But p H H') : RowIn K H' a q := by
  obtain ⟨d, g, e, go⟩ := h
  exact ⟨d, g, s _ _ (ne_of e hp (by intro e; cases e)) e, go.but hp s⟩
theorem RowsIn.but {H H' : Hp} {as : List Addr} {rs : List RwT} {p C dx : Addr} (h : RowsIn K H as rs) (hp : H p = some (.ins C dx [])) (s : But p H H') : RowsIn K H' as rs :=
  ⟨h.1, fun i a q h1 h2 => (h.2 i a q h1 h2).but hp s⟩
def spKind (K : PySem.W.Frag) : Sp := fun vs H Q _ => ∃ (p dx t m : Addr) (n : Str) (b : Bool) (rs : List RwT) (ms : List Str), vs = [.ref p, .str n, .ref t, .bl b, .ref m] ∧
  H p = some (.ins (cK K) dx []) ∧ Nm n ∧ H t = some (.tup (rowsV rs)) ∧ RowsOk rs ∧ MemAt K H m ms ∧ MemOk ms ∧
  ∀ H' pr as, But p H H' → H' p = some (.ins (cK K) dx (kindF n t pr b m)) → H' pr = some (.tup (as.map V.ref)) → RowsIn K H' as rs → Q .non H'
theorem ok_Kind {f : Addr} {fd : FuncData} {dvs : List V} {kws : List (Str × V)} (T : Tx K mg)
    (F : FunD K "__init__" "Kind.__init__" (defArgs s_Kind___init__) (defBody s_Kind___init__) (defScope s_Kind___init__) dvs kws f fd) :
    FnOk P w K mg base CX0 6 f fd ["self", "name", "rows", "many", "members"] (spKind K) := by
  have c_is_name : CalO P w K mg base CX0 1 "is_name" [] (spIsName K) := c_is_name T
  have c_parsed_rows : CalO P w K mg base CX0 5 "parsed_rows" [] (spRows K) := by
    obtain ⟨fd, F⟩ := T.d_parsed_rows
    exact .mk F (ok_parsed_rows T F) T.n_parsed_rows fun _ _ _ _ _ _ us hl => match us, hl with | [_], _ => rfl
  have c_check_members : CalO P w K mg base CX0 2 "check_members" [] (spMembers K) := c_check_members T
  refine F.ok sc_Kind___init__ (fun vs H Q E h => ?_) (fun cdv A outer s H vs Q E hr h => ?_)
  · obtain ⟨p, dx, t, m, n, b, rs, ms, rfl, _⟩ := h
    rfl
  · obtain ⟨p, dx, t, m, n, b, rs, ms, rfl, hp, nn, ht, ro, hm, mo, q⟩ := h
    have cl := T.c_Kind
    have n1 := T.na_Kind_called
    have n2 := T.na_Kind_texts
    have n3 := T.na_Kind_parsed
    have n4 := T.na_Kind_any_number
    have n5 := T.na_Kind_begun
    have nl : n.length ≤ sizeLine := Nat.le_trans nn.2 (by decide)
    refine ⟨_, PSs.nox (pss_cons (ps_if (pt_not (pt_val (pe_calO c_is_name (hr.mono (by decide)) pass0 (pa_cons (pv 1) pa_nil)))) (pss_one ps_never) pss_nil)
    (pss_cons (ps_asg (pe_tup (pa_cons (pv 1) (pa_cons (pv 2) (pa_cons (pe_calO c_parsed_rows (hr.mono (by decide)) pass0 (pa_cons (pv 2) pa_nil)) pa_nil)))) (pg_tup rfl (pgs_cons (pg_attr (pv 0)) (pgs_cons (pg_attr (pv 0)) (pgs_cons (pg_attr (pv 0)) pgs_nil)))))
    (pss_cons (ps_if (PW.pt (pw_and (pt_cmpR op_notBl (pv 3) pe_bl (nomark _)) (pw_and1 (pt_cmpR op_notBl (pv 3) pe_bl (nomark _))))) (pss_one ps_never) pss_nil)
    (pss_cons (ps_expr (pe_calO c_check_members (hr.mono (by decide)) pass0 (pa_cons (pv 4) pa_nil)))
    (pss_one (ps_asg (pe_tup (pa_cons (pv 3) (pa_cons (pv 4) pa_nil))) (pg_tup rfl (pgs_cons (pg_attr (pv 0)) (pgs_cons (pg_attr (pv 0)) pgs_nil))))))))), ?_⟩
    walk_at "rd"
    intro H1 s1
    rw [nn.1]
    have ht1 := s1 _ _ ht
    walk_at "rd"
    refine ⟨rs, rfl, ht1, ro, fun H2 pr as s2 hpr hrs => ?_⟩
    have hp2 : H2 p = some (.ins (cK K) dx []) := s2 _ _ (s1 _ _ hp)
    have hm2 := hm.same (s1.trans s2)
    walk_at "rd"
    intro t1 nt1
    walk_at "rd"
    have hm3 : ∀ H', But p H2 H' → MemAt K H' m ms := fun H' s => hm2.but hp2 s
    cases b
    all_goals
      walk_at "rd"
      refine ⟨hm3 _ (by walk_at "g but"), mo, fun H3 s3 => ?_⟩
      walk_at "rd"
      intro t2 nt2
      walk_at "rd"
      refine q _ pr as (by walk_at "g but") upd_same ?_ ?_
      · exact (show But p H2 _ by walk_at "g but") _ _ (ne_of hpr hp2 (by intro e; cases e)) hpr
      · exact hrs.but hp2 (by walk_at "g but")
/-! ### constructors of kinds -/
theorem c_Kind_2 (T : Tx K mg) : CalC P w K mg base CX0 6 "Kind" (cK K) [.bl false, kindMe K] (spKind K) := by
  obtain ⟨fd, F⟩ := T.d_Kind___init__
  obtain ⟨ds, rd, hb⟩ := F.binds0 (ps := ["self", "name", "rows", "many", "members"]) 3 (fun h => absurd (show 2 = 0 from congrArg List.length h) (by decide)) rfl (fun D doc pm an cdv ct us ks l1 l2 => match us, ks, l1, l2 with
    | [_, _, _], [_, _], _, _ => ⟨_, _, _, _, _, _, rfl, rfl, _, _, _, _, _, _, rfl, rfl, rfl⟩)
  obtain ⟨u, hm, ru⟩ := T.g_Kind
  obtain rfl : u = Value.ref (cK K) := ru
  exact ⟨_, fd, _, ds, T.mk_Kind, ok_Kind T F, hm, hb, rd⟩
/-- members, many, rows, name: in the parameters' order -/
def gRev {α : Type} (us mv ws : List α) : List α := us ++ (ws.drop 3 ++ ((ws.drop 2).take 1 ++ ((ws.drop 1).take 1 ++ ws.take 1)))
/-- rows, name, members -/
def gRNM {α : Type} (us mv ws : List α) : List α := us ++ ((ws.drop 1).take 1 ++ (ws.take 1 ++ (mv ++ ws.drop 2)))
theorem c_Kind_2_many_members (T : Tx K mg) : CalN P w K mg base CX0 6 "Kind" (cK K) 2 ["many", "members"] (fun vs zs => gWM vs [] zs) (spKind K) := by
  obtain ⟨fd, F⟩ := T.d_Kind___init__
  obtain ⟨mv, hb⟩ := F.kbinds0 (ps := ["self", "name", "rows", "many", "members"]) 3 ["many", "members"] [] gWM (fun h => absurd (show 2 = 0 from congrArg List.length h) (by decide))
    (fun q hq => nomatch hq)
    (fun r1 r2 r3 => vals_app r1 (vals_app r3 r2)) (fun D doc pm an cdv ct us mv ws l1 l2 l3 => match us, mv, ws, l1, l2, l3 with
    | [_, _, _], [], [_, _], _, _, _ => rfl)
  obtain ⟨u, hm, ru⟩ := T.g_Kind
  obtain rfl : u = Value.ref (cK K) := ru
  exact ⟨_, fd, _, _, T.mk_Kind, ok_Kind T F, hm, hb⟩
theorem c_Kind_2_many (T : Tx K mg) : CalN P w K mg base CX0 6 "Kind" (cK K) 2 ["many"] (fun vs zs => gWM vs [kindMe K] zs) (spKind K) := by
  obtain ⟨fd, F⟩ := T.d_Kind___init__
  obtain ⟨mv, hb⟩ := F.kbinds0 (ps := ["self", "name", "rows", "many", "members"]) 3 ["many"] [("members", kindMe K)] gWM (fun h => absurd (show 2 = 0 from congrArg List.length h) (by decide))
    (fun q hq => List.mem_singleton.mp hq ▸ .tail _ (.head _))
    (fun r1 r2 r3 => vals_app r1 (vals_app r3 r2)) (fun D doc pm an cdv ct us mv ws l1 l2 l3 => match us, mv, ws, l1, l2, l3 with
    | [_, _, _], [_], [_], _, _, _ => ⟨_, _, _, _, _, _, rfl, rfl, rfl⟩)
  obtain ⟨u, hm, ru⟩ := T.g_Kind
  obtain rfl : u = Value.ref (cK K) := ru
  exact ⟨_, fd, _, _, T.mk_Kind, ok_Kind T F, hm, hb⟩
theorem c_Kind_0_members_many_rows_name (T : Tx K mg) : CalN P w K mg base CX0 6 "Kind" (cK K) 0 ["members", "many", "rows", "name"] (fun vs zs => gRev vs [] zs) (spKind K) := by
  obtain ⟨fd, F⟩ := T.d_Kind___init__
  obtain ⟨mv, hb⟩ := F.kbinds0 (ps := ["self", "name", "rows", "many", "members"]) 1 ["members", "many", "rows", "name"] [] gRev (fun h => absurd (show 2 = 0 from congrArg List.length h) (by decide))
    (fun q hq => nomatch hq)
    (fun r1 r2 r3 => vals_app r1 (vals_app (vals_drop 3 r3) (vals_app (vals_take 1 (vals_drop 2 r3)) (vals_app (vals_take 1 (vals_drop 1 r3)) (vals_take 1 r3))))) (fun D doc pm an cdv ct us mv ws l1 l2 l3 => match us, mv, ws, l1, l2, l3 with
    | [_], [], [_, _, _, _], _, _, _ => rfl)
  obtain ⟨u, hm, ru⟩ := T.g_Kind
  obtain rfl : u = Value.ref (cK K) := ru
  exact ⟨_, fd, _, _, T.mk_Kind, ok_Kind T F, hm, hb⟩
theorem c_Kind_0_rows_name_members (T : Tx K mg) : CalN P w K mg base CX0 6 "Kind" (cK K) 0 ["rows", "name", "members"] (fun vs zs => gRNM vs [.bl false] zs) (spKind K) := by
  obtain ⟨fd, F⟩ := T.d_Kind___init__
  obtain ⟨mv, hb⟩ := F.kbinds0 (ps := ["self", "name", "rows", "many", "members"]) 1 ["rows", "name", "members"] [("many", .bl false)] gRNM (fun h => absurd (show 2 = 0 from congrArg List.length h) (by decide))
    (fun q hq => List.mem_singleton.mp hq ▸ .head _)
    (fun r1 r2 r3 => vals_app r1 (vals_app (vals_take 1 (vals_drop 1 r3)) (vals_app (vals_take 1 r3) (vals_app r2 (vals_drop 2 r3))))) (fun D doc pm an cdv ct us mv ws l1 l2 l3 => match us, mv, ws, l1, l2, l3 with
    | [_], [_], [_, _, _], _, _, _ => ⟨_, _, _, _, _, _, rfl, rfl, rfl⟩)
  obtain ⟨u, hm, ru⟩ := T.g_Kind
  obtain rfl : u = Value.ref (cK K) := ru
  exact ⟨_, fd, _, _, T.mk_Kind, ok_Kind T F, hm, hb⟩
end
end G
namespace G
open PySem PySem.Spec PyProof.Rows L2
/-! ### texts in a tuple, compared -/
def strsD (l : List Str) : PyData := .tuple (l.map PyData.str)
def strsOk (l : List Str) : Prop := ∀ z ∈ l, PyData.strOk z = true
theorem strs_lay : ∀ l : List Str, strsOk l → PyData.canLayAll0 (l.map PyData.str) = true
  | [], _ => by simp only [List.map_nil, PyData.canLayAll0]
  | z :: l, h => by
    simp only [List.map_cons, PyData.canLayAll0, PyData.canLay0, Bool.and_eq_true]
    exact ⟨h z List.mem_cons_self, strs_lay l fun y hy => h y (List.mem_cons_of_mem _ hy)⟩
theorem strs_depth : ∀ l : List Str, PyData.depthAll (l.map PyData.str) = 0
  | [] => by simp only [List.map_nil, PyData.depthAll]
  | z :: l => by
    simp only [List.map_cons, PyData.depthAll, PyData.depth, strs_depth l]
    rfl
theorem strs_shaped {l : List Str} (h : strsOk l) : SeqAt.shaped (strsD l) = true := by
  unfold SeqAt.shaped strsD
  simp only [PyData.canLay0, PyData.depth, strs_lay l h, strs_depth l, Bool.true_and]
  decide
/-! ### all that a kind holds is plain -/
theorem strOk_of {z : Str} (h : ∀ c ∈ z.cps.toList, c < 128) : PyData.strOk z = true := by
  unfold PyData.strOk
  rw [← Array.all_toList, List.all_eq_true]
  intro c hc
  have := h c hc
  simp only [decide_eq_true_eq]
  omega
theorem sign_128 {c : Nat} (h : isSign c = true) : c < 128 := by
  have a : ∀ c ∈ signsS.cps.toList, c < 128 := by decide +kernel
  exact a c (of_decide_eq_true h)
theorem nm_ok {z : Str} (h : Nm z) : PyData.strOk z = true := strOk_of fun c hc => sign_128 (nm_plain h c hc)
theorem rwText_128 {r : RW} (h : r.Ok) : ∀ c ∈ (rwText r).cps.toList, c < 128 := by
  rw [rwText_list]
  intro c hm
  rcases joinL_mem hm with h1 | ⟨p, hp, h1⟩
  · rw [List.mem_singleton.mp h1]
    decide
  · obtain ⟨z, hz, rfl⟩ := List.mem_map.mp hp
    exact sign_128 ((words_plain h z hz).1 c h1)
theorem rowText_ok {q : RwT} (h : q.2.Ok) (hl : ∀ z, q.1 = some z → Nm z) : PyData.strOk q.text = true := by
  refine strOk_of fun c hc => ?_
  obtain ⟨l, r⟩ := q
  cases l with
  | none => exact rwText_128 h c hc
  | some z =>
    have e : (RwT.text (some z, r)).cps.toList = z.cps.toList ++ (Str.ofString ": ").cps.toList ++ (rwText r).cps.toList := by
      show (z ++ Str.ofString ": " ++ rwText r).cps.toList = _
      rw [cat_list, cat_list]
    rw [e] at hc
    rcases List.mem_append.mp hc with hc | hc
    · rcases List.mem_append.mp hc with hc | hc
      · exact sign_128 (nm_plain (hl z rfl) c hc)
      · have a : ∀ c ∈ (Str.ofString ": ").cps.toList, c < 128 := by decide +kernel
        exact a c hc
    · exact rwText_128 h c hc
theorem strs_eqv : ∀ l m : List Str, PyData.eqv (strsD l) (strsD m) = decide (l = m)
  | [], [] => rfl
  | [], _ :: _ => rfl
  | _ :: _, [] => rfl
  | x :: l, y :: m => by
    have ih := strs_eqv l m
    show (PyData.eqv (.str x) (.str y) && PyData.eqv (strsD l) (strsD m)) = _
    rw [ih]
    have e : PyData.eqv (.str x) (.str y) = decide (x = y) := by
      show (x == y) = decide (x = y)
      by_cases h : x = y
      · subst h; simp
      · simp [h]
    rw [e]
    by_cases h1 : x = y <;> by_cases h2 : l = m <;> simp [h1, h2]
theorem strs_dpAll {K : PySem.W.Frag} {H : Hp} : ∀ l : List Str, DpAll K H (l.map V.str) (l.map PyData.str)
  | [] => .nil
  | z :: l => .cons (.str z) (strs_dpAll l)
theorem strs_dp {K : PySem.W.Frag} {H : Hp} {a : Addr} {l : List Str} (h : SqT K H a (l.map V.str)) : Dp K H (.ref a) (strsD l) := .tup h (strs_dpAll l)
structure KindT where
  n : Str
  rs : List RwT
  b : Bool
  ms : List Str
def texts (rs : List RwT) : List Str := rs.map RwT.text
theorem rowsV_texts (rs : List RwT) : rowsV rs = (texts rs).map V.str := by
  unfold rowsV texts
  rw [List.map_map]
  rfl
structure KindOk (k : KindT) : Prop where
  nm : Nm k.n
  ro : RowsOk k.rs
  mo : MemOk k.ms
theorem texts_ok {rs : List RwT} (h : RowsOk rs) : strsOk (texts rs) := by
  intro z hz
  obtain ⟨q, hq, rfl⟩ := List.mem_map.mp hz
  obtain ⟨h1, h2, _⟩ := h.ok q hq
  exact rowText_ok h1 h2
def kEq (k k' : KindT) : Bool := decide (k.n = k'.n) && decide (texts k.rs = texts k'.rs) && decide (k.b = k'.b) && decide (k.ms = k'.ms)
section
variable {P : Program} {w : World} {K : PySem.W.Frag} {mg : Str → Option Value} {base : Heap} {CX : CXT}
/-- a kind stands at a -/
def KindAt (K : PySem.W.Frag) (H : Hp) (a : Addr) (k : KindT) : Prop := KindOk k ∧ ∃ (dx t pr m : Addr) (as : List Addr), H a = some (.ins (cK K) dx (kindF k.n t pr k.b m)) ∧
  H t = some (.tup (rowsV k.rs)) ∧ MemAt K H m k.ms ∧ H pr = some (.tup (as.map V.ref)) ∧ RowsIn K H as k.rs
theorem KindAt.same {H H' : Hp} {a : Addr} {k : KindT} (h : KindAt K H a k) (s : Same H H') : KindAt K H' a k := by
  obtain ⟨ok, dx, t, pr, m, as, h1, h2, h3, h4, h5⟩ := h
  exact ⟨ok, dx, t, pr, m, as, s _ _ h1, s _ _ h2, h3.same s, s _ _ h4, h5.same s⟩
def spKindEq (K : PySem.W.Frag) : Sp := fun vs H Q _ => ∃ (a : Addr) (k : KindT) (y : V), vs = [.ref a, y] ∧ KindAt K H a k ∧
  ((∃ (b : Addr) (k' : KindT), y = .ref b ∧ KindAt K H b k' ∧ Q (.bl (kEq k k')) H) ∨ (∃ t, TyX K H y t ∧ PySem.W.kitOne K t (.ref (cK K)) = some false ∧ Q (.bl false) H))
theorem ok_Kind_eq {f : Addr} {fd : FuncData} {dvs : List V} {kws : List (Str × V)} (T : Tx K mg)
    (F : FunD K "__eq__" "Kind.__eq__" (defArgs s_Kind___eq__) (defBody s_Kind___eq__) (defScope s_Kind___eq__) dvs kws f fd) :
    FnOk P w K mg base CX 1 f fd ["self", "other"] (spKindEq K) := by
  refine F.ok sc_Kind___eq__ (fun vs H Q E h => ?_) (fun cdv A outer s H vs Q E hr h => ?_)
  · obtain ⟨a, k, y, rfl, _⟩ := h
    rfl
  · obtain ⟨a, k, y, rfl, ⟨ok, dx, t, pr, m, as, h1, h2, h3, _⟩, h⟩ := h
    have hu := hr.units
    have cl := T.c_Kind
    have ci := T.i_Kind
    have n1 := T.na_Kind_called
    have n2 := T.na_Kind_texts
    have n4 := T.na_Kind_any_number
    have n5 := T.na_Kind_begun
    have me := ci.me
    refine ⟨_, PSs.nox (pss_cons (ps_if (PW.pt (pw_or (pt_not (pt_val (pe_callB call_isi rfl T.f_isinstance (by decide +kernel) (pa_cons (pv 1) (pa_cons (pe_gl T.g_Kind) pa_nil))))) (pw_or (pt_cmpR op_ne (pe_fld (pv 0) rfl) (pe_fld (pv 1) rfl) (nomark _)) (pw_or1 (pt_cmpR (op_neD hu) (pe_fld (pv 0) rfl) (pe_fld (pv 1) rfl) (nomark _)))))) (pss_one (ps_ret pe_bl)) pss_nil)
    (pss_one (ps_ret (pe_and (pe_cmpR op_eq (pe_fld (pv 0) rfl) (pe_fld (pv 1) rfl) (nomark _)) (pe_one (pe_cmpR (op_eqD hu) (pe_fld (pv 0) rfl) (pe_fld (pv 1) rfl) (nomark _))))))), ?_⟩
    rcases h with ⟨b, k', rfl, ⟨ok', dx', t', pr', m', as', e1, e2, e3, _⟩, q⟩ | ⟨ty', ty, ek, q⟩
    · have ty : TyX K H (.ref b) (.ref (cK K)) := .base (ci.ty cl e1)
      have d1 : Dp K H (.ref t) (strsD (texts k.rs)) := strs_dp (by rw [← rowsV_texts]; exact SqT.of h2)
      have d2 : Dp K H (.ref t') (strsD (texts k'.rs)) := strs_dp (by rw [← rowsV_texts]; exact SqT.of e2)
      have d3 : Dp K H (.ref m) (strsD k.ms) := strs_dp h3.sq
      have d4 : Dp K H (.ref m') (strsD k'.ms) := strs_dp e3.sq
      walk_at "rd"
      refine iteND (fun g1 => ?_) (fun g1 => ?_)
      · refine ret_eq q ?_
        have e : ¬ k.n = k'.n := fun z => g1 (by rw [z])
        unfold kEq
        rw [decide_eq_false e, Bool.false_and, Bool.false_and, Bool.false_and]
      have f1 : k.n = k'.n := V.str.inj g1
      walk_at "rd"
      refine ⟨_, _, d1, d2, strs_shaped (texts_ok ok.ro), strs_shaped (texts_ok ok'.ro), ?_⟩
      rw [strs_eqv]
      walk_at "rd"
      refine iteND (fun g2 => ?_) (fun g2 => ?_)
      · refine ret_eq q ?_
        unfold kEq
        rw [decide_eq_false g2, Bool.and_false, Bool.false_and, Bool.false_and]
      walk_at "rd"
      refine iteD (fun g3 => ?_) (fun g3 => ?_)
      · have f3 : k.b = k'.b := V.bl.inj g3
        walk_at "rd"
        refine ⟨_, _, d3, d4, strs_shaped (fun z hz => nm_ok (ok.mo.nm z hz)), strs_shaped (fun z hz => nm_ok (ok'.mo.nm z hz)), ?_⟩
        rw [strs_eqv]
        refine ret_eq q ?_
        unfold kEq
        rw [decide_eq_true f1, decide_eq_true g2, decide_eq_true f3, Bool.true_and, Bool.true_and, Bool.true_and]
      · refine ret_eq q ?_
        have e : ¬ k.b = k'.b := fun z => g3 (by rw [z])
        unfold kEq
        rw [decide_eq_false e, Bool.and_false, Bool.false_and]
    · walk_at "rd"
      exact q
def spKindLen (K : PySem.W.Frag) : Sp := fun vs H Q _ => ∃ (a : Addr) (k : KindT), vs = [.ref a] ∧ KindAt K H a k ∧ Q (.int ((k.rs.length : Nat) : Int)) H
theorem ok_Kind_len {f : Addr} {fd : FuncData} {dvs : List V} {kws : List (Str × V)} (T : Tx K mg)
    (F : FunD K "__len__" "Kind.__len__" (defArgs s_Kind___len__) (defBody s_Kind___len__) (defScope s_Kind___len__) dvs kws f fd) :
    FnOk P w K mg base CX 1 f fd ["self"] (spKindLen K) := by
  refine F.ok sc_Kind___len__ (fun vs H Q E h => ?_) (fun cdv A outer s H vs Q E hr h => ?_)
  · obtain ⟨a, k, rfl, _⟩ := h
    rfl
  · obtain ⟨a, k, rfl, ⟨ok, dx, t, pr, m, as, h1, h2, h3, _⟩, q⟩ := h
    have cl := T.c_Kind
    have n2 := T.na_Kind_texts
    refine ⟨_, PSs.nox (pss_one (ps_ret (pe_callB call_len_seq rfl T.f_len (by decide +kernel) (pa_cons (pe_fld (pv 0) rfl) pa_nil)))), ?_⟩
    walk_at "rd"
    refine ret_eq q ?_
    rw [rowsV, List.length_map]
/-- ==, truth and len of kinds: all that they want -/
theorem eqK (T : Tx K mg) : ∃ f fd ps, EqC K (cK K) f ∧ FnOk P w K mg base CX 1 f fd ps (spKindEq K) ∧ Binds K fd ps [] := by
  obtain ⟨fd, F⟩ := T.d_Kind___eq__
  exact ⟨_, fd, _, T.e_Kind, ok_Kind_eq T F, F.bindsN fun _ _ _ _ _ _ us hl => match us, hl with | [_, _], _ => rfl⟩
theorem lenK (T : Tx K mg) : ∃ f fd ps, (PySem.W.findIn K (.ref (cK K)) "__len__" = some (some (.ref f)) ∧ PySem.W.isFn K (.ref f) = true) ∧ FnOk P w K mg base CX 1 f fd ps (spKindLen K) ∧ Binds K fd ps [] := by
  obtain ⟨fd, F⟩ := T.d_Kind___len__
  exact ⟨_, fd, _, T.l_Kind, ok_Kind_len T F, F.bindsN fun _ _ _ _ _ _ us hl => match us, hl with | [_], _ => rfl⟩
end
end G
namespace G
open PySem PySem.Spec PyProof.Rows L2
/-! ### a name that is not taken -/
def spareS : List Str := ["a", "b", "c", "d", "e", "f", "g", "h", "i", "j", "k"]
theorem pigeon {α : Type} [DecidableEq α] : ∀ {l m : List α}, l.Nodup → (∀ x ∈ l, x ∈ m) → l.length ≤ m.length
  | [], _, _, _ => Nat.zero_le _
  | x :: l, m, nd, h => by
    have hx := h x List.mem_cons_self
    have nd' := List.nodup_cons.mp nd
    have ih := pigeon (l := l) (m := m.erase x) nd'.2 fun y hy => (List.mem_erase_of_ne (by rintro rfl; exact nd'.1 hy)).mpr (h y (List.mem_cons_of_mem _ hy))
    rw [List.length_erase_of_mem hx] at ih
    have := List.length_pos_of_mem hx
    rw [List.length_cons]
    omega
theorem spare_nm : ∀ z ∈ spareS, Nm z := by
  have a : spareS.all (fun z => isNameS z && decide (z.length ≤ 8)) = true := by decide +kernel
  intro z hz
  obtain ⟨h1, h2⟩ := Bool.and_eq_true_iff.mp (List.all_eq_true.mp a z hz)
  exact ⟨h1, of_decide_eq_true h2⟩
theorem spare_some {ms : List Str} (h : ms.length ≤ 10) : ∃ z r, spareS.filter (fun y => !decide (y ∈ ms)) = z :: r ∧ z ∈ spareS ∧ z ∉ ms := by
  cases e : spareS.filter (fun y => !decide (y ∈ ms)) with
  | nil =>
    have a := List.filter_eq_nil_iff.mp e
    have : spareS.length ≤ ms.length := pigeon (by decide +kernel) fun x hx => by
      have := a x hx
      simpa using this
    have : spareS.length = 11 := rfl
    omega
  | cons z r =>
    have hz : z ∈ spareS.filter (fun y => !decide (y ∈ ms)) := by rw [e]; exact List.mem_cons_self
    obtain ⟨h1, h2⟩ := List.mem_filter.mp hz
    exact ⟨z, r, rfl, h1, by simpa using h2⟩
/-! ### lines as they are put together -/
def mkS : Option Str → Str
  | none => Str.ofString ""
  | some z => z ++ Str.ofString ": "
theorem rowText_list (l : Option Str) (r : RW) : TL.tl (rowText l r) = TL.tl (mkS l) ++ TL.tl (rwText r) := by
  cases l with
  | none => rfl
  | some z =>
    show TL.tl (z ++ Str.ofString ": " ++ rwText r) = _
    rw [TL.tl_append]
    rfl
theorem rw_list (r : RW) : TL.tl (rwText r) = TL.joinL [32] (r.words.map TL.tl) := rwText_list r
theorem line_one (l : Option Str) {w w' g : Str} (e : TL.tl w' = TL.tl w ++ [32]) : mkS l ++ w' ++ g = rowText l (.one w g) := by
  refine TL.ext_tl ?_
  rw [rowText_list, rw_list, TL.tl_append, TL.tl_append, e]
  show _ = _ ++ (TL.tl w ++ ([32] ++ TL.tl g))
  simp only [List.append_assoc]
theorem line_arr (l : Option Str) (g : Str) (d : Nat) : mkS l ++ Str.ofString "arrive " ++ g ++ Str.ofString " " ++ digS d = rowText l (.arr g d) := by
  refine TL.ext_tl ?_
  rw [rowText_list, rw_list, TL.tl_append, TL.tl_append, TL.tl_append, TL.tl_append, show TL.tl (Str.ofString "arrive ") = TL.tl (Str.ofString "arrive") ++ [32] from by decide +kernel,
    show TL.tl (Str.ofString " ") = [32] from by decide +kernel]
  show _ = _ ++ (TL.tl (Str.ofString "arrive") ++ ([32] ++ (TL.tl g ++ ([32] ++ TL.tl (digS d)))))
  simp only [List.append_assoc]
theorem line_wai (l : Option Str) (g : Str) (k : Nat) : mkS l ++ Str.ofString "wait " ++ g ++ Str.ofString " else " ++ digS k = rowText l (.wai g k) := by
  refine TL.ext_tl ?_
  rw [rowText_list, rw_list, TL.tl_append, TL.tl_append, TL.tl_append, TL.tl_append, show TL.tl (Str.ofString "wait ") = TL.tl (Str.ofString "wait") ++ [32] from by decide +kernel,
    show TL.tl (Str.ofString " else ") = [32] ++ (TL.tl (Str.ofString "else") ++ [32]) from by decide +kernel]
  show _ = _ ++ (TL.tl (Str.ofString "wait") ++ ([32] ++ (TL.tl g ++ ([32] ++ (TL.tl (Str.ofString "else") ++ ([32] ++ TL.tl (digS k)))))))
  simp only [List.append_assoc]
theorem line_ovr (l : Option Str) (g : Str) (d k : Nat) : mkS l ++ Str.ofString "over " ++ g ++ Str.ofString " " ++ digS d ++ Str.ofString " " ++ digS k = rowText l (.ovr g d k) := by
  refine TL.ext_tl ?_
  rw [rowText_list, rw_list, TL.tl_append, TL.tl_append, TL.tl_append, TL.tl_append, TL.tl_append, TL.tl_append, show TL.tl (Str.ofString "over ") = TL.tl (Str.ofString "over") ++ [32] from by decide +kernel,
    show TL.tl (Str.ofString " ") = [32] from by decide +kernel]
  show _ = _ ++ (TL.tl (Str.ofString "over") ++ ([32] ++ (TL.tl g ++ ([32] ++ (TL.tl (digS d) ++ ([32] ++ TL.tl (digS k)))))))
  simp only [List.append_assoc]
theorem line_go (l : Option Str) {ks : List Nat} (h : ks ≠ []) : mkS l ++ Str.ofString "go " ++ Txt.join (Str.ofString " ") (ks.map digS) = rowText l (.go ks) := by
  refine TL.ext_tl ?_
  rw [rowText_list, rw_list, TL.tl_append, TL.tl_append, show TL.tl (Str.ofString "go ") = TL.tl (Str.ofString "go") ++ [32] from by decide +kernel, TL.join_eq, TL.tl_join]
  cases ks with
  | nil => exact absurd rfl h
  | cons k r =>
    show _ = _ ++ (TL.tl (Str.ofString "go") ++ ([32] ++ TL.joinL [32] (((k :: r).map digS).map TL.tl)))
    simp only [List.append_assoc]
    rfl
theorem line_fin (l : Option Str) : mkS l ++ Str.ofString "end" = rowText l .fin := by
  refine TL.ext_tl ?_
  rw [rowText_list, rw_list, TL.tl_append]
  rfl
theorem dig_str : ∀ k : Nat, k < 10 → (toString (k : Int) : Str) = digS k := by
  have a : ∀ k : Fin 10, (toString ((k.val : Nat) : Int) : Str) = digS k.val := by decide +kernel
  intro k hk
  exact a ⟨k, hk⟩
section
variable {P : Program} {w : World} {K : PySem.W.Frag} {mg : Str → Option Value} {base : Heap} {CX : CXT}
def spNew : Sp := fun vs H Q _ => ∃ (p l : Addr) (ms : List Str), vs = [.ref p, .ref l] ∧ PoolAt H p ∧ H l = some (.lst (ms.map V.str)) ∧ l ≠ p ∧ ms.length ≤ 10 ∧
  ∀ H' z, Pl p H H' → Nm z → z ∉ ms → Q (.str z) H'
theorem ok_new {f : Addr} {fd : FuncData} {dvs : List V} {kws : List (Str × V)} (T : Tx K mg)
    (F : FunD K "_law_new" "_law_new" (defArgs s__law_new) (defBody s__law_new) (defScope s__law_new) dvs kws f fd) :
    FnG P w K mg base CX0 3 f fd ["_law_pool_here", "_law_taken"] spNew := by
  have c__law_tag : Cal P w K mg base CX0 2 "_law_tag" [] spTag := c_tag T
  refine okG F sc__law_new (fun vs H Q E h => ?_) (fun cdv A outer s H vs Q E hr hgd h => ?_)
  · obtain ⟨p, l, ms, rfl, _⟩ := h
    rfl
  · obtain ⟨p, l, ms, rfl, hp, hl, nlp, few, q⟩ := h
    have hu := hr.units
    refine ⟨_, PSs.nox (pss_cons (ps_set (i := 2) sc__law_new.nd rfl (Or.inl rfl) (pe_cal c__law_tag (hr.mono (by decide)) hgd pass0 (pa_cons (pv 0) pa_nil)))
    (pss_cons (ps_setLc (i := 3) (own := [("_law_other_here", 4)]) (g := gName 4) rfl sc__law_new.nd rfl rfl (sw_true rfl rfl rfl (by decide +kernel)) (pi_list (pe_lst (pa_cons pe_str (pa_cons pe_str (pa_cons pe_str (pa_cons pe_str (pa_cons pe_str (pa_cons pe_str (pa_cons pe_str (pa_cons pe_str (pa_cons pe_str (pa_cons pe_str (pa_cons pe_str pa_nil))))))))))))) (blkOk_by (own := [("_law_other_here", 4)]) (N := n__law_new) (sc := defScope s__law_new) (by decide +kernel)) (fun _ _ _ _ _ => (pg_name (i := 4) sc__law_new.nd rfl (Or.inl rfl))) (fun _ _ _ _ _ => (pts_one (pt_cmpR (opK (K := K) (r := fun K1 => rIn K1 true) rfl op_notIn_seq) (pv 4) (pv 1) rfl))) (fun _ _ _ _ _ => (pv 4)))
    (pss_one (ps_ret (pe_ifExp (pt_cmpR op_in_seq (pv 2) (pv 1) rfl) (pe_ix ix_list (pv 3) pe_int (fun _ _ => rfl)) (pv 2)))))), ?_⟩
    walk_at "rd"
    intro H1 z p1 vz lz
    have hl1 := p1.get hl nlp
    have hl2 : SqL K H1 l (ms.map V.str) := SqL.of hl1
    walk_at "rd"
    intro la nla
    walk_at "rd"
    refine ⟨⟨_, SqL.of upd_same⟩, ?_⟩
    intro D nD
    have hlD : ∀ o, SqL K (upd (upd H1 la (.lst (spareS.map V.str))) D o) l (ms.map V.str) := fun o => SqL.of (upd_get nD (upd_get nla hl1))
    refine lcW (wk_list (spareS.map V.str)) (fun i H' => H' = upd (upd H1 la (.lst (spareS.map V.str))) D (.lst (((spareS.take i).filter fun y => !decide (y ∈ ms)).map V.str)))
      rfl (fun i H' _ e => by rw [e]; exact SqL.of (upd_get nD upd_same)) ?_ ?_
    · rintro i x H' hx rfl
      have lt := (List.getElem?_eq_some_iff.mp hx).1
      rw [List.length_map] at lt
      rw [List.getElem?_map, List.getElem?_eq_getElem lt] at hx
      obtain rfl := Option.some.inj hx
      have hl3 := hlD (.lst (((spareS.take i).filter fun y => !decide (y ∈ ms)).map V.str))
      have tk : spareS.take (i + 1) = spareS.take i ++ [spareS[i]] := by rw [List.take_add_one, List.getElem?_eq_getElem lt]; rfl
      have l11 : spareS.length = 11 := rfl
      walk_at "rd"
      refine ⟨flat_strs ms, ?_⟩
      rw [inV_strs]
      walk_at "rd"
      rw [if_pos rfl]
      refine iteND (fun hn => ?_) (fun hy => ?_)
      · walk_at "rd"
        refine ⟨?_, ?_⟩
        · rw [List.length_map]
          have h1 := List.length_filter_le (fun y => !decide (y ∈ ms)) (spareS.take i)
          rw [List.length_take] at h1
          show _ < 16777216
          omega
        · rw [upd_upd, tk, List.filter_append, List.map_append]
          simp [hn]
      · rw [tk, List.filter_append]
        simp [hy]
    · rintro H' rfl
      rw [List.length_map, List.take_of_length_le (Nat.le_refl _)]
      have hl3 := hlD (.lst ((spareS.filter fun y => !decide (y ∈ ms)).map V.str))
      obtain ⟨y, r, e, hy, ny⟩ := spare_some few
      have e1 : atI ((spareS.filter fun y => !decide (y ∈ ms)).map V.str) 0 = some (.str y) := by
        rw [e]
        exact at_any (j := 0) rfl rfl
      walk_at "rd"
      refine ⟨flat_strs ms, ?_⟩
      rw [inV_strs, if_neg Bool.false_ne_true]
      walk_at "rd"
      refine iteD (fun hz => ?_) (fun hz => ?_)
      · walk_at "rd"
        exact q _ y (by walk_at "g but") (spare_nm y hy) ny
      · walk_at "rd"
        exact q _ z (by walk_at "g but") ⟨vz, lz⟩ hz
theorem c_new (T : Tx K mg) : Cal P w K mg base CX0 3 "_law_new" [] spNew := by
  obtain ⟨fd, F⟩ := T.d__law_new
  exact .mk F (ok_new T F) T.n__law_new fun _ _ _ _ _ _ us hl => match us, hl with | [_, _], _ => rfl
end
end G
namespace G
open PySem PySem.Spec PyProof.Rows L2
theorem small_log {i : Int} (h0 : 0 ≤ i) (h1 : i < 10) : i.natAbs.log2 < 1920 := by
  have a : ∀ k : Fin 10, k.val.log2 < 1920 := by decide +kernel
  have b := a ⟨i.natAbs, by omega⟩
  exact b
theorem dig_of {i : Int} (h0 : 0 ≤ i) (h1 : i < 10) : (toString i : Str) = digS i.toNat := by
  have e : i = ((i.toNat : Nat) : Int) := by omega
  have h := dig_str i.toNat (by omega)
  rw [← e] at h
  exact h
section
variable {P : Program} {w : World} {K : PySem.W.Frag} {mg : Str → Option Value} {base : Heap} {CX : CXT}
/-- a good row whose goals lie below m -/
structure LineOk (q : RwT) (m : Nat) : Prop where
  ok : q.2.Ok
  lab : ∀ z, q.1 = some z → Nm z
  lt : ∀ k ∈ q.2.goals, k < m
def spLine : Sp := fun vs H Q _ => ∃ (p l : Addr) (ms : List Str) (m : Nat), vs = [.ref p, .ref l, .int (m : Int)] ∧ PoolAt H p ∧ H l = some (.lst (ms.map V.str)) ∧ l ≠ p ∧ ms ≠ [] ∧ ms.length ≤ 10 ∧
  (∀ z ∈ ms, Nm z) ∧ 1 ≤ m ∧ m ≤ 10 ∧ ∀ H' q, Pl p H H' → LineOk q m → Q (.str q.text) H'
theorem strsL_shaped {l : List Str} (h : strsOk l) : SeqAt.shaped (.list (l.map PyData.str)) = true := by
  unfold SeqAt.shaped
  simp only [PyData.canLay0, PyData.depth, strs_lay l h, strs_depth l, Bool.true_and]
  decide
theorem strsL_nil (l : List Str) : PyData.eqv (.list (l.map PyData.str)) (.list []) = decide (l = []) := by cases l <;> rfl
theorem dig_sum : ∀ ks : List Nat, ((ks.map digS).map fun z => z.length).sum = ks.length
  | [] => rfl
  | k :: r => by
    rw [List.map_cons, List.map_cons, List.sum_cons, dig_sum r, List.length_cons]
    show 1 + _ = _
    omega
theorem dig_join (ks : List Nat) : (Txt.join (Str.ofString " ") (ks.map digS)).length ≤ 9 * ks.length := by
  have e : (Txt.join (Str.ofString " ") (ks.map digS)).cps.toList = TL.joinL [32] ((ks.map digS).map TL.tl) := by
    rw [TL.join_eq]
    exact TL.tl_join _ _
  rw [str_len, e]
  have h := joinL_len (S := [32]) (by decide) (ps := (ks.map digS).map TL.tl) (by
    intro z hz
    obtain ⟨y, hy, rfl⟩ := List.mem_map.mp hz
    obtain ⟨k, _, rfl⟩ := List.mem_map.mp hy
    show 1 ≤ 8
    decide)
  rw [List.length_map, List.length_map] at h
  exact h
/-- the goals drawn so far -/
inductive GoSt (p D : Addr) (H2 : Hp) (i : Nat) (H' : Hp) : Prop
  | mk (ks : List Nat) (pl : Pl p H2 H') (hD : H' D = some (.lst ((ks.map digS).map V.str))) (lt : ∀ k ∈ ks, k < i) (pw : ks.Pairwise (· < ·)) (ln : ks.length ≤ i)
theorem mkS_len {lab : Option Str} (h : ∀ z, lab = some z → Nm z) : (mkS lab).length ≤ 10 := by
  cases lab with
  | none => show (Str.ofString "").length ≤ 10; decide +kernel
  | some z =>
    have := (h z rfl).2
    show (z ++ Str.ofString ": ").length ≤ 10
    rw [cat_len, show (Str.ofString ": ").length = 2 from by decide +kernel]
    omega
theorem ok_line {f : Addr} {fd : FuncData} {dvs : List V} {kws : List (Str × V)} (T : Tx K mg)
    (F : FunD K "_law_line" "_law_line" (defArgs s__law_line) (defBody s__law_line) (defScope s__law_line) dvs kws f fd) :
    FnG P w K mg base CX0 3 f fd ["_law_pool_here", "_law_tags_here", "_law_most"] spLine := by
  have c__law_draw : Cal P w K mg base CX0 1 "_law_draw" [] spDraw := c_draw T
  have c__law_tag : Cal P w K mg base CX0 2 "_law_tag" [] spTag := c_tag T
  refine okG F sc__law_line (fun vs H Q E h => ?_) (fun cdv A outer s H vs Q E hr hgd h => ?_)
  · obtain ⟨p, l, ms, m, rfl, _⟩ := h
    rfl
  · obtain ⟨p, l, ms, m, rfl, hp, hl, nlp, m0, few, nm, m1, m10, q⟩ := h
    have hu := hr.units
    have ml : 0 < ms.length := List.length_pos_iff.mpr m0
    have hlen : (ms.map V.str).length = ms.length := List.length_map ..
    refine ⟨_, PSs.nox (pss_cons (ps_par (i := 3) (j := 4) rfl sc__law_line.nd rfl rfl (by decide) rfl rfl (pa_cons (pe_cal c__law_draw (hr.mono (by decide)) hgd pass0 (pa_cons (pv 0) (pa_cons pe_int pa_nil))) (pa_cons (pe_ix ix_list (pv 1) (pe_cal c__law_draw (hr.mono (by decide)) hgd pass0 (pa_cons (pv 0) (pa_cons (pe_callB call_len_seq rfl T.f_len (by decide +kernel) (pa_cons (pv 1) pa_nil)) pa_nil))) (fun _ _ => rfl)) pa_nil)) (by rfl))
    (pss_cons (ps_par (i := 5) (j := 6) rfl sc__law_line.nd rfl rfl (by decide) rfl rfl (pa_cons (pe_callTy call_str_int rfl T.f_str (by decide +kernel) (pa_cons (pe_cal c__law_draw (hr.mono (by decide)) hgd pass0 (pa_cons (pv 0) (pa_cons pe_int pa_nil))) pa_nil)) (pa_cons (pe_callTy call_str_int rfl T.f_str (by decide +kernel) (pa_cons (pe_cal c__law_draw (hr.mono (by decide)) hgd pass0 (pa_cons (pv 0) (pa_cons (pv 2) pa_nil))) pa_nil)) pa_nil)) (by rfl))
    (pss_cons (ps_set (i := 7) sc__law_line.nd rfl (Or.inl rfl) (pe_ifExp (pt_cmpR op_eq (pe_cal c__law_draw (hr.mono (by decide)) hgd pass0 (pa_cons (pv 0) (pa_cons pe_int pa_nil))) pe_int (nomark _)) (pe_op op_add_str (pe_cal c__law_tag (hr.mono (by decide)) hgd pass0 (pa_cons (pv 0) pa_nil)) pe_str) pe_str))
    (pss_cons (ps_if (pt_cmpR op_lt (pv 3) pe_int (nomark _)) (pss_one (ps_ret (pe_op op_add_str (pe_op op_add_str (pv 7) (pe_ix ix_list (pe_lst (pa_cons pe_str (pa_cons pe_str (pa_cons pe_str (pa_cons pe_str pa_nil))))) (pv 3) (fun _ _ => rfl))) (pv 4)))) pss_nil)
    (pss_cons (ps_if (pt_cmpR op_eq (pv 3) pe_int (nomark _)) (pss_one (ps_ret (pe_op op_add_str (pe_op op_add_str (pe_op op_add_str (pe_op op_add_str (pv 7) pe_str) (pv 4)) pe_str) (pv 5)))) pss_nil)
    (pss_cons (ps_if (pt_cmpR op_eq (pv 3) pe_int (nomark _)) (pss_one (ps_ret (pe_op op_add_str (pe_op op_add_str (pe_op op_add_str (pe_op op_add_str (pv 7) pe_str) (pv 4)) pe_str) (pv 6)))) pss_nil)
    (pss_cons (ps_if (pt_cmpR op_eq (pv 3) pe_int (nomark _)) (pss_one (ps_ret (pe_op op_add_str (pe_op op_add_str (pe_op op_add_str (pe_op op_add_str (pe_op op_add_str (pe_op op_add_str (pv 7) pe_str) (pv 4)) pe_str) (pv 5)) pe_str) (pv 6)))) pss_nil)
    (pss_cons (ps_if (pt_cmpR op_eq (pv 3) pe_int (nomark _)) (pss_cons (ps_set (i := 8) sc__law_line.nd rfl (Or.inl rfl) (pe_slice sl_list (pe_lc (own := [("_law_k", 9)]) (g := gName 9) rfl sc__law_line.nd (pi_range1 rfl T.f_range (pa_cons (pv 2) pa_nil)) (blkOk_by (own := [("_law_k", 9)]) (N := n__law_line) (sc := defScope s__law_line) (by decide +kernel)) (fun _ _ _ _ _ => (pg_name (i := 9) sc__law_line.nd rfl (Or.inl rfl))) (fun _ _ _ _ _ => (pts_one (pt_cmpR op_eq (pe_cal c__law_draw (hr.mono (by decide)) hgd pass0 (pa_cons (pv 0) (pa_cons pe_int pa_nil))) pe_int (nomark _)))) (fun _ _ _ _ _ => (pe_callTy call_str_int rfl T.f_str (by decide +kernel) (pa_cons (pv 9) pa_nil)))) po_none (po_some pe_int)))
    (pss_one (ps_ret (pe_op op_add_str (pe_op op_add_str (pv 7) pe_str) (pe_join pe_str (pe_ifExp (pt_cmpR (op_neD hu) (pv 8) (pe_lst pa_nil) (nomark _)) (pv 8) (pe_lst (pa_cons (pv 6) pa_nil)))))))) pss_nil)
    (pss_one (ps_ret (pe_op op_add_str (pv 7) pe_str))))))))))), ?_⟩
    refine mid3 (fun σ' H' => ∃ (way : Int) (g : Str) (d k : Nat) (lab : Option Str), σ' = [some (.ref p), some (.ref l), some (.int (m : Int)), some (.int way), some (.str g), some (.str (digS d)), some (.str (digS k)), some (.str (mkS lab)), none, none] ∧
      Pl p H H' ∧ 0 ≤ way ∧ way < 9 ∧ Nm g ∧ d < 4 ∧ k < m ∧ (∀ z, lab = some z → Nm z)) ?_ (fun u rest => ?_)
    · rintro σ1 H1 ⟨way, g, d, k, lab, rfl, p1, w0, w9, ng, d4, km, hlab⟩
      have sz : sizeLine = 16777216 := sizeLine_eq
      have b1 := mkS_len hlab
      have b2 := ng.2
      have b3 : (digS d).length = 1 := rfl
      have b4 : (digS k).length = 1 := rfl
      have c1 : (Str.ofString "join ").length = 5 := by decide +kernel
      have c2 : (Str.ofString "drop ").length = 5 := by decide +kernel
      have c3 : (Str.ofString "look ").length = 5 := by decide +kernel
      have c4 : (Str.ofString "anew ").length = 5 := by decide +kernel
      have c5 : (Str.ofString "arrive ").length = 7 := by decide +kernel
      have c6 : (Str.ofString "wait ").length = 5 := by decide +kernel
      have c7 : (Str.ofString " else ").length = 6 := by decide +kernel
      have c8 : (Str.ofString "over ").length = 5 := by decide +kernel
      have c9 : (Str.ofString "go ").length = 3 := by decide +kernel
      have c10 : (Str.ofString "end").length = 3 := by decide +kernel
      have c11 : (Str.ofString " ").length = 1 := by decide +kernel
      refine mid1 (fun σ' H' => σ' = [some (.ref p), some (.ref l), some (.int (m : Int)), some (.int way), some (.str g), some (.str (digS d)), some (.str (digS k)), some (.str (mkS lab)), none, none] ∧ Pl p H H' ∧ 4 ≤ way) ?_ (fun u rest => ?_)
      · rintro σ2 H2 ⟨rfl, p2, w4⟩
        walk_at "rd"
        refine iteD (fun h4 => ?_) (fun h4 => ?_)
        · walk_at "rd"
          exact ret_eq (q _ (lab, .arr g d) (by walk_at "g but") ⟨⟨ng, d4⟩, hlab, fun k hk => nomatch hk⟩) (congrArg V.str (line_arr lab g d).symm)
        walk_at "rd"
        refine iteD (fun h5 => ?_) (fun h5 => ?_)
        · walk_at "rd"
          exact ret_eq (q _ (lab, .wai g k) (by walk_at "g but") ⟨⟨ng, by omega⟩, hlab, fun j hj => List.mem_singleton.mp hj ▸ km⟩) (congrArg V.str (line_wai lab g k).symm)
        walk_at "rd"
        refine iteD (fun h6 => ?_) (fun h6 => ?_)
        · walk_at "rd"
          exact ret_eq (q _ (lab, .ovr g d k) (by walk_at "g but") ⟨⟨ng, d4, by omega⟩, hlab, fun j hj => List.mem_singleton.mp hj ▸ km⟩) (congrArg V.str (line_ovr lab g d k).symm)
        walk_at "rd"
        refine iteD (fun h7 => ?_) (fun h7 => ?_)
        · have hp2 := p2.pool
          walk_at "rd"
          intro D nD
          have nDp : D ≠ p := PoolAt.ne_new hp2 nD
          refine lcW (wk_range 0 _) (fun i H' => GoSt p D H2 i H') (.mk [] (by walk_at "g but") upd_same (fun k hk => by cases hk) .nil (Nat.le_refl _)) (fun _ _ _ _ => trivial) ?_ ?_
          · rintro i x H3 hx ⟨ks, p3, hD, lt, pw, ln⟩
            obtain ⟨rfl, hi⟩ := rng_at hx
            have im : i < m := by omega
            have hp3 := p3.pool
            walk_at "rd"
            intro H4 r p4 r0 rm
            have hD4 := p4.get hD nDp
            have sl := small_log (i := 0 + (i : Int)) (by omega) (by omega)
            have ed : (toString (0 + (i : Int)) : Str) = digS i := by
              have := dig_of (i := 0 + (i : Int)) (by omega) (by omega)
              rw [this]
              congr 1
              omega
            walk_at "rd"
            refine iteD (fun hr => ?_) (fun hr => ?_)
            · walk_at "rd"
              refine ⟨by rw [List.length_map, List.length_map]; omega, .mk (ks ++ [i]) (Pl.own (p3.trans p4) nD nDp) ?_ ?_ ?_ ?_⟩
              · rw [upd_same, List.map_append, List.map_append, ed]
                rfl
              · intro k hk
                rcases List.mem_append.mp hk with hk | hk
                · have := lt k hk; omega
                · rw [List.mem_singleton.mp hk]; omega
              · rw [List.pairwise_append]
                refine ⟨pw, List.pairwise_singleton .., fun a ha b hb => ?_⟩
                rw [List.mem_singleton.mp hb]
                exact lt a ha
              · rw [List.length_append]
                exact Nat.succ_le_succ ln
            · walk_at "rd"
              exact .mk ks (p3.trans p4) hD4 (fun k hk => Nat.lt_succ_of_lt (lt k hk)) pw (Nat.le_succ_of_le ln)
          · rintro H3 ⟨ks, p3, hD, lt, pw, ln⟩
            rw [rngV_len] at lt ln
            have hp3 := p3.pool
            walk_at "rd"
            intro l4 nl4
            have ct : cutV ((ks.map digS).map V.str) none (some 4) = ((ks.take 4).map digS).map V.str := by
              rw [show (4 : Int) = ((4 : Nat) : Int) from rfl, cut_take, List.map_take, List.map_take]
            rw [ct]
            have k4 : (ks.take 4).length ≤ 4 := by rw [List.length_take]; omega
            have kl : ∀ j ∈ ks.take 4, j < m := fun j hj => by have := lt j (List.mem_of_mem_take hj); omega
            have so : strsOk ((ks.take 4).map digS) := fun z hz => by
              obtain ⟨j, hj, rfl⟩ := List.mem_map.mp hz
              exact strOk_of fun c hc => sign_128 (dig_plain (by have := kl j hj; omega) c hc)
            have j1 := dig_join (ks.take 4)
            have j2 : (Txt.join (Str.ofString " ") [digS k]).length ≤ 9 := dig_join [k]
            walk_at "rd"
            intro le nle
            refine ⟨.list (((ks.take 4).map digS).map PyData.str), .list [], .lst (SqL.of (upd_get nle upd_same)) (strs_dpAll _), .lst (SqL.of upd_same) .nil, strsL_shaped so, by decide +kernel, ?_⟩
            rw [strsL_nil]
            walk_at "rd"
            refine iteND (fun hne => ?_) (fun he => ?_)
            · walk_at "rd"
              refine ⟨by rw [dig_sum, List.length_map, c11]; omega, ?_⟩
              walk_at "rd"
              refine ret_eq (q _ (lab, .go (ks.take 4)) (by walk_at "g but") ⟨⟨fun e => hne (by rw [e]; rfl), k4, fun j hj => by have := kl j hj; omega, pw.sublist (List.take_sublist 4 ks)⟩, hlab, kl⟩) (congrArg V.str (line_go lab (fun e => hne (by rw [e]; rfl))).symm)
            · walk_at "rd"
              intro lg nlg
              walk_at "rd"
              refine ⟨.inl (show SqL _ _ _ (List.map V.str [digS k]) from SqL.of upd_same), ?_, ?_⟩
              · show (digS k).length + 0 + 1 * (Str.ofString " ").length ≤ 16777216
                rw [c11, b4]
                decide
              walk_at "rd"
              exact ret_eq (q _ (lab, .go [k]) (by walk_at "g but") ⟨⟨by simp, by simp, fun j hj => by rw [List.mem_singleton.mp hj]; omega, List.pairwise_singleton ..⟩, hlab, fun j hj => List.mem_singleton.mp hj ▸ km⟩)
                (congrArg V.str (line_go lab (ks := [k]) (by simp)).symm)
        · walk_at "rd"
          exact ret_eq (q _ (lab, .fin) (by walk_at "g but") ⟨trivial, hlab, fun k hk => nomatch hk⟩) (congrArg V.str (line_fin lab).symm)
      · walk_at "rd"
        refine iteD (fun w4 => ?_) (fun w4 => ?_)
        · have w4c : way = 0 ∨ way = 1 ∨ way = 2 ∨ way = 3 := by omega
          rcases w4c with rfl | rfl | rfl | rfl
          · walk_at "rd"
            intro t nt
            walk_at "rd"
            exact ret_eq (q _ (lab, .one "join" g) (by walk_at "g but") ⟨⟨by simp [fourW], ng⟩, hlab, fun k hk => nomatch hk⟩) (congrArg V.str (line_one lab (by decide +kernel)).symm)
          · walk_at "rd"
            intro t nt
            walk_at "rd"
            exact ret_eq (q _ (lab, .one "drop" g) (by walk_at "g but") ⟨⟨by simp [fourW], ng⟩, hlab, fun k hk => nomatch hk⟩) (congrArg V.str (line_one lab (by decide +kernel)).symm)
          · walk_at "rd"
            intro t nt
            walk_at "rd"
            exact ret_eq (q _ (lab, .one "look" g) (by walk_at "g but") ⟨⟨by simp [fourW], ng⟩, hlab, fun k hk => nomatch hk⟩) (congrArg V.str (line_one lab (by decide +kernel)).symm)
          · walk_at "rd"
            intro t nt
            walk_at "rd"
            exact ret_eq (q _ (lab, .one "anew" g) (by walk_at "g but") ⟨⟨by simp [fourW], ng⟩, hlab, fun k hk => nomatch hk⟩) (congrArg V.str (line_one lab (by decide +kernel)).symm)
        · walk_at "rd"
          exact rest _ _ ⟨rfl, p1, by omega⟩
    · walk_at "rd"
      intro H1 way p1 w0 wm
      have hl1 := p1.get hl nlp
      walk_at "rd"
      intro H2 ti p2 t0 tm
      rw [hlen] at tm
      have hl2 := p2.get hl1 nlp
      have tlt : ti.toNat < ms.length := by omega
      have et : atI (ms.map V.str) ti = some (.str ms[ti.toNat]) := at_any (j := ti.toNat) (by omega) (by rw [List.getElem?_map, List.getElem?_eq_getElem tlt]; rfl)
      have ng := nm _ (List.getElem_mem tlt)
      walk_at "rd"
      intro H3 d p3 d0 dm
      have sl1 := small_log d0 (by omega)
      walk_at "rd"
      intro H4 k p4 k0 km
      have sl2 := small_log k0 (by omega)
      walk_at "rd"
      intro H5 r p5 r0 rm
      have e1 := dig_of d0 (by omega)
      have e2 := dig_of k0 (by omega)
      walk_at "rd"
      refine iteD (fun _ => ?_) (fun _ => ?_)
      · walk_at "rd"
        intro H6 z p6 vz lz
        walk_at "rd"
        refine ⟨Nat.le_trans (Nat.add_le_add_right lz _) (by decide +kernel), ?_⟩
        walk_at "rd"
        exact rest _ _ ⟨way, ms[ti.toNat], d.toNat, k.toNat, some z, by rw [← e1, ← e2]; rfl, by walk_at "g but", w0, wm, ng, by omega, by omega, fun y hy => Option.some.inj hy ▸ ⟨vz, lz⟩⟩
      · walk_at "rd"
        exact rest _ _ ⟨way, ms[ti.toNat], d.toNat, k.toNat, none, by rw [← e1, ← e2]; rfl, by walk_at "g but", w0, wm, ng, by omega, by omega, fun y hy => nomatch hy⟩
end
end G
namespace G
open PySem PySem.Spec PyProof.Rows L2
/-- the lines drawn so far -/
inductive LnSt (p D : Addr) (H2 : Hp) (m i : Nat) (H' : Hp) : Prop
  | mk (rs : List RwT) (pl : Pl p H2 H') (hD : H' D = some (.lst (rowsV rs))) (ok : ∀ q ∈ rs, LineOk q m) (ln : rs.length = i)
section
variable {P : Program} {w : World} {K : PySem.W.Frag} {mg : Str → Option Value} {base : Heap} {CX : CXT}
theorem c_line (T : Tx K mg) : Cal P w K mg base CX0 3 "_law_line" [] spLine := by
  obtain ⟨fd, F⟩ := T.d__law_line
  exact .mk F (ok_line T F) T.n__law_line fun _ _ _ _ _ _ us hl => match us, hl with | [_, _, _], _ => rfl
def spLines : Sp := fun vs H Q _ => ∃ (p l : Addr) (ms : List Str), vs = [.ref p, .ref l] ∧ PoolAt H p ∧ H l = some (.lst (ms.map V.str)) ∧ l ≠ p ∧ ms ≠ [] ∧ ms.length ≤ 10 ∧ (∀ z ∈ ms, Nm z) ∧
  ∀ H' t rs, Pl p H H' → H t = none → H' t = some (.tup (rowsV rs)) → RowsOk rs → Q (.ref t) H'
theorem ok_lines {f : Addr} {fd : FuncData} {dvs : List V} {kws : List (Str × V)} (T : Tx K mg)
    (F : FunD K "_law_lines" "_law_lines" (defArgs s__law_lines) (defBody s__law_lines) (defScope s__law_lines) dvs kws f fd) :
    FnG P w K mg base CX0 4 f fd ["_law_pool_here", "_law_tags_here"] spLines := by
  have c__law_draw : Cal P w K mg base CX0 1 "_law_draw" [] spDraw := c_draw T
  have c__law_line : Cal P w K mg base CX0 3 "_law_line" [] spLine := c_line T
  refine okG F sc__law_lines (fun vs H Q E h => ?_) (fun cdv A outer s H vs Q E hr hgd h => ?_)
  · obtain ⟨p, l, ms, rfl, _⟩ := h
    rfl
  · obtain ⟨p, l, ms, rfl, hp, hl, nlp, m0, few, nm, q⟩ := h
    have hu := hr.units
    refine ⟨_, PSs.nox (pss_cons (ps_set (i := 2) sc__law_lines.nd rfl (Or.inr rfl) (pe_op op_add pe_int (pe_cal c__law_draw (hr.mono (by decide)) hgd pass0 (pa_cons (pv 0) (pa_cons pe_int pa_nil)))))
    (pss_one (ps_ret (pe_callTy call_tuple_of rfl T.f_tuple (by decide +kernel) (pa_cons (pe_lc (own := [("_law_k", 3)]) (g := gName 3) (tt := tYes) rfl sc__law_lines.nd (pi_range1 rfl T.f_range (pa_cons (pv 2) pa_nil)) (blkOk_by (own := [("_law_k", 3)]) (N := n__law_lines) (sc := defScope s__law_lines) (by decide +kernel)) (fun _ _ _ _ _ => (pg_name (i := 3) sc__law_lines.nd rfl (Or.inl rfl))) (fun _ _ _ _ _ => pts_nil) (fun _ _ _ _ _ => (pe_cal c__law_line (hr.mono (by decide)) hgd pass0 (pa_cons (pv 0) (pa_cons (pv 1) (pa_cons (pv 2) pa_nil)))))) pa_nil))))), ?_⟩
    walk_at "rd"
    intro H1 r p1 r0 rm
    have hl1 := p1.get hl nlp
    have hp1 := p1.pool
    walk_at "rd"
    obtain ⟨m, hm⟩ : ∃ m : Nat, 1 + r = (m : Int) := ⟨(1 + r).toNat, by omega⟩
    rw [hm]
    intro D nD
    have nDp : D ≠ p := PoolAt.ne_new hp1 nD
    have nDl : l ≠ D := ne_of_none hl1 nD
    refine lcW (wk_range 0 _) (fun i H' => LnSt p D H1 m i H') (.mk [] (by walk_at "g but") upd_same (fun _ h => by cases h) rfl) (fun _ _ _ _ => trivial) ?_ ?_
    · rintro i x H3 hx ⟨rs, p3, hD, ok, ln⟩
      obtain ⟨rfl, hi⟩ := rng_at hx
      have hp3 := p3.pool
      have hl3 := p3.get hl1 nlp
      walk_at "rd"
      refine ⟨(show [V.ref p, V.ref l, V.int (1 + r)] = [V.ref p, V.ref l, V.int (m : Int)] by rw [hm]), hp3, hl3, nlp, m0, few, nm, by omega, by omega, fun H4 u p4 lo => ?_⟩
      have hD4 := p4.get hD nDp
      refine ⟨_, hD4, by rw [rowsV, List.length_map, ln]; show i < 16777216; omega, .mk (rs ++ [u]) (Pl.own (p3.trans p4) nD nDp) ?_ ?_ ?_⟩
      · rw [upd_same, rowsV, rowsV, List.map_append]
        rfl
      · intro y hy
        rcases List.mem_append.mp hy with hy | hy
        · exact ok y hy
        · rw [List.mem_singleton.mp hy]; exact lo
      · rw [List.length_append, ln]
        rfl
    · rintro H3 ⟨rs, p3, hD, ok, ln⟩
      rw [rngV_len] at ln
      have hp3 := p3.pool
      refine ⟨D, rowsV rs, rfl, .inl ⟨SqL.of hD, fun t nt => q _ t rs (by walk_at "g but") ?_ upd_same ?_⟩⟩
      · exact (p1.trans p3).free nt
      · exact ⟨by omega, by omega, fun u hu2 => ⟨(ok u hu2).ok, (ok u hu2).lab, fun k hk => by have := (ok u hu2).lt k hk; omega⟩⟩
end
end G
namespace G
open PySem PySem.Spec PyProof.Rows L2
theorem cut_drop (xs : List V) (k : Nat) : cutV xs (some (k : Int)) none = xs.drop k := by
  unfold cutV
  rw [HT.sIx_none, HT.sIx_nat]
  rcases Nat.le_total k xs.length with h | h
  · rw [Nat.min_eq_left h]
    exact List.take_of_length_le (by rw [List.length_drop]; exact Nat.le_refl _)
  · rw [Nat.min_eq_right h, List.drop_of_length_le (Nat.le_refl _), List.drop_of_length_le h, List.take_nil]
/-! ### what is due -/
/-- a tuple (name, rows, many, members) stands at d -/
def DueAt (H : Hp) (d : Addr) (k : KindT) : Prop := ∃ t m, H d = some (.tup [.str k.n, .ref t, .bl k.b, .ref m]) ∧ H t = some (.tup (rowsV k.rs)) ∧ H m = some (.tup (k.ms.map V.str))
theorem DueAt.same {H H' : Hp} {d : Addr} {k : KindT} (h : DueAt H d k) (s : Same H H') : DueAt H' d k := by
  obtain ⟨t, m, h1, h2, h3⟩ := h
  exact ⟨t, m, s _ _ h1, s _ _ h2, s _ _ h3⟩
theorem DueAt.pl {H H' : Hp} {d p : Addr} {k : KindT} (h : DueAt H d k) (hp : PoolAt H p) (s : Pl p H H') : DueAt H' d k := by
  obtain ⟨t, m, h1, h2, h3⟩ := h
  exact ⟨t, m, s.obj hp h1 rfl, s.obj hp h2 rfl, s.obj hp h3 rfl⟩
structure KindOk4 (k : KindT) : Prop where
  ok : KindOk k
  few : k.ms.length ≤ 4
section
variable {P : Program} {w : World} {K : PySem.W.Frag} {mg : Str → Option Value} {base : Heap} {CX : CXT}
theorem c_lines (T : Tx K mg) : Cal P w K mg base CX0 4 "_law_lines" [] spLines := by
  obtain ⟨fd, F⟩ := T.d__law_lines
  exact .mk F (ok_lines T F) T.n__law_lines fun _ _ _ _ _ _ us hl => match us, hl with | [_, _], _ => rfl
inductive TgSt (p l : Addr) (m : Int) (H : Hp) (i : Nat) (σ : L2.St) (H' : Hp) : Prop
  | mk (ms : List Str) (c : Option V) (eσ : σ = [some (.ref p), some (.int m), some (.ref l), c]) (pl : Pl p H H') (hl : H' l = some (.lst (ms.map V.str))) (nm : ∀ z ∈ ms, Nm z) (nd : ms.Nodup) (ln : ms.length = i)
def spTags : Sp := fun vs H Q _ => ∃ (p : Addr) (m : Int), vs = [.ref p, .int m] ∧ PoolAt H p ∧ 0 ≤ m ∧ m ≤ 9 ∧
  ∀ H' l (ms : List Str), Pl p H H' → H l = none → l ≠ p → H' l = some (.lst (ms.map V.str)) → (ms.length : Int) ≤ m → (∀ z ∈ ms, Nm z) → ms.Nodup → Q (.ref l) H'
theorem ok_tags {f : Addr} {fd : FuncData} {dvs : List V} {kws : List (Str × V)} (T : Tx K mg)
    (F : FunD K "_law_tags" "_law_tags" (defArgs s__law_tags) (defBody s__law_tags) (defScope s__law_tags) dvs kws f fd) :
    FnG P w K mg base CX0 4 f fd ["_law_pool_here", "_law_most"] spTags := by
  have c__law_draw : Cal P w K mg base CX0 1 "_law_draw" [] spDraw := c_draw T
  have c__law_new : Cal P w K mg base CX0 3 "_law_new" [] spNew := c_new T
  refine okG F sc__law_tags (fun vs H Q E h => ?_) (fun cdv A outer s H vs Q E hr hgd h => ?_)
  · obtain ⟨p, m, rfl, _⟩ := h
    rfl
  · obtain ⟨p, m, rfl, hp, m0, m9, q⟩ := h
    have hu := hr.units
    refine ⟨_, PSs.nox (pss_cons (ps_set (i := 2) sc__law_tags.nd rfl (Or.inl rfl) (pe_lst pa_nil))
    (pss_cons (ps_for PassesOwn.never rfl (pi_range1 rfl T.f_range (pa_cons (pe_cal c__law_draw (hr.mono (by decide)) hgd pass0 (pa_cons (pv 0) (pa_cons (pe_op op_add (pv 1) pe_int) pa_nil))) pa_nil)) (pg_name (i := 3) sc__law_tags.nd rfl (Or.inl rfl))
      (pss_one (ps_expr (pe_bm PySem.F.plainAttrs_list PySem.F.slot_list_append PySem.F.type_list_append mt_append (pv 2) (pa_cons (pe_cal c__law_new (hr.mono (by decide)) hgd pass0 (pa_cons (pv 0) (pa_cons (pv 2) pa_nil))) pa_nil)))))
    (pss_one (ps_ret (pv 2))))), ?_⟩
    walk_at "rd"
    intro l nl
    have nlp : l ≠ p := PoolAt.ne_new hp nl
    walk_at "rd"
    intro H1 r p1 r0 rm
    have hl1 := p1.get (upd_same : upd H l (.lst []) l = some (.lst [])) nlp
    walk_at "rd"
    refine forW (wk_range 0 _) (fun i σ H' => TgSt p l m H i σ H') ?_ (fun _ _ _ _ _ => trivial) ?_ ?_
    · exact .mk [] _ rfl (Pl.trans ⟨(But.refl _ _).new nl, hp.new nl⟩ p1) hl1 (fun _ h => by cases h) List.nodup_nil rfl
    · rintro i x σ H2 hx ⟨ms, c, rfl, p2, hl2, nm, nd, ln⟩
      obtain ⟨rfl, hi⟩ := rng_at hx
      have hp2 := p2.pool
      walk_at "rd"
      refine ⟨.inl ⟨rfl, _, SqL.of hl2⟩, ?_⟩
      walk_at "rd"
      intro H3 z p3 nz ni
      have hl3 := p3.get hl2 nlp
      refine ⟨l, ms.map V.str, .str z, rfl, rfl, hl3, by rw [List.length_map, sizeLine_eq]; omega, ?_⟩
      refine .mk (ms ++ [z]) _ rfl (Pl.own (p2.trans p3) nl nlp) ?_ ?_ ?_ ?_
      · rw [upd_same, List.map_append]
        rfl
      · intro y hy
        rcases List.mem_append.mp hy with hy | hy
        · exact nm y hy
        · rw [List.mem_singleton.mp hy]; exact nz
      · rw [List.nodup_append]
        refine ⟨nd, List.nodup_cons.mpr ⟨by simp, List.nodup_nil⟩, fun a ha b hb => ?_⟩
        rw [List.mem_singleton.mp hb]
        rintro rfl
        exact ni ha
      · rw [List.length_append, ln]
        rfl
    · rintro σ H2 ⟨ms, c, rfl, p2, hl2, nm, nd, ln⟩
      rw [rngV_len] at ln
      walk_at "rd"
      exact q H2 l ms p2 nl nlp hl2 (by omega) nm nd
theorem c_tags (T : Tx K mg) : Cal P w K mg base CX0 4 "_law_tags" [] spTags := by
  obtain ⟨fd, F⟩ := T.d__law_tags
  exact .mk F (ok_tags T F) T.n__law_tags fun _ _ _ _ _ _ us hl => match us, hl with | [_, _], _ => rfl
def spOther : Sp := fun vs H Q _ => ∃ (p d : Addr) (k : KindT), vs = [.ref p, .ref d] ∧ PoolAt H p ∧ DueAt H d k ∧ KindOk4 k ∧
  ∀ H' d' k', Pl p H H' → DueAt H' d' k' → KindOk4 k' → Q (.ref d') H'
theorem ok_other {f : Addr} {fd : FuncData} {dvs : List V} {kws : List (Str × V)} (T : Tx K mg)
    (F : FunD K "_law_other" "_law_other" (defArgs s__law_other) (defBody s__law_other) (defScope s__law_other) dvs kws f fd) :
    FnG P w K mg base CX0 4 f fd ["_law_pool_here", "_law_due"] spOther := by
  have c__law_draw : Cal P w K mg base CX0 1 "_law_draw" [] spDraw := c_draw T
  have c__law_new : Cal P w K mg base CX0 3 "_law_new" [] spNew := c_new T
  have c__law_line : Cal P w K mg base CX0 3 "_law_line" [] spLine := c_line T
  refine okG F sc__law_other (fun vs H Q E h => ?_) (fun cdv A outer s H vs Q E hr hgd h => ?_)
  · obtain ⟨p, d, k, rfl, _⟩ := h
    rfl
  · obtain ⟨p, d, k, rfl, hp, ⟨t, m, hd, ht, hm⟩, ok, q⟩ := h
    have hu := hr.units
    have hlen : (rowsV k.rs).length = k.rs.length := List.length_map ..
    have one := ok.ok.ro.one
    have ten := ok.ok.ro.ten
    refine ⟨_, PSs.nox (pss_cons (ps_asg (pv 1) (pg_tup rfl (pgs_cons (pg_name (i := 2) sc__law_other.nd rfl (Or.inl rfl)) (pgs_cons (pg_name (i := 3) sc__law_other.nd rfl (Or.inl rfl)) (pgs_cons (pg_name (i := 4) sc__law_other.nd rfl (Or.inl rfl)) (pgs_cons (pg_name (i := 5) sc__law_other.nd rfl (Or.inl rfl)) pgs_nil))))))
    (pss_cons (ps_par (i := 6) (j := 7) rfl sc__law_other.nd rfl rfl (by decide) rfl rfl (pa_cons (pe_cal c__law_draw (hr.mono (by decide)) hgd pass0 (pa_cons (pv 0) (pa_cons pe_int pa_nil))) (pa_cons (pe_cal c__law_draw (hr.mono (by decide)) hgd pass0 (pa_cons (pv 0) (pa_cons (pe_callB call_len_seq rfl T.f_len (by decide +kernel) (pa_cons (pv 3) pa_nil)) pa_nil))) pa_nil)) (by rfl))
    (pss_cons (ps_if (pt_cmpR op_eq (pv 6) pe_int (nomark _)) (pss_one (ps_ret (pe_tup (pa_cons (pe_cal c__law_new (hr.mono (by decide)) hgd pass0 (pa_cons (pv 0) (pa_cons (pe_lst (pa_cons (pv 2) pa_nil)) pa_nil))) (pa_cons (pv 3) (pa_cons (pv 4) (pa_cons (pv 5) pa_nil))))))) pss_nil)
    (pss_cons (ps_if (pt_cmpR op_eq (pv 6) pe_int (nomark _)) (pss_one (ps_ret (pe_tup (pa_cons (pv 2) (pa_cons (pe_op op_catB (pe_op op_catB (pe_slice sl_tupB (pv 3) po_none (po_some (pv 7))) (pe_tup (pa_cons (pe_cal c__law_line (hr.mono (by decide)) hgd pass0 (pa_cons (pv 0) (pa_cons (pe_lst (pa_cons pe_str (pa_cons pe_str pa_nil))) (pa_cons (pe_callB call_len_seq rfl T.f_len (by decide +kernel) (pa_cons (pv 3) pa_nil)) pa_nil)))) pa_nil))) (pe_slice sl_tupB (pv 3) (po_some (pe_op op_add (pv 7) pe_int)) po_none)) (pa_cons (pv 4) (pa_cons (pv 5) pa_nil))))))) pss_nil)
    (pss_cons (ps_if (pt_cmpR op_eq (pv 6) pe_int (nomark _)) (pss_one (ps_ret (pe_tup (pa_cons (pv 2) (pa_cons (pe_op op_catB (pe_slice sl_tupB (pv 3) po_none (po_some pe_int)) (pe_tup (pa_cons pe_str pa_nil))) (pa_cons (pv 4) (pa_cons (pv 5) pa_nil))))))) pss_nil)
    (pss_cons (ps_if (pt_cmpR op_eq (pv 6) pe_int (nomark _)) (pss_one (ps_ret (pe_tup (pa_cons (pv 2) (pa_cons (pv 3) (pa_cons (pe_not (pv 4)) (pa_cons (pv 5) pa_nil))))))) pss_nil)
    (pss_cons (ps_if (pt_cmpR op_eq (pv 6) pe_int (nomark _)) (pss_one (ps_ret (pe_tup (pa_cons (pv 2) (pa_cons (pv 3) (pa_cons (pv 4) (pa_cons (pe_revT (pv 5)) pa_nil))))))) pss_nil)
    (pss_one (ps_ret (pe_tup (pa_cons (pv 2) (pa_cons (pv 3) (pa_cons (pv 4) (pa_cons (pe_ifExp (pt_cmpR op_eq (pv 6) pe_int (nomark _)) (pe_slice sl_tupB (pv 5) (po_some pe_int) po_none) (pv 5)) pa_nil)))))))))))))), ?_⟩
    walk_at "rd"
    intro H1 way p1 w0 wm
    have ht1 := p1.obj hp ht rfl
    have hm1 := p1.obj hp hm rfl
    walk_at "rd"
    intro H2 j p2 j0 jm
    have hp1 := p1.pool
    have hp2 := p2.pool
    have ht2 := p2.obj hp1 ht1 rfl
    have hm2 := p2.obj hp1 hm1 rfl
    rw [hlen] at jm
    have same4 : ∀ H3 d3 t3 m3 (k3 : KindT), Pl p H H3 → H3 d3 = some (.tup [.str k3.n, .ref t3, .bl k3.b, .ref m3]) → H3 t3 = some (.tup (rowsV k3.rs)) → H3 m3 = some (.tup (k3.ms.map V.str)) →
        KindOk4 k3 → Q (.ref d3) H3 := fun H3 d3 t3 m3 k3 pl e1 e2 e3 o => q H3 d3 k3 pl ⟨t3, m3, e1, e2, e3⟩ o
    walk_at "rd"
    refine iteD (fun h0 => ?_) (fun h0 => ?_)
    · walk_at "rd"
      intro l nl
      have nlp : l ≠ p := PoolAt.ne_new hp2 nl
      have hpl := hp2.new (o := .lst [.str k.n]) nl
      have hl3 : upd H2 l (.lst [V.str k.n]) l = some (.lst ([k.n].map V.str)) := upd_same
      walk_at "rd"
      intro H3 z p3 nz ni
      have ht3 := p3.obj hpl (upd_get nl ht2) rfl
      have hm3 := p3.obj hpl (upd_get nl hm2) rfl
      walk_at "rd"
      intro d3 nd3
      refine same4 _ d3 t m { k with n := z } (by walk_at "g but") upd_same (upd_get nd3 ht3) (upd_get nd3 hm3) ⟨⟨nz, ok.ok.ro, ok.ok.mo⟩, ok.few⟩
    walk_at "rd"
    refine iteD (fun h1 => ?_) (fun h1 => ?_)
    · walk_at "rd"
      intro H3 t3 s3 ht3
      have hp3 := hp2.same s3
      have ht03 := s3 _ _ ht2
      have hm3 := s3 _ _ hm2
      walk_at "rd"
      intro l nl
      have nlp : l ≠ p := PoolAt.ne_new hp3 nl
      have hpl := hp3.new (o := .lst [.str "g", .str "gate"]) nl
      have hl3 : upd H3 l (.lst [V.str "g", .str "gate"]) l = some (.lst ((["g", "gate"] : List Str).map V.str)) := upd_same
      have gg : ∀ z ∈ (["g", "gate"] : List Str), Nm z := by
        intro z hz
        rcases List.mem_cons.mp hz with rfl | hz
        · exact ⟨by decide +kernel, by decide +kernel⟩
        · rw [List.mem_singleton.mp hz]; exact ⟨by decide +kernel, by decide +kernel⟩
      walk_at "rd"
      refine ⟨by decide, by decide, gg, ?_⟩
      walk_at "rd"
      intro H4 u p4 lo
      have ht4 := p4.obj hpl (upd_get nl ht3) rfl
      have ht04 := p4.obj hpl (upd_get nl ht03) rfl
      have hm4 := p4.obj hpl (upd_get nl hm3) rfl
      obtain ⟨i, rfl⟩ : ∃ i : Nat, j = (i : Int) := ⟨j.toNat, by omega⟩
      rw [cut_take] at ht4
      walk_at "rd"
      intro e5 ne5
      have l5 : (List.take i (rowsV k.rs)).length ≤ 10 := by rw [List.length_take]; omega
      walk_at "rd"
      refine ⟨by rw [sizeLine_eq]; show _ + 1 ≤ _; omega, ?_⟩
      intro H5 t5 s5 ht5
      have ht05 := s5 _ _ (upd_get ne5 ht04)
      have hm5 := s5 _ _ (upd_get ne5 hm4)
      walk_at "rd"
      intro H6 t6 s6 ht6
      have ht56 := s6 _ _ ht5
      have hm6 := s6 _ _ hm5
      rw [show ((i : Int) + 1) = ((i + 1 : Nat) : Int) from rfl, cut_drop] at ht6
      walk_at "rd"
      refine ⟨by rw [sizeLine_eq, List.length_append, List.length_drop, hlen]; show _ + 1 + _ ≤ _; omega, ?_⟩
      intro H7 t7 s7 ht7
      have hm7 := s7 _ _ hm6
      walk_at "rd"
      intro d3 nd3
      refine same4 _ d3 t7 m { k with rs := k.rs.take i ++ [u] ++ k.rs.drop (i + 1) } (by walk_at "g but") upd_same (upd_get nd3 ?_) (upd_get nd3 hm7) ⟨⟨ok.ok.nm, ?_, ok.ok.mo⟩, ok.few⟩
      · rw [ht7]
        unfold rowsV
        rw [List.map_append, List.map_append, List.map_take, List.map_drop]
        rfl
      · have ln : (k.rs.take i ++ [u] ++ k.rs.drop (i + 1)).length = k.rs.length := by
          rw [List.length_append, List.length_append, List.length_take, List.length_drop]
          show _ + 1 + _ = _
          omega
        refine ⟨by rw [ln]; exact one, by rw [ln]; exact ten, fun y hy => ?_⟩
        rw [ln]
        rcases List.mem_append.mp hy with hy | hy
        · rcases List.mem_append.mp hy with hy | hy
          · exact ok.ok.ro.ok y (List.mem_of_mem_take hy)
          · rw [List.mem_singleton.mp hy]
            exact ⟨lo.ok, lo.lab, fun g hg => by have := lo.lt g hg; omega⟩
        · exact ok.ok.ro.ok y (List.mem_of_mem_drop hy)
    walk_at "rd"
    refine iteD (fun h2 => ?_) (fun h2 => ?_)
    · walk_at "rd"
      intro H3 t3 s3 ht3
      have hp3 := hp2.same s3
      have ht03 := s3 _ _ ht2
      have hm3 := s3 _ _ hm2
      rw [show (9 : Int) = ((9 : Nat) : Int) from rfl, cut_take] at ht3
      walk_at "rd"
      intro e3 ne3
      walk_at "rd"
      refine ⟨by rw [sizeLine_eq, List.length_take]; show _ + 1 ≤ _; omega, ?_⟩
      intro H4 t4 s4 ht4
      have hm4 := s4 _ _ (upd_get ne3 hm3)
      walk_at "rd"
      intro d3 nd3
      refine same4 _ d3 t4 m { k with rs := k.rs.take 9 ++ [(none, .fin)] } (by walk_at "g but") upd_same (upd_get nd3 ?_) (upd_get nd3 hm4) ⟨⟨ok.ok.nm, ?_, ok.ok.mo⟩, ok.few⟩
      · rw [ht4]
        unfold rowsV
        rw [List.map_append, List.map_take]
        rfl
      · have ln : (k.rs.take 9 ++ [((none, .fin) : RwT)]).length = min 9 k.rs.length + 1 := by rw [List.length_append, List.length_take]; rfl
        refine ⟨by rw [ln]; omega, by rw [ln]; omega, fun y hy => ?_⟩
        rw [ln]
        rcases List.mem_append.mp hy with hy | hy
        · obtain ⟨a, b, c⟩ := ok.ok.ro.ok y (List.mem_of_mem_take hy)
          exact ⟨a, b, fun g hg => by have := c g hg; omega⟩
        · rw [List.mem_singleton.mp hy]
          exact ⟨trivial, ⟨fun z hz => (by cases hz), fun g hg => (by cases hg)⟩⟩
    walk_at "rd"
    refine iteD (fun h3 => ?_) (fun h3 => ?_)
    · walk_at "rd"
      intro d3 nd3
      refine same4 _ d3 t m { k with b := !k.b } (by walk_at "g but") upd_same (upd_get nd3 ht2) (upd_get nd3 hm2) ⟨⟨ok.ok.nm, ok.ok.ro, ok.ok.mo⟩, ok.few⟩
    walk_at "rd"
    refine iteD (fun h4 => ?_) (fun h4 => ?_)
    · walk_at "rd"
      intro m3 nm3
      walk_at "rd"
      intro d3 nd3
      refine same4 _ d3 t m3 { k with ms := k.ms.reverse } (by walk_at "g but") upd_same (upd_get nd3 (upd_get nm3 ht2)) (upd_get nd3 ?_) ⟨⟨ok.ok.nm, ok.ok.ro, ?_⟩, ?_⟩
      · rw [upd_same, List.map_reverse]
      · exact ⟨fun z hz => ok.ok.mo.nm z (List.mem_reverse.mp hz), List.pairwise_reverse.mpr (ok.ok.mo.nd.imp Ne.symm), by rw [List.length_reverse]; exact ok.ok.mo.few⟩
      · show k.ms.reverse.length ≤ 4
        rw [List.length_reverse]; exact ok.few
    walk_at "rd"
    refine iteD (fun h5 => ?_) (fun h5 => ?_)
    · walk_at "rd"
      intro H3 m3 s3 hm3
      have ht3 := s3 _ _ ht2
      rw [show (1 : Int) = ((1 : Nat) : Int) from rfl, cut_drop, ← List.map_drop] at hm3
      walk_at "rd"
      intro d3 nd3
      refine same4 _ d3 t m3 { k with ms := k.ms.drop 1 } (by walk_at "g but") upd_same (upd_get nd3 ht3) (upd_get nd3 hm3) ⟨⟨ok.ok.nm, ok.ok.ro, ?_⟩, ?_⟩
      · exact ⟨fun z hz => ok.ok.mo.nm z (List.mem_of_mem_drop hz), ok.ok.mo.nd.sublist (List.drop_sublist ..), by rw [List.length_drop]; have := ok.ok.mo.few; omega⟩
      · show (k.ms.drop 1).length ≤ 4
        rw [List.length_drop]; have := ok.few; omega
    · walk_at "rd"
      intro d3 nd3
      refine same4 _ d3 t m k (by walk_at "g but") upd_same (upd_get nd3 ht2) (upd_get nd3 hm2) ok
end
end G
namespace G
open PySem PySem.Spec PyProof.Rows L2
/-! ### what a text of texts measures -/
theorem join_le {B : Nat} : ∀ ts : List Str, (∀ t ∈ ts, t.length ≤ B) → (Str.join (Str.ofString ", ") ts).length ≤ (B + 2) * ts.length
  | [], _ => Nat.zero_le _
  | [t], h => by
    have := h t List.mem_cons_self
    show t.length ≤ (B + 2) * 1
    omega
  | t :: u :: r, h => by
    have h1 := h t List.mem_cons_self
    have h2 := join_le (B := B) (u :: r) fun y hy => h y (List.mem_cons_of_mem _ hy)
    show (t ++ Str.ofString ", " ++ Str.join (Str.ofString ", ") (u :: r)).length ≤ (B + 2) * ((u :: r).length + 1)
    rw [cat_len, cat_len, show (Str.ofString ", ").length = 2 from by decide +kernel, Nat.mul_add]
    omega
theorem tupleText_le {B : Nat} {ts : List Str} (h : ∀ t ∈ ts, t.length ≤ B) : (tupleText ts).length ≤ (B + 2) * ts.length + 3 := by
  have h1 := join_le ts h
  unfold tupleText
  have e1 : (Str.ofString "(").length = 1 := by decide +kernel
  have e2 : (Str.ofString ",)").length = 2 := by decide +kernel
  have e3 : (Str.ofString ")").length = 1 := by decide +kernel
  split
  · show (Str.ofString "(" ++ Str.join (Str.ofString ", ") ts ++ Str.ofString ",)").length ≤ _
    rw [cat_len, cat_len]
    omega
  · show (Str.ofString "(" ++ Str.join (Str.ofString ", ") ts ++ Str.ofString ")").length ≤ _
    rw [cat_len, cat_len]
    omega
theorem repr_128 {z : Str} (h : ∀ c ∈ z.cps.toList, c < 128) : (reprText z).length ≤ 10 * z.length + 2 := by
  have k := PySem.StrLaws.reprText_len z (fun c hc => Nat.lt_trans (h c hc) (by decide))
  omega
theorem strsD_shown {l : List Str} {B : Nat} (h : ∀ z ∈ l, (reprText z).length ≤ B) : (strsD l).shown.length ≤ (B + 2) * l.length + 3 := by
  have e : ∀ l : List Str, PyData.shownAll (l.map PyData.str) = l.map reprText := by
    intro l
    induction l with
    | nil => rfl
    | cons z l ih => rw [List.map_cons, List.map_cons, ← ih]; rfl
  show (tupleText (PyData.shownAll (l.map PyData.str))).length ≤ _
  rw [e]
  have k := tupleText_le (B := B) (ts := l.map reprText) (by
    intro t ht
    obtain ⟨z, hz, rfl⟩ := List.mem_map.mp ht
    exact h z hz)
  rw [List.length_map] at k
  exact k
theorem strs_show : ∀ l : List Str, PyData.showableAll (l.map PyData.str) = true
  | [] => rfl
  | z :: l => strs_show l
theorem strs_noDict : ∀ l : List Str, PyData.hasDictAll (l.map PyData.str) = false
  | [] => rfl
  | z :: l => strs_noDict l
theorem rowText_128 {q : RwT} (h : q.2.Ok) (hl : ∀ z, q.1 = some z → Nm z) : ∀ c ∈ q.text.cps.toList, c < 128 := by
  intro c hc
  obtain ⟨l, r⟩ := q
  cases l with
  | none => exact rwText_128 h c hc
  | some z =>
    have e : (RwT.text (some z, r)).cps.toList = z.cps.toList ++ (Str.ofString ": ").cps.toList ++ (rwText r).cps.toList := by
      show (z ++ Str.ofString ": " ++ rwText r).cps.toList = _
      rw [cat_list, cat_list]
    rw [e] at hc
    rcases List.mem_append.mp hc with hc | hc
    · rcases List.mem_append.mp hc with hc | hc
      · exact sign_128 (nm_plain (hl z rfl) c hc)
      · have a : ∀ c ∈ (Str.ofString ": ").cps.toList, c < 128 := by decide +kernel
        exact a c hc
    · exact rwText_128 h c hc
/-! ### (name, rows, many, members) as data -/
def dueD (k : KindT) : PyData := .tuple [.str k.n, strsD (texts k.rs), .bool k.b, strsD k.ms]
theorem due_show (k : KindT) : (dueD k).showable = true ∧ (dueD k).hasDict = false ∧ (dueD k).depth ≤ 60 := by
  refine ⟨?_, ?_, ?_⟩
  · show (true && ((PyData.showableAll _) && (true && ((PyData.showableAll _) && true)))) = true
    rw [strs_show, strs_show]
    rfl
  · show (false || ((PyData.hasDictAll _) || (false || ((PyData.hasDictAll _) || false)))) = false
    rw [strs_noDict, strs_noDict]
    rfl
  · simp only [dueD, strsD, PyData.depth, PyData.depthAll, strs_depth]
    decide
theorem due_len {k : KindT} (h : KindOk4 k) : (dueD k).shown.length ≤ sizeLine := by
  have h1 : (reprText k.n).length ≤ 82 := by
    have a := repr_128 (z := k.n) fun c hc => sign_128 (nm_plain h.ok.nm c hc)
    have b := h.ok.nm.2
    omega
  have h2 : (strsD (texts k.rs)).shown.length ≤ 554 * 10 + 3 := by
    have a := strsD_shown (l := texts k.rs) (B := 552) (by
      intro z hz
      obtain ⟨q, hq, rfl⟩ := List.mem_map.mp hz
      obtain ⟨o, l, _⟩ := h.ok.ro.ok q hq
      have b := rowText_len (l := q.1) o l
      have c := repr_128 (z := q.text) (rowText_128 o l)
      have d : q.text.length ≤ 55 := b
      omega)
    have e : (texts k.rs).length = k.rs.length := List.length_map ..
    have t := h.ok.ro.ten
    rw [e] at a
    omega
  have h3 : (strsD k.ms).shown.length ≤ 84 * 4 + 3 := by
    have a := strsD_shown (l := k.ms) (B := 82) (by
      intro z hz
      have nz := h.ok.mo.nm z hz
      have b := repr_128 (z := z) fun c hc => sign_128 (nm_plain nz c hc)
      have c := nz.2
      omega)
    have t := h.few
    omega
  have h4 : (PyData.bool k.b).shown.length ≤ 5 := by
    cases k.b <;> decide +kernel
  have a := tupleText_le (B := 6000) (ts := [reprText k.n, (strsD (texts k.rs)).shown, (PyData.bool k.b).shown, (strsD k.ms).shown]) (by
    intro t ht
    simp only [List.mem_cons, List.not_mem_nil, or_false] at ht
    rcases ht with rfl | rfl | rfl | rfl
    · omega
    · omega
    · omega
    · omega)
  show (tupleText [reprText k.n, (strsD (texts k.rs)).shown, (PyData.bool k.b).shown, (strsD k.ms).shown]).length ≤ sizeLine
  rw [sizeLine_eq]
  exact Nat.le_trans a (show (6000 + 2) * 4 + 3 ≤ 16777216 by decide)
theorem due_dp' {K : PySem.W.Frag} {H : Hp} {d t m : Addr} {k : KindT} (h1 : H d = some (.tup [.str k.n, .ref t, .bl k.b, .ref m])) (h2 : H t = some (.tup (rowsV k.rs))) (h3 : MemAt K H m k.ms) : Dp K H (.ref d) (dueD k) :=
  .tup (SqT.of h1) (.cons (.str _) (.cons (strs_dp (by rw [← rowsV_texts]; exact SqT.of h2)) (.cons (.bl _) (.cons (strs_dp h3.sq) .nil))))
theorem due_dp {K : PySem.W.Frag} {H : Hp} {d : Addr} {k : KindT} (h : DueAt H d k) : Dp K H (.ref d) (dueD k) := by
  obtain ⟨t, m, h1, h2, h3⟩ := h
  exact due_dp' h1 h2 (.inl h3)
theorem due_shaped {k : KindT} (h : KindOk4 k) : SeqAt.shaped (dueD k) = true := by
  unfold SeqAt.shaped dueD strsD
  simp only [PyData.canLay0, PyData.canLayAll0, PyData.depth, PyData.depthAll, strs_lay _ (texts_ok h.ok.ro), strs_lay _ (show strsOk k.ms from fun z hz => nm_ok (h.ok.mo.nm z hz)), strs_depth, nm_ok h.ok.nm, Bool.true_and]
  decide
theorem due_eqv (k k' : KindT) : PyData.eqv (dueD k) (dueD k') = kEq k k' := by
  show (PyData.eqv (.str k.n) (.str k'.n) && (PyData.eqv (strsD (texts k.rs)) (strsD (texts k'.rs)) && (PyData.eqv (.bool k.b) (.bool k'.b) && (PyData.eqv (strsD k.ms) (strsD k'.ms) && true)))) = _
  rw [strs_eqv, strs_eqv]
  have e1 : PyData.eqv (.str k.n) (.str k'.n) = decide (k.n = k'.n) := by
    show (k.n == k'.n) = decide (k.n = k'.n)
    by_cases h : k.n = k'.n
    · rw [h]; simp
    · simp [h]
  have e2 : PyData.eqv (.bool k.b) (.bool k'.b) = decide (k.b = k'.b) := by
    cases k.b <;> cases k'.b <;> rfl
  rw [e1, e2]
  unfold kEq
  rw [Bool.and_true, Bool.and_assoc, Bool.and_assoc]
section
variable {P : Program} {w : World} {K : PySem.W.Frag} {mg : Str → Option Value} {base : Heap} {CX : CXT}
theorem small_ok : ∀ n : Nat, n ≤ 10 → (PyData.int (n : Int)).showable = true ∧ (PyData.int (n : Int)).hasDict = false ∧ (PyData.int (n : Int)).depth ≤ 60 ∧ (PyData.int (n : Int)).shown.length ≤ sizeLine := by
  have a : ∀ n : Fin 11, (PyData.int ((n.val : Nat) : Int)).showable = true ∧ (PyData.int ((n.val : Nat) : Int)).hasDict = false ∧ (PyData.int ((n.val : Nat) : Int)).depth ≤ 60 ∧ (PyData.int ((n.val : Nat) : Int)).shown.length ≤ sizeLine := by decide +kernel
  intro n h
  exact a ⟨n, by omega⟩
def spIs (K : PySem.W.Frag) : Sp := fun vs H Q _ => ∃ (a d : Addr) (k : KindT), vs = [.ref a, .ref d] ∧ KindAt K H a k ∧ DueAt H d k ∧ k.ms.length ≤ 4 ∧ ∀ H', Same H H' → Q (.bl true) H'
theorem ok_is {f : Addr} {fd : FuncData} {dvs : List V} {kws : List (Str × V)} (T : Tx K mg)
    (F : FunD K "_law_is" "_law_is" (defArgs s__law_is) (defBody s__law_is) (defScope s__law_is) dvs kws f fd) :
    FnG P w K mg base CX0 3 f fd ["_law_mine", "_law_due"] (spIs K) := by
  obtain ⟨fl, fdl, psl, ⟨l1, l2⟩, fnl, bl⟩ := lenK (P := P) (w := w) (base := base) (CX := CX0) T
  refine okG F sc__law_is (fun vs H Q E h => ?_) (fun cdv A outer s H vs Q E hr hgd h => ?_)
  · obtain ⟨a, d, k, rfl, _⟩ := h
    rfl
  · obtain ⟨a, d, k, rfl, ka, da, few, q⟩ := h
    have ok4 : KindOk4 k := ⟨ka.1, few⟩
    have ka0 := ka
    have da0 := da
    obtain ⟨t', m', hd, ht', hm'⟩ := da0
    obtain ⟨ok, dx, t, pr, m, as, h1, h2, h3, h4, h5⟩ := ka0
    have hu := hr.units
    have cl := T.c_Kind
    have ci := T.i_Kind
    have me := ci.me
    have ty : TyX K H (.ref a) (.ref (cK K)) := .base (ci.ty cl h1)
    refine ⟨_, PSs.nox (pss_cons (ps_if (PW.pt (pw_or (pt_not (pt_val (pe_callB call_isi rfl T.f_isinstance (by decide +kernel) (pa_cons (pv 0) (pa_cons (pe_gl T.g_Kind) pa_nil))))) (pw_or (pt_not (pt_truthR (pv 0) (tru_len T.nb_Kind l1 l2 fnl (hr.mono (by decide)) bl pass0) (by intro _; rfl))) (pw_or1 (pt_cmpR op_ne (pe_callB (call_repr hgd hu) rfl T.f_repr (by decide +kernel) (pa_cons (pe_callB (call_len_inst l1 l2 fnl (hr.mono (by decide)) bl pass0) rfl T.f_len (by decide +kernel) (pa_cons (pv 0) pa_nil)) pa_nil)) (pe_callB (call_repr hgd hu) rfl T.f_repr (by decide +kernel) (pa_cons (pe_callB call_len_seq rfl T.f_len (by decide +kernel) (pa_cons (pe_ix ix_tup (pv 1) pe_int (fun _ _ => rfl)) pa_nil)) pa_nil)) (nomark _)))))) (pss_one (ps_ret pe_bl)) pss_nil)
    (pss_one (ps_ret (pe_cmpR op_eq (pe_callB (call_repr hgd hu) rfl T.f_repr (by decide +kernel) (pa_cons (pe_tup (pa_cons (pe_get (T.p_Kind_name _ _ _) (hr.mono (by decide)) (pv 0)) (pa_cons (pe_get (T.p_Kind_rows _ _ _) (hr.mono (by decide)) (pv 0)) (pa_cons (pe_get (T.p_Kind_many _ _ _) (hr.mono (by decide)) (pv 0)) (pa_cons (pe_get (T.p_Kind_members _ _ _) (hr.mono (by decide)) (pv 0)) pa_nil))))) pa_nil)) (pe_callB (call_repr hgd hu) rfl T.f_repr (by decide +kernel) (pa_cons (pv 1) pa_nil)) (nomark _))))), ?_⟩
    have o1 := ka.1.ro.one
    have t1 := ka.1.ro.ten
    have nz : (((k.rs.length : Nat) : Int) != 0) = true := by
      rw [bne_iff_ne]
      omega
    have hlen : (rowsV k.rs).length = k.rs.length := List.length_map ..
    walk_at "rd"
    refine ⟨k, rfl, ka, ?_⟩
    refine ⟨_, rfl, by omega, by omega, ?_⟩
    rw [nz]
    obtain ⟨r1, r2, r3, r4⟩ := small_ok _ t1
    walk_at "rd"
    refine ⟨k, rfl, ka, ?_⟩
    refine ⟨_, rfl, by omega, by omega, ?_⟩
    refine ⟨_, .int ((k.rs.length : Nat) : Int), rfl, .int _, r1, r2, r3, r4, ?_⟩
    walk_at "rd"
    rw [hlen]
    refine ⟨.int ((k.rs.length : Nat) : Int), rfl, .int _, r1, r2, r3, r4, ?_⟩
    walk_at "rd"
    refine iteKF (by simp) ?_
    walk_at "rd"
    intro p1 np1
    have sh := due_show k
    have hm1 := h3.same ((Same.refl H).new np1 (o := .tup [.str k.n, .ref t, .bl k.b, .ref m]))
    refine ⟨.ref p1, dueD k, rfl, due_dp' upd_same (upd_get np1 h2) hm1, sh.1, sh.2.1, sh.2.2, due_len ok4, ?_⟩
    walk_at "rd"
    refine ⟨dueD k, rfl, due_dp (da.same ((Same.refl H).new np1)), sh.1, sh.2.1, sh.2.2, due_len ok4, ?_⟩
    walk_at "rd"
    exact ret_eq (q _ (by walk_at "g but")) (by simp)
theorem c_is (T : Tx K mg) : Cal P w K mg base CX0 3 "_law_is" [] (spIs K) := by
  obtain ⟨fd, F⟩ := T.d__law_is
  exact .mk F (ok_is T F) T.n__law_is fun _ _ _ _ _ _ us hl => match us, hl with | [_, _], _ => rfl
end
end G
namespace G
open PySem PySem.Spec PyProof.Rows L2
/-! ### gates: constructors, == -/
theorem nameOr_of {v : V} (h : NameOr8 v) : NameOr v := by
  rcases h with rfl | ⟨z, rfl, l, e⟩
  · exact .inl rfl
  · exact .inr ⟨z, rfl, Nat.le_trans l (by decide), e⟩
section
variable {P : Program} {w : World} {K : PySem.W.Frag} {mg : Str → Option Value} {base : Heap} {CX : CXT}
theorem c_Gate_2 (T : Tx K mg) : CalC P w K mg base CX0 2 "Gate" (cG K) [] (spGate K) := by
  obtain ⟨fd, F⟩ := T.d_Gate___init__
  obtain ⟨ds, rd, hb⟩ := F.binds1 (ps := ["self", "name", "within"]) 3 1 (fun h => absurd (show 1 = 0 from congrArg List.length h) (by decide)) rfl (fun T kV doc pm an cdv ct us its l1 l2 => match us, its, l1, l2 with
    | [_, _, _], [_], _, _ => ⟨_, rfl, rfl⟩)
  obtain ⟨u, hm, ru⟩ := T.g_Gate
  obtain rfl : u = Value.ref (cG K) := ru
  exact ⟨_, fd, _, ds, T.mk_Gate, ok_Gate T F, hm, hb, rd⟩
theorem c_Gate_1 (T : Tx K mg) : CalC P w K mg base CX0 2 "Gate" (cG K) [.non] (spGate K) := by
  obtain ⟨fd, F⟩ := T.d_Gate___init__
  obtain ⟨ds, rd, hb⟩ := F.binds1 (ps := ["self", "name", "within"]) 2 0 (fun h => absurd (show 1 = 0 from congrArg List.length h) (by decide)) rfl (fun T kV doc pm an cdv ct us its l1 l2 => match us, its, l1, l2 with
    | [_, _], [_], _, _ => ⟨_, rfl, rfl⟩)
  obtain ⟨u, hm, ru⟩ := T.g_Gate
  obtain rfl : u = Value.ref (cG K) := ru
  exact ⟨_, fd, _, ds, T.mk_Gate, ok_Gate T F, hm, hb, rd⟩
def gWN {α : Type} (us ds ws : List α) : List α := us ++ (ws.drop 1 ++ ws.take 1)
def gNA {α : Type} (us ds ws : List α) : List α := us ++ (ws ++ ds)
theorem c_Gate_0_within_name (T : Tx K mg) : CalN P w K mg base CX0 2 "Gate" (cG K) 0 ["within", "name"] (fun vs zs => gWN vs [.non] zs) (spGate K) := by
  obtain ⟨fd, F⟩ := T.d_Gate___init__
  obtain ⟨its, hb⟩ := F.kbindsD (ps := ["self", "name", "within"]) 1 ["within", "name"] gWN (fun h => absurd (show 1 = 0 from congrArg List.length h) (by decide))
    (fun r1 r2 r3 => vals_app r1 (vals_app (vals_drop 1 r3) (vals_take 1 r3))) (fun T kV doc pm an cdv ct us its ws l1 l2 l3 => match us, its, ws, l1, l2, l3 with
    | [_], [_], [_, _], _, _, _ => ⟨_, rfl, rfl⟩)
  obtain ⟨u, hm, ru⟩ := T.g_Gate
  obtain rfl : u = Value.ref (cG K) := ru
  exact ⟨_, fd, _, _, T.mk_Gate, ok_Gate T F, hm, hb⟩
theorem c_Gate_0_name (T : Tx K mg) : CalN P w K mg base CX0 2 "Gate" (cG K) 0 ["name"] (fun vs zs => gNA vs [.non] zs) (spGate K) := by
  obtain ⟨fd, F⟩ := T.d_Gate___init__
  obtain ⟨its, hb⟩ := F.kbindsD (ps := ["self", "name", "within"]) 1 ["name"] gNA (fun h => absurd (show 1 = 0 from congrArg List.length h) (by decide))
    (fun r1 r2 r3 => vals_app r1 (vals_app r3 r2)) (fun T kV doc pm an cdv ct us its ws l1 l2 l3 => match us, its, ws, l1, l2, l3 with
    | [_], [_], [_], _, _, _ => ⟨_, rfl, rfl⟩)
  obtain ⟨u, hm, ru⟩ := T.g_Gate
  obtain rfl : u = Value.ref (cG K) := ru
  exact ⟨_, fd, _, _, T.mk_Gate, ok_Gate T F, hm, hb⟩
/-- == of gates: all that it wants -/
theorem eqG (T : Tx K mg) : ∃ f fd ps, EqC K (cG K) f ∧ FnOk P w K mg base CX 1 f fd ps (spGateEq K) ∧ Binds K fd ps [] := by
  obtain ⟨fd, F⟩ := T.d_Gate___eq__
  exact ⟨_, fd, _, T.e_Gate, ok_Gate_eq T F, F.bindsN fun _ _ _ _ _ _ us hl => match us, hl with | [_, _], _ => rfl⟩
theorem eqGG (T : Tx K mg) {H : Hp} {a da b db : Addr} {n n' : Str} {v v' : V} {W : VK} {E : Bool} (ha : H a = some (.ins (cG K) da (gateF (.str n) v)))
    (hb : H b = some (.ins (cG K) db (gateF (.str n') v'))) (hv : NameOr8 v) (hv' : NameOr8 v') (e : E = (decide (n = n') && decide (v = v'))) (q : W (.bl E) H) :
    TyOf K H (.ref b) (.ref (cG K)) ∧ PySem.W.notFirst K (cG K) (.ref (cG K)) = true ∧ spGateEq K [.ref a, .ref b] H W E0 :=
  ⟨T.i_Gate.ty T.c_Gate hb, by simp [PySem.W.notFirst], a, da, n, v, .ref b, rfl, ha, nameOr_of hv, .inl ⟨b, db, n', v', rfl, hb, nameOr_of hv', by rw [← e]; exact q⟩⟩
theorem eqGO {H : Hp} {a da : Addr} {n : Str} {v y : V} {t : Value} {W : VK} (ha : H a = some (.ins (cG K) da (gateF (.str n) v))) (hv : NameOr8 v)
    (ty : TyOf K H y t) (nf : PySem.W.notFirst K (cG K) t = true) (ko : PySem.W.kitOne K t (.ref (cG K)) = some false) (q : W (.bl false) H) :
    TyOf K H y t ∧ PySem.W.notFirst K (cG K) t = true ∧ spGateEq K [.ref a, y] H W E0 :=
  ⟨ty, nf, a, da, n, v, y, rfl, ha, nameOr_of hv, .inr ⟨t, .base ty, ko, q⟩⟩
/-! ### kinds: == -/
theorem eqKK (T : Tx K mg) {H : Hp} {a b : Addr} {k k' : KindT} {W : VK} {E : Bool} (ha : KindAt K H a k) (hb : KindAt K H b k') (e : E = kEq k k') (q : W (.bl E) H) :
    TyOf K H (.ref b) (.ref (cK K)) ∧ PySem.W.notFirst K (cK K) (.ref (cK K)) = true ∧ spKindEq K [.ref a, .ref b] H W E0 := by
  obtain ⟨_, dx, t, pr, m, as, h1, _⟩ := id hb
  exact ⟨T.i_Kind.ty T.c_Kind h1, by simp [PySem.W.notFirst], a, k, .ref b, rfl, ha, .inl ⟨b, k', rfl, hb, by rw [← e]; exact q⟩⟩
theorem eqKO {H : Hp} {a : Addr} {k : KindT} {y : V} {t : Value} {W : VK} (ha : KindAt K H a k)
    (ty : TyOf K H y t) (nf : PySem.W.notFirst K (cK K) t = true) (ko : PySem.W.kitOne K t (.ref (cK K)) = some false) (q : W (.bl false) H) :
    TyOf K H y t ∧ PySem.W.notFirst K (cK K) t = true ∧ spKindEq K [.ref a, y] H W E0 :=
  ⟨ty, nf, a, k, y, rfl, ha, .inr ⟨t, .base ty, ko, q⟩⟩
theorem kEq_comm (k k' : KindT) : kEq k k' = kEq k' k := by
  unfold kEq
  congr 1
  · congr 1
    · congr 1 <;> exact decide_eq_decide.mpr eq_comm
    · exact decide_eq_decide.mpr eq_comm
  · exact decide_eq_decide.mpr eq_comm
end
def fourD (E : Bool) : PyData := .list [.bool E, .bool E, .bool (!E), .bool (!E)]
theorem four_ok (E : Bool) : (fourD E).showable = true ∧ (fourD E).hasDict = false ∧ (fourD E).depth ≤ 60 ∧ (fourD E).shown.length ≤ sizeLine := by
  cases E <;> decide +kernel
theorem four_dp {K : PySem.W.Frag} {H : Hp} {a : Addr} {E : Bool} (h : H a = some (.lst [.bl E, .bl E, .bl (!E), .bl (!E)])) : Dp K H (.ref a) (fourD E) :=
  .lst (SqL.of h) (.cons (.bl _) (.cons (.bl _) (.cons (.bl _) (.cons (.bl _) .nil))))
end G
namespace G
open PySem PySem.Spec PyProof.Rows L2
theorem made_get {H : Hp} {x dx q : Addr} {o1 o2 o : HO} (nx : H x = none) (nd : H dx = none) (ne : dx ≠ x) (e : H q = some o) : upd (upd H dx o1) x o2 q = some o :=
  upd_get ((upd_ne ne.symm).trans nx) (upd_get nd e)
theorem MemAt.made {K : PySem.W.Frag} {H : Hp} {x dx m : Addr} {o1 o2 : HO} {ms : List Str} (nx : H x = none) (nd : H dx = none) (ne : dx ≠ x) (h : MemAt K H m ms) : MemAt K (upd (upd H dx o1) x o2) m ms := by
  rcases h with h | h
  · exact .inl (made_get nx nd ne h)
  · exact .inr h
inductive RtSt (K : PySem.W.Frag) (p : Addr) (H : Hp) (σ : L2.St) (H' : Hp) : Prop
  | mk (l d d' a b : Addr) (k k' : KindT) (eσ : σ = [some (.ref p), some (.ref l), some (.bl k.b), some (.str k.n), some (.ref d), some (.ref d'), some (.ref a), some (.ref b), none, none, none])
    (pl : Pl p H H') (due : DueAt H' d k) (far : DueAt H' d' k') (one : KindAt K H' a k) (two : KindAt K H' b k') (few : k.ms.length ≤ 4) (few' : k'.ms.length ≤ 4)
inductive RtSu (K : PySem.W.Frag) (p : Addr) (H : Hp) (σ : L2.St) (H' : Hp) : Prop
  | mk (l d d' a b : Addr) (k : KindT) (s : Bool) (eσ : σ = [some (.ref p), some (.ref l), some (.bl k.b), some (.str k.n), some (.ref d), some (.ref d'), some (.ref a), some (.ref b), some (.bl s), none, none])
    (pl : Pl p H H') (due : DueAt H' d k) (one : KindAt K H' a k) (few : k.ms.length ≤ 4)
section
variable {P : Program} {w : World} {K : PySem.W.Frag} {mg : Str → Option Value} {base : Heap} {CX : CXT}
theorem c_other (T : Tx K mg) : Cal P w K mg base CX0 4 "_law_other" [] spOther := by
  obtain ⟨fd, F⟩ := T.d__law_other
  exact .mk F (ok_other T F) T.n__law_other fun _ _ _ _ _ _ us hl => match us, hl with | [_, _], _ => rfl
def spRight : Sp := fun vs H Q _ => ∃ p : Addr, vs = [.ref p] ∧ PoolAt H p ∧ ∀ H', Pl p H H' → Q (.bl true) H'
theorem ok_right {f : Addr} {fd : FuncData} {dvs : List V} {kws : List (Str × V)} (T : Tx K mg)
    (F : FunD K "_law_right" "_law_right" (defArgs s__law_right) (defBody s__law_right) (defScope s__law_right) dvs kws f fd) :
    FnG P w K mg base CX0 8 f fd ["_law_pool_here"] spRight := by
  have c__law_draw : Cal P w K mg base CX0 1 "_law_draw" [] spDraw := c_draw T
  have c__law_tag : Cal P w K mg base CX0 2 "_law_tag" [] spTag := c_tag T
  have c__law_tags : Cal P w K mg base CX0 4 "_law_tags" [] spTags := c_tags T
  have c__law_lines : Cal P w K mg base CX0 4 "_law_lines" [] spLines := c_lines T
  have c__law_other : Cal P w K mg base CX0 4 "_law_other" [] spOther := c_other T
  have c__law_is : Cal P w K mg base CX0 3 "_law_is" [] (spIs K) := c_is T
  have c_Gate_1 : CalC P w K mg base CX0 2 "Gate" (cG K) [.non] (spGate K) := c_Gate_1 T
  have c_Kind_2 : CalC P w K mg base CX0 6 "Kind" (cK K) [.bl false, kindMe K] (spKind K) := c_Kind_2 T
  have c_Kind_2_many_members : CalN P w K mg base CX0 6 "Kind" (cK K) 2 ["many", "members"] (fun vs zs => gWM vs [] zs) (spKind K) := c_Kind_2_many_members T
  have c_Kind_2_many : CalN P w K mg base CX0 6 "Kind" (cK K) 2 ["many"] (fun vs zs => gWM vs [kindMe K] zs) (spKind K) := c_Kind_2_many T
  have c_Kind_0_members_many_rows_name : CalN P w K mg base CX0 6 "Kind" (cK K) 0 ["members", "many", "rows", "name"] (fun vs zs => gRev vs [] zs) (spKind K) := c_Kind_0_members_many_rows_name T
  have c_Kind_0_rows_name_members : CalN P w K mg base CX0 6 "Kind" (cK K) 0 ["rows", "name", "members"] (fun vs zs => gRNM vs [.bl false] zs) (spKind K) := c_Kind_0_rows_name_members T
  obtain ⟨fe, fde, pse, ee, fne, bne⟩ := eqK (P := P) (w := w) (base := base) (CX := CX0) T
  refine okG F sc__law_right (fun vs H Q E h => ?_) (fun cdv A outer s H vs Q E hr hgd h => ?_)
  · obtain ⟨p, rfl, _⟩ := h
    rfl
  · obtain ⟨p, rfl, hp, q⟩ := h
    have hu := hr.units
    refine ⟨_, PSs.nox (pss_cons (ps_set (i := 1) sc__law_right.nd rfl (Or.inl rfl) (pe_cal c__law_tags (hr.mono (by decide)) hgd pass0 (pa_cons (pv 0) (pa_cons pe_int pa_nil))))
    (pss_cons (ps_par (i := 2) (j := 3) rfl sc__law_right.nd rfl rfl (by decide) rfl rfl (pa_cons (pe_cmpR op_eq (pe_cal c__law_draw (hr.mono (by decide)) hgd pass0 (pa_cons (pv 0) (pa_cons pe_int pa_nil))) pe_int (nomark _)) (pa_cons (pe_cal c__law_tag (hr.mono (by decide)) hgd pass0 (pa_cons (pv 0) pa_nil)) pa_nil)) (by rfl))
    (pss_cons (ps_set (i := 4) sc__law_right.nd rfl (Or.inl rfl) (pe_tup (pa_cons (pv 3) (pa_cons (pe_cal c__law_lines (hr.mono (by decide)) hgd pass0 (pa_cons (pv 0) (pa_cons (pe_op op_cat (pv 1) (pe_lst (pa_cons pe_str pa_nil))) pa_nil))) (pa_cons (pv 2) (pa_cons (pe_callTy call_tuple_of rfl T.f_tuple (by decide +kernel) (pa_cons (pv 1) pa_nil)) pa_nil))))))
    (pss_cons (ps_set (i := 5) sc__law_right.nd rfl (Or.inl rfl) (pe_cal c__law_other (hr.mono (by decide)) hgd pass0 (pa_cons (pv 0) (pa_cons (pv 4) pa_nil))))
    (pss_cons (ps_set (i := 6) sc__law_right.nd rfl (Or.inr rfl) (pe_mkn c_Kind_2_many_members (hr.mono (by decide)) pass0 (pa_cons (pe_ix ix_tup (pv 4) pe_int (fun _ _ => rfl)) (pa_cons (pe_ix ix_tup (pv 4) pe_int (fun _ _ => rfl)) pa_nil)) (pk_cons (pe_ix ix_tup (pv 4) pe_int (fun _ _ => rfl)) (pk_cons (pe_ix ix_tup (pv 4) pe_int (fun _ _ => rfl)) pk_nil))))
    (pss_cons (ps_set (i := 7) sc__law_right.nd rfl (Or.inl rfl) (pe_mkn0 c_Kind_0_members_many_rows_name (hr.mono (by decide)) pass0 (pk_cons (pe_ix ix_tup (pv 5) pe_int (fun _ _ => rfl)) (pk_cons (pe_ix ix_tup (pv 5) pe_int (fun _ _ => rfl)) (pk_cons (pe_ix ix_tup (pv 5) pe_int (fun _ _ => rfl)) (pk_cons (pe_ix ix_tup (pv 5) pe_int (fun _ _ => rfl)) pk_nil))))))
    (pss_cons (ps_if (PW.pt (pw_or (pt_not (pt_val (pe_cal c__law_is (hr.mono (by decide)) hgd pass0 (pa_cons (pv 6) (pa_cons (pv 4) pa_nil))))) (pw_or1 (pt_not (pt_val (pe_cal c__law_is (hr.mono (by decide)) hgd pass0 (pa_cons (pv 7) (pa_cons (pv 5) pa_nil)))))))) (pss_one (ps_ret pe_bl)) pss_nil)
    (pss_cons (ps_set (i := 8) sc__law_right.nd rfl (Or.inl rfl) (pe_cmpR (op_eqD hu) (pv 4) (pv 5) (nomark _)))
    (pss_cons (ps_if (pt_cmpR op_ne (pe_callB (call_repr hgd hu) rfl T.f_repr (by decide +kernel) (pa_cons (pe_lst (pa_cons (pe_cmpR (opK (K := K) (r := fun K1 => rOwnEq K1 (cK K) (spKindEq K) E0 fun b => b) rfl (op_eqO ee fne (hr.mono (by decide)) bne pass0)) (pv 6) (pv 7) (nomark _)) (pa_cons (pe_cmpR (opK (K := K) (r := fun K1 => rOwnEq K1 (cK K) (spKindEq K) E0 fun b => b) rfl (op_eqO ee fne (hr.mono (by decide)) bne pass0)) (pv 7) (pv 6) (nomark _)) (pa_cons (pe_cmpR (opK (K := K) (r := fun K1 => rOwnEq K1 (cK K) (spKindEq K) E0 fun b => !b) rfl (op_neO ee fne (hr.mono (by decide)) bne pass0)) (pv 6) (pv 7) (nomark _)) (pa_cons (pe_cmpR (opK (K := K) (r := fun K1 => rOwnEq K1 (cK K) (spKindEq K) E0 fun b => !b) rfl (op_neO ee fne (hr.mono (by decide)) bne pass0)) (pv 7) (pv 6) (nomark _)) pa_nil))))) pa_nil)) (pe_callB (call_repr hgd hu) rfl T.f_repr (by decide +kernel) (pa_cons (pe_lst (pa_cons (pv 8) (pa_cons (pv 8) (pa_cons (pe_not (pv 8)) (pa_cons (pe_not (pv 8)) pa_nil))))) pa_nil)) (nomark _)) (pss_one (ps_ret pe_bl)) pss_nil)
    (pss_cons (ps_if (pt_not (pt_val (pe_cal c__law_is (hr.mono (by decide)) hgd pass0 (pa_cons (pe_mkc c_Kind_2 (hr.mono (by decide)) pass0 (pa_cons (pv 3) (pa_cons (pe_ix ix_tup (pv 4) pe_int (fun _ _ => rfl)) pa_nil))) (pa_cons (pe_tup (pa_cons (pv 3) (pa_cons (pe_ix ix_tup (pv 4) pe_int (fun _ _ => rfl)) (pa_cons pe_bl (pa_cons (pe_tup pa_nil) pa_nil))))) pa_nil))))) (pss_one (ps_ret pe_bl)) pss_nil)
    (pss_cons (ps_if (pt_not (pt_val (pe_cal c__law_is (hr.mono (by decide)) hgd pass0 (pa_cons (pe_mkn0 c_Kind_0_rows_name_members (hr.mono (by decide)) pass0 (pk_cons (pe_ix ix_tup (pv 4) pe_int (fun _ _ => rfl)) (pk_cons (pv 3) (pk_cons (pe_ix ix_tup (pv 4) pe_int (fun _ _ => rfl)) pk_nil)))) (pa_cons (pe_tup (pa_cons (pv 3) (pa_cons (pe_ix ix_tup (pv 4) pe_int (fun _ _ => rfl)) (pa_cons pe_bl (pa_cons (pe_ix ix_tup (pv 4) pe_int (fun _ _ => rfl)) pa_nil))))) pa_nil))))) (pss_one (ps_ret pe_bl)) pss_nil)
    (pss_cons (ps_if (pt_not (pt_val (pe_cal c__law_is (hr.mono (by decide)) hgd pass0 (pa_cons (pe_mkn c_Kind_2_many (hr.mono (by decide)) pass0 (pa_cons (pv 3) (pa_cons (pe_ix ix_tup (pv 4) pe_int (fun _ _ => rfl)) pa_nil)) (pk_cons pe_bl pk_nil)) (pa_cons (pe_tup (pa_cons (pv 3) (pa_cons (pe_ix ix_tup (pv 4) pe_int (fun _ _ => rfl)) (pa_cons pe_bl (pa_cons (pe_tup pa_nil) pa_nil))))) pa_nil))))) (pss_one (ps_ret pe_bl)) pss_nil)
    (pss_cons (ps_set (i := 9) sc__law_right.nd rfl (Or.inl rfl) (pe_lst (pa_cons (pv 3) (pa_cons (pv 4) (pa_cons pe_non (pa_cons (pe_ix ix_tup (pv 4) pe_int (fun _ _ => rfl)) (pa_cons (pe_mkc c_Gate_1 (hr.mono (by decide)) pass0 (pa_cons (pv 3) pa_nil)) (pa_cons pe_int (pa_cons (pe_lst pa_nil) (pa_cons pe_dnewK pa_nil))))))))))
    (pss_one (ps_ret (pe_and (pe_callB (cr_all rfl) rfl T.f_all (by decide +kernel) (pa_cons (pe_lc (own := [("_law_thing", 10)]) (g := gName 10) (tt := tYes) rfl sc__law_right.nd (pi_list (pv 9)) (blkOk_by (own := [("_law_thing", 10)]) (N := n__law_right) (sc := defScope s__law_right) (by decide +kernel)) (fun _ _ _ _ _ => (pg_name (i := 10) sc__law_right.nd rfl (Or.inl rfl))) (fun _ _ _ _ _ => pts_nil) (fun _ _ _ _ _ => (pe_and (pe_not (pe_cmpR (opK (K := K) (r := fun K1 => rOwnEq K1 (cK K) (spKindEq K) E0 fun b => b) rfl (op_eqO ee fne (hr.mono (by decide)) bne pass0)) (pv 6) (pv 10) (nomark _))) (pe_one (pe_cmpR (opK (K := K) (r := fun K1 => rOwnEq K1 (cK K) (spKindEq K) E0 fun b => !b) rfl (op_neO ee fne (hr.mono (by decide)) bne pass0)) (pv 6) (pv 10) (nomark _)))))) pa_nil)) (pe_one (pe_cal c__law_is (hr.mono (by decide)) hgd pass0 (pa_cons (pv 6) (pa_cons (pv 4) pa_nil)))))))))))))))))))), ?_⟩
    refine mid6 (fun σ' H' => RtSt K p H σ' H') ?_ (fun u rest => ?_)
    · rintro σ1 H1 ⟨l, d, d', a, b, k, k', rfl, p1, due, far, one, two, few, few'⟩
      refine mid3 (fun σ' H' => RtSu K p H σ' H') ?_ (fun u rest => ?_)
      · rintro σ2 H2 ⟨l, d, d', a, b, k, s, rfl, p2, due2, one2, few⟩
        refine mid3 (fun σ' H' => RtSu K p H σ' H') ?_ (fun u rest => ?_)
        · rintro σ3 H3 ⟨l, d, d', a, b, k, s, rfl, p3, due3, one3, few3⟩
          obtain ⟨t, m, hd, ht, hm⟩ := id due3
          obtain ⟨_, dxa, ta, pra, ma, asa, ia, _⟩ := id one3
          have nn := one3.1.nm
          have nL : k.n.length ≤ sizeLine := Nat.le_trans nn.2 (by decide)
          walk_at "rd"
          intro g dg ng ndg neg
          refine ⟨g, dg, k.n, .non, rfl, upd_same, nL, nn.1, .inl rfl, fun H4 b4 e4 => ⟨rfl, ?_⟩⟩
          have s4 := made_same ng ndg b4
          have k4 := one3.same s4
          have due4 := due3.same s4
          have ia4 := s4 _ _ ia
          have hd4 := s4 _ _ hd
          have ht4 := s4 _ _ ht
          walk_at "rd"
          intro l0 nl0
          walk_at "rd"
          intro e0 ne0
          walk_at "rd"
          intro l3 nl3
          walk_at "rd"
          refine ⟨⟨_, SqL.of upd_same⟩, ?_⟩
          intro D nD
          have sd : ∀ acc, Same H4 (upd (upd (upd (upd H4 l0 (.lst [])) e0 (.dK [])) l3 (.lst [.str k.n, .ref d, .non, .ref t, .ref g, .int 0, .ref l0, .ref e0])) D (.lst acc)) := fun acc =>
            ((((Same.refl H4).new nl0).new ne0).new nl3).new nD
          have hty : ∀ acc x, x ∈ ([.str k.n, .ref d, .non, .ref t, .ref g, .int 0, .ref l0, .ref e0] : List V) →
              ∃ t', TyOf K (upd (upd (upd (upd H4 l0 (.lst [])) e0 (.dK [])) l3 (.lst [.str k.n, .ref d, .non, .ref t, .ref g, .int 0, .ref l0, .ref e0])) D (.lst acc)) x t' ∧ PySem.W.notFirst K (cK K) t' = true ∧ PySem.W.kitOne K t' (.ref (cK K)) = some false := by
            intro acc x hx
            have x1 := sd acc _ _ hd4
            have x2 := sd acc _ _ ht4
            have x3 := sd acc _ _ e4
            have x4 : (upd (upd (upd (upd H4 l0 (.lst [])) e0 (.dK [])) l3 (.lst [.str k.n, .ref d, .non, .ref t, .ref g, .int 0, .ref l0, .ref e0])) D (.lst acc)) l0 = some (.lst []) := upd_get nD (upd_get nl3 (upd_get ne0 upd_same))
            have x5 : (upd (upd (upd (upd H4 l0 (.lst [])) e0 (.dK [])) l3 (.lst [.str k.n, .ref d, .non, .ref t, .ref g, .int 0, .ref l0, .ref e0])) D (.lst acc)) e0 = some (.dK []) := upd_get nD (upd_get nl3 upd_same)
            simp only [List.mem_cons, List.not_mem_nil, or_false] at hx
            rcases hx with rfl | rfl | rfl | rfl | rfl | rfl | rfl | rfl
            · exact ⟨_, .str _, T.i_Kind.nf _ (by decide), T.i_Kind.bt _ (by decide)⟩
            · exact ⟨_, .tup x1, T.i_Kind.nf _ (by decide), T.i_Kind.bt _ (by decide)⟩
            · exact ⟨_, .non, T.i_Kind.nf _ (by decide), T.i_Kind.bt _ (by decide)⟩
            · exact ⟨_, .tup x2, T.i_Kind.nf _ (by decide), T.i_Kind.bt _ (by decide)⟩
            · exact ⟨_, T.i_Gate.ty T.c_Gate x3, T.j_Kind_Gate.nf, T.j_Gate_Kind.no⟩
            · exact ⟨_, .int _, T.i_Kind.nf _ (by decide), T.i_Kind.bt _ (by decide)⟩
            · exact ⟨_, .lst x4, T.i_Kind.nf _ (by decide), T.i_Kind.bt _ (by decide)⟩
            · exact ⟨_, .dK x5, T.i_Kind.nf _ (by decide), T.i_Kind.bt _ (by decide)⟩
          refine lcP (wk_list [.str k.n, .ref d, .non, .ref t, .ref g, .int 0, .ref l0, .ref e0]) (fun _ => V.bl true) (fun acc => SqL.of (upd_get nD upd_same)) (show 8 < sizeLine by decide) ?_ ?_
          · intro i x acc Q' hx hq
            obtain ⟨t', ty, nf, ko⟩ := hty acc x (List.mem_of_getElem? hx)
            have iC := sd acc _ _ ia4
            have kC := k4.same (sd acc)
            walk_at "rd"
            refine ⟨k, x, rfl, kC, .inr ⟨t', .base ty, ko, ?_⟩⟩
            walk_at "rd"
            refine ⟨k, x, rfl, kC, .inr ⟨t', .base ty, ko, ?_⟩⟩
            walk_at "rd"
            exact hq
          · refine ⟨D, [true, true, true, true, true, true, true, true], rfl, SqL.of upd_same, ?_⟩
            have sD := sd [.bl true, .bl true, .bl true, .bl true, .bl true, .bl true, .bl true, .bl true]
            walk_at "rd"
            refine ⟨k, rfl, k4.same sD, due4.same sD, few3, fun H9 s9 => ?_⟩
            walk_at "rd"
            exact q _ (((p3.same s4).same sD).same s9)
        · obtain ⟨t, m, hd, ht, hm⟩ := id due2
          have nn := one2.1.nm
          have ro := one2.1.ro
          have mo := one2.1.mo
          have kt := T.kt_Kind___init___members
          have mo0 : MemOk [] := ⟨fun _ h => (by cases h), List.nodup_nil, by decide⟩
          walk_at "rd"
          intro x dx nx ndx nex
          refine ⟨x, dx, t, _, k.n, false, k.rs, [], rfl, upd_same, nn, made_get nx ndx nex ht, ro, .inr ⟨rfl, kt⟩, mo0, fun H3 pr as b3 f1 f2 f3 => ⟨rfl, ?_⟩⟩
          have s3 := made_same nx ndx b3
          have hd3 := s3 _ _ hd
          have ht3 := s3 _ _ ht
          walk_at "rd"
          intro e1 ne1
          walk_at "rd"
          intro d1 nd1
          have S1 := ((Same.refl H3).new ne1 (o := .tup [])).new nd1 (o := .tup [.str k.n, .ref t, .bl false, .ref e1])
          have K1 : KindAt K H3 x ⟨k.n, k.rs, false, []⟩ := ⟨⟨nn, ro, mo0⟩, dx, t, pr, _, as, f1, ht3, .inr ⟨rfl, kt⟩, f2, f3⟩
          have D1 : DueAt (upd (upd H3 e1 (.tup [])) d1 (.tup [.str k.n, .ref t, .bl false, .ref e1])) d1 ⟨k.n, k.rs, false, []⟩ :=
            ⟨t, e1, upd_same, upd_get nd1 (upd_get ne1 ht3), upd_get nd1 upd_same⟩
          walk_at "rd"
          refine ⟨⟨k.n, k.rs, false, []⟩, rfl, K1.same S1, D1, Nat.zero_le _, fun H4 s4 => ?_⟩
          have S4 := (s3.trans S1).trans s4
          have hd4 := S4 _ _ hd
          have ht4 := S4 _ _ ht
          have hm4 := S4 _ _ hm
          walk_at "rd"
          intro y dy ny ndy ney
          refine ⟨y, dy, t, m, k.n, false, k.rs, k.ms, rfl, upd_same, nn, made_get ny ndy ney ht4, ro, .made ny ndy ney (.inl hm4), mo, fun H5 pr5 as5 b5 g1 g2 g3 => ⟨rfl, ?_⟩⟩
          have s5 := made_same ny ndy b5
          have S5 := S4.trans s5
          have hd5 := S5 _ _ hd
          have ht5 := S5 _ _ ht
          have hm5 := S5 _ _ hm
          walk_at "rd"
          intro d2 nd2
          have S6 := (Same.refl H5).new nd2 (o := .tup [.str k.n, .ref t, .bl false, .ref m])
          have K2 : KindAt K H5 y ⟨k.n, k.rs, false, k.ms⟩ := ⟨⟨nn, ro, mo⟩, dy, t, pr5, m, as5, g1, ht5, .inl hm5, g2, g3⟩
          have D2 : DueAt (upd H5 d2 (.tup [.str k.n, .ref t, .bl false, .ref m])) d2 ⟨k.n, k.rs, false, k.ms⟩ :=
            ⟨t, m, upd_same, upd_get nd2 ht5, upd_get nd2 hm5⟩
          walk_at "rd"
          refine ⟨⟨k.n, k.rs, false, k.ms⟩, rfl, K2.same S6, D2, few, fun H7 s7 => ?_⟩
          have S7 := (S5.trans S6).trans s7
          have hd7 := S7 _ _ hd
          have ht7 := S7 _ _ ht
          walk_at "rd"
          intro z dz nz ndz nez
          refine ⟨z, dz, t, _, k.n, true, k.rs, [], rfl, upd_same, nn, made_get nz ndz nez ht7, ro, .inr ⟨rfl, kt⟩, mo0, fun H8 pr8 as8 b8 h1 h2 h3 => ⟨rfl, ?_⟩⟩
          have s8 := made_same nz ndz b8
          have S8 := S7.trans s8
          have hd8 := S8 _ _ hd
          have ht8 := S8 _ _ ht
          walk_at "rd"
          intro e9 ne9
          walk_at "rd"
          intro d9 nd9
          have S9 := ((Same.refl H8).new ne9 (o := .tup [])).new nd9 (o := .tup [.str k.n, .ref t, .bl true, .ref e9])
          have K3 : KindAt K H8 z ⟨k.n, k.rs, true, []⟩ := ⟨⟨nn, ro, mo0⟩, dz, t, pr8, _, as8, h1, ht8, .inr ⟨rfl, kt⟩, h2, h3⟩
          have D3 : DueAt (upd (upd H8 e9 (.tup [])) d9 (.tup [.str k.n, .ref t, .bl true, .ref e9])) d9 ⟨k.n, k.rs, true, []⟩ :=
            ⟨t, e9, upd_same, upd_get nd9 (upd_get ne9 ht8), upd_get nd9 upd_same⟩
          walk_at "rd"
          refine ⟨⟨k.n, k.rs, true, []⟩, rfl, K3.same S9, D3, Nat.zero_le _, fun H10 s10 => ?_⟩
          have S10 := (S8.trans S9).trans s10
          walk_at "rd"
          exact rest _ _ (.mk l d d' a b k s rfl (p2.same S10) (due2.same S10) (one2.same S10) few)
      · walk_at "rd"
        refine ⟨k, rfl, one, due, few, fun H2 s2 => ?_⟩
        walk_at "rd"
        refine ⟨k', rfl, two.same s2, far.same s2, few', fun H3 s3 => ?_⟩
        have s13 := s2.trans s3
        have due3 := due.same s13
        have far3 := far.same s13
        have one3 := one.same s13
        have two3 := two.same s13
        obtain ⟨_, dxa, ta, pra, ma, asa, ia, _⟩ := id one3
        obtain ⟨_, dxb, tb, prb, mb, asb, ib, _⟩ := id two3
        obtain ⟨E1, hE⟩ : ∃ E1, E1 = kEq k k' := ⟨_, rfl⟩
        have hE' : E1 = kEq k' k := by rw [hE, kEq_comm]
        obtain ⟨v1, v2, v3, v4⟩ := four_ok E1
        walk_at "rd"
        refine ⟨dueD k, dueD k', due_dp due3, due_dp far3, due_shaped ⟨one.1, few⟩, due_shaped ⟨two.1, few'⟩, ?_⟩
        rw [due_eqv, ← hE]
        walk_at "rd"
        refine eqKK T one3 two3 hE ?_
        walk_at "rd"
        refine eqKK T two3 one3 hE' ?_
        walk_at "rd"
        refine eqKK T one3 two3 hE ?_
        walk_at "rd"
        refine eqKK T two3 one3 hE' ?_
        walk_at "rd"
        intro l1 nl1
        refine ⟨.ref l1, fourD E1, rfl, four_dp upd_same, v1, v2, v3, v4, ?_⟩
        walk_at "rd"
        intro l2 nl2
        refine ⟨.ref l2, fourD E1, rfl, four_dp upd_same, v1, v2, v3, v4, ?_⟩
        walk_at "rd"
        refine iteKF (by simp) ?_
        walk_at "rd"
        have sL := ((Same.refl H3).new nl1 (o := .lst [.bl E1, .bl E1, .bl (!E1), .bl (!E1)])).new nl2 (o := .lst [.bl E1, .bl E1, .bl (!E1), .bl (!E1)])
        exact rest _ _ (.mk l d d' a b k E1 rfl ((p1.same s13).same sL) (due3.same sL) (one3.same sL) few)
    · walk_at "rd"
      intro H1 l ms p1 nl nlp hl1 few nm nd
      have hp1 := p1.pool
      walk_at "rd"
      intro H2 r p2 r0 rm
      have hp2 := p2.pool
      have hl2 := p2.get hl1 nlp
      walk_at "rd"
      intro H3 z p3 vz lz
      have hp3 := p3.pool
      have hl3 := p3.get hl2 nlp
      walk_at "rd"
      intro lg nlg
      have hp4 := hp3.new (o := .lst [.str "g"]) nlg
      have hl4 : upd H3 lg (.lst [.str "g"]) l = some (.lst (ms.map V.str)) := upd_get nlg hl3
      walk_at "rd"
      refine ⟨by rw [List.length_map, sizeLine_eq]; show _ + 1 ≤ _; omega, ?_⟩
      intro l5 nl5
      have ms4 : ms.length ≤ 4 := by omega
      have nlp5 : l5 ≠ p := PoolAt.ne_new hp4 nl5
      have hp5 := hp4.new (o := .lst (List.map V.str ms ++ [.str "g"])) nl5
      have hl5 : upd (upd H3 lg (.lst [.str "g"])) l5 (.lst (List.map V.str ms ++ [.str "g"])) l5 = some (.lst ((ms ++ [Str.ofString "g"]).map V.str)) := by
        rw [upd_same, List.map_append]
        rfl
      have hl6 : upd (upd H3 lg (.lst [.str "g"])) l5 (.lst (List.map V.str ms ++ [.str "g"])) l = some (.lst (ms.map V.str)) := upd_get nl5 hl4
      have m0 : ms ++ [Str.ofString "g"] ≠ [] := by simp
      have m10 : (ms ++ [Str.ofString "g"]).length ≤ 10 := by
        rw [List.length_append]
        show _ + 1 ≤ _
        omega
      have nm' : ∀ y ∈ ms ++ [Str.ofString "g"], Nm y := by
        intro y hy
        rcases List.mem_append.mp hy with hy | hy
        · exact nm y hy
        · rw [List.mem_singleton.mp hy]; exact ⟨by decide +kernel, by decide +kernel⟩
      walk_at "rd"
      intro H6 t rs p6 nt ht ro
      have hp6 := p6.pool
      have hl7 := p6.get hl6 nlp
      walk_at "rd"
      refine .inl ⟨SqL.of hl7, ?_⟩
      intro m nmm
      have hp7 := hp6.new (o := .tup (ms.map V.str)) nmm
      walk_at "rd"
      intro d nd0
      have hp8 := hp7.new (o := .tup [.str z, .ref t, .bl (decide (V.int r = V.int 0)), .ref m]) nd0
      have nz : Nm z := ⟨vz, lz⟩
      have ok : KindOk4 ⟨z, rs, decide (V.int r = V.int 0), ms⟩ := ⟨⟨nz, ro, ⟨nm, nd, Nat.le_trans ms4 (by decide)⟩⟩, ms4⟩
      have due : DueAt (upd (upd H6 m (.tup (ms.map V.str))) d (.tup [.str z, .ref t, .bl (decide (V.int r = V.int 0)), .ref m])) d ⟨z, rs, decide (V.int r = V.int 0), ms⟩ :=
        ⟨t, m, upd_same, upd_get nd0 (upd_get nmm ht), upd_get nd0 upd_same⟩
      walk_at "rd"
      refine ⟨_, rfl, hp8, due, ok, ?_⟩
      intro H9 d' k' p9 far ok'
      have due9 := due.pl hp8 p9
      obtain ⟨t0, m0', e1, e2, e3⟩ := id due9
      obtain ⟨t1, m1, g1, g2, g3⟩ := id far
      walk_at "rd"
      intro x dx nx ndx ne
      refine ⟨x, dx, t0, m0', z, _, rs, ms, rfl, upd_same, nz, made_get nx ndx ne e2, ro, .made nx ndx ne (.inl e3), ok.ok.mo, fun H10 pr as b10 f1 f2 f3 => ⟨rfl, ?_⟩⟩
      have s10 := made_same nx ndx b10
      have k1 : KindAt K H10 x ⟨z, rs, decide (V.int r = V.int 0), ms⟩ := ⟨ok.ok, dx, t0, pr, m0', as, f1, s10 _ _ e2, .inl (s10 _ _ e3), f2, f3⟩
      have due10 := due9.same s10
      have far10 := far.same s10
      have g110 := s10 _ _ g1
      have g210 := s10 _ _ g2
      have g310 := s10 _ _ g3
      walk_at "rd"
      intro y dy ny ndy ney
      refine ⟨y, dy, t1, m1, k'.n, _, k'.rs, k'.ms, rfl, upd_same, ok'.ok.nm, made_get ny ndy ney g210, ok'.ok.ro, .made ny ndy ney (.inl g310), ok'.ok.mo, fun H11 pr' as' b11 f4 f5 f6 => ⟨rfl, ?_⟩⟩
      have s11 := made_same ny ndy b11
      walk_at "rd"
      refine rest _ _ (.mk l d d' x y ⟨z, rs, decide (V.int r = V.int 0), ms⟩ k' rfl ?_ (due10.same s11) (far10.same s11) (k1.same s11)
        ⟨ok'.ok, dy, t1, pr', m1, as', f4, s11 _ _ g210, .inl (s11 _ _ g310), f5, f6⟩ ms4 ok'.few)
      have pa : Pl p H (upd (upd H3 lg (.lst [.str "g"])) l5 (.lst (List.map V.str ms ++ [.str "g"]))) := by walk_at "g but"
      exact (((((pa.trans p6).new nmm).new nd0).trans p9).same s10).same s11
end
end G
namespace G
open PySem PySem.Spec PyProof.Rows L2
theorem own_same {H H1 H2 H3 : Hp} {p : Addr} (s : Same H H1) (n : H1 p = none) (s2 : Same H1 H2) (pl : But p H2 H3) : Same H H3 := fun q o e =>
  pl q o (ne_of_none (s q o e) n) (s2 q o (s q o e))
section
variable {P : Program} {w : World} {K : PySem.W.Frag} {mg : Str → Option Value} {base : Heap} {CX : CXT}
theorem c_right (T : Tx K mg) : Cal P w K mg base CX0 8 "_law_right" [] spRight := by
  obtain ⟨fd, F⟩ := T.d__law_right
  exact .mk F (ok_right T F) T.n__law_right fun _ _ _ _ _ _ us hl => match us, hl with | [_], _ => rfl
def spLaw (K : PySem.W.Frag) : Sp := fun vs H Q _ => ∃ (a : Addr) (ns : List Int), vs = [.ref a] ∧ SqL K H a (ns.map V.int) ∧ ns.length ≤ 63 ∧ ∀ H', Q (.bl true) H'
theorem ok_law {f : Addr} {fd : FuncData} {dvs : List V} {kws : List (Str × V)} (T : Tx K mg)
    (F : FunD K "law" "law" (defArgs s_law) (defBody s_law) (defScope s_law) dvs kws f fd) :
    FnG P w K mg base CX0 9 f fd ["_law_script"] (spLaw K) := by
  have c__law_right : Cal P w K mg base CX0 8 "_law_right" [] spRight := c_right T
  have c__law_pool : Cal P w K mg base CX0 1 "_law_pool" [] (spPool K) := c_pool T
  refine okG F sc_law (fun vs H Q E h => ?_) (fun cdv A outer s H vs Q E hr hgd h => ?_)
  · obtain ⟨a, ns, rfl, _⟩ := h
    rfl
  · obtain ⟨a, ns, rfl, ha, hl, q⟩ := h
    have hu := hr.units
    refine ⟨_, PSs.nox (pss_cons (ps_for PassesOwn.never rfl (pi_range1 rfl T.f_range (pa_cons (pe_callB (call_max2 rfl) rfl T.f_max (by decide +kernel) (pa_cons pe_int (pa_cons (pe_callB (call_min2 rfl) rfl T.f_min (by decide +kernel) (pa_cons (pe_callB call_len_seq rfl T.f_len (by decide +kernel) (pa_cons (pv 0) pa_nil)) (pa_cons pe_int pa_nil))) pa_nil))) pa_nil)) (pg_name (i := 1) sc_law.nd rfl (Or.inl rfl))
      (pss_cons (ps_set (i := 2) sc_law.nd rfl (Or.inr rfl) (pe_cal c__law_pool (hr.mono (by decide)) hgd pass0 (pa_cons (pv 0) (pa_cons (pv 1) pa_nil))))
    (pss_one (ps_if (pt_not (pt_val (pe_callB (cr_all rfl) rfl T.f_all (by decide +kernel) (pa_cons (pe_lc (own := [("_law_turn", 3)]) (g := gName 3) (tt := tYes) rfl sc_law.nd (pi_range1 rfl T.f_range (pa_cons pe_int pa_nil)) (blkOk_by (own := [("_law_turn", 3)]) (N := n_law) (sc := defScope s_law) (by decide +kernel)) (fun _ _ _ _ _ => (pg_name (i := 3) sc_law.nd rfl (Or.inl rfl))) (fun _ _ _ _ _ => pts_nil) (fun _ _ _ _ _ => (pe_cal c__law_right (hr.mono (by decide)) hgd pass0 (pa_cons (pv 2) pa_nil)))) pa_nil)))) (pss_one (ps_ret pe_bl)) pss_nil))))
    (pss_one (ps_ret pe_bl))), ?_⟩
    walk_at "rd"
    refine forW (wk_range 0 _) (fun i σ H' => Same H H' ∧ ∃ b c d, σ = [some (.ref a), b, c, d]) ⟨.refl _, _, _, _, rfl⟩ (fun _ _ _ _ _ => trivial) ?_ (fun σ H' _ => ?_)
    · rintro i x σ H1 hx ⟨s1, b, c, d, rfl⟩
      obtain ⟨rfl, hi⟩ := rng_at hx
      have hk : i < 8 := by omega
      have ha1 : SqL K H1 a (ns.map V.int) := ha.same s1
      walk_at "rd"
      refine ⟨ns, _, rfl, ha1, hl, by omega, by omega, fun H2 p s2 np hp => ?_⟩
      walk_at "rd"
      intro D nD
      refine lcW (wk_range 0 3) (fun j H' => Pl p H2 H' ∧ H' D = some (.lst (List.replicate j (.bl true)))) ⟨by walk_at "g but", upd_same⟩ (fun _ _ _ _ => trivial) ?_ ?_
      · rintro j y H3 hy ⟨p3, hD⟩
        have hj := (List.getElem?_eq_some_iff.mp hy).1
        rw [rngV_len] at hj
        have hp3 := p3.pool
        walk_at "rd"
        intro H4 p4
        have np' : D ≠ p := PoolAt.ne_new hp nD
        refine ⟨_, p4.get hD np', by rw [List.length_replicate]; show j < 16777216; omega, ?_, ?_⟩
        · exact Pl.own (p3.trans p4) nD np'
        · rw [upd_same, List.replicate_succ']
      · rintro H3 ⟨p3, hD⟩
        rw [rngV_len] at hD
        refine ⟨D, List.replicate 3 true, rfl, SqL.of hD, ?_⟩
        walk_at "rd"
        exact ⟨own_same s1 np s2 p3.but, _, _, _, rfl⟩
    · walk_at "rd"
      exact q _
end
theorem facts {P : Program} {w : World} {K : PySem.W.Frag} {h : Heap} {mg : Str → Option Value} {f : Addr} (X : K.In h) (G : h.Ns mainGlobals mg) (own : mg ("law" : Str) = some (.ref f)) (c : SaysG fa fn gets exs K) :
    ∃ fd : FuncData, (∀ (s : Shared) (v : Value), BindsTo s fd ⟨[v], []⟩ [("_law_script", v)]) ∧ ∀ base : Heap, FnG P w K mg base CX0 9 f fd ["_law_script"] (spLaw K) := by
  have T := tx_of X G c
  obtain ⟨fd, F⟩ := T.d_law
  obtain rfl : f = He.ga K "law" := Value.ref.inj (Option.some.inj (own.symm.trans T.n_law))
  have b := FunD.bindsA (ps := ["_law_script"]) F fun _ _ _ _ _ _ us hl => match us, hl with | [_], _ => rfl
  exact ⟨fd, fun s v => b s [v] rfl, fun base => ok_law T F⟩
end G
open PySem PySem.W PySem.Calls PyProof.Rows
theorem PySem.Challenge.cw_gatecrowds_k04_kinds_made_holds : PySem.Challenge.rw_gatecrowds_k04_kinds_made.Holds := by
  w_on; o_law
  refine HandSHeadRun.head_any (r := G.R) (q := view G.R.prog [38]) (H := G.hk) (ob := G.ob) (M := 20000) (loose := G.names) (d := HandSHeadRun.topDef G.R.prog 38) (kwd := []) G.ob_eq
    (by kernel_rfl) (fun s => by kernel_rfl) G.run (by kernel_rfl) (by kernel_rfl) (by kernel_rfl) (by rfl) (by first | assumption | decide +kernel) (by decide +kernel)
    ⟨rfl, rfl, rfl, rfl, rfl, by decide +kernel⟩ ?hw ?hc
  case hw => w_witness2
  case hc =>
    refine G.walkG (l := PySem.Challenge.rw_gatecrowds_k04_kinds_made) (n := 63) (k := 9) (x := "_law_script") (CX := L2.CX0) rfl (by decide) (by kernel_rfl) ⟨rfl, by decide, by decide⟩ ?F (fun _ _ _ _ z => z)
    intro w mg fa h Y Gl own
    obtain ⟨K, kin, c⟩ := Y
    have own' : mg ("law" : PySem.Str) = some (.ref fa) := by
      have e : (HandSHeadRun.topDef G.R.prog 38).name = ("law" : PySem.Str) := by kernel_rfl
      rw [← e]
      exact own
    obtain ⟨fd, hb, hF⟩ := G.facts (P := (PySem.Challenge.rw_gatecrowds_k04_kinds_made).prog) (w := w) kin Gl own' c
    exact ⟨K, fd, G.spLaw K, kin, hb, fun H a ns hl _ hS => ⟨a, ns, rfl, hS, hl, fun _ => rfl⟩, fun base _ _ => hF base⟩
