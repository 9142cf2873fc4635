import PyProof.Rows.All
import Wide.All
import OpenK.AllK
import Wide.FinOn
import KE.KStateDown
import Lean
import HandS.Base
import HandS.Call
import HandS.List
import HandS.Comp
import HandS.Ends
import HandS.Dict
import HandS.Iter
import HandS.Text
import HandS.More
import HandS.Words
import HandS.WordsList
import HandS.WordsDict
import HandS.Exc
import HandS.WordsExc
import HandS.Defaults
import HandS.IsInst
import HandS.Property
import HandS.MakeKw
import HandS.MakeKwOnly
import HandS.Flow
import HandS.Style
import HandS.Head0
import HandS.Head1
import HandS.Head2
import HandS.HeadEnd
import HandS.HeadHook1
import HandS.HeadHook2
import HandS.HeadHook3
import HandS.HeadHook4
import HandS.ClsMeth
import KE.GoesEnum
import HandS.NoneIn
import HandS.TupAny
import HandS.SetBool
import HandS.SetTxt0
import HandS.Strs
import PyProof.Rows.SortStr
import KE.KCallOwn
import KE.KTryMore
import KE.KExcInit
import HandS.ExcInit
import HandS.ExcIs
import HandS.ExcField
import HandS.ExcOwn
import HandS.ExcValue
import HandS.Deep
import HandS.Lambda
import HandS.HotCalls
import PySem.Challenge.RW_gatecrowds_k12_kinds_asked_for
import HandS.Star
import HandS.FStr
import HandS.DictComp
import HandS.Small
import HandS.RaiseMore
import HandS.Records
set_option Elab.async false
set_option linter.all false
set_option maxRecDepth 100000
set_option maxHeartbeats 4000000
/-! own rules, ahead of all laws -/
namespace G
open PySem PySem.Spec PyProof.Rows L2

/-! ### names of the module -/
theorem pe_gl {X : Cx} {x : Str} {pos : Pos} {v : V} (h : ∃ u, X.mg x = some u ∧ RelV v u) (hg : Gl X x := by rfl)
    (hd : (x == ("__debug__" : Str)) = false := by decide) : PE X (.Name x pos) (tC v) := by
  obtain ⟨u, hm, r⟩ := h
  exact pe_glob hg hm r hd

/-! ### promises that ask that no guard runs -/
structure FnG (P : Program) (w : World) (K : PySem.W.Frag) (mg : Str → Option Value) (base : Heap) (CX : CXT)
    (k : Nat) (f : Addr) (fd : FuncData) (ps : List Str) (sp : Sp) : Prop where
  len : ∀ vs H Q E, sp vs H Q E → vs.length = ps.length
  run : ∀ (A : Around) (outer : List Env) (s : Shared) (H : Hp) (args : Args) (us : List Value) (vs : List V)
    (Q : VK) (E : XK), Room k A → A.guards = some [] → Env0 P w K mg base A outer s H →
    BindsTo s fd args (ps.zip us) → Vals vs us → sp vs H Q E →
    codeAny (model P w) A (.call (.ref f) args) (CR CX outer P w H s Q E) s

section
variable {P : Program} {w : World} {K : PySem.W.Frag} {mg : Str → Option Value} {base : Heap}
variable {CX : CXT} {k : Nat} {f : Addr} {fd : FuncData} {ps : List Str} {sp : Sp}
theorem FnG.of (F : FnOk P w K mg base CX k f fd ps sp) : FnG P w K mg base CX k f fd ps sp :=
  ⟨F.len, fun A o s H args us vs Q E hr _ => F.run A o s H args us vs Q E hr⟩
theorem FnG.mono {j : Nat} (F : FnG P w K mg base CX j f fd ps sp) (h : j ≤ k) : FnG P w K mg base CX k f fd ps sp :=
  ⟨F.len, fun A o s H args us vs Q E hr => F.run A o s H args us vs Q E (hr.mono h)⟩

/-- a def by its body, the body's reading under the knowledge that no guard runs -/
theorem fng_of {name qual : Str} {params : Arguments} {body : List Stmt} {scope : Scope} {dV kV doc pm cdv ct oc : Value}
    {an od : Option Addr} {osl : Array (Option Value)} {N : List Str}
    (lk : K.lookup f = some ⟨oc, od, .func (PySem.W.fnOf name qual params body scope dV kV doc pm an cdv ct), osl⟩)
    (hcd : PySem.W.codeIn K cdv qual = true) (S : FnScope N ps scope)
    (len : ∀ vs H Q E, sp vs H Q E → vs.length = ps.length)
    (hbody : ∀ (A : Around) (outer : List Env) (s : Shared) (H : Hp) (vs : List V) (Q : VK) (E : XK),
      Room k (A.deeper (envOfC qual scope s.heap.objs.size f cdv)) → A.guards = some [] → sp vs H Q E →
      ∃ t, PSs (cxOf CX P w K mg base N qual scope f cdv A outer s H E) body t ∧
        t { nx := fun _ H' => Q .non H', rt := Q } (start N vs) H) :
    FnG P w K mg base CX (k + 1) f (PySem.W.fnOf name qual params body scope dV kV doc pm an cdv ct) ps sp := by
  refine ⟨len, ?_⟩
  intro A outer s H args us vs Q E hr hgd e0 hb r hsp
  have hl := len _ _ _ _ hsp
  have st := fun b o e => (e0.bs b o e).1
  have kin : K.In s.heap := e0.mod.kin.keeps st
  have hlim : s.heap.NoLimit := e0.mod.nolimit.keeps st
  have kinds : ∀ y ∈ ps.zip us, scope.names.lookup y.1 = some .local ∨
      (scope.names.lookup y.1 = some .cell ∧ ((cellsFrom (s.heap.objs.size + 1) scope.names []).lookup y.1).isSome = true) := by
    rintro ⟨n, v⟩ hy
    have hp := S.par n (List.of_mem_zip hy).1
    exact hp.imp id fun q => ⟨q, PySem.W.cellsFrom_some _ _ _ (.inl q)⟩
  refine codeAny_call_function hr.depth (kin _ _ lk) rfl S.co S.gen rfl
    (PySem.W.codeRec_of kin hcd) (hb _ _ _ _ ?_)
  refine wpAny_newFunctionEnv_cells S.kind kinds ?_
  rintro env rfl s1 x
  refine ⟨hlim.keeps x.toInCall.keep, codeAny_func ?_⟩
  obtain ⟨t, ht, hq⟩ := hbody A outer s H vs Q E (hr.deeper _) hgd hsp
  have I0 := inv_start (CX := CX) (E := E) S hr.hd e0 hl r x
  refine wpAny_mono (ht.run [] s1 (start N vs) H _ I0 hq) ?_ (fun e s' hs => hs)
  intro fl s' hs
  cases fl with
  | brk => exact (hs.choose_spec.choose_spec.2).elim
  | cont => exact (hs.choose_spec.choose_spec.2).elim
  | ret u =>
    obtain ⟨v, σ', H', J, rv, q⟩ := hs
    exact ⟨v, H', J.os, J.bare, J.base, J.hok, rv, q⟩
  | next =>
    obtain ⟨σ', H', J, q⟩ := hs
    exact ⟨V.non, H', J.os, J.bare, J.base, J.hok, rfl, q⟩
end

/-- the same of a def as the head tells it -/
theorem okG {P : Program} {w : World} {K : PySem.W.Frag} {mg : Str → Option Value} {base : Heap} {CX : CXT} {k : Nat} {f : Addr}
    {fd : FuncData} {x qual : Str} {params : Arguments} {body : List Stmt} {scope : Scope} {dvs : List V} {kws : List (Str × V)}
    {N ps : List Str} {sp : Sp} (F : FunD K x qual params body scope dvs kws f fd) (S : FnScope N ps scope)
    (len : ∀ vs H Q E, sp vs H Q E → vs.length = ps.length)
    (hbody : ∀ (cdv : Value) (A : Around) (outer : List Env) (s : Shared) (H : Hp) (vs : List V) (Q : VK) (E : XK),
      Room k (A.deeper (envOfC qual scope s.heap.objs.size f cdv)) → A.guards = some [] → sp vs H Q E →
      ∃ t, PSs (cxOf CX P w K mg base N qual scope f cdv A outer s H E) body t ∧
        t { nx := fun _ H' => Q .non H', rt := Q } (start N vs) H) : FnG P w K mg base CX (k + 1) f fd ps sp := by
  obtain ⟨oc, od, dV, kV, doc, pm, an, cdv, ct, osl, rfl, lk, hcd, _, _⟩ := F.ex
  exact fng_of lk hcd S len fun A outer s H vs Q E hr hg hsp => hbody cdv A outer s H vs Q E hr hg hsp

/-! ### a call by name: all that it wants in one -/
/-- the module's name x is a def that keeps sp; dvs fill up behind the written arguments -/
def Cal (P : Program) (w : World) (K : PySem.W.Frag) (mg : Str → Option Value) (base : Heap) (CX : CXT) (k : Nat) (x : Str)
    (dvs : List V) (sp : Sp) : Prop :=
  ∃ f fd ps ds, FnG P w K mg base CX k f fd ps sp ∧ mg x = some (.ref f) ∧ PySem.W.keepIn K (.ref f) = true ∧
    Binds K fd ps ds ∧ Vals dvs ds
theorem Cal.mono {P : Program} {w : World} {K : PySem.W.Frag} {mg : Str → Option Value} {base : Heap} {CX : CXT} {j k : Nat} {x : Str}
    {dvs : List V} {sp : Sp} (C : Cal P w K mg base CX j x dvs sp) (h : j ≤ k) : Cal P w K mg base CX k x dvs sp := by
  obtain ⟨f, fd, ps, ds, F, r⟩ := C
  exact ⟨f, fd, ps, ds, F.mono h, r⟩

/-- the same without a word of guards -/
def CalO (P : Program) (w : World) (K : PySem.W.Frag) (mg : Str → Option Value) (base : Heap) (CX : CXT) (k : Nat) (x : Str)
    (dvs : List V) (sp : Sp) : Prop :=
  ∃ f fd ps ds, FnOk P w K mg base CX k f fd ps sp ∧ mg x = some (.ref f) ∧ PySem.W.keepIn K (.ref f) = true ∧
    Binds K fd ps ds ∧ Vals dvs ds
theorem CalO.cal {P : Program} {w : World} {K : PySem.W.Frag} {mg : Str → Option Value} {base : Heap} {CX : CXT} {k : Nat} {x : Str}
    {dvs : List V} {sp : Sp} (C : CalO P w K mg base CX k x dvs sp) : Cal P w K mg base CX k x dvs sp := by
  obtain ⟨f, fd, ps, ds, F, r⟩ := C
  exact ⟨f, fd, ps, ds, .of F, r⟩
/-- a def without defaults, called with all its arguments -/
theorem CalO.mk {P : Program} {w : World} {K : PySem.W.Frag} {mg : Str → Option Value} {base : Heap} {CX : CXT} {k : Nat} {x qual : Str} {f : Addr} {fd : FuncData}
    {params : Arguments} {body : List Stmt} {scope : Scope} {ps : List Str} {sp : Sp} (F : FunD K x qual params body scope [] [] f fd)
    (ok : FnOk P w K mg base CX k f fd ps sp) (hm : mg x = some (.ref f))
    (h : ∀ (kV doc pm : Value) (an : Option Addr) (cdv ct : Value) (us : List Value), us.length = ps.length → bindArgs (PySem.W.fnOf x qual params body scope .none kV doc pm an cdv ct) ⟨us, []⟩ = pure (ps.zip us)) :
    CalO P w K mg base CX k x [] sp := ⟨f, fd, ps, [], ok, hm, F.kp, F.bindsN h, .nil⟩
theorem Cal.mk {P : Program} {w : World} {K : PySem.W.Frag} {mg : Str → Option Value} {base : Heap} {CX : CXT} {k : Nat} {x qual : Str} {f : Addr} {fd : FuncData}
    {params : Arguments} {body : List Stmt} {scope : Scope} {ps : List Str} {sp : Sp} (F : FunD K x qual params body scope [] [] f fd)
    (ok : FnG P w K mg base CX k f fd ps sp) (hm : mg x = some (.ref f))
    (h : ∀ (kV doc pm : Value) (an : Option Addr) (cdv ct : Value) (us : List Value), us.length = ps.length → bindArgs (PySem.W.fnOf x qual params body scope .none kV doc pm an cdv ct) ⟨us, []⟩ = pure (ps.zip us)) :
    Cal P w K mg base CX k x [] sp := ⟨f, fd, ps, [], ok, hm, F.kp, F.bindsN h, .nil⟩

section
variable {X : Cx} {CX : CXT} {k : Nat} {f : Addr} {fd : FuncData} {ps : List Str} {sp : Sp} {dvs : List V} {ds : List Value}
variable {E : XK} {x : Str} {p pos : Pos} {e : Expr} {es : List Expr} {t : TA}
theorem run_fng {pins : List (Addr × Obj)} {σ : L2.St} {H : Hp} {s : Shared} {Q : VK} {us : List Value} {vs : List V}
    (F : FnG X.prog X.w X.K X.mg X.base CX k f fd ps sp) (hr : Room k X.A) (hgd : X.A.guards = some [])
    (hb : Binds X.K fd ps ds) (hd : Vals dvs ds) (hx : Passes CX X E)
    (I : Inv X pins σ H s) (r : Vals vs us) (h : sp (vs ++ dvs) H Q E) :
    wpAny (model X.prog X.w) X.A (call (.ref f) us) (EP X pins σ Q) X.xe s := by
  have r2 := r.append hd
  have hl := (r2.length.symm.trans (F.len _ _ _ _ h))
  have go := F.run X.A X.stack s H ⟨us, []⟩ (us ++ ds) (vs ++ dvs) Q E hr hgd I.env0 (hb s us I.kIn hl) r2 h
  refine wpAny_call (codeAny_mono go ?_)
  intro r s' hq
  match r, hq with
  | .error e, hq => exact hx pins σ H s e s' I hq
  | .ok (.ret u), hq => exact I.after hq
  | .ok .next, hq => exact hq.elim
  | .ok .brk, hq => exact hq.elim
  | .ok .cont, hq => exact hq.elim
/-- f(e, ..) -/
theorem pe_cal (C : Cal X.prog X.w X.K X.mg X.base CX k x dvs sp) (hr : Room k X.A) (hgd : X.A.guards = some []) (hx : Passes CX X E)
    (ha : PA X (e :: es) t) (hg : Gl X x := by rfl) (hdb : (x == ("__debug__" : Str)) = false := by decide)
    (he : starEach (e :: es) X.env = (false, eval e X.env) :: starEach es X.env := by rfl)
    (hpl : (backTo pos (starEach es X.env)).any (·.1) = false := by rfl) :
    PE X (.Call (.Name x p) (e :: es) [] pos) (tCall sp dvs E t) := by
  obtain ⟨f, fd, ps, ds, F, hm, hk, hb, hd⟩ := C
  refine ⟨?_⟩
  intro pins s σ H Q I h
  refine wpAny_Call_Name_kw (ld_glob I hg hm ?_ hdb)
  refine PySem.W.callWith_K (h₀ := X.base) I.ok.mod.kin hk ?_ he hpl
  refine thn (ha.run pos pins s σ H _ I h) ?_
  rintro us s1 ⟨vs, H1, I1, r, q⟩
  exact ⟨I1.kIn, run_fng F hr hgd hb hd hx I1 r q⟩
theorem pe_calO (C : CalO X.prog X.w X.K X.mg X.base CX k x dvs sp) (hr : Room k X.A) (hx : Passes CX X E)
    (ha : PA X (e :: es) t) (hg : Gl X x := by rfl) (hdb : (x == ("__debug__" : Str)) = false := by decide)
    (he : starEach (e :: es) X.env = (false, eval e X.env) :: starEach es X.env := by rfl)
    (hpl : (backTo pos (starEach es X.env)).any (·.1) = false := by rfl) :
    PE X (.Call (.Name x p) (e :: es) [] pos) (tCall sp dvs E t) := by
  obtain ⟨f, fd, ps, ds, F, hm, hk, hb, hd⟩ := C
  exact pe_call F hr hg hm hk hb hd hx ha hdb he hpl
/-- f() -/
theorem pe_cal0 (C : Cal X.prog X.w X.K X.mg X.base CX k x dvs sp) (hr : Room k X.A) (hgd : X.A.guards = some []) (hx : Passes CX X E)
    (hg : Gl X x := by rfl) (hdb : (x == ("__debug__" : Str)) = false := by decide) :
    PE X (.Call (.Name x p) [] [] pos) (tCall sp dvs E tNil) := by
  obtain ⟨f, fd, ps, ds, F, hm, hk, hb, hd⟩ := C
  refine ⟨?_⟩
  intro pins s σ H Q I h
  refine wpAny_Call_Name_kw (ld_glob I hg hm ?_ hdb)
  exact PySem.W.callWith_K0 I.kIn hk (run_fng (us := []) F hr hgd hb hd hx I .nil h)
end

/-! ### repr of data -/
def rRepr (K : PySem.W.Frag) : List V → Hp → VK → Prop := fun xs H Q => ∃ (x : V) (d : PyData), xs = [x] ∧ Dp K H x d ∧
  d.showable = true ∧ d.hasDict = false ∧ d.depth ≤ 60 ∧ d.shown.length ≤ sizeLine ∧ Q (.str d.shown) H
theorem call_repr {X : Cx} (hgd : X.A.guards = some []) (hu : X.A.units + 64 < cLine) : CallR X (.builtin "repr") (rRepr X.K) := by
  intro pins s σ H xs us Q I r h
  obtain ⟨x, d, rfl, hd, hs, hn, hdp, hz, q⟩ := h
  obtain ⟨u, rfl, rx⟩ := vals1 r
  obtain ⟨as, rd⟩ := Dp.reads I d x u hd rx
  have hsm := PyData.noDict_hsm (as := as) hn
  cases rx' : x with
  | ref a =>
    subst rx'
    obtain rfl : u = Value.ref a := rx
    exact repr_of_reads' rd hs hsm hgd (by omega) (fun _ _ e => e)
      (fun h' t tk hk => ⟨.str d.shown, H, I.kept hk, ⟨_, rfl⟩, q⟩) hz
  | non => subst rx'; cases hd; cases rx; exact PySem.P.repr_of_none ⟨.str _, H, I.tok _, ⟨_, rfl⟩, q⟩
  | bl b => subst rx'; cases hd; cases rx; exact PySem.P.repr_of_bool ⟨.str _, H, I.tok _, ⟨_, rfl⟩, by simpa only [PyData.shown] using q⟩
  | int i =>
    subst rx'; cases hd; obtain ⟨t, rfl⟩ := rx
    exact PySem.P.repr_of_int (by simpa only [PyData.showable, decide_eq_true_eq] using hs) ⟨.str _, H, I.tok _, ⟨_, rfl⟩, by simpa only [PyData.shown] using q⟩
  | str z =>
    subst rx'; cases hd; obtain ⟨t, rfl⟩ := rx
    exact PySem.P.repr_of_str ⟨.str _, H, I.tok _, ⟨_, rfl⟩, by simpa only [PyData.shown] using q⟩ (by simpa only [PyData.shown] using hz)
  | byt b => subst rx'; cases hd
  | flt b => subst rx'; cases hd
  | ty n => subst rx'; cases hd
end G
/-! own rules, second part: instances compared, their truth, attributes as targets, constructors and properties in one -/
namespace G
open PySem PySem.Spec PyProof.Rows L2

/-! ### type of a value, for == -/
theorem type_of {X : Cx} {pins : List (Addr × Obj)} {σ : L2.St} {H : Hp} {s : Shared} {x : V} {u t : Value} {M : Model}
    (I : Inv X pins σ H s) (rx : RelV x u) (ty : TyOf X.K H x t) : PySem.W.Looks M s.heap (typeOf u) t := by
  cases ty with
  | non => cases rx; exact .of_pure rfl
  | bl y => cases rx; exact .of_pure rfl
  | int i => obtain ⟨t, rfl⟩ := rx; exact .of_pure rfl
  | str y => obtain ⟨t, rfl⟩ := rx; exact .of_pure rfl
  | flt y => obtain ⟨t, rfl⟩ := rx; exact .of_pure rfl
  | @lst a xs ea =>
    cases (show u = Value.ref a from rx)
    obtain ⟨_, _, n, _, h1⟩ := (show ObjOk X.prog X.w H s.heap a (.lst xs) from I.hok a _ ea)
    exact (PySem.W.Looks.ld h1).andThen .now
  | @frz a ob xs ea =>
    cases (show u = Value.ref a from rx)
    obtain ⟨_, _, _, n, _, h1⟩ := (show ObjOk X.prog X.w H s.heap a (.frz ob (.lst xs)) from I.hok a _ ea)
    exact (PySem.W.Looks.ld h1).andThen .now
  | @tup a xs ea =>
    cases (show u = Value.ref a from rx)
    obtain ⟨_, _, _, o, h1, h2, _⟩ := (show ObjOk X.prog X.w H s.heap a (.tup xs) from I.hok a _ ea)
    rw [← h2]; exact (PySem.W.Looks.ld h1).andThen .now
  | @dK a kvs ea =>
    cases (show u = Value.ref a from rx)
    obtain ⟨_, _, vs, _, o, es, ep, h1, h2, _⟩ := (show ObjOk X.prog X.w H s.heap a (.dK kvs) from I.hok a _ ea)
    rw [← h2.1]; exact (PySem.W.Looks.ld h1).andThen .now
  | @dT a kvs ea =>
    cases (show u = Value.ref a from rx)
    obtain ⟨_, _, xs, _, o, es, ep, h1, h2, _⟩ := (show ObjOk X.prog X.w H s.heap a (.dT kvs) from I.hok a _ ea)
    rw [← h2.1]; exact (PySem.W.Looks.ld h1).andThen .now
  | @ins a C dx fs ea cl ha hn htk hm =>
    cases (show u = Value.ref a from rx)
    obtain ⟨mA, O, _⟩ := ins_get I.hok ea
    obtain ⟨od, J, _⟩ := O.look
    exact J.type

/-! ### == and != of an instance of a class with its own __eq__ -/
/-- what the class at C wants of its comparison -/
structure EqC (K : PySem.W.Frag) (C f : Addr) : Prop where
  eq : PySem.W.findIn K (.ref C) "__eq__" = some (some (.ref f))
  fn : PySem.W.isFn K (.ref f) = true
  ne : PySem.W.findIn K (.ref C) "__ne__" = some (some (.builtin "object.__ne__"))
  ob : PySem.W.mroIn K C (.type "object") = some true
def rOwnEq (K : PySem.W.Frag) (C : Addr) (sp : Sp) (E : XK) (g : Bool → Bool) : R2 := fun x y H Q => ∃ (a dx : Addr) (fs : List (Str × V)) (t : Value),
  x = .ref a ∧ H a = some (.ins C dx fs) ∧ TyOf K H y t ∧ PySem.W.notFirst K C t = true ∧
  sp [x, y] H (fun v H' => ∃ b, v = .bl b ∧ Q (.bl (g b)) H') E
section
variable {X : Cx} {CX : CXT} {k : Nat} {C f : Addr} {fd : FuncData} {ps : List Str} {sp : Sp} {E : XK}
theorem eq_call {pins : List (Addr × Obj)} {σ : L2.St} {H : Hp} {s : Shared} {A : Around} {x y : V} {v u : Value} {Q : VK} (I : Inv X pins σ H s)
    (Fn : FnOk X.prog X.w X.K X.mg X.base CX k f fd ps sp) (hr : Room k A) (hA : A.frames = some X.stack) (hb : Binds X.K fd ps [])
    (hx : Passes CX X.nox E) (rx : RelV x v) (ry : RelV y u) (h : sp [x, y] H Q E) {E' : Value → Shared → Prop} :
    wpAny (model X.prog X.w) A (call (.ref f) [v, u]) (EP X pins σ Q) E' s := by
  have hl : [v, u].length = ps.length := Fn.len _ _ _ _ h
  have e0 := I.env0
  have e1 : Env0 X.prog X.w X.K X.mg X.base A X.stack s H := ⟨hA, e0.mod, e0.bs, e0.bsz, e0.funs, e0.frf, e0.hok, e0.bare⟩
  have bt := hb s [v, u] I.kIn (by simpa using hl)
  refine wpAny_call (codeAny_mono (Fn.run A X.stack s H ⟨[v, u], []⟩ [v, u] [x, y] Q E hr e1 (by simpa using bt) (.cons rx (.cons ry .nil)) h) ?_)
  intro r s' hq
  match r, hq with
  | .error e, hq => exact (hx pins σ H s e s' (I.wish _) hq).elim
  | .ok (.ret u), hq => exact I.after hq
  | .ok .next, hq => exact hq.elim
  | .ok .brk, hq => exact hq.elim
  | .ok .cont, hq => exact hq.elim
theorem op_eqO (e : EqC X.K C f) (Fn : FnOk X.prog X.w X.K X.mg X.base CX k f fd ps sp) (hr : Room k X.A) (hb : Binds X.K fd ps [])
    (hx : Passes CX X.nox E) : OpR X (compareOp .Eq) (rOwnEq X.K C sp E fun b => b) := by
  intro pins s σ H x y v u Q I rx ry h
  obtain ⟨a, dx, fs, t, rfl, ha, ty, hn, hs⟩ := h
  obtain rfl : v = Value.ref a := rx
  obtain ⟨mA, J, _⟩ := ins_get I.hok ha
  obtain ⟨od, J, _⟩ := J.look
  obtain ⟨m, hF⟩ := I.fr
  show wpAny (model X.prog X.w) X.A (richCompare .Eq (.ref a) u) (EP X pins σ Q) X.xe s
  refine PySem.W.cmp_K (op := .Eq) (tb := t) hr.units0 hF I.ok.mod.kin J (type_of I ry ty) hn e.eq e.fn ?_
  refine wpAny_mono (eq_call (x := V.ref a) (E' := X.xe) I Fn hr I.ok.frames hb hx rfl ry hs) ?_ fun _ _ z => z
  rintro r s' ⟨z, H', I', rz, b, rfl, q⟩
  cases rz
  exact ⟨.bl b, H', I', rfl, q⟩
theorem op_neO (e : EqC X.K C f) (Fn : FnOk X.prog X.w X.K X.mg X.base CX k f fd ps sp) (hr : Room (k + 1) X.A) (hb : Binds X.K fd ps [])
    (hx : Passes CX X.nox E) : OpR X (compareOp .NotEq) (rOwnEq X.K C sp E fun b => !b) := by
  intro pins s σ H x y v u Q I rx ry h
  obtain ⟨a, dx, fs, t, rfl, ha, ty, hn, hs⟩ := h
  obtain rfl : v = Value.ref a := rx
  obtain ⟨mA, J, _⟩ := ins_get I.hok ha
  obtain ⟨od, J, _⟩ := J.look
  have kin := I.kIn
  have un := hr.units
  have one : wpAny (model X.prog X.w) X.A (tryCompare (.ref a) "__ne__" u) (fun r s' => ∃ v, r = some v ∧ EP X pins σ Q v s') X.xe s := by
    have inner : wpAny (model X.prog X.w) X.A.in1 (call (.ref f) [.ref a, u]) (EP X pins σ fun v H' => ∃ b, v = .bl b ∧ Q (.bl (!b)) H') X.xe s :=
      eq_call (x := V.ref a) I Fn hr.in1 (by simpa using I.ok.frames) hb hx rfl ry hs
    have slot : wpAny (model X.prog X.w) X.A (call (.builtin "object.__ne__") [.ref a, u]) (fun v s' => EP X pins σ Q v s' ∧ ∃ b, v = .bool b) X.xe s := by
      refine wpAny_call (codeAny_call_builtin (by decide +kernel) PySem.F.cmpEntry_ne (PySem.W.check_slot PySem.F.cmpKind_ne PySem.F.cmpSplit_ne
        (J.type.andThen (PySem.W.looks_mroIn kin e.ob)) (PySem.F.cmpArgs_ne _ _) ?_))
      unfold Builtin.«object.__ne__»
      refine wpAny_bind (m := slotArgs "__ne__" 1 _) (wpAny_pure ?_)
      refine wpAny_bind (m := cRoomFor _ _) (wpAny_cRoomFor (by show X.A.units + 1 < cLine; omega) ?_)
      refine wpAny_bind (m := callSpecialIfBound? (.ref a) (Str.ofString "__eq__") _) (PySem.W.ifBound_K kin J e.eq e.fn (wpAny_mono inner ?_ fun _ _ z => z))
      rintro r s' ⟨z, H', I', rz, b, rfl, q⟩
      cases rz
      exact wpAny_bind (wpAny_truthy_bool (wpAny_pure ⟨⟨.bl (!b), H', I', rfl, q⟩, _, rfl⟩))
    have bound : wpAny (model X.prog X.w) X.A (callSpecialIfBound? (.ref a) "__ne__" [u]) (fun r s' => ∃ v, r = some v ∧ EP X pins σ Q v s' ∧ ∃ b, v = .bool b) X.xe s := by
      simp only [callSpecialIfBound?, bindSpecialIfBound?]
      refine wpAny_holding (wpAny_bind (wpAny_bind (wpAny_bind (J.type.here ((PySem.W.looks_findIn kin e.ne).here ?_)))))
      have fin : wpAny (model X.prog X.w) X.A (call (.builtin "object.__ne__") ([.ref a] ++ [u]) >>= fun v => pure (some v)) (fun r s' => ∃ v, r = some v ∧ EP X pins σ Q v s' ∧ ∃ b, v = .bool b) X.xe s :=
        wpAny_bind (wpAny_mono slot (fun v s' q => wpAny_pure ⟨v, rfl, q⟩) fun _ _ z => z)
      refine wpAny_bind (wpAny_askSetting (wpAny_ite ?_))
      have bd : bindSpecial (.builtin "object.__ne__") (.ref a) = pure (.builtin "object.__ne__", [.ref a]) := PySem.F.slot_object_ne.bind _
      split
      · exact wpAny_bind ((PySem.W.Looks.of_pure bd).here (wpAny_pure (by exact fin)))
      · exact wpAny_tryCatch (wpAny_bind ((PySem.W.Looks.of_pure bd).here (wpAny_pure (by exact fin))))
    unfold tryCompare
    refine wpAny_bind (wpAny_mono bound ?_ fun _ _ z => z)
    rintro r s' ⟨v, rfl, q, b, rfl⟩
    exact wpAny_pure ⟨_, rfl, q⟩
  show wpAny (model X.prog X.w) X.A (richCompare .NotEq (.ref a) u) (EP X pins σ Q) X.xe s
  unfold richCompare
  simp only [oneThing_ref]
  refine wpAny_holding (wpAny_bind (wpAny_cRoomFor (by omega) ?_))
  refine wpAny_bind (J.type.here (wpAny_bind ((type_of I ry ty).here ?_)))
  split
  · rename_i hne
    have sub : PySem.W.subIn X.K t (.ref C) = some false := by
      rcases Bool.or_eq_true_iff.mp hn with z | z
      · rw [beq_iff_eq.mp z] at hne; simp at hne
      · exact beq_iff_eq.mp z
    refine wpAny_bind ((PySem.W.looks_subIn kin sub).here ?_)
    simp only [Bool.false_eq_true, if_false]
    refine wpAny_bind (wpAny_mono one ?_ fun _ _ z => z)
    rintro r s' ⟨v, rfl, q⟩
    exact wpAny_pure q
  · refine wpAny_bind (wpAny_pure ?_)
    simp only [Bool.false_eq_true, if_false]
    refine wpAny_bind (wpAny_mono one ?_ fun _ _ z => z)
    rintro r s' ⟨v, rfl, q⟩
    exact wpAny_pure q
end

/-! ### truth and length of an instance -/
section
variable {X : Cx} {CX : CXT} {k : Nat} {C f : Addr} {fd : FuncData} {ps : List Str} {sp : Sp} {E : XK}
/-- neither __bool__ nor __len__: true -/
theorem tru_inst (h1 : PySem.W.findIn X.K (.ref C) "__bool__" = some none) (h2 : PySem.W.findIn X.K (.ref C) "__len__" = some none) :
    TruR X (fun x H Q => ∃ (a dx : Addr) (fs : List (Str × V)), x = .ref a ∧ H a = some (.ins C dx fs) ∧ Q true H) := by
  intro pins s σ H x v Q I rx h
  obtain ⟨a, dx, fs, rfl, ha, q⟩ := h
  obtain rfl : v = Value.ref a := rx
  obtain ⟨mA, J, _⟩ := ins_get I.hok ha
  obtain ⟨od, J, _⟩ := J.look
  obtain ⟨m, hF⟩ := I.fr
  exact PySem.W.truthy_K0 hF I.ok.mod.kin J h1 h2 ⟨H, I, q⟩
/-- len(o) by the class's own __len__ -/
theorem call_len_inst (h1 : PySem.W.findIn X.K (.ref C) "__len__" = some (some (.ref f))) (h2 : PySem.W.isFn X.K (.ref f) = true)
    (Fn : FnOk X.prog X.w X.K X.mg X.base CX k f fd ps sp) (hr : Room (k + 1) X.A) (hb : Binds X.K fd ps []) (hx : Passes CX X E) :
    CallR X (.builtin "len") (fun xs H Q => ∃ (a dx : Addr) (fs : List (Str × V)), xs = [.ref a] ∧ H a = some (.ins C dx fs) ∧
      sp [.ref a] H (fun v H' => ∃ n : Int, v = .int n ∧ 0 ≤ n ∧ n < 2 ^ 63 ∧ Q (.int n) H') E) := by
  intro pins s σ H xs us Q I r h
  obtain ⟨a, dx, fs, rfl, ha, hs⟩ := h
  obtain ⟨u, rfl, r1⟩ := vals1 r
  obtain rfl : u = Value.ref a := r1
  obtain ⟨mA, J, _⟩ := ins_get I.hok ha
  obtain ⟨od, J, _⟩ := J.look
  obtain ⟨m, hF⟩ := I.fr
  have hl : [Value.ref a].length = ps.length := Fn.len _ _ _ _ hs
  have e1 : Env0 X.prog X.w X.K X.mg X.base X.A.in1 X.stack s H := I.env0.in1
  have bt := hb s [Value.ref a] I.kIn (by simpa using hl)
  refine PySem.W.len_K hF I.ok.mod.kin J h1 h2 (wpAny_call (codeAny_mono (Fn.run X.A.in1 X.stack s H ⟨[.ref a], []⟩ [.ref a] [.ref a] _ E hr.in1 e1 (by simpa using bt) (.cons rfl .nil) hs) ?_))
  intro r s' hq
  match r, hq with
  | .error e, hq => exact (hx pins σ H s e s' I hq)
  | .ok (.ret w), hq =>
    obtain ⟨v, H', I', rv, n, rfl, n0, n1, q⟩ := I.after hq
    obtain ⟨t, rfl⟩ := rv
    exact ⟨⟨n0, n1⟩, .int n, H', I'.tok _, ⟨_, rfl⟩, q⟩
  | .ok .next, hq => exact hq.elim
  | .ok .brk, hq => exact hq.elim
  | .ok .cont, hq => exact hq.elim
end

/-! ### an attribute as a target -/
def gAttr (K : PySem.W.Frag) (to : TE) (f : Str) : TG := fun v σ H Q => to σ H fun x H1 => ∃ (a C dx : Addr) (fs : List (Str × V)),
  x = .ref a ∧ H1 a = some (.ins C dx fs) ∧ Cls K C ∧ NoAttr K C f ∧ fs.length < 1000 ∧ Q σ (upd H1 a (.ins C dx (putF f v fs)))
theorem pg_attr {X : Cx} {o : Expr} {f : Str} {pos : Pos} {to : TE} (ho : PE X o to)
    (ha : ∀ v, assign (.Attribute o f pos) X.env v = (do
      let ov ← holding [v] (eval o X.env)
      standAt pos.atName
      holding [v, ov] (setAttr ov f v)
      release [v, ov] []) := by intro _; rfl) : PG X (.Attribute o f pos) (gAttr X.K to f) := by
  refine ⟨?_⟩
  intro pins s σ H v u Q I r h
  rw [ha]
  refine wpAny_bind (wpAny_holding (thn (ho.run pins s σ H _ I h) ?_))
  rintro ov s1 ⟨x, H1, I1, rx, a, C, dx, fs, ex, ea, c, n, l, q⟩
  subst ex
  obtain rfl : ov = Value.ref a := rx
  refine wpAny_bind (wpAny_standAt (wpAny_bind (wpAny_holding (setattr_ok I1 ea c n l r ?_))))
  intro s3 I3
  exact wpAny_release ⟨σ, _, I3, q⟩

/-! ### a constructor, a property, a method: all that it wants in one -/
/-- the module's name x is the class at C; its __init__ keeps sp; dvs fill up behind the written arguments -/
def CalC (P : Program) (w : World) (K : PySem.W.Frag) (mg : Str → Option Value) (base : Heap) (CX : CXT) (k : Nat) (x : Str) (C : Addr)
    (dvs : List V) (sp : Sp) : Prop :=
  ∃ f fd ps ds, Mk K C f ∧ FnOk P w K mg base CX k f fd ps sp ∧ mg x = some (.ref C) ∧ Binds K fd ps ds ∧ Vals dvs ds
/-- .. with n written arguments and the keywords ks: gV says how they go to the parameters -/
def CalN (P : Program) (w : World) (K : PySem.W.Frag) (mg : Str → Option Value) (base : Heap) (CX : CXT) (k : Nat) (x : Str) (C : Addr)
    (n : Nat) (ks : List Str) (gV : List V → List V → List V) (sp : Sp) : Prop :=
  ∃ f fd ps g, Mk K C f ∧ FnOk P w K mg base CX k f fd ps sp ∧ mg x = some (.ref C) ∧ KBn K fd ps (n + 1) ks g gV
/-- a property of the class at C that hands back the attribute fld -/
def GetP (P : Program) (w : World) (K : PySem.W.Frag) (mg : Str → Option Value) (base : Heap) (k : Nat) (C : Addr) (f fld : Str) : Prop :=
  ∃ p g fd ps, Cls K C ∧ PropOf K C f p g ∧ FnOk P w K mg base CX0 k g fd ps (getSp C fld) ∧ Binds K fd ps []
def tGet (C : Addr) (fld : Str) (ta : TE) : TE := fun σ H Q => ta σ H fun x H1 => ∃ (a dx : Addr) (fs : List (Str × V)) (v : V),
  x = .ref a ∧ H1 a = some (.ins C dx fs) ∧ fs.lookup fld = some v ∧ Q v H1
section
variable {X : Cx} {CX : CXT} {k n : Nat} {C : Addr} {sp : Sp} {dvs : List V} {ks : List Str} {gV : List V → List V → List V}
variable {E : XK} {x f fld : Str} {p pos : Pos} {e : Expr} {es : List Expr} {kws : List Keyword} {ta : TE} {t tk : TA}
theorem pe_mkc (c : CalC X.prog X.w X.K X.mg X.base CX k x C dvs sp) (hr : Room (k + 1) X.A) (hx : Passes CX X E)
    (ha : PA X (e :: es) t) (hg : Gl X x := by rfl) (hdb : (x == ("__debug__" : Str)) = false := by decide)
    (he : starEach (e :: es) X.env = (false, eval e X.env) :: starEach es X.env := by rfl)
    (hpl : (backTo pos (starEach es X.env)).any (·.1) = false := by rfl) :
    PE X (.Call (.Name x p) (e :: es) [] pos) (tMake C sp dvs E t) := by
  obtain ⟨f, fd, ps, ds, M, Fn, hm, hb, hd⟩ := c
  exact pe_make M Fn hr hg hm hb hd hx ha hdb he hpl
theorem pe_mkn (c : CalN X.prog X.w X.K X.mg X.base CX k x C n ks gV sp) (hr : Room (k + 1) X.A) (hx : Passes CX X E)
    (ha : PA X (e :: es) t) (hkw : PK X kws tk) (hg : Gl X x := by rfl) (hall : (backToKw pos (keywordEach kws X.env)).all (·.1.isSome) = true := by rfl)
    (hks : (backToKw pos (keywordEach kws X.env)).filterMap (·.1) = ks := by rfl) (hdb : (x == ("__debug__" : Str)) = false := by decide)
    (he : starEach (e :: es) X.env = (false, eval e X.env) :: starEach es X.env := by rfl)
    (hpl : ((backTo pos (starEach (e :: es) X.env)).any (·.1) || (backToKw pos (keywordEach kws X.env)).any (·.1.isNone)) = false := by rfl) :
    PE X (.Call (.Name x p) (e :: es) kws pos) (tMakeK C n ks.length sp gV E t tk) := by
  obtain ⟨f, fd, ps, g, M, Fn, hm, hb⟩ := c
  exact pe_makeK M Fn hr hg hm hb hx ha hkw hall hks hdb he hpl
theorem pe_mkn0 (c : CalN X.prog X.w X.K X.mg X.base CX k x C 0 ks gV sp) (hr : Room (k + 1) X.A) (hx : Passes CX X E)
    (hkw : PK X kws tk) (hg : Gl X x := by rfl) (hall : (backToKw pos (keywordEach kws X.env)).all (·.1.isSome) = true := by rfl)
    (hks : (backToKw pos (keywordEach kws X.env)).filterMap (·.1) = ks := by rfl) (hdb : (x == ("__debug__" : Str)) = false := by decide)
    (hpl : ((backTo pos (starEach [] X.env)).any (·.1) || (backToKw pos (keywordEach kws X.env)).any (·.1.isNone)) = false := by rfl) :
    PE X (.Call (.Name x p) [] kws pos) (tMakeK C 0 ks.length sp gV E tNil tk) := by
  obtain ⟨f, fd, ps, g, M, Fn, hm, hb⟩ := c
  exact pe_makeK0 M Fn hr hg hm hb hx hkw hall hks hdb hpl
theorem pe_get (c : GetP X.prog X.w X.K X.mg X.base k C f fld) (hr : Room (k + 1) X.A) (ha : PE X e ta)
    (hab : attributeBase e f X.env (eval e X.env) = eval e X.env := by rfl) : PE X (.Attribute e f pos) (tGet C fld ta) := by
  obtain ⟨p, g, fd, ps, cl, hp, Fn, hb⟩ := c
  refine ⟨?_⟩
  intro pins s σ H Q I h
  refine attr_of hab (thn (ha.run pins s σ H _ I h) ?_)
  rintro u s1 ⟨x, H1, I1, rx, a, dx, fs, v, rfl, ea, el, q⟩
  obtain rfl : u = Value.ref a := rx
  exact getprop_ok (E := E0) I1 ea cl hp Fn hr hb .nil pass0 ⟨a, dx, fs, v, rfl, ea, el, q⟩
end
end G
/-! own rules, third part: heaps behind a pool, loops over anything that stands still, small tactics -/
namespace G
open PySem PySem.Spec PyProof.Rows L2

/-! ### heaps -/
/-- all but what stands at p is as it was -/
def But (p : Addr) (H H' : Hp) : Prop := ∀ q o, q ≠ p → H q = some o → H' q = some o
theorem But.refl (p : Addr) (H : Hp) : But p H H := fun _ _ _ e => e
theorem But.trans {p : Addr} {H H1 H2 : Hp} (a : But p H H1) (b : But p H1 H2) : But p H H2 := fun q o n e => b q o n (a q o n e)
theorem But.of {p : Addr} {H H' : Hp} (a : Same H H') : But p H H' := fun q o _ e => a q o e
theorem But.new {p : Addr} {H H1 : Hp} {q : Addr} {o : HO} (a : But p H H1) (n : H1 q = none) : But p H (upd H1 q o) := fun b u nb e => by
  rw [upd_ne (ne_of_none (a b u nb e) n)]
  exact a b u nb e
theorem But.at {p : Addr} {H H1 : Hp} {o : HO} (a : But p H H1) : But p H (upd H1 p o) := fun b u nb e => by
  rw [upd_ne nb]
  exact a b u nb e
theorem _root_.L2.Same.new {H H1 : Hp} {q : Addr} {o : HO} (a : Same H H1) (n : H1 q = none) : Same H (upd H1 q o) := fun b u e => by
  rw [upd_ne (ne_of_none (a b u e) n)]
  exact a b u e
/-- another object, written: it was new ahead -/
theorem But.own {p : Addr} {H H1 : Hp} {q : Addr} {o : HO} (a : But p H H1) (n : H q = none) : But p H (upd H1 q o) := fun b u nb e => by
  rw [upd_ne (ne_of_none e n)]
  exact a b u nb e
theorem _root_.L2.Same.own {H H1 : Hp} {q : Addr} {o : HO} (a : Same H H1) (n : H q = none) : Same H (upd H1 q o) := fun b u e => by
  rw [upd_ne (ne_of_none e n)]
  exact a b u e
/-- the pool: three whole numbers, none below nought, two of them small -/
def PoolAt (H : Hp) (p : Addr) : Prop := ∃ a b d : Int, H p = some (.lst [.int a, .int b, .int d]) ∧ 0 ≤ a ∧ a < 4294967296 ∧ 0 ≤ b ∧ b < 4294967296 ∧ 0 ≤ d
/-- a pool was drawn from, new things stand -/
structure Pl (p : Addr) (H H' : Hp) : Prop where
  but : But p H H'
  pool : PoolAt H' p
theorem Pl.refl {p : Addr} {H : Hp} (h : PoolAt H p) : Pl p H H := ⟨.refl _ _, h⟩
theorem Pl.trans {p : Addr} {H H1 H2 : Hp} (a : Pl p H H1) (b : Pl p H1 H2) : Pl p H H2 := ⟨a.but.trans b.but, b.pool⟩
theorem PoolAt.new {H : Hp} {p q : Addr} {o : HO} (h : PoolAt H p) (n : H q = none) : PoolAt (upd H q o) p := by
  obtain ⟨a, b, d, e, r⟩ := h
  exact ⟨a, b, d, by rw [upd_ne (ne_of_none e n)]; exact e, r⟩
theorem PoolAt.ne {H : Hp} {p q : Addr} {o : HO} (h : PoolAt H p) (nq : q ≠ p) : PoolAt (upd H q o) p := by
  obtain ⟨a, b, d, e, r⟩ := h
  exact ⟨a, b, d, by rw [upd_ne nq.symm]; exact e, r⟩
theorem Pl.new {p : Addr} {H H1 : Hp} {q : Addr} {o : HO} (a : Pl p H H1) (n : H1 q = none) : Pl p H (upd H1 q o) := ⟨a.but.new n, a.pool.new n⟩
theorem Pl.own {p : Addr} {H H1 : Hp} {q : Addr} {o : HO} (a : Pl p H H1) (n : H q = none) (nq : q ≠ p) : Pl p H (upd H1 q o) := ⟨a.but.own n, a.pool.ne nq⟩
theorem Pl.same {p : Addr} {H H1 H2 : Hp} (a : Pl p H H1) (s : Same H1 H2) : Pl p H H2 := ⟨a.but.trans (.of s), by
  obtain ⟨x, b, d, e, r⟩ := a.pool
  exact ⟨x, b, d, s _ _ e, r⟩⟩
theorem PoolAt.same {p : Addr} {H1 H2 : Hp} (h : PoolAt H1 p) (s : Same H1 H2) : PoolAt H2 p := by
  obtain ⟨x, b, d, e, r⟩ := h
  exact ⟨x, b, d, s _ _ e, r⟩
theorem Pl.get {p q : Addr} {H H1 : Hp} {o : HO} (a : Pl p H H1) (e : H q = some o) (n : q ≠ p) : H1 q = some o := a.but q o n e
/-- what is no list is not the pool -/
def noL : HO → Bool
  | .lst _ => false
  | _ => true
theorem Pl.obj {p q : Addr} {H H1 : Hp} {o : HO} (a : Pl p H H1) (h : PoolAt H p) (e : H q = some o) (n : noL o = true) : H1 q = some o := by
  obtain ⟨x, b, d, e', _⟩ := h
  exact a.get e (ne_of e e' (by rintro rfl; cases n))
theorem Pl.free {p q : Addr} {H H1 : Hp} (a : Pl p H H1) (n : H1 q = none) : H q = none := by
  cases e : H q with
  | none => rfl
  | some o =>
    by_cases hq : q = p
    · obtain ⟨x, b, d, e', _⟩ := a.pool
      rw [hq, e'] at n
      cases n
    · rw [a.get e hq] at n
      cases n
theorem PoolAt.ne_new {H : Hp} {p q : Addr} (h : PoolAt H p) (n : H q = none) : q ≠ p := by
  obtain ⟨x, b, d, e, _⟩ := h
  exact (ne_of_none e n).symm
theorem upd_get {H : Hp} {q g : Addr} {o u : HO} (n : H q = none) (e : H g = some u) : upd H q o g = some u := by
  rw [upd_ne (ne_of_none e n)]
  exact e
theorem _root_.L2.SqL.same {K : PySem.W.Frag} {H H' : Hp} {a : Addr} {xs : List V} (h : SqL K H a xs) (s : Same H H') : SqL K H' a xs := s.seq h
theorem _root_.L2.SqT.same {K : PySem.W.Frag} {H H' : Hp} {a : Addr} {xs : List V} (h : SqT K H a xs) (s : Same H H') : SqT K H' a xs := by
  rcases h with (h | ⟨o, h⟩) | h
  · exact .inl (.inl (s _ _ h))
  · exact .inl (.inr ⟨o, s _ _ h⟩)
  · exact .inr h
theorem _root_.L2.SqT.pl {K : PySem.W.Frag} {p : Addr} {H H' : Hp} {a : Addr} {xs : List V} (h : SqT K H a xs) (r : Pl p H H') (hp : PoolAt H p) : SqT K H' a xs := by
  rcases h with (h | ⟨o, h⟩) | h
  · exact .inl (.inl (r.obj hp h rfl))
  · exact .inl (.inr ⟨o, r.obj hp h rfl⟩)
  · exact .inr h

theorem upd_free {H : Hp} {q p : Addr} {o : HO} (h : upd H q o p = none) : H p = none := by
  by_cases e : p = q
  · rw [e, upd_same] at h; cases h
  · rw [upd_ne e] at h; exact h
theorem upd_free_ne {H : Hp} {q p : Addr} {o : HO} (h : upd H q o p = none) : p ≠ q := fun e => by
  rw [e, upd_same] at h; cases h
theorem same_get {H H1 : Hp} {g : Addr} {u : HO} (s : Same H H1) (e : H g = some u) : H1 g = some u := s _ _ e
/-! ### what is walked and stands still -/
/-- the walk J yields the items xs one by one while Sd holds of the heap -/
structure Wk (J : It) (xs : List V) (Sd : Hp → Prop) : Prop where
  go : ∀ i H, Sd H → i < xs.length → J.go i H
  stop : ∀ i H, Sd H → xs.length ≤ i → J.stop i H
  yld : ∀ i H v H', Sd H → i < xs.length → J.yld i H v H' → H' = H ∧ xs[i]? = some v
theorem wk_list {K : PySem.W.Frag} {a : Addr} (xs : List V) : Wk (Itl K a) xs (fun H => SqL K H a xs) :=
  ⟨fun i H h l => ⟨xs, xs[i], h, by simp [l]⟩, fun i H h l => ⟨xs, h, l⟩, fun i H v H' h _ y => ⟨y.1, y.2 xs h⟩⟩
theorem wk_tup {K : PySem.W.Frag} {a : Addr} (xs : List V) : Wk (Itt K a) xs (fun H => SqT K H a xs) :=
  ⟨fun i H h l => ⟨xs, xs[i], h, by simp [l]⟩, fun i H h l => ⟨xs, h, l⟩, fun i H v H' h _ y => ⟨y.1, y.2 xs h⟩⟩
def signs (x : Str) : List V := x.cps.toList.map fun c => V.str ⟨#[c]⟩
theorem signs_len (x : Str) : (signs x).length = x.cps.size := by simp [signs]
theorem wk_str (x : Str) : Wk (Its x) (signs x) (fun _ => True) :=
  ⟨fun i H _ l => by rw [signs_len] at l; exact l, fun i H _ l => by rw [signs_len] at l; exact l, fun i H v H' _ _ y => by
    obtain ⟨e, c, h, rfl⟩ := y
    refine ⟨e, ?_⟩
    simp only [signs, List.getElem?_map, Array.getElem?_toList, h, Option.map_some]⟩
def rngV (lo : Int) (n : Nat) : List V := (List.range n).map fun (i : Nat) => V.int (lo + (i : Int))
theorem rngV_len (lo : Int) (n : Nat) : (rngV lo n).length = n := by simp [rngV]
theorem wk_range (lo : Int) (n : Nat) : Wk (Itr lo n) (rngV lo n) (fun _ => True) :=
  ⟨fun i H _ l => by rw [rngV_len] at l; exact l, fun i H _ l => by rw [rngV_len] at l; exact l, fun i H v H' _ l y => by
    obtain ⟨e, rfl⟩ := y
    rw [rngV_len] at l
    refine ⟨e, ?_⟩
    simp [rngV, l]⟩

/-- a list comprehension over what stands still -/
theorem lcW {J : It} {xs : List V} {Sd : Hp → Prop} (wk : Wk J xs Sd) {g : TG} {tt : TT} {te : TE} {vs : List Nat} {σ : L2.St} {H1 : Hp} {D : Addr} {Qd : Hp → Prop}
    (Pv : Nat → Hp → Prop) (h0 : Pv 0 (upd H1 D (.lst []))) (hst : ∀ i H, i ≤ xs.length → Pv i H → Sd H)
    (hs : ∀ i x H, xs[i]? = some x → Pv i H → g x (wipe σ vs) H fun σ2 H2 => wipe σ2 vs = wipe σ vs ∧ tt σ2 H2 fun b H3 =>
      if b = true then te σ2 H3 fun y H4 => ∃ acc, H4 D = some (.lst acc) ∧ acc.length < sizeLine ∧ Pv (i + 1) (upd H4 D (.lst (acc ++ [y]))) else Pv (i + 1) H3)
    (hd : ∀ H, Pv xs.length H → Qd H) :
    ∃ W : Nat → Nat → Hp → Prop, (∃ m, W 0 m (upd H1 D (.lst []))) ∧ ∀ i m H, W i m H →
      (J.stop i H ∧ Qd H) ∨ (J.go i H ∧ ∃ Nx : Hp → Prop, (∀ H', Nx H' → ∃ m', m' < m ∧ W (i + 1) m' H') ∧ ∀ x H', J.yld i H x H' →
        g x (wipe σ vs) H' fun σ2 H2 => wipe σ2 vs = wipe σ vs ∧ tt σ2 H2 fun b H3 =>
        if b = true then te σ2 H3 fun y H4 => ∃ acc, H4 D = some (.lst acc) ∧ acc.length < sizeLine ∧ Nx (upd H4 D (.lst (acc ++ [y]))) else Nx H3) := by
  refine ⟨fun i m H => m = xs.length - i ∧ i ≤ xs.length ∧ Pv i H, ⟨xs.length, rfl, Nat.zero_le _, h0⟩, ?_⟩
  rintro i m H ⟨rfl, hi, pv⟩
  have sd := hst i H hi pv
  rcases Nat.lt_or_ge i xs.length with lt | ge
  · refine .inr ⟨wk.go i H sd lt, Pv (i + 1), fun H' q => ⟨xs.length - (i + 1), by omega, rfl, lt, q⟩, ?_⟩
    intro x H' y
    obtain ⟨rfl, hx⟩ := wk.yld i H x H' sd lt y
    exact hs i x _ hx pv
  · have e : i = xs.length := by omega
    subst e
    exact .inl ⟨wk.stop _ H sd ge, hd H pv⟩
/-- a comprehension whose element is a plain function of the item and touches nothing -/
theorem lcP {J : It} {xs : List V} {Sd : Hp → Prop} (wk : Wk J xs Sd) (f : V → V) {g : TG} {te : TE} {vs : List Nat} {σ : L2.St} {H1 : Hp} {D : Addr} {Qd : Hp → Prop}
    (hst : ∀ acc, Sd (upd H1 D (.lst acc))) (hz : xs.length < sizeLine)
    (hs : ∀ (i : Nat) (x : V) (acc : List V) (Q : VK), xs[i]? = some x → Q (f x) (upd H1 D (.lst acc)) → g x (wipe σ vs) (upd H1 D (.lst acc)) fun σ2 H2 => wipe σ2 vs = wipe σ vs ∧ te σ2 H2 Q)
    (hd : Qd (upd H1 D (.lst (xs.map f)))) :
    ∃ W : Nat → Nat → Hp → Prop, (∃ m, W 0 m (upd H1 D (.lst []))) ∧ ∀ i m H, W i m H →
      (J.stop i H ∧ Qd H) ∨ (J.go i H ∧ ∃ Nx : Hp → Prop, (∀ H', Nx H' → ∃ m', m' < m ∧ W (i + 1) m' H') ∧ ∀ x H', J.yld i H x H' →
        g x (wipe σ vs) H' fun σ2 H2 => wipe σ2 vs = wipe σ vs ∧ tYes σ2 H2 fun b H3 =>
        if b = true then te σ2 H3 fun y H4 => ∃ acc, H4 D = some (.lst acc) ∧ acc.length < sizeLine ∧ Nx (upd H4 D (.lst (acc ++ [y]))) else Nx H3) := by
  refine lcW wk (fun i H => H = upd H1 D (.lst ((xs.take i).map f))) (by simp) (fun i H _ e => by rw [e]; exact hst _) ?_ (fun H e => by rw [e, List.take_length]; exact hd)
  rintro i x H hx rfl
  have lt : i < xs.length := (List.getElem?_eq_some_iff.mp hx).1
  have tk : (xs.take (i + 1)).map f = (xs.take i).map f ++ [f x] := by
    rw [List.take_add_one, hx, List.map_append]
    rfl
  have h := hs i x ((xs.take i).map f) (fun y H4 => ∃ acc, H4 D = some (.lst acc) ∧ acc.length < sizeLine ∧ upd H4 D (.lst (acc ++ [y])) = upd H1 D (.lst ((xs.take (i + 1)).map f))) hx
    ⟨_, upd_same, by rw [List.length_map, List.length_take]; omega, by rw [upd_upd, tk]⟩
  exact h
/-- a for over what stands still -/
theorem forW {J : It} {xs : List V} {Sd : Hp → Prop} (wk : Wk J xs Sd) {g : TG} {tb : TS} {D : Ends} {σ : L2.St} {H : Hp} (Pv : Nat → L2.St → Hp → Prop) (h0 : Pv 0 σ H)
    (hst : ∀ i σ H, i ≤ xs.length → Pv i σ H → Sd H)
    (hs : ∀ i x σ H, xs[i]? = some x → Pv i σ H → g x σ H fun σ2 H2 => tb { D with nx := Pv (i + 1), ct := Pv (i + 1), bk := D.nx } σ2 H2) (hd : ∀ σ H, Pv xs.length σ H → D.nx σ H) :
    ∃ W : Nat → Nat → L2.St → Hp → Prop, (∃ m, W 0 m σ H) ∧ ∀ i m σ H, W i m σ H →
      (J.stop i H ∧ D.nx σ H) ∨ (J.go i H ∧ ∃ N : L2.St → Hp → Prop, (∀ σ' H', N σ' H' → ∃ m', m' < m ∧ W (i + 1) m' σ' H') ∧
        ∀ x H', J.yld i H x H' → g x σ H' fun σ2 H2 => tb { D with nx := N, ct := N, bk := D.nx } σ2 H2) := by
  refine ⟨fun i m σ H => m = xs.length - i ∧ i ≤ xs.length ∧ Pv i σ H, ⟨xs.length, rfl, Nat.zero_le _, h0⟩, ?_⟩
  rintro i m σ H ⟨rfl, hi, pv⟩
  have sd := hst i σ H hi pv
  rcases Nat.lt_or_ge i xs.length with lt | ge
  · refine .inr ⟨wk.go i H sd lt, Pv (i + 1), fun σ' H' q => ⟨xs.length - (i + 1), by omega, rfl, lt, q⟩, ?_⟩
    intro x H' y
    obtain ⟨rfl, hx⟩ := wk.yld i H x H' sd lt y
    exact hs i x σ _ hx pv
  · have e : i = xs.length := by omega
    subst e
    exact .inl ⟨wk.stop _ H sd ge, hd σ H pv⟩

/-! ### tests -/
theorem iteD {p A B : Prop} [Decidable p] (h1 : p → A) (h2 : ¬ p → B) : if decide p = true then A else B := by
  by_cases h : p
  · rw [decide_eq_true h]; exact iteT (h1 h)
  · rw [decide_eq_false h]; exact iteF (h2 h)
theorem iteND {p A B : Prop} [Decidable p] (h1 : ¬ p → A) (h2 : p → B) : if (!decide p) = true then A else B := by
  by_cases h : p
  · rw [decide_eq_true h]; exact iteF (h2 h)
  · rw [decide_eq_false h]; exact iteT (h1 h)
theorem iteB {b : Bool} {A B : Prop} (h1 : b = true → A) (h2 : b = false → B) : if b = true then A else B := by
  cases b
  · exact iteF (h2 rfl)
  · exact iteT (h1 rfl)
theorem iteNB {b : Bool} {A B : Prop} (h1 : b = false → A) (h2 : b = true → B) : if (!b) = true then A else B := by
  cases b
  · exact iteT (h1 rfl)
  · exact iteF (h2 rfl)
theorem iteKT {b : Bool} {A B : Prop} (h : b = true) (x : A) : if b = true then A else B := by rw [h]; exact iteT x
theorem iteKF {b : Bool} {A B : Prop} (h : b = false) (x : B) : if b = true then A else B := by rw [h]; exact iteF x
/-- the wished end, by an equation of what comes back -/
theorem ret_eq {Q : VK} {H : Hp} {v u : V} (h : Q v H) (e : v = u) : Q u H := e ▸ h
theorem str_len (z : Str) : z.length = z.cps.toList.length := by
  show z.cps.size = _
  simp
theorem cat_len (x y : Str) : (x ++ y).length = x.length + y.length := by
  rw [str_len, str_len, str_len, ← List.length_append]
  show (x.cps ++ y.cps).toList.length = _
  rw [Array.toList_append]
end G
/-! own rules, fourth part: what the head tells -/
namespace G
open PySem PySem.Spec PyProof.Rows L2
/-! ### the head: He's facts, a list of further Bools, the getters of properties -/
/-- the property f of the class named c, its getter -/
def prA (K : PySem.W.Frag) (c f : Str) : Addr := match PySem.W.findIn K (.ref (He.ga K c)) f with
  | some (some (.ref p)) => p
  | _ => 0
def grA (K : PySem.W.Frag) (p : Addr) (T : String) : Addr := match PySem.W.recIn K p T with
  | some (.ref g :: _) => g
  | _ => 0
/-- one getter: its class, its name, the def -/
structure GetD where
  cls : Str
  name : Str
  kind : String
  params : Arguments
  body : List Stmt
  scope : Scope
def GetD.at (d : GetD) (K : PySem.W.Frag) : Addr := grA K (prA K d.cls d.name) d.kind
abbrev ObsF : Type := Option (Str × Str × Arguments × FuncBody × Scope × Addr × List (Str × Addr) × Value × Addr)
def obsF (K : PySem.W.Frag) (a : Addr) : ObsF := match K.lookup a with
  | some ⟨_, _, .func fd, _⟩ => some (fd.name, fd.qualname, fd.params, fd.body, fd.scope, fd.globals, fd.closure, fd.defaults, fd.builtins)
  | _ => none
def GetD.qual (d : GetD) : Str := d.cls ++ ("." ++ d.name)
def GetD.val (d : GetD) : ObsF := some (d.name, d.qual, d.params, .stmts d.body, d.scope, mainGlobals, [], .none, builtinsNs)
def GetD.ok (d : GetD) (K : PySem.W.Frag) : Bool :=
  decide (PySem.W.findIn K (.ref (He.ga K d.cls)) d.name = some (some (.ref (prA K d.cls d.name)))) &&
  (decide (PySem.W.specialIn K (.ref (prA K d.cls d.name)) "__get__" = some (some (.builtin (d.kind ++ ".__get__")))) &&
  (decide (PySem.W.takesIn K (.ref (prA K d.cls d.name)) = some (d.kind == "property")) &&
  ((match PySem.W.recIn K (prA K d.cls d.name) d.kind with
    | some (.ref g :: _) => decide (g = d.at K)
    | _ => false) &&
  (match K.lookup (d.at K) with
    | some ⟨_, _, .func fd, _⟩ => PySem.W.codeIn K fd.code d.qual
    | _ => false))))
theorem GetD.prop {d : GetD} {K : PySem.W.Frag} (hk : d.kind = "property") (h : d.ok K = true) : PropOf K (He.ga K d.cls) d.name (prA K d.cls d.name) (d.at K) := by
  obtain ⟨h1, h⟩ := He.ba h
  obtain ⟨h2, h⟩ := He.ba h
  obtain ⟨h3, h⟩ := He.ba h
  obtain ⟨h4, _⟩ := He.ba h
  refine ⟨of_decide_eq_true h1, ?_, (by have e := of_decide_eq_true h3; rw [hk] at e; simpa using e), ?_⟩
  · have e := of_decide_eq_true h2
    rw [hk] at e
    exact e
  · rw [hk] at h4
    split at h4
    · rename_i g r e
      have eg : g = d.at K := of_decide_eq_true h4
      exact ⟨r, by rw [e, eg]⟩
    · cases h4
theorem GetD.fn {d : GetD} {K : PySem.W.Frag} (e : obsF K (d.at K) = d.val) (h : d.ok K = true) :
    ∃ oc od osl kV doc pm an cdv ct, K.lookup (d.at K) = some ⟨oc, od, .func (PySem.W.fnOf d.name d.qual d.params d.body d.scope .none kV doc pm an cdv ct), osl⟩ ∧ PySem.W.codeIn K cdv d.qual = true := by
  obtain ⟨_, h⟩ := He.ba h
  obtain ⟨_, h⟩ := He.ba h
  obtain ⟨_, h⟩ := He.ba h
  obtain ⟨_, c⟩ := He.ba h
  unfold obsF at e
  cases q : K.lookup (d.at K) with
  | none => rw [q] at c; cases c
  | some o =>
    obtain ⟨oc, od, dt, osl⟩ := o
    rw [q] at c e
    cases dt with
    | func fd =>
      obtain ⟨a1, a2, a3, a4, a5, a6, a7, a8, a9, a10, a11, a12, a13, a14, a15⟩ := fd
      have e2 : (some (a1, a2, a3, a4, a5, a6, a7, a8, a15) : ObsF) = some (d.name, d.qual, d.params, .stmts d.body, d.scope, mainGlobals, [], .none, builtinsNs) := e
      simp only [Option.some.injEq, Prod.mk.injEq] at e2
      obtain ⟨rfl, rfl, rfl, rfl, rfl, rfl, rfl, rfl, rfl⟩ := e2
      exact ⟨oc, od, osl, a9, a10, a11, a12, a13, a14, rfl, c⟩
    | _ => cases c
/-- a def that stands in a record (of a classmethod), without defaults -/
theorem GetD.fund {d : GetD} {K : PySem.W.Frag} (e : obsF K (d.at K) = d.val) (h : d.ok K = true) (kp : PySem.W.keepIn K (.ref (d.at K)) = true) :
    ∃ fd, FunD K d.name d.qual d.params d.body d.scope [] [] (d.at K) fd := by
  obtain ⟨oc, od, osl, kV, doc, pm, an, cdv, ct, lk, hcd⟩ := d.fn e h
  exact ⟨_, ⟨⟨oc, od, .none, kV, doc, pm, an, cdv, ct, osl, rfl, lk, hcd, .inl ⟨rfl, rfl⟩, .inl rfl⟩, kp⟩⟩
abbrev AlG : Type := He.AlD × Bool × List ObsF
def obsK (fa : List He.Fa) (fn : List He.DefD) (gs : List GetD) (ex : List (PySem.W.Frag → Bool)) (K : PySem.W.Frag) : AlG :=
  (He.obsD fa fn K, (ex.all fun f => f K) && gs.all fun d => d.ok K, gs.map fun d => obsF K (d.at K))
def valK (fn : List He.DefD) (gs : List GetD) : AlG := (He.valD fn, true, gs.map GetD.val)
def obsKG (n : Nat) (fa : List He.Fa) (fn : List He.DefD) (gs : List GetD) (ex : List (PySem.W.Frag → Bool)) (g : Addr → Option Obj) : AlG :=
  obsK fa fn gs ex (He.frG g (He.asD g n ++ [cStatics, sysModules]))
def SaysG (fa : List He.Fa) (fn : List He.DefD) (gs : List GetD) (ex : List (PySem.W.Frag → Bool)) (K : PySem.W.Frag) : Prop := obsK fa fn gs ex K = valK fn gs
def hookG (n : Nat) (fa : List He.Fa) (fn : List He.DefD) (gs : List GetD) (ex : List (PySem.W.Frag → Bool)) : PySem.W.Hook where
  α := AlG
  obs := fun s => obsKG n fa fn gs ex s.heap.get?
  val := fun _ => valK fn gs
  says := fun _ h => ∃ K : PySem.W.Frag, K.In h ∧ SaysG fa fn gs ex K
  of := fun _ _ e => ⟨_, He.frG_in, e⟩
  keeps := fun _ _ _ ⟨K, hK, c⟩ k => ⟨K, PySem.W.Frag.In.keeps hK k, c⟩
theorem obsKG_eq {n : Nat} {fa : List He.Fa} {fn : List He.DefD} {gs : List GetD} {ex : List (PySem.W.Frag → Bool)} {g : Addr → Option Obj} {s : Shared}
    (h : ∀ a, g a = s.heap.get? a) : obsKG n fa fn gs ex g = (hookG n fa fn gs ex).obs s := by
  have e : g = s.heap.get? := funext h
  rw [e]
  rfl
section
variable {fa : List He.Fa} {fn : List He.DefD} {gs : List GetD} {ex : List (PySem.W.Frag → Bool)} {K : PySem.W.Frag}
theorem SaysG.d (c : SaysG fa fn gs ex K) : He.SaysD fa fn K := congrArg (fun z : AlG => z.1) c
theorem SaysG.more (c : SaysG fa fn gs ex K) (i : Nat) {f : PySem.W.Frag → Bool} (h : ex[i]? = some f := by rfl) : f K = true := by
  have c1 := (He.ba (show ((ex.all fun f => f K) && gs.all fun d => d.ok K) = true from congrArg (fun z : AlG => z.2.1) c)).1
  exact List.all_eq_true.mp c1 f (List.mem_of_getElem? h)
theorem SaysG.getter (c : SaysG fa fn gs ex K) (i : Nat) {d : GetD} (h : gs[i]? = some d := by rfl) : d.ok K = true ∧ obsF K (d.at K) = d.val := by
  have c1 := (He.ba (show ((ex.all fun f => f K) && gs.all fun d => d.ok K) = true from congrArg (fun z : AlG => z.2.1) c)).2
  have e : gs.map (fun d => obsF K (d.at K)) = gs.map GetD.val := congrArg (fun z : AlG => z.2.2) c
  refine ⟨List.all_eq_true.mp c1 d (List.mem_of_getElem? h), ?_⟩
  have e2 : (gs.map fun d => obsF K (d.at K))[i]? = (gs.map GetD.val)[i]? := by rw [e]
  rw [List.getElem?_map, List.getElem?_map, h] at e2
  exact Option.some.inj e2
end
/-! ### what the walk wants of a class -/
def btys : List String := ["NoneType", "bool", "int", "str", "list", "tuple", "dict"]
/-- for isinstance and == -/
structure ClsI (K : PySem.W.Frag) (C : Addr) : Prop where
  ha : PySem.W.findIn K (.ref C) "__class__" = some (some (.builtin "object.__class__"))
  hn : PySem.W.specialIn K (.builtin "object.__class__") "__get__" = some (some (.builtin "getset_descriptor.__get__"))
  htk : PySem.W.takesIn K (.builtin "object.__class__") = some true
  hm : PySem.W.mroIn K C (.type "object") = some true
  me : PySem.W.kitOne K (.ref C) (.ref C) = some true
  /-- a built-in thing is none of it -/
  bt : ∀ t ∈ btys, PySem.W.kitOne K (.type t) (.ref C) = some false
  /-- it is no built-in thing -/
  tb : ∀ t ∈ btys, PySem.W.kitOne K (.ref C) (.type t) = some false
  nf : ∀ t ∈ btys, PySem.W.notFirst K C (.type t) = true
def clsIB (c : Str) (K : PySem.W.Frag) : Bool :=
  decide (PySem.W.findIn K (.ref (He.ga K c)) "__class__" = some (some (.builtin "object.__class__"))) &&
  (decide (PySem.W.specialIn K (.builtin "object.__class__") "__get__" = some (some (.builtin "getset_descriptor.__get__"))) &&
  (decide (PySem.W.takesIn K (.builtin "object.__class__") = some true) &&
  (decide (PySem.W.mroIn K (He.ga K c) (.type "object") = some true) &&
  (decide (PySem.W.kitOne K (.ref (He.ga K c)) (.ref (He.ga K c)) = some true) &&
  ((btys.all fun t => decide (PySem.W.kitOne K (.type t) (.ref (He.ga K c)) = some false)) &&
  ((btys.all fun t => decide (PySem.W.kitOne K (.ref (He.ga K c)) (.type t) = some false)) &&
  (btys.all fun t => PySem.W.notFirst K (He.ga K c) (.type t))))))))
theorem clsI_of {c : Str} {K : PySem.W.Frag} (h : clsIB c K = true) : ClsI K (He.ga K c) := by
  obtain ⟨h1, h⟩ := He.ba h
  obtain ⟨h2, h⟩ := He.ba h
  obtain ⟨h3, h⟩ := He.ba h
  obtain ⟨h4, h⟩ := He.ba h
  obtain ⟨h5, h⟩ := He.ba h
  obtain ⟨h6, h⟩ := He.ba h
  obtain ⟨h7, h8⟩ := He.ba h
  exact ⟨of_decide_eq_true h1, of_decide_eq_true h2, of_decide_eq_true h3, of_decide_eq_true h4, of_decide_eq_true h5,
    fun t ht => of_decide_eq_true (List.all_eq_true.mp h6 t ht), fun t ht => of_decide_eq_true (List.all_eq_true.mp h7 t ht), fun t ht => List.all_eq_true.mp h8 t ht⟩
/-- an instance's type -/
theorem ClsI.ty {K : PySem.W.Frag} {C : Addr} (c : ClsI K C) (cl : Cls K C) {H : Hp} {a dx : Addr} {fs : List (Str × V)} (e : H a = some (.ins C dx fs)) : TyOf K H (.ref a) (.ref C) :=
  .ins e cl c.ha c.hn c.htk c.hm
/-- two unlike classes -/
structure ClsJ (K : PySem.W.Frag) (C D : Addr) : Prop where
  no : PySem.W.kitOne K (.ref C) (.ref D) = some false
  nf : PySem.W.notFirst K C (.ref D) = true
def clsJB (c d : Str) (K : PySem.W.Frag) : Bool :=
  decide (PySem.W.kitOne K (.ref (He.ga K c)) (.ref (He.ga K d)) = some false) && PySem.W.notFirst K (He.ga K c) (.ref (He.ga K d))
theorem clsJ_of {c d : Str} {K : PySem.W.Frag} (h : clsJB c d K = true) : ClsJ K (He.ga K c) (He.ga K d) := by
  obtain ⟨h1, h2⟩ := He.ba h
  exact ⟨of_decide_eq_true h1, h2⟩
def eqCB (c : Str) (K : PySem.W.Frag) : Bool :=
  decide (PySem.W.findIn K (.ref (He.ga K c)) "__eq__" = some (some (.ref (He.ma K (He.ga K c) "__eq__")))) &&
  (PySem.W.isFn K (.ref (He.ma K (He.ga K c) "__eq__")) &&
  (decide (PySem.W.findIn K (.ref (He.ga K c)) "__ne__" = some (some (.builtin "object.__ne__"))) &&
  decide (PySem.W.mroIn K (He.ga K c) (.type "object") = some true)))
theorem eqC_of {c : Str} {K : PySem.W.Frag} (h : eqCB c K = true) : EqC K (He.ga K c) (He.ma K (He.ga K c) "__eq__") := by
  obtain ⟨h1, h⟩ := He.ba h
  obtain ⟨h2, h⟩ := He.ba h
  obtain ⟨h3, h4⟩ := He.ba h
  exact ⟨of_decide_eq_true h1, h2, of_decide_eq_true h3, of_decide_eq_true h4⟩
/-- the class has no attribute of that name at all -/
def noB (c f : Str) (K : PySem.W.Frag) : Bool := decide (PySem.W.findIn K (.ref (He.ga K c)) f = some none)
theorem no_of {c f : Str} {K : PySem.W.Frag} (h : noB c f K = true) : PySem.W.findIn K (.ref (He.ga K c)) f = some none := of_decide_eq_true h
def lenB (c : Str) (K : PySem.W.Frag) : Bool :=
  decide (PySem.W.findIn K (.ref (He.ga K c)) "__len__" = some (some (.ref (He.ma K (He.ga K c) "__len__")))) && PySem.W.isFn K (.ref (He.ma K (He.ga K c) "__len__"))
theorem len_of {c : Str} {K : PySem.W.Frag} (h : lenB c K = true) : PySem.W.findIn K (.ref (He.ga K c)) "__len__" = some (some (.ref (He.ma K (He.ga K c) "__len__"))) ∧
    PySem.W.isFn K (.ref (He.ma K (He.ga K c) "__len__")) = true := by
  obtain ⟨h1, h2⟩ := He.ba h
  exact ⟨of_decide_eq_true h1, h2⟩
/-- the class's own method of that name -/
def mthB (c f : Str) (K : PySem.W.Frag) : Bool :=
  decide (PySem.W.findIn K (.ref (He.ga K c)) f = some (some (.ref (He.ma K (He.ga K c) f)))) && PySem.W.isFn K (.ref (He.ma K (He.ga K c) f))
theorem mth_of {c f : Str} {K : PySem.W.Frag} (h : mthB c f K = true) : PySem.W.findIn K (.ref (He.ga K c)) f = some (some (.ref (He.ma K (He.ga K c) f))) ∧
    PySem.W.isFn K (.ref (He.ma K (He.ga K c) f)) = true := by
  obtain ⟨h1, h2⟩ := He.ba h
  exact ⟨of_decide_eq_true h1, h2⟩
/-- an empty tuple stands at a -/
def noneIn (K : PySem.W.Frag) (a : Addr) : Bool := match K.lookup a with
  | some ⟨.type "tuple", _, .seq its _, _⟩ => its.size == 0
  | _ => false
theorem noneIn_of {K : PySem.W.Frag} {a : Addr} (h : noneIn K a = true) : ∀ H, SqT K H a [] := by
  intro H
  unfold noneIn at h
  split at h
  · rename_i d its n sl e
    have z : its = #[] := Array.eq_empty_of_size_eq_zero (eq_of_beq h)
    subst z
    exact .inr ⟨_, _, _, e, rfl, rfl, Nat.zero_le _, .nil⟩
  · cases h
/-- the getter's promise -/
theorem getP_of {P : Program} {w : World} {K : PySem.W.Frag} {mg : Str → Option Value} {base : Heap} {d : GetD} {fld : Str} {p1 p2 p3 : Pos}
    (e : obsF K (d.at K) = d.val) (h : d.ok K = true) (hk : d.kind = "property") (cl : Cls K (He.ga K d.cls)) (na : NoAttr K (He.ga K d.cls) fld)
    (S : FnScope ["self"] ["self"] d.scope) (hb : d.body = [.Return (some (.Attribute (.Name "self" p1) fld p2)) p3])
    (hbind : ∀ (kV doc pm : Value) (an : Option Addr) (cdv ct : Value) (us : List Value), us.length = 1 → bindArgs (PySem.W.fnOf d.name d.qual d.params d.body d.scope .none kV doc pm an cdv ct) ⟨us, []⟩ = pure ((["self"] : List Str).zip us)) :
    GetP P w K mg base 1 (He.ga K d.cls) d.name fld := by
  obtain ⟨oc, od, osl, kV, doc, pm, an, cdv, ct, lk, hcd⟩ := d.fn e h
  exact ⟨_, _, _, ["self"], cl, d.prop hk h, fn_getter lk hcd S rfl hb cl na, .all (hbind kV doc pm an cdv ct)⟩
end G
namespace G
open PySem PySem.Spec PyProof.Rows L2
/-! ### methods by their names, with values or with keywords alone -/
/-- the method m of the class at C: all that a call wants -/
def MetC (P : Program) (w : World) (K : PySem.W.Frag) (mg : Str → Option Value) (base : Heap) (CX : CXT) (k : Nat) (C : Addr) (m : Str)
    (dvs : List V) (sp : Sp) : Prop :=
  ∃ f fd ps ds, Cls K C ∧ Meth K C m f ∧ FnOk P w K mg base CX k f fd ps sp ∧ Binds K fd ps ds ∧ Vals dvs ds
/-- .. with the keywords ks alone -/
def MetN (P : Program) (w : World) (K : PySem.W.Frag) (mg : Str → Option Value) (base : Heap) (CX : CXT) (k : Nat) (C : Addr) (m : Str)
    (ks : List Str) (gV : List V → List V → List V) (sp : Sp) : Prop :=
  ∃ f fd ps g, Cls K C ∧ Meth K C m f ∧ FnOk P w K mg base CX k f fd ps sp ∧ KBn K fd ps 1 ks g gV
def tMethN (C : Addr) (m : Str) (n : Nat) (sp : Sp) (gV : List V → List V → List V) (E : XK) (ta : TE) (tk : TA) : TE := fun σ H Q => ta σ H fun x H1 => ∃ a dx fs, x = .ref a ∧ H1 a = some (.ins C dx fs) ∧ fs.lookup m = none ∧
  tk σ H1 fun zs H2 => zs.length = n ∧ sp (gV [x] zs) H2 Q E
section
variable {X : Cx} {CX : CXT} {k j : Nat} {C : Addr} {sp : Sp} {dvs : List V} {ks : List Str} {gV : List V → List V → List V}
variable {E : XK} {m : Str} {pos apos : Pos} {o e : Expr} {es : List Expr} {kws : List Keyword} {ta : TE} {t tk : TA}
/-- o.m(e, ..) -/
theorem pe_met {pl : Sem Bool} (c : MetC X.prog X.w X.K X.mg X.base CX k C m dvs sp) (hr : Room k X.A) (hx : Passes CX X E) (he : PE X o ta) (ha : PA X (e :: es) t)
    (hst : starEach (e :: es) X.env = (false, eval e X.env) :: starEach es X.env := by rfl) (hpl : (backTo pos (starEach es X.env)).any (·.1) = false := by rfl)
    (ht : eval (.Call (.Attribute o m apos) (e :: es) [] pos) X.env = (do
      let ov ← eval o X.env
      standAt apos.atName
      let (f, first) ← holding [ov] (getMethod ov m pl)
      callWith pos f first (backTo pos (starEach (e :: es) X.env)) (backToKw pos (keywordEach [] X.env))) := by rfl) :
    PE X (.Call (.Attribute o m apos) (e :: es) [] pos) (tMeth C m sp dvs E ta t) := by
  obtain ⟨f, fd, ps, ds, cl, hm, F, hb, hd⟩ := c
  exact pe_meth (pl := pl) he cl hm F hr hb hd hx ha hst hpl ht
/-- o.m(k = v, ..) -/
theorem pe_metN {pl : Sem Bool} (c : MetN X.prog X.w X.K X.mg X.base CX k C m ks gV sp) (hr : Room k X.A) (hx : Passes CX X E) (he : PE X o ta) (hkw : PK X kws tk)
    (hall : (backToKw pos (keywordEach kws X.env)).all (·.1.isSome) = true := by rfl) (hks : (backToKw pos (keywordEach kws X.env)).filterMap (·.1) = ks := by rfl)
    (hpl : ((backTo pos (starEach [] X.env)).any (·.1) || (backToKw pos (keywordEach kws X.env)).any (·.1.isNone)) = false := by rfl)
    (ht : eval (.Call (.Attribute o m apos) [] kws pos) X.env = (do
      let ov ← eval o X.env
      standAt apos.atName
      let (f, first) ← holding [ov] (getMethod ov m pl)
      callWith pos f first (backTo pos (starEach [] X.env)) (backToKw pos (keywordEach kws X.env))) := by rfl) :
    PE X (.Call (.Attribute o m apos) [] kws pos) (tMethN C m ks.length sp gV E ta tk) := by
  obtain ⟨f, fd, ps, g, cl, hm, F, hb⟩ := c
  refine ⟨fun pins s σ H Q I h => ?_⟩
  refine PySem.W.methodCall_KW (pl := pl) (thn (he.run pins s σ H _ I h) fun u s1 ⟨x, H1, I1, rx, a, dx, fs, ex, ea, l, q⟩ => ?_) ht
  subst ex
  obtain rfl : u = Value.ref a := rx
  refine getmeth_ok I1 ea cl hm l ?_
  refine PySem.W.callWith_KW0 (first := [.ref a]) (h₀ := X.base) I.ok.mod.kin hm.kp hall ?_ hpl
  refine thn (hkw.run pos pins s1 σ H1 _ I1 q) fun ws s2 ⟨zs, H2, I2, rz, l2, q2⟩ => ⟨I2.kIn, ?_⟩
  rw [hks]
  exact run_fnN (us := [.ref a]) (vs := [.ref a]) F hr hb hx I2 (.cons rfl .nil) rz rfl l2 q2
end
end G
/-! own rules: a class called by a local name, classmethods with values or with keywords -/
namespace G
open PySem PySem.Spec PyProof.Rows L2 ClX
/-! ### a class called by a local name -/
def tMakeL (i : Nat) (C : Addr) (sp : Sp) (dvs : List V) (E : XK) (t : TA) : TE := fun σ H Q => σ[i]? = some (some (.ref C)) ∧ tMake C sp dvs E t σ H Q
section
variable {X : Cx} {CX : CXT} {k i : Nat} {C : Addr} {sp : Sp} {dvs : List V} {E : XK} {x x0 : Str} {p pos : Pos} {e : Expr} {es : List Expr} {t : TA}
theorem pe_mkL (c : CalC X.prog X.w X.K X.mg X.base CX k x0 C dvs sp) (hr : Room (k + 1) X.A) (hx : Passes CX X E) (hN : X.N[i]? = some x) (hv : Vis X.env.scope x)
    (ha : PA X (e :: es) t) (hdb : (x == ("__debug__" : Str)) = false := by decide) (hcd : (x == ("__classdict__" : Str)) = false := by decide)
    (he : starEach (e :: es) X.env = (false, eval e X.env) :: starEach es X.env := by rfl)
    (hpl : (backTo pos (starEach es X.env)).any (·.1) = false := by rfl) :
    PE X (.Call (.Name x p) (e :: es) [] pos) (tMakeL i C sp dvs E t) := by
  obtain ⟨f, fd, ps, ds, M, Fn, hm, hb, hd⟩ := c
  refine ⟨fun pins s σ H Q I h => ?_⟩
  obtain ⟨hs, ht⟩ := h
  refine wpAny_Call_Name_kw (thn ((pe_var (pos := p) hN hv hdb hcd).run pins s σ H (fun v H1 => v = .ref C ∧ H1 = H) I ⟨.ref C, hs, rfl, rfl⟩) fun u s1 ⟨v, H1, I1, r1, q1⟩ => ?_)
  obtain ⟨rfl, rfl⟩ := q1
  cases r1
  refine PySem.W.callWith_K (h₀ := X.base) I.ok.mod.kin M.kp (thn (ha.run pos pins s1 σ _ _ I1 ht) fun us s2 ⟨vs, H2, I2, r, q⟩ => ⟨I2.kIn, ?_⟩) he hpl
  exact run_make M Fn hr hb hd hx I2 r q
end
/-! ### classmethods -/
/-- the classmethod m of the class at C, called with all its arguments, or with the keywords ks alone -/
def CmeC (P : Program) (w : World) (K : PySem.W.Frag) (mg : Str → Option Value) (base : Heap) (CX : CXT) (k : Nat) (C : Addr) (m : Str)
    (ks : List Str) (gV : List V → List V → List V) (sp : Sp) : Prop :=
  ∃ p f fd ps g, CRead K C (.type "type") ∧ CMet K C (.type "type") m p f ∧ CInst K C m p f ∧ FnOk P w K mg base CX k f fd ps sp ∧ Binds K fd ps [] ∧ KBn K fd ps 1 ks g gV
def tCMethN (C : Addr) (n : Nat) (sp : Sp) (gV : List V → List V → List V) (E : XK) (ta : TE) (tk : TA) : TE := fun σ H Q => ta σ H fun x H1 => x = .ref C ∧
  tk σ H1 fun zs H2 => zs.length = n ∧ sp (gV [.ref C] zs) H2 Q E
section
variable {X : Cx} {CX : CXT} {k : Nat} {C : Addr} {sp : Sp} {ks : List Str} {gV : List V → List V → List V}
variable {E : XK} {m : Str} {pos apos : Pos} {o e : Expr} {es : List Expr} {kws : List Keyword} {ta : TE} {t tk : TA}
/-- C.m(e, ..) -/
theorem pe_cme {pl : Sem Bool} (c : CmeC X.prog X.w X.K X.mg X.base CX k C m ks gV sp) (hr : Room k X.A) (hx : Passes CX X E) (he : PE X o ta) (ha : PA X (e :: es) t)
    (hst : starEach (e :: es) X.env = (false, eval e X.env) :: starEach es X.env := by rfl) (hpl : (backTo pos (starEach es X.env)).any (·.1) = false := by rfl)
    (ht : eval (.Call (.Attribute o m apos) (e :: es) [] pos) X.env = (do
      let ov ← eval o X.env
      standAt apos.atName
      let (f, first) ← holding [ov] (getMethod ov m pl)
      callWith pos f first (backTo pos (starEach (e :: es) X.env)) (backToKw pos (keywordEach [] X.env))) := by rfl) :
    PE X (.Call (.Attribute o m apos) (e :: es) [] pos) (tCMeth C (fun vs H Q E => sp (vs ++ []) H Q E) E ta t) := by
  obtain ⟨p, f, fd, ps, g, rd, cm, ci, F, hb, hk⟩ := c
  exact pe_cmeth (pl := pl) he rd cm (F.raw hb .nil) hr hx ha hst hpl ht
/-- o.m(e, ..), o an instance of the class -/
theorem pe_ime {pl : Sem Bool} (c : CmeC X.prog X.w X.K X.mg X.base CX k C m ks gV sp) (hr : Room k X.A) (hx : Passes CX X E) (he : PE X o ta) (ha : PA X (e :: es) t)
    (hst : starEach (e :: es) X.env = (false, eval e X.env) :: starEach es X.env := by rfl) (hpl : (backTo pos (starEach es X.env)).any (·.1) = false := by rfl)
    (ht : eval (.Call (.Attribute o m apos) (e :: es) [] pos) X.env = (do
      let ov ← eval o X.env
      standAt apos.atName
      let (f, first) ← holding [ov] (getMethod ov m pl)
      callWith pos f first (backTo pos (starEach (e :: es) X.env)) (backToKw pos (keywordEach [] X.env))) := by rfl) :
    PE X (.Call (.Attribute o m apos) (e :: es) [] pos) (tIMethD C m (fun vs H Q E => sp (vs ++ []) H Q E) E ta t) := by
  obtain ⟨p, f, fd, ps, g, rd, cm, ci, F, hb, hk⟩ := c
  exact pe_imethD (pl := pl) he ci (F.raw hb .nil) hr hx ha hst hpl ht
/-- C.m(k = v, ..) -/
theorem pe_cmeN {pl : Sem Bool} (c : CmeC X.prog X.w X.K X.mg X.base CX k C m ks gV sp) (hr : Room k X.A) (hx : Passes CX X E) (he : PE X o ta) (hkw : PK X kws tk)
    (hall : (backToKw pos (keywordEach kws X.env)).all (·.1.isSome) = true := by rfl) (hks : (backToKw pos (keywordEach kws X.env)).filterMap (·.1) = ks := by rfl)
    (hpl : ((backTo pos (starEach [] X.env)).any (·.1) || (backToKw pos (keywordEach kws X.env)).any (·.1.isNone)) = false := by rfl)
    (ht : eval (.Call (.Attribute o m apos) [] kws pos) X.env = (do
      let ov ← eval o X.env
      standAt apos.atName
      let (f, first) ← holding [ov] (getMethod ov m pl)
      callWith pos f first (backTo pos (starEach [] X.env)) (backToKw pos (keywordEach kws X.env))) := by rfl) :
    PE X (.Call (.Attribute o m apos) [] kws pos) (tCMethN C ks.length sp gV E ta tk) := by
  obtain ⟨p, f, fd, ps, g, rd, cm, ci, F, hb, hk⟩ := c
  refine ⟨fun pins s σ H Q I h => ?_⟩
  refine PySem.W.methodCall_KW (pl := pl) (thn (he.run pins s σ H _ I h) fun u s1 ⟨x, H1, I1, rx, ex, q⟩ => ?_) ht
  subst ex
  obtain rfl : u = Value.ref C := rx
  refine getmethcm_ok I1 rd cm fun s2 I2 => ?_
  refine PySem.W.callWith_of hpl (PySem.W.keeps_M (self := .ref C) cm.fi) (evalArgs_kw2_nil hall ?_)
  refine thn (hkw.run pos _ s2 σ H1 _ I2 q) fun ws s3 ⟨zs, H2, I3, rz, l2, q2⟩ => ⟨⟨pin_at I3, I3.kIn⟩, ?_⟩
  rw [hks]
  have r2 := hk.rel (show Vals [V.ref C] [Value.ref C] from .cons rfl .nil) rz
  have z : wpAny (model X.prog X.w) X.A (call (.ref s1.heap.objs.size) ([] ++ []) (ks.zip ws)) (EP X ((s1.heap.objs.size, PySem.W.methodObj (.ref f) (.ref C)) :: pins) σ Q) X.xe s3 := by
    refine wpAny_call (PySem.W.method_call (pin_at I3) (codeAny_mono (F.run X.A X.stack s3 H2 ⟨[.ref C], ks.zip ws⟩ (g [.ref C] ws) (gV [.ref C] zs) Q E hr I3.env0 (hk.to s3 [.ref C] ws I3.kIn rfl (rz.length.symm.trans l2)) r2 q2) fun r s' hq => ?_))
    cases r with
    | error e => exact hx _ σ H2 s3 e s' I3 hq
    | ok fl =>
      cases fl with
      | ret u => exact I3.after hq
      | next => exact False.elim hq
      | brk => exact False.elim hq
      | cont => exact False.elim hq
  exact thn z fun _ _ y => unpinE y
end
/-! ### what the head tells of a classmethod -/
def cmeB (c m : Str) (K : PySem.W.Frag) : Bool :=
  (PySem.W.readsIn K (He.ga K c) (.type "type") && decide (PySem.W.specialIn K (.ref (He.ga K c)) "__getattribute__" = some (some (.builtin "type.__getattribute__")))) &&
  ((match PySem.W.findCls K (.ref (He.ga K c)) (.type "type") m with
    | some (.get (.builtin g) (.ref p) .none (.ref D)) => decide (g = "classmethod.__get__") && (decide (p = prA K c m) && decide (D = He.ga K c))
    | _ => false) &&
  ((match PySem.W.recIn K (prA K c m) "classmethod" with
    | some (.ref g :: _) => decide (g = grA K (prA K c m) "classmethod")
    | _ => false) &&
  (PySem.W.fnIn K (grA K (prA K c m) "classmethod") &&
  (PySem.W.plainGet K (He.ga K c) Str.empty &&
  (PySem.W.isClsIn K (He.ga K c) &&
  (decide (PySem.W.findIn K (.ref (He.ga K c)) m = some (some (.ref (prA K c m)))) &&
  (decide (PySem.W.typeIn K (.ref (prA K c m)) = some (.type "classmethod")) &&
  (decide (PySem.W.specialIn K (.ref (prA K c m)) "__get__" = some (some (.builtin "classmethod.__get__"))) &&
  (decide (PySem.W.takesIn K (.ref (prA K c m)) = some false) &&
  (PySem.W.keepIn K (.ref (grA K (prA K c m) "classmethod")) &&
  !PySem.W.copiedNames.contains m))))))))))
theorem cme_of {c m : Str} {K : PySem.W.Frag} (h : cmeB c m K = true) : CRead K (He.ga K c) (.type "type") ∧ CMet K (He.ga K c) (.type "type") m (prA K c m) (grA K (prA K c m) "classmethod") ∧
    CInst K (He.ga K c) m (prA K c m) (grA K (prA K c m) "classmethod") ∧ PySem.W.keepIn K (.ref (grA K (prA K c m) "classmethod")) = true := by
  obtain ⟨h1, h⟩ := He.ba h
  obtain ⟨h2, h⟩ := He.ba h
  obtain ⟨h3, h⟩ := He.ba h
  obtain ⟨h4, h⟩ := He.ba h
  obtain ⟨h5, h⟩ := He.ba h
  obtain ⟨h6, h⟩ := He.ba h
  obtain ⟨h7, h⟩ := He.ba h
  obtain ⟨h8, h⟩ := He.ba h
  obtain ⟨h9, h⟩ := He.ba h
  obtain ⟨h10, h⟩ := He.ba h
  obtain ⟨h12, h11⟩ := He.ba h
  obtain ⟨a1, a2⟩ := He.ba h1
  have rc : ∃ rest, PySem.W.recIn K (prA K c m) "classmethod" = some (.ref (grA K (prA K c m) "classmethod") :: rest) := by
    split at h3
    · rename_i g r e
      exact ⟨r, by rw [e, of_decide_eq_true h3]⟩
    · cases h3
  refine ⟨⟨a1, of_decide_eq_true a2⟩, ⟨?_, rc, h4⟩, ⟨h5, h6, of_decide_eq_true h7, of_decide_eq_true h8, of_decide_eq_true h9, of_decide_eq_true h10, by simpa using h11, rc, h4⟩, h12⟩
  split at h2
  · rename_i g p D e
    obtain ⟨k1, k⟩ := He.ba h2
    obtain ⟨k2, k3⟩ := He.ba k
    rw [e, of_decide_eq_true k1, of_decide_eq_true k2, of_decide_eq_true k3]
  · cases h2
end G
/-! own rules, fourth part: x, *more = a list; enumerate over a tuple -/
namespace G
open PySem PySem.Spec PyProof.Rows L2

/-! ### x, .., *more = a list -/
theorem star_run {P : Program} {w : World} {A : Around} {E : Value → Shared → Prop} {s : Shared} {l : Addr} {its : Array Value} {k : Nat} {Q : List Value → Shared → Prop}
    (pl : s.heap.IsList l its) (calm : A.handled = none) (hk : k ≤ its.size) (hz : its.size ≤ sizeLine)
    (q : ∀ (hp : Heap) (tk : Nat), (∀ b o, s.heap.get? b = some o → hp.get? b = some o) →
      Q (its.toList.take k ++ [.ref hp.objs.size]) { s with heap := hp.push { cls := .type "list", data := .seq (its.toList.drop k).toArray }, toks := tk }) :
    wpAny (model P w) A (unpackItems (.ref l) (k + 1) (some k)) Q E s := by
  have apart : l ≠ s.heap.objs.size := by
    obtain ⟨o, e, _⟩ := pl
    exact Nat.ne_of_lt (Heap.lt_size e)
  unfold unpackItems notIterableAtAll
  refine wpAny_bind (wpAny_bind (wpAny_specialOf pl.typeIs slot_list_iter.lookup (wpAny_pure ?_)))
  simp only [Bool.false_eq_true, if_false]
  refine wpAny_bind (wpAny_holding (wpAny_pyIter_list pl (wpAny_bind (wpAny_holding (PySem.W.kun_draw apart k 0 _ _ ⟨_, Heap.get?_push_size _ rfl, rfl, rfl⟩ (pl.push _) (by omega) fun h1 it1 sb1 => ?_)))))
  have pl1 : h1.IsList l its := (pl.push _).extBut sb1.extBut apart
  rw [Nat.zero_add] at it1
  obtain ⟨o1, e1, _⟩ := id it1
  obtain ⟨o2, e2, _⟩ := id pl1
  rw [List.drop_zero]
  have tl : (its.toList.take k).length = k := by
    rw [List.length_take, Array.length_toList]
    omega
  rw [if_neg (show ¬ ((its.toList.take k).length < k) by rw [tl]; omega)]
  refine wpAny_bind (wpAny_holding (PySem.W.kun_collect (s := { s with heap := h1 }) (T := "list_iterator") (.inr (.inr (.inl rfl)))
    (Walks.list (A := A.in1) calm s.heap.objs.size l apart its) (fun j u st => st.1.typeIs) (k := k) hk ⟨it1, pl1⟩ (Heap.lt_size e1) (Heap.lt_size e2) (fun h2 tk keep => ?_) hz))
  have ze : k + 1 - 1 - k = 0 := by omega
  have dl : (its.toList.drop k).length - (k + 1 - 1 - k) = (its.toList.drop k).length := by omega
  show wpAny _ _ (if (its.toList.drop k).length < k + 1 - 1 - k then _ else _) _ _ _
  rw [if_neg (by omega)]
  show wpAny _ _ (newList ((its.toList.drop k).take ((its.toList.drop k).length - (k + 1 - 1 - k))) >>= fun d =>
    pure (its.toList.take k ++ [d] ++ (its.toList.drop k).drop ((its.toList.drop k).length - (k + 1 - 1 - k)))) _ _ _
  rw [dl, List.take_length, List.drop_length]
  have old : ∀ b o, s.heap.get? b = some o → h2.get? b = some o := fun b o e => keep b o (Nat.ne_of_lt (Heap.lt_size e))
    (sb1.extBut b o (Nat.ne_of_lt (Heap.lt_size e)) (Heap.get?_push_of_some _ e))
  refine wpAny_bind (wpAny_newList (wpAny_pure ?_) (by rw [List.length_drop, Array.length_toList]; omega))
  rw [List.append_nil]
  exact q h2 tk old
def gStar (K : PySem.W.Frag) (k : Nat) (t : TGs) : TG := fun v σ H Q => ∃ a xs, v = .ref a ∧ SqL K H a xs ∧ k ≤ xs.length ∧
  ∀ D, H D = none → t (xs.take k ++ [.ref D]) σ (upd H D (.lst (xs.drop k))) Q
section
variable {X : Cx} {pos p : Pos} {e : Expr} {es : List Expr} {t : TG} {u : TGs} {k kk : Nat}
theorem pgs_star (h1 : PG X e t) (h2 : PGs X es u)
    (hs : (assignEach (.Starred e p :: es) X.env).map (·.2) = assign e X.env :: (assignEach es X.env).map (·.2) := by rfl) : PGs X (.Starred e p :: es) (gCons t u) := by
  refine ⟨fun pins s σ H vs us Q I r h => ?_⟩
  obtain ⟨v, vr, rfl, h⟩ := h
  cases r with
  | cons r rr =>
    rw [hs]
    refine assignInOrder_cons (thn (h1.run pins s σ H _ _ _ I r h) ?_)
    rintro _ s1 ⟨σ1, H1, I1, q1⟩
    exact h2.run pins s1 σ1 H1 _ _ Q I1 rr q1
theorem vals_take : ∀ {xs : List V} {us : List Value} (n : Nat), Vals xs us → Vals (xs.take n) (us.take n)
  | [], _, n, r => by cases r; rw [List.take_nil, List.take_nil]; exact .nil
  | _ :: _, _, 0, r => by rw [List.take_zero, List.take_zero]; exact .nil
  | _ :: _, _, n + 1, r => by
    cases r with
    | cons r rr => exact .cons r (vals_take n rr)
theorem vals_drop : ∀ {xs : List V} {us : List Value} (n : Nat), Vals xs us → Vals (xs.drop n) (us.drop n)
  | [], _, n, r => by cases r; rw [List.drop_nil, List.drop_nil]; exact .nil
  | _ :: _, _, 0, r => by rw [List.drop_zero, List.drop_zero]; exact r
  | _ :: _, _, n + 1, r => by
    cases r with
    | cons r rr => exact vals_drop n rr
theorem vals_app : ∀ {xs ys : List V} {us vs : List Value}, Vals xs us → Vals ys vs → Vals (xs ++ ys) (us ++ vs)
  | [], _, _, _, r, r' => by cases r; exact r'
  | _ :: _, _, _, _, r, r' => by
    cases r with
    | cons r rr => exact .cons r (vals_app rr r')
theorem pg_star (hc : X.calm = true) (h : PGs X es u) (hn : (assignEach es X.env).length = k + 1 := by rfl)
    (hst : (assignEach es X.env).findIdx? (·.1) = some k := by rfl) : PG X (.Tuple es kk pos) (gStar X.K k u) := by
  refine ⟨fun pins s σ H v w Q I r hw => ?_⟩
  obtain ⟨a, xs, rfl, hq, hl, hw⟩ := hw
  cases r
  obtain ⟨its, rv, pl, hz⟩ := I.list hq
  have el := rv.length
  rw [PyProof.Rows.assign_Tuple]
  refine wpAny_bind (wpAny_standAt ?_)
  unfold unpack
  rw [hn, hst]
  refine wpAny_bind (wpAny_holding (star_run pl.isList (I.ok.hd hc) (by rw [List.size_toArray]; omega) (by rw [List.size_toArray]; omega) fun hp tk keep => ?_))
  have I1 : Inv X pins σ H { s with heap := hp, toks := tk } := I.kept keep
  have fr : H hp.objs.size = none := I1.hok.fresh (Nat.le_refl _)
  have I2 : Inv X pins σ (upd H hp.objs.size (.lst (xs.drop k))) { s with heap := hp.push { cls := .type "list", data := .seq (its.drop k).toArray }, toks := tk } :=
    I1.laid (t' := tk) (fun b u e => Heap.get?_push_of_some _ e) (Nat.le_refl _)
      ⟨by rw [List.length_drop]; omega, its.drop k, 0, vals_drop k rv, Heap.get?_push_size _ rfl⟩
  exact h.run pins _ σ _ _ _ Q I2 (vals_app (vals_take k rv) (.cons (show RelV (V.ref hp.objs.size) (Value.ref hp.objs.size) from rfl) .nil)) (hw _ fr)
end

/-! ### enumerate(a tuple) -/
theorem enum_meets {v : Value} {o : Obj} {Hs : Heap → Prop} (B : Begins v o Hs) :
    Meets (Builtin.«enumerate.__new__» ⟨[.type "enumerate", v], []⟩) (fun _ R s => Hs s.heap ∧ R (.ok (.ret (.ref (s.heap.push o).objs.size)))
      { s with heap := (s.heap.push o).push { cls := .type "enumerate", data := .fields #[.none, .bool false, .ref s.heap.objs.size, rawInt 0, .none, .none] } }) :=
  .of_wp fun prog w A R s h => by
    obtain ⟨hp, g, d, tk, os⟩ := s
    obtain ⟨h1, h⟩ := h
    have sub := sub_enumerate
    have it : ∀ {A' : Around} {E : Value → Shared → Prop} {Q : Value → Shared → Prop}, Q (.ref hp.objs.size) ⟨hp.push o, g, d, tk, os⟩ →
        wpAny (model prog w) A' (pyIter v) Q E ⟨hp, g, d, tk, os⟩ := fun q => B.iter prog w _ _ ⟨hp, g, d, tk, os⟩ _ h1 q
    wp_walk using it
    refine wpAny_stack_any fun st => wpAny_pure ?_
    split
    · rename_i c _ _ _ _ _
      cases (c == Value.type "enumerate")
      · wp_walk using it
        exact ⟨_, rfl, h⟩
      · wp_walk using it
        exact ⟨_, rfl, h⟩
    · wp_walk using it
      exact ⟨_, rfl, h⟩
theorem enum_made {P : Program} {w : World} {A : Around} {E : Value → Shared → Prop} {s : Shared} {v : Value} {o : Obj} {Hs : Heap → Prop} {Q : Value → Shared → Prop}
    (B : Begins v o Hs) (h1 : Hs s.heap) (q : ∀ hp, IsEnum hp (s.heap.objs.size + 1) s.heap.objs.size 0 .none → hp.get? s.heap.objs.size = some o →
      (∀ b u, s.heap.get? b = some u → hp.get? b = some u) → Q (.ref (s.heap.objs.size + 1)) { s with heap := hp }) :
    wpAny (model P w) A (call (.type "enumerate") [v]) Q E s := by
  refine callType_new F.called_enumerate (by decide) (F.typeCall_enumerate_1 _) (F.newCall_enumerate_1 _) (fun obj => F.args_object_init_2 obj _) F.entry_enumerate_new (enum_meets B) ⟨h1, ?_⟩
  have z : (s.heap.push o).objs.size = s.heap.objs.size + 1 := Heap.size_push ..
  show _ ∧ _
  rw [z]
  have en : IsEnum ((s.heap.push o).push { cls := .type "enumerate", data := .fields #[.none, .bool false, .ref s.heap.objs.size, rawInt 0, .none, .none] })
      (s.heap.objs.size + 1) s.heap.objs.size 0 .none := by
    have x := Heap.get?_push_size (s.heap.push o) (o := { cls := .type "enumerate", data := .fields #[.none, .bool false, .ref s.heap.objs.size, rawInt 0, .none, .none] }) rfl
    rw [z] at x
    exact x
  exact ⟨⟨_, en, rfl⟩, q _ en (Heap.get?_push_of_some _ (Heap.get?_push_size _ B.free)) fun b u x => Heap.get?_push_of_some _ (Heap.get?_push_of_some _ x)⟩
/-- the tuple at a, each item in a new pair -/
def ItE (K : PySem.W.Frag) (a : Addr) : It :=
  ⟨fun i H => ∃ (xs : List V) (x : V), SqT K H a xs ∧ xs[i]? = some x,
    fun i H v H' => ∃ T x, v = .ref T ∧ H T = none ∧ H' = upd H T (.tup [.int (i : Nat), x]) ∧ ∀ xs, SqT K H a xs → xs[i]? = some x,
    fun i H => ∃ xs : List V, SqT K H a xs ∧ xs.length ≤ i⟩
theorem enum_end {P : Program} {w : World} {A : Around} {E : Value → Shared → Prop} {s : Shared} {e it t : Addr} {i : Nat} {c : Int} {its : Array Value} {old : Value} {Q : Option Value → Shared → Prop}
    (hh : A.handled = none) (he : IsEnum s.heap e it c old) (hit : s.heap.IsTupleIter it t i) (tp : s.heap.IsTuple t its) (lt : its.size ≤ i)
    (q : ∀ hp, Heap.ExtBut it s.heap hp → Q none { s with heap := hp }) : wpAny (model P w) A (pyNext (.ref e)) Q E s := by
  have T : s.TypeIs (.ref e) "enumerate" := ⟨_, he, rfl⟩
  unfold pyNext
  refine wpAny_bind (wpAny_attempt (wpAny_callSpecial?_slot (name := Str.ofString "__next__") T F.slot_enumerate_next (wpAny_call_entry F.slot_enumerate_next T F.entry_enumerate_next ?_ (F.args_enumerate_next_1 _))))
  show wpAny _ A.in1 (field (.ref e) 2 >>= _) _ _ s
  refine wpAny_bind (wpAny_field he rfl (x := .ref it) rfl (wpAny_bind (wpAny_nextOf_tuple_end hh hit tp (by simp; omega) fun hp x eb ob => ?_)))
  obtain ⟨o, ho, hc⟩ := ob
  exact wpAny_bind (wpAny_isInstance (T := "StopIteration") (b := true) ⟨o, ho, hc⟩ isSubtype_stop (wpAny_pure (q _ eb)))
theorem enum_turn {P : Program} {w : World} {K : PySem.W.Frag} {elts : List Expr} {kk : Nat} {tpos : Pos} (a e it : Addr) :
    Turn P w K (.Tuple elts kk tpos) (ItE K a) [e, it] e (fun i h => (∃ old, IsEnum h e it ((i : Nat) : Int) old) ∧ h.IsTupleIter it a i ∧ e ≠ it ∧ a ≠ it ∧ a ≠ e) where
  mem := List.mem_cons_self
  obj := fun i h st b hb => by
    obtain ⟨⟨old, he⟩, ⟨o, ho, hc, hd⟩, _⟩ := st
    rcases List.mem_cons.mp hb with rfl | hb
    · exact ⟨_, he, fun v q => nomatch q⟩
    · rw [List.mem_singleton.mp hb]
      exact ⟨o, ho, fun v q => by rw [hd] at q; cases q⟩
  keep := fun i h h' st k => ⟨st.1.elim fun old he => ⟨old, k e (by simp) _ he⟩, st.2.1.at fun o q => k it (by simp) o q, st.2.2⟩
  item := by
    rintro X rfl rfl rfl calm i pins s σ H E I hf ⟨⟨old, he⟩, hit, ne, ai, ae⟩ ⟨xs, x, hq, hx⟩
    obtain ⟨its, rv, tp, hz⟩ := I.tuple hq
    obtain ⟨u, hu, ru⟩ := rv.get hx
    have el := Heap.lt_size he
    have tp' : s.heap.IsTuple a its.toArray := tp
    have il : it < s.heap.objs.size := by
      obtain ⟨_, q, _⟩ := hit
      exact Heap.lt_size q
    have lt : i < its.toArray.size := by
      rw [List.size_toArray]
      exact (List.getElem?_eq_some_iff.mp hu).1
    refine PySem.wpAny_pyNext_enum_itemC (Draws.tuple (A := X.A.in1) (I.ok.hd calm) it a ai its.toArray) he ⟨hit, tp'⟩ lt ne (by simp [ne, ae.symm]) fun x2 hp tk hx2 ho st2 hT hsz hk => ?_
    have ex : x2 = u := by
      have h3 : its[i]? = some x2 := by simpa using hx2
      rw [hu] at h3
      exact (Option.some.inj h3).symm
    subst ex
    refine ⟨_, rfl, wpAny_letOwnedTupleGo_enum (s := { s with heap := hp, toks := tk + 1 }) ho fun hp2 he2 sb => ?_⟩
    have hT2 : hp2.get? s.heap.objs.size = some { cls := .type "tuple", data := .seq #[.int i tk, x2] } := (sb.2 _ (Nat.ne_of_gt el)).trans hT
    have pair : ObjOk X.prog X.w (upd H s.heap.objs.size (.tup [.int (i : Nat), x])) hp2 s.heap.objs.size (.tup [.int (i : Nat), x]) :=
      ⟨by show 2 ≤ sizeLine; decide, [.int i tk, x2], .cons ⟨_, rfl⟩ (.cons ru .nil), ⟨_, hT2, rfl, _, rfl⟩⟩
    have I1 : Inv X pins σ (upd H s.heap.objs.size (.tup [.int (i : Nat), x])) { s with heap := hp2, toks := tk + 1 } :=
      I.turnedNew (ch := [e, it]) (fun b ob hb q => (sb.2 b fun z => hb (by simp [z])).trans (hk b ob (fun z => hb (by simp [z])) (fun z => hb (by simp [z])) q)) hf (Nat.le_refl _) pair
    have e1 : ((i + 1 : Nat) : Int) = (i : Int) + 1 := by omega
    refine ⟨.ref s.heap.objs.size, _, I1, rfl, ⟨_, x, rfl, I.hok.fresh (Nat.le_refl _), rfl, fun ys hy => by rw [I.tuple_inj hy hq]; exact hx⟩,
      ⟨⟨x2, by rw [e1]; exact he2⟩, st2.1.at fun o q => (sb.2 it ne.symm).trans q, ne, ai, ae⟩, fun b hb => ?_⟩
    have lb : b < s.heap.objs.size := by
      rcases List.mem_cons.mp hb with rfl | hb
      · exact el
      · rw [List.mem_singleton.mp hb]
        exact il
    rw [upd_ne (Nat.ne_of_lt lb)]
    exact (hf b hb).1
  done := by
    rintro X rfl rfl rfl calm i pins s σ H E I hf ⟨⟨old, he⟩, hit, ne, ai, ae⟩ ⟨xs, hq, hx⟩
    obtain ⟨its, rv, tp, hz⟩ := I.tuple hq
    obtain ⟨f0, f1, f2, f3, f4, f5⟩ := hf it (by simp)
    have tp' : s.heap.IsTuple a its.toArray := tp
    have ln := rv.length
    exact enum_end (I.ok.hd calm) he hit tp' (by simp; omega) fun hp eb => ⟨rfl, I.turned (t' := s.toks) (fun b o hb q => eb b o hb q) f0 f1 f3 f4 f5⟩
  self := fun A i s Q E st h => st.1.elim fun _ he => wpAny_pyIter_enum he h
def iEnumT (K : PySem.W.Frag) (ta : TA) : TI := fun σ H R => ta σ H fun vs H1 => ∃ a xs, vs = [.ref a] ∧ SqT K H1 a xs ∧ R (ItE K a) H1
theorem pi_enumT {X : Cx} {e : Expr} {ta : TA} {p pos tpos : Pos} {elts : List Expr} {kk : Nat} (hg : Gl X "enumerate") (hm : X.mg "enumerate" = none) (ha : PA X [e] ta)
    (hs : starEach [e] X.env = [(false, eval e X.env)] := by rfl) : PI X (.Tuple elts kk tpos) (.Call (.Name "enumerate" p) [e] [] pos) (iEnumT X.K ta) := by
  refine ⟨fun pins s σ H R I h => ?_⟩
  refine Call_ (ld_blt I hg hm boot_enumerate (PyProof.Rows.callWith_type1 (thn (ha.run pos pins s σ H _ I h) ?_) hs rfl))
  rintro us s1 ⟨vs, H1, I1, r1, a, xs, rfl, hq, q⟩
  obtain ⟨u, rfl, r⟩ := vals1 r1
  obtain rfl : u = Value.ref a := r
  obtain ⟨its, rv, tp, hz⟩ := I1.tuple hq
  have tp' : s1.heap.IsTuple a its.toArray := tp
  have la : a < s1.heap.objs.size := by
    obtain ⟨o, e, _⟩ := tp
    exact Heap.lt_size e
  refine enum_made (begins_tuple a its.toArray) tp' fun hp en ti keep => wpAny_pyIter_enum en ?_
  refine ⟨s1.heap.objs.size + 1, [s1.heap.objs.size + 1, s1.heap.objs.size], _, _, H1, rfl, I1.kept (t' := s1.toks) keep, enum_turn a (s1.heap.objs.size + 1) s1.heap.objs.size,
    ⟨⟨.none, en⟩, ⟨_, ti, rfl, rfl⟩, Nat.succ_ne_self _, Nat.ne_of_lt la, Nat.ne_of_lt (Nat.lt_succ_of_lt la)⟩, fun b hb => ?_, q⟩
  have le : s1.heap.objs.size ≤ b := by
    rcases List.mem_cons.mp hb with rfl | hb
    · exact Nat.le_add_right _ _
    · rw [List.mem_singleton.mp hb]
      exact Nat.le_refl _
  exact I1.fpOk le (I1.hok.fresh le)
/-- a for over enumerate of a tuple that stands still -/
theorem forE {K : PySem.W.Frag} {a : Addr} {xs : List V} {g : TG} {tb : TS} {D : Ends} {σ : L2.St} {H : Hp} (Pv : Nat → L2.St → Hp → Prop) (h0 : Pv 0 σ H)
    (hst : ∀ i σ H, i ≤ xs.length → Pv i σ H → SqT K H a xs)
    (hs : ∀ i x σ H T, xs[i]? = some x → Pv i σ H → H T = none → g (.ref T) σ (upd H T (.tup [.int (i : Nat), x])) fun σ2 H2 => tb { D with nx := Pv (i + 1), ct := Pv (i + 1), bk := D.nx } σ2 H2)
    (hd : ∀ σ H, Pv xs.length σ H → D.nx σ H) :
    ∃ W : Nat → Nat → L2.St → Hp → Prop, (∃ m, W 0 m σ H) ∧ ∀ i m σ H, W i m σ H →
      ((ItE K a).stop i H ∧ D.nx σ H) ∨ ((ItE K a).go i H ∧ ∃ N : L2.St → Hp → Prop, (∀ σ' H', N σ' H' → ∃ m', m' < m ∧ W (i + 1) m' σ' H') ∧
        ∀ x H', (ItE K a).yld i H x H' → g x σ H' fun σ2 H2 => tb { D with nx := N, ct := N, bk := D.nx } σ2 H2) := by
  refine ⟨fun i m σ H => m = xs.length - i ∧ i ≤ xs.length ∧ Pv i σ H, ⟨xs.length, rfl, Nat.zero_le _, h0⟩, ?_⟩
  rintro i m σ H ⟨rfl, hi, pv⟩
  have sd := hst i σ H hi pv
  rcases Nat.lt_or_ge i xs.length with lt | ge
  · refine .inr ⟨⟨xs, xs[i], sd, by simp [lt]⟩, Pv (i + 1), fun σ' H' q => ⟨xs.length - (i + 1), by omega, rfl, lt, q⟩, ?_⟩
    rintro v H' ⟨T, x, rfl, nT, rfl, hx⟩
    exact hs i x σ H T (hx xs sd) pv nT
  · have e : i = xs.length := by omega
    subst e
    exact .inl ⟨⟨xs, sd, ge⟩, hd σ H pv⟩
/-! ### inside a comprehension the library's K is the outer one -/
section
variable {X : Cx} {K : PySem.W.Frag} {e : Expr} {f : Str} {pos : Pos} {ta : TE}
theorem pe_fldK (hK : X.K = K) (he : PE X e ta) (hb : attributeBase e f X.env (eval e X.env) = eval e X.env) : PE X (.Attribute e f pos) (tFld K ta f) := hK ▸ pe_fld he hb
theorem ixK {r : PySem.W.Frag → R2} (hK : X.K = K) (h : IxR X (r X.K)) : IxR X (r K) := hK ▸ h
theorem opK {r : PySem.W.Frag → R2} {op : Value → Value → Sem Value} (hK : X.K = K) (h : OpR X op (r X.K)) : OpR X op (r K) := hK ▸ h
theorem crK {r : PySem.W.Frag → List V → Hp → VK → Prop} {c : Value} (hK : X.K = K) (h : CallR X c (r X.K)) : CallR X c (r K) := hK ▸ h
theorem pg_tupK {es : List Expr} {k n : Nat} {t : TGs} (hK : X.K = K) (hc : X.calm = true) (h : PGs X es t)
    (hn : (assignEach es X.env).length = n := by rfl) (hst : (assignEach es X.env).findIdx? (·.1) = none := by rfl) : PG X (.Tuple es k pos) (gTup K n t) := hK ▸ pg_tup hc h hn hst
end
/-- behind a constructor all that was ahead of it still stands -/
theorem made_same {H H' : Hp} {x dx : Addr} {o1 o2 : HO} (nx : H x = none) (nd : H dx = none) (b : But x (upd (upd H dx o1) x o2) H') : Same H H' := fun q o e => by
  have h1 : q ≠ x := ne_of_none e nx
  refine b q o h1 ?_
  rw [upd_ne h1, upd_ne (ne_of_none e nd)]
  exact e
/-- a comprehension over nothing -/
theorem lcE {J : It} {Sd : Hp → Prop} (wk : Wk J [] Sd) {g : TG} {tt : TT} {te : TE} {vs : List Nat} {σ : L2.St} {H1 : Hp} {D : Addr} {Qd : Hp → Prop}
    (hst : Sd (upd H1 D (.lst []))) (hd : Qd (upd H1 D (.lst []))) :
    ∃ W : Nat → Nat → Hp → Prop, (∃ m, W 0 m (upd H1 D (.lst []))) ∧ ∀ i m H, W i m H →
      (J.stop i H ∧ Qd H) ∨ (J.go i H ∧ ∃ Nx : Hp → Prop, (∀ H', Nx H' → ∃ m', m' < m ∧ W (i + 1) m' H') ∧ ∀ x H', J.yld i H x H' →
        g x (wipe σ vs) H' fun σ2 H2 => wipe σ2 vs = wipe σ vs ∧ tt σ2 H2 fun b H3 =>
        if b = true then te σ2 H3 fun y H4 => ∃ acc, H4 D = some (.lst acc) ∧ acc.length < sizeLine ∧ Nx (upd H4 D (.lst (acc ++ [y]))) else Nx H3) :=
  lcW wk (fun i H => H = upd H1 D (.lst [])) rfl (fun i H _ e => e ▸ hst) (fun i x H hx _ => by simp at hx) (fun H e => e ▸ hd)
theorem sqT_ty {K : PySem.W.Frag} {H : Hp} {a : Addr} {xs : List V} (h : SqT K H a xs) : TyX K H (.ref a) (.type "tuple") := by
  rcases h with (h | ⟨o, h⟩) | ⟨o, its, n, h, c, _⟩
  · exact .base (.tup h)
  · exact .fTuple h
  · exact .kTuple h c
theorem But.same {p : Addr} {H H1 H2 : Hp} (a : But p H H1) (b : Same H1 H2) : But p H H2 := a.trans (.of b)
end G
/-! own rules, fifth part: the law's call at the head's end, for promises that ask that no guard runs -/
namespace G
open PySem PySem.Spec PyProof.Rows L2
section
variable {P : Program} {w : World} {K : PySem.W.Frag} {mg mb : Str → Option Value} {CX : CXT} {k : Nat}
variable {fa sa : Addr} {fd : FuncData} {x : Str} {sp : Sp} {s : Shared} {us : List Value} {ns : List Int}
/-- what the judge wants of the call's end -/
abbrev LawEnd (s : Shared) : Result → Shared → Prop := fun r t => r = .ok (.ret (.bool true)) ∧ OldK s.heap t.heap ∧ t.os = s.os ∧ AllBare t.gens
/-- the law's promise in an abstract heap where at most the script at sa stands -/
theorem law_core (H : Hp) (only : Only H) (seq : SqL K H sa (ns.map V.int)) (ok : HOk P w H s.heap) (one : ∀ b, H b ≠ none → b = sa) (out : H sa ≠ none → K.lookup sa = none)
    (kin : K.In s.heap) (gl : s.heap.Ns mainGlobals mg) (bl : s.heap.Ns builtinsNs mb) (bb : ∀ y : Str, y ≠ "__name__" → mb y = bootBuiltins y) (lim : s.heap.NoLimit) (gens : s.gens = #[])
    (obj : s.heap.get? sa = some { cls := .type "list", data := .seq us.toArray }) (room : Room k callerA)
    (F : ∀ base : Heap, K.In base → base.Ns mainGlobals mg → FnG P w K mg base CX k fa fd [x] sp) (bind : ∀ (t : Shared) (u : Value), BindsTo t fd ⟨[u], []⟩ [(x, u)])
    (keeps : sp [.ref sa] H (fun v _ => v = .bl true) fun _ _ _ => False) (noX : ∀ e t, CX [] H s (fun _ _ _ => False) e t → False) :
    codeAny (model P w) callerA (.call (.ref fa) ⟨[.ref sa], []⟩) (LawEnd s) s := by
  -- what is no sequence is not the script
  have free : ∀ {b : Addr} {o : Obj}, s.heap.get? b = some o → (∀ i n, o.data ≠ .seq i n) → H b = none := by
    intro b o e d
    cases hb : H b with
    | none => rfl
    | some u =>
      have z : b = sa := one b (by simp [hb])
      rw [z, obj] at e
      exact absurd rfl (Option.some.inj e ▸ d us.toArray 0)
  have sees : ∀ {b : Addr} {m : Str → Option Value}, s.heap.Ns b m → (hidT s.heap H).Ns b m := by
    rintro b m ⟨o, es, ep, e, d, r⟩
    exact ⟨o, es, ep, hidT_get e (free e fun i n z => by rw [d] at z; cases z), d, r⟩
  have kinB : K.In (hidT s.heap H) := by
    intro b o e
    refine hidT_get (kin b o e) ?_
    cases hb : H b with
    | none => rfl
    | some u =>
      have z : b = sa := one b (by simp [hb])
      subst z
      rw [out (by simp [hb])] at e
      cases e
  obtain ⟨mc, c1, c2⟩ := id lim
  have md : Mod K mg (hidT s.heap H) := ⟨kinB, sees gl, ⟨mb, sees bl, bb⟩, mc, sees c1, c2⟩
  have none_in : ∀ b : Addr, b ∉ ([] : List Addr) := fun b z => nomatch z
  have env : Env0 P w K mg (hidT s.heap H) callerA [] s H :=
    ⟨rfl, md, fun b o e => of_hidT e, Nat.le_of_eq (hidT_size _ _), trivial, fun b z => absurd (show b ∈ ([] : List Addr) from z) (none_in b), ok, .of_eq gens⟩
  have run := (F _ kinB (sees gl)).run callerA [] s H ⟨[.ref sa], []⟩ [.ref sa] [.ref sa] _ _ room rfl env (bind s (.ref sa)) (.cons rfl .nil) keeps
  refine codeAny_mono run ?_
  rintro (e | fl) t h
  · exact (noX e t h).elim
  cases fl with
  | ret u =>
    obtain ⟨v, H', os, bare, un, ok', rv, hv⟩ := h
    obtain rfl : v = V.bl true := hv
    obtain rfl : u = Value.bool true := rv
    refine ⟨rfl, .of_keep fun b o e => ?_, os, bare⟩
    cases hb : H b with
    | none => exact un.keep b o e hb (fun z => none_in b z) (by simp)
    | some u =>
      obtain ⟨ob, xs, z⟩ := (only b).resolve_left (by simp [hb])
      obtain ⟨e1, _⟩ := ok b _ z
      obtain ⟨e2, _⟩ := ok' b _ (un.frzs b ob _ z)
      rw [e] at e1
      exact (Option.some.inj e1) ▸ e2
  | next => exact h.elim
  | brk => exact h.elim
  | cont => exact h.elim
theorem law_callG (kin : K.In s.heap) (gl : s.heap.Ns mainGlobals mg) (bl : s.heap.Ns builtinsNs mb) (bb : ∀ y : Str, y ≠ "__name__" → mb y = bootBuiltins y) (lim : s.heap.NoLimit) (gens : s.gens = #[])
    (obj : s.heap.get? sa = some { cls := .type "list", data := .seq us.toArray }) (iv : IntsAre us ns) (fits : ns.length ≤ sizeLine) (room : Room k callerA)
    (F : ∀ base : Heap, K.In base → base.Ns mainGlobals mg → FnG P w K mg base CX k fa fd [x] sp) (bind : ∀ (t : Shared) (u : Value), BindsTo t fd ⟨[u], []⟩ [(x, u)])
    (keeps : ∀ H : Hp, Only H → SqL K H sa (ns.map V.int) → sp [.ref sa] H (fun v _ => v = .bl true) fun _ _ _ => False) (noX : ∀ H e t, CX [] H s (fun _ _ _ => False) e t → False) :
    codeAny (model P w) callerA (.call (.ref fa) ⟨[.ref sa], []⟩) (LawEnd s) s := by
  have vs := vals_ints iv
  have ln := iv.length
  cases own : K.lookup sa with
  | some o =>
    have e := kin sa o own
    rw [obj] at e
    obtain rfl := Option.some.inj e
    have o1 : Only fun _ => none := fun _ => .inl rfl
    have q1 : SqL K (fun _ => none) sa (ns.map V.int) := .inr ⟨_, us.toArray, _, own, rfl, rfl, rfl, by simpa [ln] using fits, by simpa using vs⟩
    exact law_core _ o1 q1 (fun b u z => nomatch z) (fun b z => absurd rfl z) (fun z => absurd rfl z) kin gl bl bb lim gens obj room F bind (keeps _ o1 q1) (noX _)
  | none =>
    let H : Hp := fun b => if b = sa then some (.frz { cls := .type "list", data := .seq us.toArray } (.lst (ns.map V.int))) else none
    have at1 : H sa = some (.frz { cls := .type "list", data := .seq us.toArray } (.lst (ns.map V.int))) := if_pos rfl
    have at0 : ∀ b, b ≠ sa → H b = none := fun b h => if_neg h
    have o1 : Only H := by
      intro b
      by_cases h : b = sa
      · subst h
        exact .inr ⟨_, _, at1⟩
      · exact .inl (at0 b h)
    have q1 : SqL K H sa (ns.map V.int) := .inl (.inr ⟨_, at1⟩)
    refine law_core H o1 q1 ?_ ?_ (fun _ => own) kin gl bl bb lim gens obj room F bind (keeps H o1 q1) (noX H)
    · intro b u z
      by_cases h : b = sa
      · subst h
        rw [at1] at z
        obtain rfl := Option.some.inj z
        exact ⟨obj, by rw [List.length_map]; exact fits, us, _, vs, obj⟩
      · rw [at0 b h] at z
        cases z
    · intro b z
      by_cases h : b = sa
      · exact h
      · exact absurd (at0 b h) z
end
/-- the walk of a law -/
theorem walkG {l : PySem.W.OpenLaw} {n k : Nat} {q : Program} {loose : List Str} {XP : (Str → Option Value) → Heap → Prop} {YP : World → Heap → Prop} {d : DefRec} {CX : CXT} {x : Str}
    (most : l.most = some n) (fits : n ≤ sizeLine) (dfl : d.params.defaults = []) (room : Room k callerA)
    (F : ∀ (w : World) (mg : Str → Option Value) (fa : Addr) (h : Heap), YP w h → h.Ns mainGlobals mg → mg d.name = some (.ref fa) →
      ∃ (K : PySem.W.Frag) (fd : FuncData) (sp : Sp), K.In h ∧ (∀ (s : Shared) (u : Value), BindsTo s fd ⟨[u], []⟩ [(x, u)]) ∧
        (∀ (H : Hp) (a : Addr) (ns : List Int), ns.length ≤ n → Only H → SqL K H a (ns.map V.int) → sp [.ref a] H (fun v _ => v = .bl true) fun _ _ _ => False) ∧
        ∀ base : Heap, K.In base → base.Ns mainGlobals mg → FnG l.prog w K mg base CX k fa fd [x] sp)
    (noX : ∀ (H : Hp) (s : Shared) (e : Value) (s' : Shared), CX [] H s (fun _ _ _ => False) e s' → False) :
    PySem.W.WalkO q loose XP YP l.row.toRowW d [] (fun f vs => PySem.call f vs) := by
  refine Att.attach_call most dfl ?_
  intro w s0 s1 mg mb fa o pm cd doc sa us ns G Y ho hd hcd hmg obj iv len gens
  obtain ⟨K, fd, sp, kin, bind, keeps, Fk⟩ := F w mg fa _ Y G.T.g hmg
  exact law_callG kin G.T.g G.T.b G.T.builtins G.T.nolimit gens obj iv (Nat.le_trans len fits) room Fk bind (fun H o1 q1 => keeps H sa ns len o1 q1) fun H e t => noX H s1 e t
end G
/-! own rules, sixth part: the truth of an instance by its own __len__ -/
namespace G
open PySem PySem.Spec PyProof.Rows L2
section
variable {X : Cx} {CX : CXT} {k : Nat} {C f : Addr} {fd : FuncData} {ps : List Str} {sp : Sp} {E : XK}
theorem tru_len (h0 : PySem.W.findIn X.K (.ref C) "__bool__" = some none) (h1 : PySem.W.findIn X.K (.ref C) "__len__" = some (some (.ref f))) (h2 : PySem.W.isFn X.K (.ref f) = true)
    (Fn : FnOk X.prog X.w X.K X.mg X.base CX k f fd ps sp) (hr : Room (k + 1) X.A) (hb : Binds X.K fd ps []) (hx : Passes CX X E) :
    TruR X (fun x H Q => ∃ (a dx : Addr) (fs : List (Str × V)), x = .ref a ∧ H a = some (.ins C dx fs) ∧
      sp [.ref a] H (fun v H' => ∃ n : Int, v = .int n ∧ 0 ≤ n ∧ n < 2 ^ 63 ∧ Q (n != 0) H') E) := by
  intro pins s σ H x v Q I rx h
  obtain ⟨a, dx, fs, rfl, ha, hs⟩ := h
  obtain rfl : v = Value.ref a := rx
  obtain ⟨mA, J, _⟩ := ins_get I.hok ha
  obtain ⟨od, J, _⟩ := J.look
  have kin := I.kIn
  have hl : [Value.ref a].length = ps.length := Fn.len _ _ _ _ hs
  have bt := hb s [Value.ref a] kin (by simpa using hl)
  have body : wpAny (model X.prog X.w) X.A.in1 (call (.ref f) [.ref a]) (EP X pins σ fun v H' => ∃ n : Int, v = .int n ∧ 0 ≤ n ∧ n < 2 ^ 63 ∧ Q (n != 0) H') X.xe s := by
    refine wpAny_call (codeAny_mono (Fn.run X.A.in1 X.stack s H ⟨[.ref a], []⟩ [.ref a] [.ref a] _ E hr.in1 I.env0.in1 (by simpa using bt) (.cons rfl .nil) hs) ?_)
    intro r s' hq
    match r, hq with
    | .error e, hq => exact (hx pins σ H s e s' I hq)
    | .ok (.ret w), hq => exact I.after hq
    | .ok .next, hq => exact hq.elim
    | .ok .brk, hq => exact hq.elim
    | .ok .cont, hq => exact hq.elim
  have key : wpAny (model X.prog X.w) X.A (runValue (.builtin "len" ⟨[.ref a], []⟩)) (fun r s' => ∃ (n : Int) (t : Tok), r = .int n t ∧ ∃ H', Inv X pins σ H' s' ∧ Q (n != 0) H') X.xe s := by
    refine wpAny_runValue (codeAny_builtin entry_len ?_)
    rw [Around.under_plainId plain_len _]
    unfold Builtin.«len»
    refine wpAny_bind (m := oneArg "len" _) (wpAny_pure ?_)
    refine wpAny_bind (m := callSpecial? (.ref a) (Str.ofString "__len__")) (PySem.W.special_fn kin J h1 (beq_iff_eq.mp h2) (wpAny_mono body ?_ fun _ _ z => z))
    rintro r s' ⟨z, H', I', rz, n, rfl, n0, n1, q⟩
    obtain ⟨t, rfl⟩ := rz
    refine wpAny_bind (wpAny_holding (wpAny_pure ?_))
    refine wpAny_bind (wpAny_letGo ?_)
    show wpAny _ _ (if n < 0 then _ else _) _ _ _
    rw [if_neg (by omega)]
    show wpAny _ _ (if n ≥ 2 ^ 63 then _ else _) _ _ _
    rw [if_neg (by omega)]
    exact wpAny_bind (wpAny_mkInt (wpAny_pure ⟨n, _, rfl, H', I'.tok _, q⟩))
  show wpAny (model X.prog X.w) X.A (truthy (.ref a)) _ X.xe s
  unfold truthy
  refine wpAny_bind (m := callSpecial? (.ref a) (Str.ofString "__bool__")) (wpAny_bind (wpAny_bind (J.type.here ((PySem.W.looks_findIn kin h0).here (wpAny_pure ?_)))))
  refine wpAny_bind (wpAny_bind (J.type.here ((PySem.W.looks_findIn kin h1).here ?_)))
  refine wpAny_bind (wpAny_mono key ?_ fun _ _ z => z)
  rintro r s' ⟨n, t, rfl, H', I', q⟩
  exact wpAny_pure ⟨H', I', q⟩
end
end G
/-! own rules: a tuple read backwards by t[::-1]; what a text of texts measures -/
namespace G
open PySem PySem.Spec PyProof.Rows L2
section
variable {prog : Program} {w : World} {A : Around} {E : Value → Shared → Prop} {s : Shared}
theorem adjust_back (n : Nat) : Builtin.Slice.sliceAdjust none none (-1) (n : Int) = ((n : Int) - 1, -1) := rfl
theorem places_back (n : Nat) : Builtin.Slice.slicePlaces ((n : Int) - 1) (-1) (-1) = n := by
  unfold Builtin.Slice.slicePlaces
  have h1 : ¬ ((-1 : Int) > 0) := by omega
  simp only [h1, if_false]
  rw [show (-(-1) : Int) = 1 by decide, Int.ediv_one]
  split <;> omega
theorem sliceApplied_back {sl : Addr} {vl vu vs : Value} {n : Nat} {Q : Int × Int × Nat → Shared → Prop} (hs : s.heap.IsSliceOf sl vl vu vs) (pl : IsPart vl none) (pu : IsPart vu none)
    (ps : IsPart vs (some (-1))) (h : Q ((n : Int) - 1, -1, n) s) : wpAny (model prog w) A (Builtin.Slice.sliceApplied (.ref sl) (pure (n : Int))) Q E s := by
  obtain ⟨os, hos, hcs, hds⟩ := id hs
  unfold Builtin.Slice.sliceApplied Builtin.Slice.sliceFields
  refine wpAny_bind (wpAny_bind (wpAny_field hos hds (x := vl) rfl (wpAny_bind (wpAny_field hos hds (x := vu) rfl (wpAny_bind (wpAny_field hos hds (x := vs) rfl (wpAny_pure ?_)))))))
  refine wpAny_bind (HT.slicePart_ ps ?_)
  show wpAny _ _ (if ((-1 : Int) == 0) = true then _ else _) _ _ s
  rw [if_neg (by decide)]
  refine wpAny_bind (HT.slicePart_ pl (wpAny_bind (HT.slicePart_ pu (wpAny_bind (wpAny_pure ?_)))))
  show wpAny _ _ (match Builtin.Slice.sliceAdjust none none (-1) (n : Int) with | (lo, hi) => pure (lo, (-1 : Int), Builtin.Slice.slicePlaces lo hi (-1))) _ _ s
  rw [adjust_back n]
  show wpAny _ _ (pure ((n : Int) - 1, (-1 : Int), Builtin.Slice.slicePlaces ((n : Int) - 1) (-1) (-1))) _ _ s
  rw [places_back]
  exact wpAny_pure h
theorem pick_back (xs : Array Value) : ((List.range xs.size).filterMap fun (k : Nat) => xs[((xs.size : Int) - 1 + (k : Int) * (-1)).toNat]?).toArray = xs.toList.reverse.toArray := by
  congr 1
  have e : (List.range xs.size).filterMap (fun (k : Nat) => xs[((xs.size : Int) - 1 + (k : Int) * (-1)).toNat]?) = ((List.range xs.size).map fun k => xs.size - 1 - k).filterMap (xs[·]?) := by
    rw [List.filterMap_map]
    have go : ∀ l : List Nat, (∀ k ∈ l, k < xs.size) → l.filterMap (fun (k : Nat) => xs[((xs.size : Int) - 1 + (k : Int) * (-1)).toNat]?) = l.filterMap ((fun x => xs[x]?) ∘ fun k => xs.size - 1 - k) := by
      intro l
      induction l with
      | nil => intro _; rfl
      | cons k l ih =>
        intro h
        have hk := h k List.mem_cons_self
        have e : ((xs.size : Int) - 1 + (k : Int) * (-1)).toNat = xs.size - 1 - k := by omega
        rw [List.filterMap_cons, List.filterMap_cons, ih fun j hj => h j (List.mem_cons_of_mem _ hj), e]
        rfl
    exact go _ fun k hk => List.mem_range.mp hk
  rw [e, PySem.W.krv_range, List.filterMap_reverse, PySem.W.krv_all]
theorem getItem_tuple_back {t sl : Addr} {items : Array Value} {vl vu vs : Value} {Q : Value → Shared → Prop} (ht : IsTup s.heap t items) (hs : s.heap.IsSliceOf sl vl vu vs)
    (pl : IsPart vl none) (pu : IsPart vu none) (ps : IsPart vs (some (-1)))
    (h : Q (.ref s.heap.objs.size) { s with heap := s.heap.push { cls := .type "tuple", data := .seq items.toList.reverse.toArray } })
    (hsz : items.size ≤ sizeLine) : wpAny (model prog w) A (getItem (.ref t) (.ref sl)) Q E s := by
  have hz : sizeOk (.seq items.toList.reverse.toArray) := by
    show items.toList.reverse.toArray.size ≤ sizeLine
    rw [List.size_toArray, List.length_reverse, Array.length_toList]
    exact hsz
  obtain ⟨os, hos, hcs, hds⟩ := id hs
  have hTs : s.TypeIs (.ref sl) "slice" := ⟨os, hos, hcs⟩
  unfold getItem
  try with_reducible refine wpAny_holding ?_
  first | refine wpAny_bind (wpAny_pure ?_) | skip
  refine wpAny_bind (wpAny_sequenceKey ht.typeIs (by decide) ?_)
  refine wpAny_bind (wpAny_callSpecial?_slot (name := Str.ofString "__getitem__") ht.typeIs PyProof.Rows.slot_tuple_getitem
    (wpAny_call_entry PyProof.Rows.slot_tuple_getitem ht.typeIs entry_tuple_getitem ?_ (args_tuple_getitem _ _)))
  show wpAny _ _ (Builtin.Tuple.tupleItemsOf (.ref t) >>= _) _ _ s
  refine wpAny_bind (tupleItemsOf_ ht ?_)
  refine wpAny_bind (wpAny_typeOf hTs ?_)
  rw [if_pos (by decide)]
  refine wpAny_bind (sliceApplied_back hs pl pu ps ?_)
  have hno : ¬ (((items.size : Int) - 1 == 0 && (-1 : Int) == 1 && items.size == items.size) = true) := by
    intro q
    rw [Bool.and_eq_true, Bool.and_eq_true] at q
    exact absurd q.1.2 (by decide)
  show wpAny _ _ (if ((items.size : Int) - 1 == 0 && (-1 : Int) == 1 && items.size == items.size) = true then _ else _) _ _ s
  rw [if_neg hno, pick_back]
  first
    | exact wpAny_bind (m := Builtin.Tuple.tupleExact _) (wpAny_newObj_type (wpAny_pure ⟨_, rfl, wpAny_pure h⟩) hz)
    | exact wpAny_bind (m := Builtin.Tuple.tupleExact _) (wpAny_newObj_type (wpAny_bind (wpAny_pure (wpAny_pure ⟨_, rfl, wpAny_pure h⟩))) hz)
end
def tRevT (K : PySem.W.Frag) (te : TE) : TE := fun σ H Q => te σ H fun x H1 => ∃ a xs, x = .ref a ∧ SqT K H1 a xs ∧ ∀ p, H1 p = none → Q (.ref p) (upd H1 p (.tup xs.reverse))
theorem pe_revT {X : Cx} {e : Expr} {te : TE} {k : Nat} {p1 p2 p3 pos : Pos} (he : PE X e te) : PE X (.Subscript e (.Slice none none (some (.UnaryOp .USub (.Constant (.int 1) k p1) p2)) p3) pos) (tRevT X.K te) := by
  refine ⟨fun pins s σ H Q I h => ?_⟩
  refine Subscript_ (thn (he.run pins s σ H _ I h) fun v s1 ⟨x, H1, I1, r1, q1⟩ => ?_)
  obtain ⟨a, xs, ex, hx, q⟩ := q1
  subst ex
  cases r1
  have hst : PO X (some (.UnaryOp .USub (.Constant (.int 1) k p1) p2)) (tPart (tUn (rU fun i => .int (-i)) (tC (.int 1)))) := po_some (pe_un un_neg pe_int)
  refine wpAny_Slice (thn (po_none.run pins s1 σ H1 (fun o H2 => o = none ∧ H2 = H1) I1 ⟨rfl, rfl⟩) fun vl s2 ⟨l, H2, I2, pl, el, e2⟩ => ?_)
  subst el e2
  refine thn (po_none.run pins s2 σ H2 (fun o H3 => o = none ∧ H3 = H2) I2 ⟨rfl, rfl⟩) fun vu s3 ⟨u, H3, I3, pu, eu, e3⟩ => ?_
  subst eu e3
  refine thn (hst.run pins s3 σ H3 (fun o H4 => o = some (-1) ∧ H4 = H3) I3 ⟨1, rfl, -1, rfl, rfl, rfl⟩) fun vs s4 ⟨o, H4, I4, ps, eo, e4⟩ => ?_
  subst eo e4
  have I5 : Inv X pins σ H4 { s4 with heap := s4.heap.push { cls := .type "slice", data := .fields #[vl, vu, vs] } } := I4.kept (t' := s4.toks) fun b ob q => Heap.get?_push_of_some _ q
  obtain ⟨its, r, ht, hz⟩ := I5.tuple hx
  have hlen := r.length
  have ht' : IsTup (s4.heap.push { cls := .type "slice", data := .fields #[vl, vu, vs] }) a its.toArray := ht
  show wpAny (model X.prog X.w) X.A (subscriptTail e (.Slice none none (some (.UnaryOp .USub (.Constant (.int 1) k p1) p2)) p3) (.ref a) (.ref s4.heap.objs.size)) (EP X pins σ Q) X.xe { s4 with heap := s4.heap.push { cls := .type "slice", data := .fields #[vl, vu, vs] } }
  refine tail_any (ops := [.ref a, .ref s4.heap.objs.size]) ht'.typeIs PyProof.Rows.slot_tuple_getitem.lookup ?_ (by with_unfolding_all rfl)
  refine getItem_tuple_back (items := its.toArray) ht' (Heap.IsSliceOf.new _ vl vu vs) pl pu ps ?_ (by rw [List.size_toArray]; omega)
  refine ⟨.ref _, _, I5.laid (t' := s4.toks) (o := .tup xs.reverse) (fun b ob q => Heap.get?_push_of_some _ q) (Nat.le_refl _) ?_, rfl, q _ (I5.hok.fresh (Nat.le_refl _))⟩
  exact ⟨by rw [List.length_reverse]; exact hz, _, r.reverse, IsTup.new _ _⟩
/-! ### slices and sums of tuples, whatever stands -/
theorem cut_whole {xs : List V} {lo hi : Option Int} (h : HT.sIx xs.length 0 lo = 0 ∧ HT.sIx xs.length xs.length hi = xs.length) : cutV xs lo hi = xs := by
  unfold cutV
  rw [h.1, h.2, List.drop_zero, Nat.sub_zero]
  exact List.take_of_length_le (Nat.le_refl _)
theorem sl_both {H : Hp} {a : Addr} {xs : List V} {lo hi : Option Int} {Q : VK} (ha : H a = some (.tup xs))
    (q : ∀ H' p, Same H H' → H' p = some (.tup (cutV xs lo hi)) → Q (.ref p) H') :
    (HT.sIx xs.length 0 lo = 0 ∧ HT.sIx xs.length xs.length hi = xs.length → Q (.ref a) H) ∧
    (¬ (HT.sIx xs.length 0 lo = 0 ∧ HT.sIx xs.length xs.length hi = xs.length) → ∀ p, H p = none → Q (.ref p) (upd H p (.tup (cutV xs lo hi)))) :=
  ⟨fun h => q H a (.refl _) (by rw [cut_whole h]; exact ha), fun _ p np => q _ p ((Same.refl _).new np) upd_same⟩
theorem cat_both {H : Hp} {a b : Addr} {xs ys : List V} {Q : VK} (ha : H a = some (.tup xs)) (hb : H b = some (.tup ys))
    (q : ∀ H' p, Same H H' → H' p = some (.tup (xs ++ ys)) → Q (.ref p) H') :
    (xs = [] → Q (.ref b) H) ∧ (xs ≠ [] → ys = [] → Q (.ref a) H) ∧ (xs ≠ [] → ys ≠ [] → ∀ p, H p = none → Q (.ref p) (upd H p (.tup (xs ++ ys)))) :=
  ⟨fun h => q H b (.refl _) (by rw [h]; exact hb), fun _ h => q H a (.refl _) (by rw [h, List.append_nil]; exact ha), fun _ _ p np => q _ p ((Same.refl _).new np) upd_same⟩
def rSlB (K : PySem.W.Frag) : V → Option Int → Option Int → Hp → VK → Prop := fun x lo hi H Q => ∃ a xs, x = .ref a ∧ H a = some (.tup xs) ∧
  ∀ H' p, Same H H' → H' p = some (.tup (cutV xs lo hi)) → Q (.ref p) H'
theorem sl_tupB {X : Cx} : SlR X (rSlB X.K) := by
  intro pins s σ H x v vl vu lo hi sl Q I rx hs pl pu h
  obtain ⟨a, xs, rfl, ha, q⟩ := h
  exact sl_tupA pins s σ H _ v vl vu lo hi sl Q I rx hs pl pu ⟨a, xs, rfl, SqT.of ha, (sl_both ha q).1, (sl_both ha q).2⟩
def rCatB (K : PySem.W.Frag) : R2 := fun x y H Q => ∃ a b xs ys, x = .ref a ∧ y = .ref b ∧ H a = some (.tup xs) ∧ H b = some (.tup ys) ∧ xs.length + ys.length ≤ sizeLine ∧
  ∀ H' p, Same H H' → H' p = some (.tup (xs ++ ys)) → Q (.ref p) H'
theorem op_catB {X : Cx} : OpR X (binaryOp .Add) (rCatB X.K) := by
  intro pins s σ H x y v u Q I rx ry h
  obtain ⟨a, b, xs, ys, rfl, rfl, ha, hb, hz, q⟩ := h
  obtain ⟨q0, q1, q2⟩ := cat_both ha hb q
  exact op_catA pins s σ H _ _ v u Q I rx ry ⟨a, b, xs, ys, rfl, rfl, SqT.of ha, SqT.of hb, hz, q0, q1, q2⟩
end G
/-! own rules: sets of texts (add, sorted), set comprehensions of texts over two sources -/
noncomputable section
namespace G
open PySem PySem.Spec PyProof.Rows L2 PySem.Froz
/-! ### a set of texts -/
theorem perm_of {α : Type} [DecidableEq α] : ∀ {l m : List α}, l.Nodup → (∀ x ∈ l, x ∈ m) → m.length = l.length → m.Perm l
  | [], m, _, _, e => by
    have : m = [] := List.length_eq_zero_iff.mp e
    rw [this]
  | x :: l, m, nd, h, e => by
    have hx := h x List.mem_cons_self
    obtain ⟨n1, n2⟩ := List.nodup_cons.mp nd
    have p := List.perm_cons_erase hx
    have ih := perm_of (m := m.erase x) n2 (fun y hy => (List.mem_erase_of_ne (by rintro rfl; exact n1 hy)).mpr (h y (List.mem_cons_of_mem _ hy))) (by rw [List.length_erase_of_mem hx, e]; rfl)
    exact p.trans (ih.cons x)
def keyT (e : Int × Value) : Str := match e.2 with | .str x _ => x | _ => Str.empty
structure SetD (P : Program) (w : World) (D : SD) (l : List Str) : Prop where
  ok : TxOk P w D l
  nd : l.Nodup
  ts : ∀ e ∈ D.1.toList, ∃ k u, e.2 = Value.str k u
  few : l.length < scanBound
  ris : Ris D.2.2.place.toList
  led : w.params.followText "set-order" = true ∨ D.2.2.led = true
/-- the texts l, in some order, are the set at a -/
def SetX (P : Program) (w : World) (h : Heap) (a : Addr) (l : List Str) : Prop := ∃ D : SD, h.get? a = some (sObj "set" D) ∧ SetD P w D l
section
variable {P : Program} {w : World} {A : Around} {E : Value → Shared → Prop} {s : Shared} {a : Addr} {l : List Str}
theorem SetD.perm {D : SD} (d : SetD P w D l) : (D.1.toList.map keyT).Perm l := by
  refine perm_of d.nd (fun k hk => ?_) (by rw [List.length_map, Array.length_toList]; exact d.ok.sz)
  obtain ⟨e, he, q⟩ := (d.ok.mem k).mp hk
  refine List.mem_map.mpr ⟨e, he, ?_⟩
  obtain ⟨x, u, ex⟩ := d.ts e he
  rw [ex] at q
  unfold keyT
  rw [ex]
  exact (strKind P w).inj (.str x u) x k (is_str x u) q
theorem fresh_d (w : World) : SetD P w (#[], 0, .fresh 0 0 (!w.params.followText "set-order")) [] where
  ok := TxOk.nil rfl
  nd := List.nodup_nil
  ts := fun e he => by simp at he
  few := by decide
  ris := List.Pairwise.nil
  led := by
    cases q : w.params.followText "set-order"
    · exact .inr (by rw [show (!false) = true from rfl]; rfl)
    · exact .inl rfl
theorem tail_ris {ep : Nat} {es1 : Array (Int × Value)} {t2 : SetTable} {wd : Bool} (r : Ris t2.place.toList) : Ris (tailTx ep es1 t2 wd).2.2.place.toList := by
  unfold tailTx
  split
  · exact relayAll_ris _ _ _
  · exact r
theorem tail_led {ep : Nat} {es1 : Array (Int × Value)} {t2 : SetTable} {wd : Bool} : (tailTx ep es1 t2 wd).2.2.led = t2.led := by
  unfold tailTx
  split
  · exact relayAll_led _ _ _
  · rfl
theorem tail_mem {ep : Nat} {es1 : Array (Int × Value)} {t2 : SetTable} {wd : Bool} {e : Int × Value} (h : e ∈ (tailTx ep es1 t2 wd).1.toList) : e ∈ es1.toList := by
  unfold tailTx at h
  split at h
  · exact (relayAll_perm _ _ _).mem_iff.mp h
  · exact h
theorem add_ris {D : SD} {hs : Int} {v : Value} (r : Ris D.2.2.place.toList) : Ris (addTx hs v D).2.2.place.toList := by
  have r1 := layNew_ris D.2.2 D.1 hs v r
  unfold addTx
  refine tail_ris ?_
  split
  · exact r1
  · exact r1
theorem add_led {D : SD} {hs : Int} {v : Value} : (addTx hs v D).2.2.led = D.2.2.led := by
  have r1 := layNew_led D.2.2 D.1 hs v
  unfold addTx
  refine tail_led.trans ?_
  split
  · exact r1
  · exact r1
theorem add_ts {D : SD} {hs : Int} {x : Str} {t : Tok} (h : ∀ e ∈ D.1.toList, ∃ k u, e.2 = Value.str k u) : ∀ e ∈ (addTx hs (.str x t) D).1.toList, ∃ k u, e.2 = Value.str k u := by
  have p1 := layNew_perm D.2.2 D.1 hs (.str x t)
  intro e he
  unfold addTx at he
  have m := p1.mem_iff.mp (tail_mem he)
  rw [Array.toList_push] at m
  rcases List.mem_append.mp m with m | m
  · exact h e m
  · rw [List.mem_singleton.mp m]; exact ⟨x, t, rfl⟩
/-- what is added -/
def insS (k : Str) (l : List Str) : List Str := if k ∈ l then l else k :: l
theorem setX_add {k : Str} {u : Tok} {Q : Value → Shared → Prop} (R : SetX P w s.heap a l) (room : l.length + 1 < scanBound)
    (hQ : ∀ h', Heap.SameBut a s.heap h' → SetX P w h' a (insS k l) → Q .none { s with heap := h', toks := s.toks + 1 }) :
    wpAny (model P w) A (call (.builtin "set.add") [.ref a, .str k u]) Q E s := by
  obtain ⟨D, ho, d⟩ := R
  have hT : s.TypeIs (.ref a) "set" := ⟨_, ho, rfl⟩
  refine wpAny_call_entry F.slot_set_add hT F.entry_set_add ?_ (F.args_set_add_2 _ _)
  unfold Builtin.«set.add» Builtin.Frozenset.oneOther
  simp only [List.isEmpty_nil, bind_assoc]
  unfold Builtin.Frozenset.addrOf setAdd
  refine wpAny_bind (wpAny_pure ?_)
  try dsimp only
  refine wpAny_bind (wpAny_pure ?_)
  try dsimp only
  refine wpAny_bind (wpAny_holding (wpAny_bind ((strKind P w).pyHash (is_str k u) ?_)))
  have fin : ∀ (b : Bool) (h' : Heap), Heap.SameBut a s.heap h' → SetX P w h' a (insS k l) →
      wpAny (model P w) A.in1 (ret Value.none) (fun r s' => ∃ v, r = .done (.ret v) ∧ Q v s') E { s with heap := h', toks := s.toks + 1 } := fun b h' sb x => wpAny_pure ⟨_, rfl, hQ h' sb x⟩
  by_cases hk : k ∈ l
  · have e0 : insS k l = l := if_pos hk
    obtain ⟨es, ep, t⟩ := D
    have hd : (sObj "set" (es, ep, t)).data = .set es ep t := rfl
    obtain ⟨e, he, q⟩ := (d.ok.mem k).mp hk
    have hb0 : es.size < scanBound := by
      have : es.size = l.length := d.ok.sz
      rw [this]; exact d.few
    have hf : t.fits es.size = true := d.ok.fit
    have hel : ElemsOf (strKind P w) es.toList := d.ok.el
    obtain ⟨j, hj⟩ : ∃ j, List.findIdx? (fun e => (strKind P w).is k e.2) es.toList = some j := by
      cases hr : List.findIdx? (fun e => (strKind P w).is k e.2) es.toList with
      | some j => exact ⟨j, rfl⟩
      | none =>
        have c := List.findIdx?_eq_none_iff.mp hr e he
        rw [q] at c
        cases c
    unfold setAddHashed setAddHashedIn
    refine wpAny_holding (wpAny_bind (wpAny_setState_of ho hd hf ?_))
    dsimp only
    rw [byScan_of rfl hb0 hel]
    simp only [↓reduceIte]
    unfold setAddByScan
    refine wpAny_bind ?_
    refine wpAny_bind (wpAny_rule ?_)
    refine wpAny_bind (wpAny_setScan_of (knd := strKind P w) (k := k) (is_str k u) ho hd hf hel ?_)
    rw [hj]
    dsimp only
    exact wpAny_pure (wpAny_pure (fin false s.heap (Heap.SameBut.refl a s.heap) (by rw [e0]; exact ⟨_, ho, d⟩)))
  · have e0 : insS k l = k :: l := if_neg hk
    refine add_x (s := { s with toks := s.toks + 1 }) ho d.ok hk room (fin true _ (Heap.SameBut.update s.heap a _) ?_)
    rw [e0]
    exact ⟨_, get_upd _ ho rfl, add_ok u d.ok, List.nodup_cons.mpr ⟨hk, d.nd⟩, add_ts d.ts, room, add_ris d.ris, by rw [add_led]; exact d.led⟩
theorem strs_of : ∀ (vs : List Value), (∀ v ∈ vs, ∃ k u, v = Value.str k u) → StrsAre vs (vs.map strOf)
  | [], _ => .nil
  | v :: l, h => by
    obtain ⟨k, u, rfl⟩ := h v List.mem_cons_self
    exact .cons k u (strs_of l fun u hu => h u (List.mem_cons_of_mem _ hu))
theorem setX_sorted {Q : Value → Shared → Prop} (R : SetX P w s.heap a l) (hh : A.handled = none) (h64 : l.length < 64)
    (hQ : ∀ s' p (out : Array Value) (c : Nat) (ys : List Str), (∀ b o, s.heap.get? b = some o → s'.heap.get? b = some o) → s'.gens = s.gens → s'.os = s.os → s.heap.objs.size ≤ p →
      s'.heap.get? p = some (seqObj "list" out c) → StrsAre out.toList ys → ys.Perm l → sortedS ys = true → Q (.ref p) s') :
    wpAny (model P w) A (call (.builtin "sorted") [.ref a]) Q E s := by
  obtain ⟨D, ho, d⟩ := R
  obtain ⟨es, ep, t⟩ := D
  have hb : es.size < scanBound := by
    have : es.size = l.length := d.ok.sz
    rw [this]; exact d.few
  refine Calls.call_function_entry kind_sorted plain_sorted entry_sorted (args_sorted1 _) ?_
  unfold Builtin.«sorted»
  refine wpAny_bind (m := checkCount "sorted" 1 1 _) (wpAny_pure ?_)
  refine wpAny_bind (collect_set (A := A.in1) hh ⟨_, ho, rfl, rfl⟩ d.ok.fit hb d.ris d.led fun s1 vs k1 hz g1 o1 pm => ?_)
  have hvl : vs.length = l.length := by rw [pm.length_eq, List.length_map, Array.length_toList]; exact d.ok.sz
  have all : ∀ v ∈ vs, ∃ k u, v = Value.str k u := fun v hv => by
    obtain ⟨e, he, q⟩ := List.mem_map.mp (pm.mem_iff.mp hv)
    obtain ⟨k, u, h1⟩ := d.ts e he
    exact ⟨k, u, by rw [← q]; exact h1⟩
  have hS := strs_of vs all
  have pk : (vs.map strOf).Perm l := by
    refine List.Perm.trans ?_ d.perm
    have q := pm.map strOf
    rw [List.map_map] at q
    refine q.trans (List.Perm.of_eq (List.map_congr_left fun e he => ?_))
    obtain ⟨k, u, h1⟩ := d.ts e he
    show strOf e.2 = keyT e
    unfold keyT
    rw [h1]
    rfl
  refine wpAny_bind (wpAny_newList ?_ (by rw [hvl, sizeLine_eq]; omega))
  have hoL : (s1.heap.push (seqObj "list" vs.toArray 0)).get? s1.heap.objs.size = some (seqObj "list" vs.toArray 0) := Heap.get?_push_size _ rfl
  refine wpAny_bind (wpAny_holding (wpAny_call_entry slot_list_sort ⟨_, hoL, rfl⟩ entry_list_sort (list_sort_treeK strKind_oneLt hoL hS.keysOf (fun v₁ v₂ rest e => keyKind_strs (by rw [← e]; exact hS)) (by rw [hvl]; exact h64) fun st' a1 a2 => ⟨_, rfl, ?_⟩) (args_list_sort _)))
  obtain ⟨ys, y1, y2, y3⟩ := sorted_out_str hS a1 a2
  obtain ⟨c, hc⟩ := sortedHeap_at (vs := vs) (out := (arrOf st').map (·.2)) hoL
  refine wpAny_pure ⟨_, rfl, hQ _ s1.heap.objs.size _ c ys (fun b u e => ?_) g1 o1 hz hc y1 (y2.trans pk) y3⟩
  have q := k1 b u e
  have hlt := Heap.lt_size q
  show (sortedHeap (s1.heap.push (seqObj "list" vs.toArray 0)) s1.heap.objs.size vs _).get? b = some u
  rw [sortedHeap_old (Nat.ne_of_lt hlt) (by rw [size_push']; exact Nat.lt_succ_of_lt hlt)]
  exact Heap.get?_push_of_some _ q
end
end G
/-! own rules: sets of texts over the layer; {e for x in a for y in b if ..} -/
noncomputable section
namespace G
open PySem PySem.Spec PyProof.Rows L2 PySem.Froz PpSet
/-- the set of the texts l at a -/
def SetXO (P : Program) (w : World) (a : Addr) (l : List Str) : HO := .ext fun h => SetX P w h a l
theorem setXO_new {w : World} {P : Program} {H : Hp} {h : Heap} {a : Addr} {l : List Str} (R : SetX P w h a l) : ObjOk P w H h a (SetXO P w a l) := by
  obtain ⟨D, ho, d⟩ := id R
  exact ⟨R, ⟨_, ho⟩, fun h1 h2 p k => by
    obtain ⟨D, ho, d⟩ := p
    exact ⟨D, k _ ho, d⟩⟩
section
variable {X : Cx}
theorem setXO_get {pins : List (Addr × Obj)} {σ : L2.St} {H : Hp} {s : Shared} {a : Addr} {l : List Str} (I : Inv X pins σ H s) (ha : H a = some (SetXO X.prog X.w a l)) : SetX X.prog X.w s.heap a l := (I.hok a _ ha).1
theorem addX_ok {pins : List (Addr × Obj)} {σ : L2.St} {H : Hp} {s : Shared} {E : Value → Shared → Prop} {D : Addr} {l : List Str} {y : Str} {t : Tok} {Q : Value → Shared → Prop} (I : Inv X pins σ H s) (hD : H D = some (SetXO X.prog X.w D l)) (room : l.length + 1 < scanBound)
    (h : ∀ s', Inv X pins σ (upd H D (SetXO X.prog X.w D (insS y l))) s' → Q .none s') : wpAny (model X.prog X.w) X.A (call (.builtin "set.add") [.ref D, .str y t]) Q E s := by
  have R := setXO_get I hD
  refine setX_add R room fun h' sb new => ?_
  obtain ⟨D', ho, _⟩ := id new
  exact h _ (I.write (e := D) (t' := s.toks + 1) (by rw [hD]; trivial) (.inl rfl) (fun b u hb hu => (sb.2 b hb).trans hu) ⟨_, ho⟩ (setXO_new new))
def rSortedX (P : Program) (w : World) : List V → Hp → VK → Prop := fun vs H Q => ∃ (a : Addr) (l : List Str), vs = [V.ref a] ∧ H a = some (SetXO P w a l) ∧ l.length < 64 ∧
  ∀ (ys : List Str) (p : Addr), ys.Perm l → sortedS ys = true → H p = none → Q (.ref p) (upd H p (.lst (ys.map V.str)))
theorem cr_sortedX (hc : X.calm = true) : CallR X (.builtin "sorted") (rSortedX X.prog X.w) := by
  intro pins s σ H vs us Q I r h
  obtain ⟨a, l, rfl, ha, h64, q⟩ := h
  have R := setXO_get I ha
  rw [Vals.ref1 r]
  refine setX_sorted R (I.ok.hd hc) h64 fun s' p out c ys k g o hp hg hi hm hs => ?_
  have hlen : (ys.map V.str).length ≤ sizeLine := by rw [List.length_map, hm.length_eq, sizeLine_eq]; omega
  have hn : H p = none := I.hok.fresh hp
  have J : Inv X pins σ (upd H p (.lst (ys.map V.str))) { s with heap := s'.heap, gens := s'.gens, drawn := s'.drawn, toks := s'.toks } :=
    I.call (ch := []) (Un.laid k hp hn) (I.hok.laid k hp ⟨hlen, out.toList, c, vals_of_strs hi, hg⟩) (by rw [g]; exact I.bare) (fun _ z => nomatch z)
  have e : s' = { s with heap := s'.heap, gens := s'.gens, drawn := s'.drawn, toks := s'.toks } := by
    cases s'
    cases s
    cases o
    rfl
  rw [e]
  exact ⟨.ref p, _, J, rfl, q ys p hm hs hn⟩
end

/-! ### {elt for t0 in i0 if .. for t1 in i1 if ..} -/
theorem turnS_out (elt t0 i0 t1 i1 : Expr) (ifs0 ifs1 : List Expr) (scope : Scope) (pos : Pos) (it acc : Value) (env : Env) :
    compTurn (.SetComp elt [⟨t0, i0, ifs0, 0⟩, ⟨t1, i1, ifs1, 0⟩] scope pos) 0 it acc env = (do
      standAt i0.pos
      match ← pyNext it with
      | none => pure (.done .next)
      | some v =>
        letOwnedTupleGo t0 it v
        assign t0 env v
        let mut ok := true
        for c in ifs0 do
          if ok then ok ← isTrue c env (eval c env)
        if ok then
          let x ← eval i1 env
          standAt i1.pos
          let x ← foldedSetIterable i1 env x
          let _ ← runOwn (.compStart (.SetComp elt [⟨t0, i0, ifs0, 0⟩, ⟨t1, i1, ifs1, 0⟩] scope pos) 1 (← holding [x] (pyIter x)) acc env) env
        again (.compLoop (.SetComp elt [⟨t0, i0, ifs0, 0⟩, ⟨t1, i1, ifs1, 0⟩] scope pos) 0 it acc env)) := by rfl
theorem turnS_in (elt t0 i0 t1 i1 : Expr) (ifs0 ifs1 : List Expr) (scope : Scope) (pos : Pos) (it acc : Value) (env : Env) :
    compTurn (.SetComp elt [⟨t0, i0, ifs0, 0⟩, ⟨t1, i1, ifs1, 0⟩] scope pos) 1 it acc env = (do
      standAt i1.pos
      match ← pyNext it with
      | none => pure (.done .next)
      | some v =>
        letOwnedTupleGo t1 it v
        assign t1 env v
        let mut ok := true
        for c in ifs1 do
          if ok then ok ← isTrue c env (eval c env)
        if ok then
          (do let v ← eval elt env; standAt elt.pos; let _ ← call (.builtin "set.add") [acc, v])
        again (.compLoop (.SetComp elt [⟨t0, i0, ifs0, 0⟩, ⟨t1, i1, ifs1, 0⟩] scope pos) 1 it acc env)) := by rfl
section
variable {prog : Program} {w : World} {A : Around} {R : Result → Shared → Prop} {s : Shared} {elt t0 i0 t1 i1 : Expr} {ifs0 ifs1 : List Expr} {scope : Scope} {pos : Pos} {it acc : Value} {env : Env}
theorem loopS_out (hs : ∀ x, foldedSetIterable i1 env x = pure x) (I : Nat → Shared → Prop)
    (turn : ∀ n s, I n s → wpAny (model prog w) A (pyNext it) (fun r s₁ => match r with
      | none => R (.ok .next) s₁
      | some v => wpAny (model prog w) A (letOwnedTupleGo t0 it v) (fun _ s₁' => wpAny (model prog w) A (assign t0 env v) (fun _ s₂ =>
          wpAny (model prog w) A (forIn ifs0 true fun c r => if r = true then do let ok ← isTrue c env (eval c env); pure (ForInStep.yield ok) else pure (ForInStep.yield r)) (fun ok s₃ =>
            if ok = true then wpAny (model prog w) A (eval i1 env) (fun x s₄ => wpAny (model prog w) A (pyIter x) (fun it1 s₅ =>
              codeAny (model prog w) A (.compStart (.SetComp elt [⟨t0, i0, ifs0, 0⟩, ⟨t1, i1, ifs1, 0⟩] scope pos) 1 it1 acc env) (fun r s' => match r with
                | .ok _ => ∃ m, m < n ∧ I m s'
                | .error _ => False) s₅) (notedBy (model prog w) A env fun e s' => R (.error e) s') s₄) (notedBy (model prog w) A env fun e s' => R (.error e) s') s₃
            else ∃ m, m < n ∧ I m s₃) (notedBy (model prog w) A env fun e s' => R (.error e) s') s₂) (notedBy (model prog w) A env fun e s' => R (.error e) s') s₁') (notedBy (model prog w) A env fun e s' => R (.error e) s') s₁) (notedBy (model prog w) A env fun e s' => R (.error e) s') s)
    (n : Nat) (h : I n s) :
    codeAny (model prog w) A (.compLoop (.SetComp elt [⟨t0, i0, ifs0, 0⟩, ⟨t1, i1, ifs1, 0⟩] scope pos) 0 it acc env) R s := by
  refine codeAny_loop rfl I (fun n s hI => ?_) n h
  show wpAny _ A ((compTurn (.SetComp elt [⟨t0, i0, ifs0, 0⟩, ⟨t1, i1, ifs1, 0⟩] scope pos) 0 it acc env).onRaise (fun x => do noteFrame x env; theTreesLotGoes x)) _ _ s
  refine wpAny_noted ?_
  rw [turnS_out]
  refine wpAny_bind (wpAny_standAt (wpAny_bind (wpAny_mono (turn n s hI) (fun r s₁ h₁ => ?_) fun _ _ h' => h')))
  cases r with
  | none => exact wpAny_pure h₁
  | some v =>
    refine wpAny_bind (wpAny_mono h₁ (fun _ s₁' h₁' => ?_) fun _ _ h' => h')
    refine wpAny_bind (wpAny_mono h₁' (fun _ s₂ h₂ => wpAny_bind (wpAny_mono h₂ (fun ok s₃ h₃ => ?_) fun _ _ h' => h')) fun _ _ h' => h')
    cases ok with
    | false => exact wpAny_pure ⟨rfl, h₃⟩
    | true =>
      refine wpAny_bind (wpAny_mono h₃ (fun x s₄ h₄ => ?_) fun _ _ h' => h')
      refine wpAny_bind (wpAny_standAt (wpAny_bind (wpAny_of_eq (hs x) (wpAny_bind (wpAny_holding (wpAny_mono h₄ (fun it1 s₅ h₅ => ?_) fun _ _ h' => h'))))))
      refine wpAny_bind (wpAny_runOwn ?_)
      rw [Around.mark_none]
      refine codeAny_mono h₅ fun r s' hr => ?_
      cases r with
      | ok f =>
        first
          | exact wpAny_pure ⟨rfl, hr⟩
          | exact wpAny_bind (wpAny_pure (wpAny_pure ⟨rfl, hr⟩))
      | error e => exact hr.elim
theorem loopS_in (I : Nat → Shared → Prop)
    (turn : ∀ n s, I n s → wpAny (model prog w) A (pyNext it) (fun r s₁ => match r with
      | none => R (.ok .next) s₁
      | some v => wpAny (model prog w) A (letOwnedTupleGo t1 it v) (fun _ s₁' => wpAny (model prog w) A (assign t1 env v) (fun _ s₂ =>
          wpAny (model prog w) A (forIn ifs1 true fun c r => if r = true then do let ok ← isTrue c env (eval c env); pure (ForInStep.yield ok) else pure (ForInStep.yield r)) (fun ok s₃ =>
            if ok = true then wpAny (model prog w) A (eval elt env) (fun x s₄ =>
              wpAny (model prog w) A (call (.builtin "set.add") [acc, x]) (fun _ s₅ => ∃ m, m < n ∧ I m s₅) (notedBy (model prog w) A env fun e s' => R (.error e) s') s₄) (notedBy (model prog w) A env fun e s' => R (.error e) s') s₃
            else ∃ m, m < n ∧ I m s₃) (notedBy (model prog w) A env fun e s' => R (.error e) s') s₂) (notedBy (model prog w) A env fun e s' => R (.error e) s') s₁') (notedBy (model prog w) A env fun e s' => R (.error e) s') s₁) (notedBy (model prog w) A env fun e s' => R (.error e) s') s)
    (n : Nat) (h : I n s) :
    codeAny (model prog w) A (.compLoop (.SetComp elt [⟨t0, i0, ifs0, 0⟩, ⟨t1, i1, ifs1, 0⟩] scope pos) 1 it acc env) R s := by
  refine codeAny_loop rfl I (fun n s hI => ?_) n h
  show wpAny _ A ((compTurn (.SetComp elt [⟨t0, i0, ifs0, 0⟩, ⟨t1, i1, ifs1, 0⟩] scope pos) 1 it acc env).onRaise (fun x => do noteFrame x env; theTreesLotGoes x)) _ _ s
  refine wpAny_noted ?_
  rw [turnS_in]
  refine wpAny_bind (wpAny_standAt (wpAny_bind (wpAny_mono (turn n s hI) (fun r s₁ h₁ => ?_) fun _ _ h' => h')))
  cases r with
  | none => exact wpAny_pure h₁
  | some v =>
    refine wpAny_bind (wpAny_mono h₁ (fun _ s₁' h₁' => ?_) fun _ _ h' => h')
    refine wpAny_bind (wpAny_mono h₁' (fun _ s₂ h₂ => wpAny_bind (wpAny_mono h₂ (fun ok s₃ h₃ => ?_) fun _ _ h' => h')) fun _ _ h' => h')
    cases ok with
    | false => exact wpAny_pure ⟨rfl, h₃⟩
    | true =>
      exact wpAny_bind (wpAny_bind (wpAny_mono h₃ (fun x s₄ h₄ => wpAny_bind (wpAny_standAt (wpAny_bind (wpAny_mono h₄ (fun _ s₅ h₅ => wpAny_pure (wpAny_pure ⟨rfl, h₅⟩)) fun _ _ h' => h')))) fun _ _ h' => h'))
theorem startS_in (h0 : codeAny (model prog w) A (.compLoop (.SetComp elt [⟨t0, i0, ifs0, 0⟩, ⟨t1, i1, ifs1, 0⟩] scope pos) 1 it acc env) R s)
    (h : wpAny (model prog w) A (pyIter it) (fun it' s' => codeAny (model prog w) A (.compLoop (.SetComp elt [⟨t0, i0, ifs0, 0⟩, ⟨t1, i1, ifs1, 0⟩] scope pos) 1 it' acc env) R s')
      (notedBy (model prog w) A env fun x s' => R (.error x) s') s) :
    codeAny (model prog w) A (.compStart (.SetComp elt [⟨t0, i0, ifs0, 0⟩, ⟨t1, i1, ifs1, 0⟩] scope pos) 1 it acc env) R s := by
  refine codeAny_of_tree ?_
  show wpAny _ _ ((compStart (.SetComp elt [⟨t0, i0, ifs0, 0⟩, ⟨t1, i1, ifs1, 0⟩] scope pos) 1 it acc env).onRaise (fun x => do noteFrame x env; standAt theWindowsPlace)) _ _ s
  refine wpAny_notedAt ?_
  unfold compStart
  show wpAny _ _ (ask >>= _) _ _ s
  refine wpAny_bind (wpAny_askSetting (wpAny_ite ?_))
  split
  · first
      | exact wpAny_bind (wpAny_pure (wpAny_pure (And.intro rfl h0)))
      | exact wpAny_pure (And.intro rfl h0)
  · first
      | exact wpAny_bind (wpAny_rule (wpAny_bind (wpAny_standAt (wpAny_bind (wpAny_mono h (fun it' s' h' => wpAny_pure (And.intro rfl h')) fun _ _ x => x)))))
      | (refine wpAny_bind (wpAny_rule ?_); show wpAny _ _ (standAt i1.pos >>= _) _ _ s; exact wpAny_bind (wpAny_standAt (wpAny_bind (wpAny_mono h (fun it' s' h' => wpAny_pure (And.intro rfl h')) fun _ _ x => x))))
end
section
variable {X : Cx}
/-- the reading: D the new set, of texts -/
def tSc2 (P : Program) (w : World) (wi : TI) (g : TG) (tt : TT) (wi1 : TI) (g1 : TG) (tt1 : TT) (te : TE) (vs vs1 : List Nat) : TE := fun σ H Q => wi σ H fun J H1 => ∀ D, H1 D = none → ∃ W : Nat → Nat → Hp → Prop, (∃ m, W 0 m (upd H1 D (SetXO P w D []))) ∧ ∀ i m H, W i m H →
  (J.stop i H ∧ Q (.ref D) H) ∨ (J.go i H ∧ ∃ Nx : Hp → Prop, (∀ H', Nx H' → ∃ m', m' < m ∧ W (i + 1) m' H') ∧ ∀ x H', J.yld i H x H' → g x (wipe σ vs) H' fun σ2 H2 => wipe σ2 vs = wipe σ vs ∧ tt σ2 H2 fun b H3 =>
    if b = true then wi1 σ2 H3 fun J1 H4 => ∃ W1 : Nat → Nat → Hp → Prop, (∃ m, W1 0 m H4) ∧ ∀ j k H, W1 j k H →
      (J1.stop j H ∧ Nx H) ∨ (J1.go j H ∧ ∃ Nx1 : Hp → Prop, (∀ H', Nx1 H' → ∃ k', k' < k ∧ W1 (j + 1) k' H') ∧ ∀ x H', J1.yld j H x H' → g1 x (wipe σ2 vs1) H' fun σ3 H5 => wipe σ3 vs1 = wipe σ2 vs1 ∧ tt1 σ3 H5 fun b H6 =>
        if b = true then te σ3 H6 fun y H7 => ∃ (c : Str) (l : List Str), y = .str c ∧ H7 D = some (SetXO P w D l) ∧ l.length + 1 < scanBound ∧ Nx1 (upd H7 D (SetXO P w D (insS c l))) else Nx1 H6)
    else Nx H3)
theorem sc2_core {pins : List (Addr × Obj)} {s : Shared} {σ : L2.St} {H : Hp} {Q : VK} {pos' : Pos} {use : Option (Value → Sem Unit)} {Qf : Value → Shared → Prop} {elt tg iter tg1 iter1 : Expr} {ifs ifs1 : List Expr} {scope : Scope} {own : List (Str × Nat)} {vs1 : List Nat} {pos : Pos} {wi wi1 : TI} {g g1 : TG} {tt tt1 : TT} {te : TE}
    (hc : X.calm = true) (hN : X.N.Nodup) (hi : PI X tg iter wi) (ok : BlkOk X.N X.env.scope scope own) (hv : ∀ i ∈ vs1, i ∈ own.map (·.2))
    (hg : ∀ (s : Shared) (H : Hp) (C : Addr) (cl : List (Str × Addr)) (fp : List Addr), PG (X.blk s H scope (compEnvC scope cl C X.env) fp) tg g) (ht : ∀ (s : Shared) (H : Hp) (C : Addr) (cl : List (Str × Addr)) (fp : List Addr), PTs (X.blk s H scope (compEnvC scope cl C X.env) fp) ifs tt)
    (hi1 : ∀ (s : Shared) (H : Hp) (C : Addr) (cl : List (Str × Addr)) (fp : List Addr), PI (X.blk s H scope (compEnvC scope cl C X.env) fp) tg1 iter1 wi1)
    (hg1 : ∀ (s : Shared) (H : Hp) (C : Addr) (cl : List (Str × Addr)) (fp : List Addr), PG (X.blk s H scope (compEnvC scope cl C X.env) fp) tg1 g1)
    (ht1 : ∀ (s : Shared) (H : Hp) (C : Addr) (cl : List (Str × Addr)) (fp : List Addr), PTs (X.blk s H scope (compEnvC scope cl C X.env) fp) ifs1 tt1)
    (he : ∀ (s : Shared) (H : Hp) (C : Addr) (cl : List (Str × Addr)) (fp : List Addr), PE (X.blk s H scope (compEnvC scope cl C X.env) fp) elt te)
    (hs : ∀ x, foldedSetIterable iter X.env x = pure x) (hs1 : ∀ env x, foldedSetIterable iter1 env x = pure x)
    (I : Inv X pins σ H s) (h : tSc2 X.prog X.w wi g tt wi1 g1 tt1 te (own.map (·.2)) vs1 σ H Q)
    (hRR : ∀ D C s' m H', Inv X pins σ H' s' → Q (.ref D) H' → s'.heap.Ns C m → FpOk X pins H' C → compPost (model X.prog X.w) X.A X.xe use Qf (.ref D) C (.ok .next) s') :
    wpAny (model X.prog X.w) X.A (comprehension (.SetComp elt [⟨tg, iter, ifs, 0⟩, ⟨tg1, iter1, ifs1, 0⟩] scope pos) scope X.env pos' (newSet (.type "set")) false (eval iter X.env) use) Qf X.xe s := by
  have hfree : ∀ y ∈ scope.names, y.2 = .free → ∃ c, X.env.cells.lookup y.1 = some c := fun y hy e => by
    rcases ok.free y hy e with k | k
    · exact I.ok.has _ (.inl k)
    · exact I.ok.has _ (.inr k)
  refine wpAny_comprehension_free (use := use) rfl hs (closure_ok hfree) ok.kind (fun y hy e => by rw [ok.uniq y hy, e])
    (thn (hi.run pins s σ H _ I h) fun xv s1 hx => thn hx fun itv s2 h2 => ?_)
  obtain ⟨it, fp, tn, J, H2, e, I2, T, st2, f2, q⟩ := h2
  subst e
  refine newSet_ok (newEnv_comp ?_)
  generalize hD : s2.heap.objs.size = D
  have hDn : H2 D = none := I2.hok.fresh (Nat.le_of_eq hD)
  obtain ⟨W, ⟨m0, w0⟩, turn⟩ := q D hDn
  generalize hs3 : ({ s2 with heap := s2.heap.push { cls := .type "set", dict := none, data := .set #[] 0 (.fresh 0 0 (!X.w.params.followText "set-order")) } } : Shared) = s3
  have I3 : Inv X pins σ (upd H2 D (SetXO X.prog X.w D [])) s3 := by
    rw [← hs3]
    refine I2.laid (t' := s2.toks) (fun b o e => Heap.get?_push_of_some _ e) (Nat.le_of_eq hD) ?_
    rw [← hD]
    exact setXO_new ⟨_, Heap.get?_push_size _ rfl, fresh_d X.w⟩
  have h3 : s3.heap = s2.heap.push { cls := .type "set", dict := none, data := .set #[] 0 (.fresh 0 0 (!X.w.params.followText "set-order")) } := by rw [← hs3]
  have sz : ∀ b ∈ fp, b < s2.heap.objs.size := fun b hb => by
    obtain ⟨o, e, _⟩ := T.obj _ _ st2 b hb
    exact Heap.lt_size e
  have f3 : ∀ b ∈ fp, FpOk X pins (upd H2 D (SetXO X.prog X.w D [])) b ∧ b < s3.heap.objs.size := fun b hb => by
    have hlt := sz b hb
    refine ⟨⟨?_, (f2 b hb).2⟩, by rw [h3, Heap.size_push]; exact Nat.lt_succ_of_lt hlt⟩
    rw [upd_ne (by rw [← hD]; exact Nat.ne_of_lt hlt)]
    exact (f2 b hb).1
  have st3 : tn 0 s3.heap := T.keep _ _ _ st2 fun b _ o e => by rw [h3]; exact Heap.get?_push_of_some _ e
  have I4 := block_start I3 ok hN f3
  generalize hH3 : upd H2 D (SetXO X.prog X.w D []) = H3 at I3 I4 w0 f3
  have pg := hg s3 H3 s3.heap.objs.size (cellsFrom (s3.heap.objs.size + 1) scope.names (cloFrom X.env.cells scope.names [])) fp
  have pt := ht s3 H3 s3.heap.objs.size (cellsFrom (s3.heap.objs.size + 1) scope.names (cloFrom X.env.cells scope.names [])) fp
  have pe := he s3 H3 s3.heap.objs.size (cellsFrom (s3.heap.objs.size + 1) scope.names (cloFrom X.env.cells scope.names [])) fp
  have pi1 := hi1 s3 H3 s3.heap.objs.size (cellsFrom (s3.heap.objs.size + 1) scope.names (cloFrom X.env.cells scope.names [])) fp
  have pg1 := hg1 s3 H3 s3.heap.objs.size (cellsFrom (s3.heap.objs.size + 1) scope.names (cloFrom X.env.cells scope.names [])) fp
  have pt1 := ht1 s3 H3 s3.heap.objs.size (cellsFrom (s3.heap.objs.size + 1) scope.names (cloFrom X.env.cells scope.names [])) fp
  show codeAny _ _ (.compStart (.SetComp elt [⟨tg, iter, ifs, 0⟩, ⟨tg1, iter1, ifs1, 0⟩] scope pos) 0 (.ref it) (.ref D) (compEnvC scope (cellsFrom (s3.heap.objs.size + 1) scope.names (cloFrom X.env.cells scope.names [])) s3.heap.objs.size X.env)) (compPost (model X.prog X.w) X.A X.xe use Qf (.ref D) s3.heap.objs.size) { s3 with heap := pushCells (s3.heap.push { cls := .type "dict", data := .dict #[] }) scope.names }
  have nfp : ∀ b ∈ fp, H3 b = none := fun b hb => (f3 b hb).1.1
  generalize hce : compEnvC scope (cellsFrom (s3.heap.objs.size + 1) scope.names (cloFrom X.env.cells scope.names [])) s3.heap.objs.size X.env = ce at I4 pg pt pe pi1 pg1 pt1 ⊢
  have cL : ce.locals = s3.heap.objs.size := by subst hce; rfl
  generalize hs4 : ({ s3 with heap := pushCells (s3.heap.push { cls := .type "dict", data := .dict #[] }) scope.names } : Shared) = s4 at I4 ⊢
  have st4 : tn 0 s4.heap := T.keep _ _ _ st3 fun b _ o e => by rw [← hs4]; exact pushCells_keeps _ _ _ _ (Heap.get?_push_of_some _ e)
  have stat : ∀ {σ' : L2.St} {H' : Hp} {s' : Shared}, Inv (X.blk s3 H3 scope ce fp) [] σ' H' s' → (∀ b ∈ fp, H' b = none) → ∀ b ∈ fp, FpOk (X.blk s3 H3 scope ce fp) [] H' b := fun {σ' H' s'} I' hn b hb =>
    ⟨hn b hb, (I'.ok.exf b hb).1, I'.ok.exfs b hb, .inl hb, fun x c e => (I'.ok.exf b hb).2 x c e, fun p hp => absurd (show p ∈ ([] : List (Addr × Obj)) ++ [] from hp) (by simp)⟩
  have loop : codeAny (model X.prog X.w) X.A (.compLoop (.SetComp elt [⟨tg, iter, ifs, 0⟩, ⟨tg1, iter1, ifs1, 0⟩] scope pos) 0 (.ref it) (.ref D) ce) (compPost (model X.prog X.w) X.A X.xe use Qf (.ref D) s3.heap.objs.size) s4 := by
    refine loopS_out (hs1 ce) (fun n s' => ∃ i H', Inv (X.blk s3 H3 scope ce fp) [] (wipe σ (own.map (·.2))) H' s' ∧ tn i s'.heap ∧ (∀ b ∈ fp, H' b = none) ∧ W i n H') ?_ m0 ⟨0, H3, I4, st4, nfp, w0⟩
    rintro n s5 ⟨i, H5, I5, st5, n5, w5⟩
    rcases turn i n H5 w5 with ⟨stop, qq⟩ | ⟨go, Nx, hNx, step⟩
    · have td := T.done (X.blk s3 H3 scope ce fp) rfl rfl rfl hc i [] s5 _ H5 (fun _ _ => False) I5 (stat I5 n5) st5 stop
      refine thnF td fun r s6 ⟨hr, I6⟩ => ?_
      subst hr
      have I7 : Inv X pins σ H5 s6 := I3.call' (ch := fp) I6.os I6.base I6.hok I6.bare fun b hb => ⟨(f3 b hb).1.2.2.2.1, (f3 b hb).1.2.1, (f3 b hb).1.2.2.2.2.1, (f3 b hb).1.2.2.2.2.2⟩
      have nC : H5 s3.heap.objs.size = none := by
        have z : H5 ce.locals = none := I6.free
        rw [cL] at z
        exact z
      obtain ⟨m, hn, _⟩ := I6.loc
      have hn : s6.heap.Ns ce.locals m := hn
      rw [cL] at hn
      exact hRR D s3.heap.objs.size s6 m H5 I7 qq hn (I3.fpOk (Nat.le_refl _) nC)
    · have ti := T.item (X.blk s3 H3 scope ce fp) rfl rfl rfl hc i [] s5 _ H5 (fun _ _ => False) I5 (stat I5 n5) st5 go
      refine thnF ti fun r s6 ⟨u, hr, h6⟩ => ?_
      subst hr
      refine thnF h6 fun _ s7 ⟨x, H7, I7, r7, y7, st7, n7⟩ => ?_
      have I7' := I7.pinned (stat I7 n7) (T.obj _ _ st7)
      refine thnF (pg.run _ s7 _ H7 x u _ I7' r7 (step x H7 y7)) fun _ s8 ⟨σ8, H8, I8, hw8, q8⟩ => ?_
      refine thnF (pt.run _ s8 σ8 H8 _ I8 q8) fun b s9 ⟨H9, I9, q9⟩ => ?_
      have fin : ∀ {σ9 : L2.St} {s' : Shared} {H' : Hp}, Inv (X.blk s3 H3 scope ce fp) ([] ++ pinsAt fp s7.heap) σ9 H' s' → (wipe σ (own.map (·.2))).length = σ9.length → (∀ (j : Nat) v, (wipe σ (own.map (·.2)))[j]? = some (some v) → σ9[j]? = some (some v)) → Nx H' →
          ∃ m, m < n ∧ ∃ i H', Inv (X.blk s3 H3 scope ce fp) [] (wipe σ (own.map (·.2))) H' s' ∧ tn i s'.heap ∧ (∀ b ∈ fp, H' b = none) ∧ W i m H' := fun {σ9 s' H'} I' hl hk nx => by
        obtain ⟨m', hm, w'⟩ := hNx H' nx
        have pin' : ∀ b ∈ fp, ∀ o, s7.heap.get? b = some o → s'.heap.get? b = some o ∧ H' b = none := fun b hb o e =>
          let z := I'.pin (b, o) (List.mem_append_right _ (List.mem_append_right _ (mem_pinsAt hb e)))
          ⟨z.1, z.2.1⟩
        refine ⟨m', hm, i + 1, H', (I'.unpinned (pins := [])).weak hl hk, T.keep _ _ _ st7 fun b hb o e => (pin' b hb o e).1, fun b hb => ?_, w'⟩
        obtain ⟨o, e, _⟩ := T.obj _ _ st7 b hb
        exact (pin' b hb o e).2
      have hl8 : (wipe σ (own.map (·.2))).length = σ8.length := by rw [← hw8, wipe_length]
      have hk8 : ∀ (j : Nat) v, (wipe σ (own.map (·.2)))[j]? = some (some v) → σ8[j]? = some (some v) := fun j v e => by
        rw [← hw8] at e
        exact (wipe_some e).1
      have hk9 : ∀ (j : Nat) v, (wipe σ (own.map (·.2)))[j]? = some (some v) → (wipe σ8 vs1)[j]? = some (some v) := fun j v e => by
        rw [← hw8] at e
        obtain ⟨e1, e2⟩ := wipe_some e
        rw [wipe_out fun z => e2 (hv j z)]
        exact e1
      cases b with
      | false =>
        simp only [Bool.false_eq_true, if_false] at q9 ⊢
        exact fin I9 hl8 hk8 q9
      | true =>
        simp only [if_true] at q9 ⊢
        refine thnF (pi1.run _ s9 σ8 H9 _ I9 q9) fun xv s10 hx => thnF hx fun itv s11 h11 => ?_
        obtain ⟨it1, fp1, tn1, J1, H11, e1, I11, T1, st11, f11, W1, ⟨m1, w1⟩, turn1⟩ := h11
        subst e1
        have stat1 : ∀ {H' : Hp}, (∀ b ∈ fp1, H' b = none) → ∀ b ∈ fp1, FpOk (X.blk s3 H3 scope ce fp) ([] ++ pinsAt fp s7.heap) H' b := fun hn b hb => ⟨hn b hb, (f11 b hb).2⟩
        have loop1 : codeAny (model X.prog X.w) X.A (.compLoop (.SetComp elt [⟨tg, iter, ifs, 0⟩, ⟨tg1, iter1, ifs1, 0⟩] scope pos) 1 (.ref it1) (.ref D) ce)
            (fun r s' => match r with
              | .ok _ => ∃ m, m < n ∧ ∃ i H', Inv (X.blk s3 H3 scope ce fp) [] (wipe σ (own.map (·.2))) H' s' ∧ tn i s'.heap ∧ (∀ b ∈ fp, H' b = none) ∧ W i m H'
              | .error _ => False) s11 := by
          refine loopS_in (fun k s' => ∃ j H', Inv (X.blk s3 H3 scope ce fp) ([] ++ pinsAt fp s7.heap) (wipe σ8 vs1) H' s' ∧ tn1 j s'.heap ∧ (∀ b ∈ fp1, H' b = none) ∧ W1 j k H') ?_ m1 ⟨0, H11, I11.weak (wipe_length _ _) (fun j v e => (wipe_some e).1), st11, fun b hb => (f11 b hb).1, w1⟩
          rintro k s12 ⟨j, H12, I12, st12, n12, w12⟩
          rcases turn1 j k H12 w12 with ⟨stop1, nx1⟩ | ⟨go1, Nx1, hNx1, step1⟩
          · refine thnF (T1.done (X.blk s3 H3 scope ce fp) rfl rfl rfl hc j _ s12 (wipe σ8 vs1) H12 (fun _ _ => False) I12 (stat1 n12) st12 stop1) fun r s13 ⟨hr, I13⟩ => ?_
            subst hr
            exact fin I13 (hl8.trans (wipe_length σ8 vs1).symm) hk9 nx1
          · refine thnF (T1.item (X.blk s3 H3 scope ce fp) rfl rfl rfl hc j _ s12 (wipe σ8 vs1) H12 (fun _ _ => False) I12 (stat1 n12) st12 go1) fun r s13 ⟨u1, hr, h13⟩ => ?_
            subst hr
            refine thnF h13 fun _ s14 ⟨x1, H14, I14, r14, y14, st14, n14⟩ => ?_
            have I14' := I14.pinned (stat1 n14) (T1.obj _ _ st14)
            refine thnF (pg1.run _ s14 (wipe σ8 vs1) H14 x1 u1 _ I14' r14 (step1 x1 H14 y14)) fun _ s15 ⟨σ15, H15, I15, hw15, q15⟩ => ?_
            refine thnF (pt1.run _ s15 σ15 H15 _ I15 q15) fun b1 s16 ⟨H16, I16, q16⟩ => ?_
            have fin1 : ∀ {s' : Shared} {H' : Hp}, Inv (X.blk s3 H3 scope ce fp) (([] ++ pinsAt fp s7.heap) ++ pinsAt fp1 s14.heap) σ15 H' s' → Nx1 H' → ∃ m, m < k ∧ ∃ j H', Inv (X.blk s3 H3 scope ce fp) ([] ++ pinsAt fp s7.heap) (wipe σ8 vs1) H' s' ∧ tn1 j s'.heap ∧ (∀ b ∈ fp1, H' b = none) ∧ W1 j m H' := fun {s' H'} I' nx => by
              obtain ⟨m', hm, w'⟩ := hNx1 H' nx
              have pin' : ∀ b ∈ fp1, ∀ o, s14.heap.get? b = some o → s'.heap.get? b = some o ∧ H' b = none := fun b hb o e =>
                let z := I'.pin (b, o) (List.mem_append_right _ (List.mem_append_right _ (mem_pinsAt hb e)))
                ⟨z.1, z.2.1⟩
              refine ⟨m', hm, j + 1, H', I'.unpinned.weak (by rw [← hw15, wipe_length]) (fun j v e => by rw [← hw15] at e; exact (wipe_some e).1), T1.keep _ _ _ st14 fun b hb o e => (pin' b hb o e).1, fun b hb => ?_, w'⟩
              obtain ⟨o, e, _⟩ := T1.obj _ _ st14 b hb
              exact (pin' b hb o e).2
            cases b1 with
            | false =>
              simp only [Bool.false_eq_true, if_false] at q16 ⊢
              exact fin1 I16 q16
            | true =>
              simp only [if_true] at q16 ⊢
              refine thnF (pe.run _ s16 σ15 H16 _ I16 q16) fun z s17 ⟨yv, H17, I17, r17, cc, l, ey, hD17, hz17, nx⟩ => ?_
              subst ey
              obtain ⟨tk, rfl⟩ := r17
              exact addX_ok (X := X.blk s3 H3 scope ce fp) I17 hD17 hz17 fun s18 I18 => fin1 I18 nx
        exact startS_in loop1 (T1.self X.A 0 _ _ _ st11 loop1)
  exact codeAny_compStart_set loop (T.self X.A 0 _ _ _ st4 loop)
theorem pe_sc2 {elt tg iter tg1 iter1 : Expr} {ifs ifs1 : List Expr} {scope : Scope} {own : List (Str × Nat)} {vs1 : List Nat} {pos : Pos} {wi wi1 : TI} {g g1 : TG} {tt tt1 : TT} {te : TE}
    (hc : X.calm = true) (hN : X.N.Nodup) (hi : PI X tg iter wi) (ok : BlkOk X.N X.env.scope scope own) (hv : ∀ i ∈ vs1, i ∈ own.map (·.2))
    (hg : ∀ (s : Shared) (H : Hp) (C : Addr) (cl : List (Str × Addr)) (fp : List Addr), PG (X.blk s H scope (compEnvC scope cl C X.env) fp) tg g) (ht : ∀ (s : Shared) (H : Hp) (C : Addr) (cl : List (Str × Addr)) (fp : List Addr), PTs (X.blk s H scope (compEnvC scope cl C X.env) fp) ifs tt)
    (hi1 : ∀ (s : Shared) (H : Hp) (C : Addr) (cl : List (Str × Addr)) (fp : List Addr), PI (X.blk s H scope (compEnvC scope cl C X.env) fp) tg1 iter1 wi1)
    (hg1 : ∀ (s : Shared) (H : Hp) (C : Addr) (cl : List (Str × Addr)) (fp : List Addr), PG (X.blk s H scope (compEnvC scope cl C X.env) fp) tg1 g1)
    (ht1 : ∀ (s : Shared) (H : Hp) (C : Addr) (cl : List (Str × Addr)) (fp : List Addr), PTs (X.blk s H scope (compEnvC scope cl C X.env) fp) ifs1 tt1)
    (he : ∀ (s : Shared) (H : Hp) (C : Addr) (cl : List (Str × Addr)) (fp : List Addr), PE (X.blk s H scope (compEnvC scope cl C X.env) fp) elt te)
    (hs : ∀ x, foldedSetIterable iter X.env x = pure x := by intro _; rfl) (hs1 : ∀ env x, foldedSetIterable iter1 env x = pure x := by intro _ _; rfl) :
    PE X (.SetComp elt [⟨tg, iter, ifs, 0⟩, ⟨tg1, iter1, ifs1, 0⟩] scope pos) (tSc2 X.prog X.w wi g tt wi1 g1 tt1 te (own.map (·.2)) vs1) := by
  refine ⟨fun pins s σ H Q I h => ?_⟩
  rw [eval_SetComp]
  refine sc2_core hc hN hi ok hv hg ht hi1 hg1 ht1 he hs hs1 I h fun D C s' m H' I' q hn f => ⟨m, hn, fun h'' sb => ?_⟩
  obtain ⟨f0, f1, f2, f3, f4, f5⟩ := f
  exact ⟨.ref D, H', I'.turned (t' := s'.toks) (fun b o hb e => (sb.2 b hb).trans e) f0 f1 f3 f4 f5, rfl, q⟩
theorem ps_setSc2 {elt tg iter tg1 iter1 : Expr} {ifs ifs1 : List Expr} {scope : Scope} {own : List (Str × Nat)} {vs1 : List Nat} {i : Nat} {y : Str} {py spos pos : Pos} {wi wi1 : TI} {g g1 : TG} {tt tt1 : TT} {te : TE}
    (hc : X.calm = true) (hN : X.N.Nodup) (hy : X.N[i]? = some y) (hyl : X.env.scope.names.lookup y = some .local)
    (hsw : swapsWith (.SetComp elt [⟨tg, iter, ifs, 0⟩, ⟨tg1, iter1, ifs1, 0⟩] scope pos) (some (.Name y py)) spos.line X.env = pure true) (hi : PI X tg iter wi) (ok : BlkOk X.N X.env.scope scope own) (hv : ∀ i ∈ vs1, i ∈ own.map (·.2))
    (hg : ∀ (s : Shared) (H : Hp) (C : Addr) (cl : List (Str × Addr)) (fp : List Addr), PG (X.blk s H scope (compEnvC scope cl C X.env) fp) tg g) (ht : ∀ (s : Shared) (H : Hp) (C : Addr) (cl : List (Str × Addr)) (fp : List Addr), PTs (X.blk s H scope (compEnvC scope cl C X.env) fp) ifs tt)
    (hi1 : ∀ (s : Shared) (H : Hp) (C : Addr) (cl : List (Str × Addr)) (fp : List Addr), PI (X.blk s H scope (compEnvC scope cl C X.env) fp) tg1 iter1 wi1)
    (hg1 : ∀ (s : Shared) (H : Hp) (C : Addr) (cl : List (Str × Addr)) (fp : List Addr), PG (X.blk s H scope (compEnvC scope cl C X.env) fp) tg1 g1)
    (ht1 : ∀ (s : Shared) (H : Hp) (C : Addr) (cl : List (Str × Addr)) (fp : List Addr), PTs (X.blk s H scope (compEnvC scope cl C X.env) fp) ifs1 tt1)
    (he : ∀ (s : Shared) (H : Hp) (C : Addr) (cl : List (Str × Addr)) (fp : List Addr), PE (X.blk s H scope (compEnvC scope cl C X.env) fp) elt te)
    (hs : ∀ x, foldedSetIterable iter X.env x = pure x := by intro _; rfl) (hs1 : ∀ env x, foldedSetIterable iter1 env x = pure x := by intro _ _; rfl) :
    PS X (.Assign [.Name y py] (.SetComp elt [⟨tg, iter, ifs, 0⟩, ⟨tg1, iter1, ifs1, 0⟩] scope pos) spos) (tAsg (tSc2 X.prog X.w wi g tt wi1 g1 tt1 te (own.map (·.2)) vs1) (gName i)) := by
  refine ⟨fun pins s σ H D I h => ?_⟩
  rw [exec_Assign_Name_used _ _ _ _ hsw]
  refine wpAny_bind (wpAny_standAt (wpAny_bind ?_))
  show wpAny _ X.A (do let _ ← comprehension (.SetComp elt [⟨tg, iter, ifs, 0⟩, ⟨tg1, iter1, ifs1, 0⟩] scope pos) scope X.env (firstIterPos [⟨tg, iter, ifs, 0⟩, ⟨tg1, iter1, ifs1, 0⟩] pos) (newSet (.type "set")) false (eval iter X.env) (some (assign (.Name y py) X.env))) _ _ s
  have h : tSc2 X.prog X.w wi g tt wi1 g1 tt1 te (own.map (·.2)) vs1 σ H (fun x H1 => gName i x σ H1 D.nx) := h
  refine wpAny_bind (thn (sc2_core (Qf := fun _ s' => SP X pins D .next s') hc hN hi ok hv hg ht hi1 hg1 ht1 he hs hs1 I h fun L C s' m H' I' q hn f => ?_) fun _ s' hq => wpAny_pure (wpAny_pure hq))
  show wpAny _ _ (assign (.Name y py) X.env (.ref L)) _ _ _
  refine wpAny_assign_Name (store_ok2 (v := V.ref L) I' hN hy (.inl hyl) rfl (fun s2 I2 ⟨a, sb, ha⟩ => ?_) (.inr hyl))
  obtain ⟨f0, f1, f2, f3, f4, f5⟩ := f
  have haC : C ≠ a := by
    rcases ha with z | z
    · rw [z]; exact f1
    · exact fun e => f4 y a z e.symm
  refine ⟨m, hn.sameBut sb haC, fun h3 sb3 => ?_⟩
  exact ⟨_, H', I2.turned (t' := s2.toks) (fun b o hb e => (sb3.2 b hb).trans e) f0 f1 f3 f4 f5, q⟩
theorem swS_true {elt : Expr} {gs : List Comprehension} {scope : Scope} {pos py : Pos} {y : Str} {l : Nat} {env : Env} (hk : env.scope.kind = .function) (hy : env.scope.names.lookup y = some .local) (hl : (py.line == pos.line) = true)
    (ha : (scope.names.any fun (n, k) => n == y && (k == .local || k == .cell)) = false) : swapsWith (.SetComp elt gs scope pos) (some (.Name y py)) l env = pure true := by
  have ky : env.kindOf y = some .local := hy
  have hb : env.blockKind = .function := by unfold Env.blockKind; rw [hk]; rfl
  unfold swapsWith
  simp only [hb, ky, ha, Expr.pos, hl]
  rfl
end
/-! ### walks of the two sources -/
theorem sc2W {P : Program} {w : World} {J : It} {xs : List V} {Sd : Hp → Prop} (wk : Wk J xs Sd) {g : TG} {tt : TT} {wi1 : TI} {g1 : TG} {tt1 : TT} {te : TE} {vs vs1 : List Nat} {σ : L2.St} {H1 : Hp} {D : Addr} {Qd : Hp → Prop}
    (Pv : Nat → Hp → Prop) (h0 : Pv 0 (upd H1 D (SetXO P w D []))) (hst : ∀ i H, i ≤ xs.length → Pv i H → Sd H)
    (hs : ∀ i x H, xs[i]? = some x → Pv i H → g x (wipe σ vs) H fun σ2 H2 => wipe σ2 vs = wipe σ vs ∧ tt σ2 H2 fun b H3 =>
      if b = true then wi1 σ2 H3 fun J1 H4 => ∃ W1 : Nat → Nat → Hp → Prop, (∃ m, W1 0 m H4) ∧ ∀ j k H, W1 j k H →
        (J1.stop j H ∧ Pv (i + 1) H) ∨ (J1.go j H ∧ ∃ Nx1 : Hp → Prop, (∀ H', Nx1 H' → ∃ k', k' < k ∧ W1 (j + 1) k' H') ∧ ∀ x H', J1.yld j H x H' → g1 x (wipe σ2 vs1) H' fun σ3 H5 => wipe σ3 vs1 = wipe σ2 vs1 ∧ tt1 σ3 H5 fun b H6 =>
          if b = true then te σ3 H6 fun y H7 => ∃ (c : Str) (l : List Str), y = .str c ∧ H7 D = some (SetXO P w D l) ∧ l.length + 1 < scanBound ∧ Nx1 (upd H7 D (SetXO P w D (insS c l))) else Nx1 H6)
      else Pv (i + 1) H3)
    (hd : ∀ H, Pv xs.length H → Qd H) :
    ∃ W : Nat → Nat → Hp → Prop, (∃ m, W 0 m (upd H1 D (SetXO P w D []))) ∧ ∀ i m H, W i m H →
      (J.stop i H ∧ Qd H) ∨ (J.go i H ∧ ∃ Nx : Hp → Prop, (∀ H', Nx H' → ∃ m', m' < m ∧ W (i + 1) m' H') ∧ ∀ x H', J.yld i H x H' → g x (wipe σ vs) H' fun σ2 H2 => wipe σ2 vs = wipe σ vs ∧ tt σ2 H2 fun b H3 =>
        if b = true then wi1 σ2 H3 fun J1 H4 => ∃ W1 : Nat → Nat → Hp → Prop, (∃ m, W1 0 m H4) ∧ ∀ j k H, W1 j k H →
          (J1.stop j H ∧ Nx H) ∨ (J1.go j H ∧ ∃ Nx1 : Hp → Prop, (∀ H', Nx1 H' → ∃ k', k' < k ∧ W1 (j + 1) k' H') ∧ ∀ x H', J1.yld j H x H' → g1 x (wipe σ2 vs1) H' fun σ3 H5 => wipe σ3 vs1 = wipe σ2 vs1 ∧ tt1 σ3 H5 fun b H6 =>
            if b = true then te σ3 H6 fun y H7 => ∃ (c : Str) (l : List Str), y = .str c ∧ H7 D = some (SetXO P w D l) ∧ l.length + 1 < scanBound ∧ Nx1 (upd H7 D (SetXO P w D (insS c l))) else Nx1 H6)
        else Nx H3) := by
  refine ⟨fun i m H => m = xs.length - i ∧ i ≤ xs.length ∧ Pv i H, ⟨xs.length, rfl, Nat.zero_le _, h0⟩, ?_⟩
  rintro i m H ⟨rfl, hi, pv⟩
  have sd := hst i H hi pv
  rcases Nat.lt_or_ge i xs.length with lt | ge
  · refine .inr ⟨wk.go i H sd lt, Pv (i + 1), fun H' q => ⟨xs.length - (i + 1), by omega, rfl, lt, q⟩, ?_⟩
    intro x H' y
    obtain ⟨rfl, hx⟩ := wk.yld i H x H' sd lt y
    exact hs i x _ hx pv
  · have e : i = xs.length := by omega
    subst e
    exact .inl ⟨wk.stop _ H sd ge, hd H pv⟩
/-- the second source's loop -/
theorem sc2I {P : Program} {w : World} {J : It} {xs : List V} {Sd : Hp → Prop} (wk : Wk J xs Sd) {g : TG} {tt : TT} {te : TE} {vs : List Nat} {σ : L2.St} {H1 : Hp} {D : Addr} {Nx : Hp → Prop}
    (Pv : Nat → Hp → Prop) (h0 : Pv 0 H1) (hst : ∀ i H, i ≤ xs.length → Pv i H → Sd H)
    (hs : ∀ i x H, xs[i]? = some x → Pv i H → g x (wipe σ vs) H fun σ3 H5 => wipe σ3 vs = wipe σ vs ∧ tt σ3 H5 fun b H6 =>
      if b = true then te σ3 H6 fun y H7 => ∃ (c : Str) (l : List Str), y = .str c ∧ H7 D = some (SetXO P w D l) ∧ l.length + 1 < scanBound ∧ Pv (i + 1) (upd H7 D (SetXO P w D (insS c l))) else Pv (i + 1) H6)
    (hd : ∀ H, Pv xs.length H → Nx H) :
    ∃ W1 : Nat → Nat → Hp → Prop, (∃ m, W1 0 m H1) ∧ ∀ j k H, W1 j k H →
      (J.stop j H ∧ Nx H) ∨ (J.go j H ∧ ∃ Nx1 : Hp → Prop, (∀ H', Nx1 H' → ∃ k', k' < k ∧ W1 (j + 1) k' H') ∧ ∀ x H', J.yld j H x H' → g x (wipe σ vs) H' fun σ3 H5 => wipe σ3 vs = wipe σ vs ∧ tt σ3 H5 fun b H6 =>
        if b = true then te σ3 H6 fun y H7 => ∃ (c : Str) (l : List Str), y = .str c ∧ H7 D = some (SetXO P w D l) ∧ l.length + 1 < scanBound ∧ Nx1 (upd H7 D (SetXO P w D (insS c l))) else Nx1 H6) := by
  refine ⟨fun i m H => m = xs.length - i ∧ i ≤ xs.length ∧ Pv i H, ⟨xs.length, rfl, Nat.zero_le _, h0⟩, ?_⟩
  rintro i m H ⟨rfl, hi, pv⟩
  have sd := hst i H hi pv
  rcases Nat.lt_or_ge i xs.length with lt | ge
  · refine .inr ⟨wk.go i H sd lt, Pv (i + 1), fun H' q => ⟨xs.length - (i + 1), by omega, rfl, lt, q⟩, ?_⟩
    intro x H' y
    obtain ⟨rfl, hx⟩ := wk.yld i H x H' sd lt y
    exact hs i x _ hx pv
  · have e : i = xs.length := by omega
    subst e
    exact .inl ⟨wk.stop _ H sd ge, hd H pv⟩
/-- a dict comprehension -/
theorem dcW {J : It} {xs : List V} {Sd : Hp → Prop} (wk : Wk J xs Sd) {g : TG} {tt : TT} {tk tv : TE} {vs : List Nat} {σ : L2.St} {H1 : Hp} {D : Addr} {Qd : Hp → Prop}
    (Pv : Nat → Hp → Prop) (h0 : Pv 0 (upd H1 D (.dK []))) (hst : ∀ i H, i ≤ xs.length → Pv i H → Sd H)
    (hs : ∀ i x H, xs[i]? = some x → Pv i H → g x (wipe σ vs) H fun σ2 H2 => wipe σ2 vs = wipe σ vs ∧ tt σ2 H2 fun b H3 =>
      if b = true then tk σ2 H3 fun y H4 => tv σ2 H4 fun z H5 => ∃ kvs k, y = kV k ∧ H5 D = some (.dK kvs) ∧ kvs.length < sizeLine ∧ Pv (i + 1) (upd H5 D (.dK (putK kvs k z))) else Pv (i + 1) H3)
    (hd : ∀ H, Pv xs.length H → Qd H) :
    ∃ W : Nat → Nat → Hp → Prop, (∃ m, W 0 m (upd H1 D (.dK []))) ∧ ∀ i m H, W i m H →
      (J.stop i H ∧ Qd H) ∨ (J.go i H ∧ ∃ Nx : Hp → Prop, (∀ H', Nx H' → ∃ m', m' < m ∧ W (i + 1) m' H') ∧ ∀ x H', J.yld i H x H' →
        g x (wipe σ vs) H' fun σ2 H2 => wipe σ2 vs = wipe σ vs ∧ tt σ2 H2 fun b H3 =>
        if b = true then tk σ2 H3 fun y H4 => tv σ2 H4 fun z H5 => ∃ kvs k, y = kV k ∧ H5 D = some (.dK kvs) ∧ kvs.length < sizeLine ∧ Nx (upd H5 D (.dK (putK kvs k z))) else Nx H3) := by
  refine ⟨fun i m H => m = xs.length - i ∧ i ≤ xs.length ∧ Pv i H, ⟨xs.length, rfl, Nat.zero_le _, h0⟩, ?_⟩
  rintro i m H ⟨rfl, hi, pv⟩
  have sd := hst i H hi pv
  rcases Nat.lt_or_ge i xs.length with lt | ge
  · refine .inr ⟨wk.go i H sd lt, Pv (i + 1), fun H' q => ⟨xs.length - (i + 1), by omega, rfl, lt, q⟩, ?_⟩
    intro x H' y
    obtain ⟨rfl, hx⟩ := wk.yld i H x H' sd lt y
    exact hs i x _ hx pv
  · have e : i = xs.length := by omega
    subst e
    exact .inl ⟨wk.stop _ H sd ge, hd H pv⟩
theorem lt64 {n c k : Nat} (h : n + 64 < c) (hk : k ≤ 64 := by decide) : n + k < c := Nat.lt_of_le_of_lt (Nat.add_le_add_left hk n) h
/-- a dict comprehension over enumerate of a tuple that stands still -/
theorem dcE {K : PySem.W.Frag} {a : Addr} {xs : List V} {g : TG} {tt : TT} {tk tv : TE} {vs : List Nat} {σ : L2.St} {H1 : Hp} {D : Addr} {Qd : Hp → Prop}
    (Pv : Nat → Hp → Prop) (h0 : Pv 0 (upd H1 D (.dK []))) (hst : ∀ i H, i ≤ xs.length → Pv i H → SqT K H a xs)
    (hs : ∀ i x H T, xs[i]? = some x → Pv i H → H T = none → g (.ref T) (wipe σ vs) (upd H T (.tup [.int (i : Nat), x])) fun σ2 H2 => wipe σ2 vs = wipe σ vs ∧ tt σ2 H2 fun b H3 =>
      if b = true then tk σ2 H3 fun y H4 => tv σ2 H4 fun z H5 => ∃ kvs k, y = kV k ∧ H5 D = some (.dK kvs) ∧ kvs.length < sizeLine ∧ Pv (i + 1) (upd H5 D (.dK (putK kvs k z))) else Pv (i + 1) H3)
    (hd : ∀ H, Pv xs.length H → Qd H) :
    ∃ W : Nat → Nat → Hp → Prop, (∃ m, W 0 m (upd H1 D (.dK []))) ∧ ∀ i m H, W i m H →
      ((ItE K a).stop i H ∧ Qd H) ∨ ((ItE K a).go i H ∧ ∃ Nx : Hp → Prop, (∀ H', Nx H' → ∃ m', m' < m ∧ W (i + 1) m' H') ∧ ∀ x H', (ItE K a).yld i H x H' →
        g x (wipe σ vs) H' fun σ2 H2 => wipe σ2 vs = wipe σ vs ∧ tt σ2 H2 fun b H3 =>
        if b = true then tk σ2 H3 fun y H4 => tv σ2 H4 fun z H5 => ∃ kvs k, y = kV k ∧ H5 D = some (.dK kvs) ∧ kvs.length < sizeLine ∧ Nx (upd H5 D (.dK (putK kvs k z))) else Nx H3) := by
  refine ⟨fun i m H => m = xs.length - i ∧ i ≤ xs.length ∧ Pv i H, ⟨xs.length, rfl, Nat.zero_le _, h0⟩, ?_⟩
  rintro i m H ⟨rfl, hi, pv⟩
  have sd := hst i H hi pv
  rcases Nat.lt_or_ge i xs.length with lt | ge
  · refine .inr ⟨⟨xs, xs[i], sd, by simp [lt]⟩, Pv (i + 1), fun H' q => ⟨xs.length - (i + 1), by omega, rfl, lt, q⟩, ?_⟩
    rintro v H' ⟨T, x, rfl, nT, rfl, hx⟩
    exact hs i x H T (hx xs sd) pv nT
  · have e : i = xs.length := by omega
    subst e
    exact .inl ⟨⟨xs, sd, ge⟩, hd H pv⟩
theorem wk_keys (d : Addr) (o : Obj) (kvs : List (Key × V)) : Wk (Itk d o kvs) (kvs.map fun kv => kV kv.1) (fun H => H d = some (.frz o (.dK kvs))) :=
  ⟨fun i H h l => ⟨h, by rw [List.length_map] at l; exact l⟩, fun i H h l => ⟨h, by rw [List.length_map] at l; exact l⟩, fun i H v H' _ _ y => by
    obtain ⟨e, k, u, h, rfl⟩ := y
    exact ⟨e, by rw [List.getElem?_map, h]; rfl⟩⟩
/-- a key that is new stands behind -/
theorem putK_new {kvs : List (Key × V)} {k : Key} {v : V} (h : k ∉ kvs.map (·.1)) : putK kvs k v = kvs ++ [(k, v)] := by
  unfold putK
  rw [if_neg]
  intro a
  obtain ⟨kv, hm, e⟩ := List.any_eq_true.mp a
  exact h (List.mem_map.mpr ⟨kv, hm, of_decide_eq_true e⟩)
section
variable {X : Cx} {K : PySem.W.Frag} {tg e : Expr} {te : TE}
theorem pi_tupK (hK : X.K = K) (he : PE X e te) : PI X tg e (iTup K te) := hK ▸ pi_tup he
theorem pi_listK (hK : X.K = K) (he : PE X e te) : PI X tg e (iList K te) := hK ▸ pi_list he
def rTupOf (K : PySem.W.Frag) : List V → Hp → VK → Prop := fun xs H Q => ∃ p ys, xs = [.ref p] ∧ ((SqL K H p ys ∧ ∀ l, H l = none → Q (.ref l) (upd H l (.tup ys))) ∨ (SqT K H p ys ∧ Q (.ref p) H))
theorem cr_tupK (hK : X.K = K) : CallR X (.type "tuple") (rTupOf K) := hK ▸ call_tuple_of
def rLstOf (K : PySem.W.Frag) : List V → Hp → VK → Prop := fun xs H Q => ∃ p ys, xs = [.ref p] ∧ (SqL K H p ys ∨ SqT K H p ys) ∧ ∀ l, H l = none → Q (.ref l) (upd H l (.lst ys))
theorem cr_lstK (hK : X.K = K) : CallR X (.type "list") (rLstOf K) := hK ▸ call_list_of
end
end G
/-! own rules: repr and str of an instance by the class's own methods -/
namespace G
open PySem PySem.Spec PyProof.Rows L2
section
variable {X : Cx} {CX : CXT} {k : Nat} {C f : Addr} {fd : FuncData} {ps : List Str} {sp : Sp} {E : XK}
/-- what comes back is a text -/
theorem txt_back {pins : List (Addr × Obj)} {σ : L2.St} {H : Hp} {s : Shared} {A : Around} {a : Addr} {Q : VK} (hA : A.frames = X.A.frames) (Fn : FnOk X.prog X.w X.K X.mg X.base CX k f fd ps sp) (hr : Room k A) (hb : Binds X.K fd ps [])
    (hx : Passes CX X E) (I : Inv X pins σ H s) (hs : sp [.ref a] H (fun v H' => ∃ z : Str, v = .str z ∧ Q (.str z) H') E) :
    wpAny (model X.prog X.w) A (call (.ref f) [.ref a]) (PySem.W.StrBack (EP X pins σ Q)) X.xe s := by
  have hl : [Value.ref a].length = ps.length := Fn.len _ _ _ _ hs
  have e0 := I.env0
  have e1 : Env0 X.prog X.w X.K X.mg X.base A X.stack s H := ⟨by rw [hA]; exact e0.frames, e0.mod, e0.bs, e0.bsz, e0.funs, e0.frf, e0.hok, e0.bare⟩
  have bt := hb s [Value.ref a] I.kIn (by simpa using hl)
  refine wpAny_call (codeAny_mono (Fn.run A X.stack s H ⟨[.ref a], []⟩ [.ref a] [.ref a] _ E hr e1 (by simpa using bt) (.cons rfl .nil) hs) ?_)
  intro r s' hq
  match r, hq with
  | .error e, hq => exact (hx pins σ H s e s' I hq)
  | .ok (.ret w), hq =>
    obtain ⟨v, H', I', rv, z, rfl, q⟩ := I.after hq
    obtain ⟨t, rfl⟩ := rv
    exact ⟨.str z, H', I', ⟨_, rfl⟩, q⟩
  | .ok .next, hq => exact hq.elim
  | .ok .brk, hq => exact hq.elim
  | .ok .cont, hq => exact hq.elim
theorem call_repr_inst (h1 : PySem.W.findIn X.K (.ref C) "__repr__" = some (some (.ref f))) (h2 : PySem.W.isFn X.K (.ref f) = true)
    (Fn : FnOk X.prog X.w X.K X.mg X.base CX k f fd ps sp) (hr : Room (k + 1) X.A) (hb : Binds X.K fd ps []) (hx : Passes CX X E) :
    CallR X (.builtin "repr") (fun xs H Q => ∃ (a dx : Addr) (fs : List (Str × V)), xs = [.ref a] ∧ H a = some (.ins C dx fs) ∧ sp [.ref a] H (fun v H' => ∃ z : Str, v = .str z ∧ Q (.str z) H') E) := by
  intro pins s σ H xs us Q I r h
  obtain ⟨a, dx, fs, rfl, ha, hs⟩ := h
  obtain ⟨u, rfl, r1⟩ := vals1 r
  obtain rfl : u = Value.ref a := r1
  obtain ⟨mA, J, _⟩ := ins_get I.hok ha
  obtain ⟨od, J, _⟩ := J.look
  obtain ⟨m, hF⟩ := I.fr
  exact PySem.W.repr_K hr.in1.units0 hF I.ok.mod.kin J h1 h2 (txt_back rfl Fn hr.in1 hb hx I hs)
theorem call_str_inst (h1 : PySem.W.findIn X.K (.ref C) "__str__" = some (some (.ref f))) (h2 : PySem.W.isFn X.K (.ref f) = true)
    (Fn : FnOk X.prog X.w X.K X.mg X.base CX k f fd ps sp) (hr : Room (k + 2) X.A) (hb : Binds X.K fd ps []) (hx : Passes CX X E) :
    CallR X (.type "str") (fun xs H Q => ∃ (a dx : Addr) (fs : List (Str × V)), xs = [.ref a] ∧ H a = some (.ins C dx fs) ∧ sp [.ref a] H (fun v H' => ∃ z : Str, v = .str z ∧ Q (.str z) H') E) := by
  intro pins s σ H xs us Q I r h
  obtain ⟨a, dx, fs, rfl, ha, hs⟩ := h
  obtain ⟨u, rfl, r1⟩ := vals1 r
  obtain rfl : u = Value.ref a := r1
  obtain ⟨mA, J, _⟩ := ins_get I.hok ha
  obtain ⟨od, J, _⟩ := J.look
  exact PySem.W.kso_call hr.in1.in1.units0 I.kIn J h1 h2 (txt_back rfl Fn hr.in1.in1 hb hx I hs)
end
end G
/-! own rules: try .. except (A, B, C) as e -/
namespace G
open PySem PySem.Spec PyProof.Rows L2
/-- an error that flies still flies where the heap has grown -/
theorem flies_on {base h h' : Heap} {l : List Env} {e : Addr} {Z : Obj → Prop} (f : HandSPX.FlyingZ base l e Z h)
    (k : ∀ b o, h.get? b = some o → h'.get? b = some o) : HandSPX.FlyingZ base l e Z h' := by
  obtain ⟨f1, f2, f3, oe, vs, T, oT, ts, t1, t2, t3, t4, t5, t6, t7, t8⟩ := f
  exact ⟨fun b o q => k b o (f1 b o q), f2, f3.of_keeps fun b o q _ => ⟨o, k b o q, rfl⟩, oe, vs, T, oT, ts, k _ _ t1, t2, t3, t4, t5, t6, k _ _ t7, t8⟩
/-- the ends of a suite whose name of the error, in slot i, goes behind it -/
def gone (i : Nat) (D : Ends) : Ends where
  nx := fun σ H => D.nx (σ.set i none) H
  rt := D.rt
  bk := fun σ H => D.bk (σ.set i none) H
  ct := fun σ H => D.ct (σ.set i none) H
/-- what one clause wishes of an error of the body; w tells whether its test takes a class -/
def wBy (w : Value → Option Bool) (i : Nat) (ts : Addr → Value → Option Addr → TS) (Wout : WX) (D : Ends) : WX := fun cls d σ H =>
  ∃ b, w cls = some b ∧ (b = true → ∀ a, H a = none → ts a cls d (gone i D) (σ.set i (some (.ref a))) H) ∧ (b = false → Wout cls d σ H)
/-- the test of a clause runs: a value, the heap at most longer, and it tells of the error what w tells of its class -/
def TestBy (X : Cx) (te : Expr) (w : Value → Option Bool) : Prop :=
  ∀ (a : Addr) (oe : Obj) (pn : List (Addr × Obj)) (s : Shared) (σ : L2.St) (H : Hp) (Q : Value → Shared → Prop) (E : Value → Shared → Prop),
    Inv (X.suite a ((a, oe) :: pn)) [] σ H s →
    (∀ (c : Value) (h' : Heap), (∀ b o, s.heap.get? b = some o → h'.get? b = some o) →
      (∀ (cls : Value) (b : Bool), w cls = some b → PySem.W.Looks (model X.prog X.w) h' (typeOf (.ref a)) cls → PySem.W.Looks (model X.prog X.w) h' (excMatches (.ref a) c) b) →
      Q c { s with heap := h' }) →
    wpAny (model X.prog X.w) (X.A.mark (some (.ref a))) (eval te X.env) Q E s
section
variable {X : Cx} {n : Str} {i : Nat} {te : Expr} {w : Value → Option Bool} {body suite : List Stmt} {b₀ : Stmt} {pos pos' : Pos} {tb : WX → TS} {ts : Addr → Value → Option Addr → TS} {Wout : WX}
theorem ps_try_by (stk : X.stack = X.env :: X.outer) (frm : X.env.frame = some X.env.locals) (nod : X.N.Nodup) (at_ : X.N[i]? = some n) (lcl : X.env.kindOf n = some .local)
    (test : TestBy X te w) (out : Takes X Wout)
    (hb : ∀ (W : WX) (pn : List (Addr × Obj)) (xe : Value → Shared → Prop), Takes (X.tr pn xe) W → PassesOwn (model X.prog X.w) X.A X.env xe → PSs (X.tr pn xe) body (tb W))
    (hsu : ∀ (a : Addr) (oe : Obj) (cls : Value) (d : Option Addr) (pn : List (Addr × Obj)), Zc cls d oe → (∃ vs, oe.data = .fields vs) → PSs (X.suite a ((a, oe) :: pn)) (b₀ :: suite) (ts a cls d)) :
    PS X (.Try body [.ExceptHandler (some te) (some n) (b₀ :: suite) pos'] [] [] pos) (fun D σ H => tb (wBy w i ts Wout D) D σ H) := by
  constructor
  intro pins s σ H D I h
  have good := I.ok
  have frs0 : X.A.frames = some (X.env :: X.outer) := good.frames.trans (by rw [stk])
  apply wpAny_Try_except
  let hd : List ExceptHandler := [.ExceptHandler (some te) (some n) (b₀ :: suite) pos']
  let after : Value → Shared → Prop := fun e s₁ => wpAny (model X.prog X.w) X.A (noteFrame e X.env) (fun _ s₂ =>
    wpAny (model X.prog X.w) X.A (setFlight e none) (fun _ s₃ => wpAny (model X.prog X.w) X.A (handleBy e X.env hd) (SP X pins D) X.xe s₃) X.xe s₂) X.xe s₁
  have caught : Takes (X.tr (X.pn ++ pins) after) (wBy w i ts Wout D) := by
    rintro u s' ⟨a, B, sI, pins', σ', H', cls, d, rfl, J', nb, up, sky, na, os, ag, b, wb, yes, no⟩
    have J : Inv X pins σ' H' sI := J'.ofTry good
    rw [show (X.tr (X.pn ++ pins) after).stack = X.env :: X.outer from stk] at sky
    apply Sky.land Zc.steady frs0 frm sky
    intro h3 fl up3
    have J3 := J.landed (s' := { s' with heap := h3 }) nb fl.1 (up.trans up3) os ag
    obtain ⟨o3, v3, g3, z3, d3⟩ := fl.there
    have apart : ∀ (hh : Heap) (o : Obj) (vs : Array Value), hh.FunFrames B (X.env :: X.outer) → hh.get? a = some o → o.data = .fields vs → a ∉ frs (X.env :: X.outer) := by
      intro hh o vs ff e1 e2 hm
      obtain ⟨_, o', e', nf⟩ := ff.mem hm
      obtain rfl : o = o' := Option.some.inj (e1.symm.trans e')
      exact nf vs e2
    have off := apart h3 o3 v3 fl.2.2.1 g3 d3
    have offL : a ≠ X.env.locals := by
      rintro rfl
      exact off (List.mem_filterMap.mpr ⟨X.env, List.mem_cons_self, frm⟩)
    have offF : a ∉ X.fs := by
      intro hm
      obtain ⟨e, he, q⟩ := List.mem_filterMap.mp hm
      exact off (List.mem_filterMap.mpr ⟨e, List.mem_cons_of_mem _ he, q⟩)
    apply wpAny_handleBy_cons (codeAny_handlers_test ?_) (by intro q; cases q)
    apply test a o3 (X.pn ++ pins) { s' with heap := h3 } σ' H' _ _ (J3.suite g3 d3 na offL offF)
    intro c h4 k4 tell
    have fl4 := flies_on fl k4
    have up4 : sI.heap.UpToSlots h4 := (up.trans up3).trans (Heap.UpToSlots.of_keeps k4)
    have g4 : h4.get? a = some o3 := k4 a o3 g3
    have kind : PySem.W.Looks (model X.prog X.w) h4 (typeOf (.ref a)) cls := fun A Q E s k q => wpAny_typeOf_ref (k _ _ g4) (by rw [z3.1]; exact q)
    apply (tell cls b wb kind).here
    cases b with
    | false =>
      show wpAny _ X.A (handleBy (.ref a) X.env []) _ _ _
      apply wpAny_handleBy_nil
      obtain ⟨_, _, _, oe, vs, T, oT, tt, p1, p2, p3, p4, _⟩ := id fl4
      unfold PySem.passOn
      refine wpAny_bind (wpAny_field p1 p3 p4 ?_)
      rw [if_neg (by simp)]
      have leave : wpAny (model X.prog X.w) X.A (setFlight (.ref a) X.env.frame) (fun _ s4 => wpAny (model X.prog X.w) X.A (throw (.ref a) : Sem Flow) (SP X pins D) X.xe s4) X.xe { s' with heap := h4 } := by
        rw [frm]
        apply HandSPX.setFlight_upZ fl4
        intro h5 held up5
        apply wpAny_throw
        apply out
        exact ⟨a, B, sI, pins, σ', H', cls, d, rfl, J, nb, up4.trans up5, .inr (.inr (by rw [stk]; exact held)), na, os, ag, no rfl⟩
      first
        | exact wpAny_bind (wpAny_pure (wpAny_bind leave))
        | exact wpAny_bind leave
    | true =>
      apply codeAny_handlers_suite_as
      apply HandSPX.lands_againZ fl4
      intro h5 fl5 up5
      have J5 := J.landed (s' := { s' with heap := h5 }) nb fl5.1 (up4.trans up5) os ag
      obtain ⟨o5, v5, g5, z5, d5⟩ := fl5.there
      have S5 := J5.suite g5 d5 na offL offF
      apply store_ok (X := X.suite a ((a, o5) :: (X.pn ++ pins))) (v := .ref a) S5 nod at_ (.inl lcl) rfl ?_ (.inr lcl)
      intro s6 S6
      refine wpAny_mono ((hsu a o5 cls d (X.pn ++ pins) z5 ⟨_, d5⟩).run [] s6 _ H' _ S6 (yes rfl a na)) (fun f s7 sp => ?_) (fun _ _ z => z.elim)
      have away : ∀ {σ7 : L2.St} {H7 : Hp} {Q : Shared → Prop}, Inv (X.suite a ((a, o5) :: (X.pn ++ pins))) [] σ7 H7 s7 → (∀ s8, Inv X pins (σ7.set i none) H7 s8 → Q s8) →
          wpAny (model X.prog X.w) X.A (do bindName X.env n .none; unbindBehindTheSuite X.env n pos') (fun _ s8 => Q s8) X.xe s7 :=
        fun {σ7 H7 Q} S7 q => gone_ok (S7.unsuite good) nod at_ lcl q
      match f, sp with
      | .next, ⟨σ7, H7, S7, q7⟩ => exact away S7 fun s8 J8 => ⟨_, _, J8, q7⟩
      | .brk, ⟨σ7, H7, S7, q7⟩ => exact away S7 fun s8 J8 => ⟨_, _, J8, q7⟩
      | .cont, ⟨σ7, H7, S7, q7⟩ => exact away S7 fun s8 J8 => ⟨_, _, J8, q7⟩
      | .ret u, ⟨v7, σ7, H7, S7, r7, q7⟩ => exact away S7 fun s8 J8 => ⟨_, _, _, J8, r7, q7⟩
  refine wpAny_mono ((hb (wBy w i ts Wout D) (X.pn ++ pins) after caught PassesOwn.looking).run [] s σ H D (I.toTry _) h) (fun f s1 sp => ?_) (fun _ _ z => z)
  match f, sp with
  | .next, ⟨σ1, H1, J1, q1⟩ => exact wpAny_execs_nil ⟨σ1, H1, J1.ofTry good, q1⟩
  | .brk, ⟨σ1, H1, J1, q1⟩ => exact ⟨σ1, H1, J1.ofTry good, q1⟩
  | .cont, ⟨σ1, H1, J1, q1⟩ => exact ⟨σ1, H1, J1.ofTry good, q1⟩
  | .ret u, ⟨v1, σ1, H1, J1, r1, q1⟩ => exact ⟨v1, σ1, H1, J1.ofTry good, r1, q1⟩
/-- (A, B, C), three classes of the module -/
theorem test_three {x1 x2 x3 : Str} {C1 C2 C3 : Addr} {p1 p2 p3 pos : Pos} {k} (m1 : X.mg x1 = some (.ref C1)) (m2 : X.mg x2 = some (.ref C2)) (m3 : X.mg x3 = some (.ref C3))
    (g1 : Gl X x1 := by rfl) (g2 : Gl X x2 := by rfl) (g3 : Gl X x3 := by rfl)
    (d1 : (x1 == ("__debug__" : Str)) = false := by decide) (d2 : (x2 == ("__debug__" : Str)) = false := by decide) (d3 : (x3 == ("__debug__" : Str)) = false := by decide) :
    TestBy X (.Tuple [.Name x1 p1, .Name x2 p2, .Name x3 p3] k pos) (fun cls => PySem.W.exmAny X.K cls [.ref C1, .ref C2, .ref C3]) := by
  intro a oe pn s σ H Q E I go
  apply wpAny_Tuple_spliced
  apply Calls.spliced_cons (ld_glob (X := X.suite a ((a, oe) :: pn)) I g1 m1 ?_ d1)
  apply Calls.spliced_cons (ld_glob (X := X.suite a ((a, oe) :: pn)) I g2 m2 ?_ d2)
  apply Calls.spliced_cons (ld_glob (X := X.suite a ((a, oe) :: pn)) I g3 m3 ?_ d3)
  apply Calls.spliced_nil
  refine ⟨(show 3 ≤ sizeLine by decide), ?_⟩
  apply go
  · exact fun b o e => Heap.get?_push_of_some _ e
  · intro cls b wb kind
    exact PySem.W.exm_tup3 (PySem.W.Frag.In.keeps I.kIn fun b o e => Heap.get?_push_of_some _ e) kind (Heap.get?_push_size _ rfl) wb
end
end G
/-! own rules: errors of the module's own classes as values: made by position and by name, their attributes, isinstance -/
namespace G
open PySem PySem.Spec PyProof.Rows L2
/-! ### the bases -/
structure BaseE (B newId initId : String) (tl : List Value) : Prop where
  F : ExcBaseFacts B newId initId tl
  sf : StoreFacts B tl "object.__setattr__" "object"
def tlE (x : String) : List Value := [.type x, .type "Exception", .type "BaseException", .type "object"]
theorem base_VE : BaseE "ValueError" "ValueError.__new__" "ValueError.__init__" (tlE "ValueError") :=
  ⟨PySem.F.excBase_ValueError, PySem.F.store_ValueError⟩
theorem base_LE : BaseE "LookupError" "LookupError.__new__" "LookupError.__init__" (tlE "LookupError") :=
  ⟨PySem.F.excBase_LookupError, PySem.F.store_LookupError⟩
theorem base_AE : BaseE "ArithmeticError" "ArithmeticError.__new__" "ArithmeticError.__init__" (tlE "ArithmeticError") :=
  ⟨PySem.F.excBase_ArithmeticError, PySem.F.store_ArithmeticError⟩

/-! ### C(e, .., k = v, ..) by BaseException.__new__ and the own __init__ -/
section
variable {prog : Program} {w : World} {A : Around} {h : Heap} {g : Array GenState} {d : Drawn} {t : Nat} {os : OsState}
variable {nm q : Str} {C N : Addr} {bs bm tl rest : List Value} {kw : List (Str × Value)} {hdct : Bool} {sn : List Str} {sub : List Value} {ab : Bool} {col : Option Bool} {dd : Option Addr}
variable {k0 k1 k2 k3 k5 : Option Value} {B newId initId : String}
theorem made_check {M : Model} {E : Value → Shared → Prop} {Q : Unit → Shared → Prop} (b : BaseE B newId initId tl) (x : ∀ n : String, bm.contains (.type n) = tl.contains (.type n))
    (hC : h.get? C = some (excClassObj nm q C N bs bm hdct sn sub ab col dd k0 k1 k2 k3 k5 newId)) (hq : Q () ⟨h, g, d, t, os⟩) :
    wpAny M A (checkBuiltinCall newId ⟨.ref C :: rest, kw⟩) Q E ⟨h, g, d, t, os⟩ := by
  have z : (Value.ref C :: bm).contains (.type B) = true := by
    rw [List.contains_cons, x, b.F.hasB, Bool.or_true]
  have st := b.F.noStar
  simp only [checkBuiltinCall, b.F.newKind, b.F.newSplit, b.F.newRow]
  repeat (first
    | refine wpAny_loadPart_at hC ?_
    | (refine wpAny_isSubtype_exc hC ?_; rw [z])
    | refine wpAny_staticBase_exc hC ?_
    | refine wpAny_madeBy_exc hC ?_
    | simp only [bne_self_eq_false, Bool.false_eq_true, if_false]
    | wp_step)
  exact hq
theorem made_new {R : Result → Shared → Prop} (b : BaseE B newId initId tl) (x : ∀ n : String, bm.contains (.type n) = tl.contains (.type n))
    (hC : h.get? C = some (excClassObj nm q C N bs bm hdct sn sub ab col dd k0 k1 k2 k3 k5 newId)) (hz : rest.length ≤ sizeLine)
    (hq : R (.ok (.ret (.ref (h.objs.size + 1)))) ⟨(h.push (PySem.W.kdv_tup rest)).push (PySem.HandSPX.excO C h.objs.size), g, d, t, os⟩) :
    codeAny (model prog w) A (.builtin newId ⟨.ref C :: rest, kw⟩) R ⟨h, g, d, t, os⟩ := by
  have e0 := b.F.ends
  have z : ∀ n : String, (Value.ref C :: bm).contains (.type n) = tl.contains (.type n) := fun n => by
    rw [List.contains_cons, x]
    rfl
  have zB := (z B).trans b.F.hasB
  have zA := (z "AttributeError").trans b.F.noAttr
  have zN := (z "NameError").trans b.F.noName
  refine codeAny_builtinAt b.F.entry ?_
  unfold Builtin.«BaseException.__new__»
  refine PySem.wpAt_bind ?_
  show PySem.wpAt _ _ _ (stack >>= _) _ _ _
  refine PySem.wpAt_bind (PySem.wpAt_stack fun p below => PySem.wpAt_of_wpAny ?_)
  wp_walk
  refine PySem.wpAt_of_wpAny ?_
  rw [b.F.owner]
  repeat (first
    | with_reducible refine wpAny_madeHere_exc b.F.canon hC ?_
    | with_reducible refine wpAny_loadPart_at hC ?_
    | (with_reducible refine wpAny_isSubtype_exc hC ?_; first | rw [zB] | rw [zA] | rw [zN])
    | wp_step)
  show R _ _
  rw [Heap.size_push]
  exact hq
theorem made_type {E : Value → Shared → Prop} {fI : Addr} {Q : Fin → Shared → Prop} (b : BaseE B newId initId tl) (x : ∀ n : String, bm.contains (.type n) = tl.contains (.type n))
    (hC : h.get? C = some (excClassObj nm q C N bs bm hdct sn sub ab col dd k0 k1 k2 k3 k5 newId)) (hz : rest.length ≤ sizeLine)
    (hi : PySem.W.Looks (model prog w) h (typeLookup (.ref C) "__init__") (some (.ref fI)))
    (hb : ∀ self, PySem.W.Looks (model prog w) h (bindSpecial (.ref fI) self) (.ref fI, [self]))
    (hq : codeAny (model prog w) A (.call (.ref fI) ⟨.ref (h.objs.size + 1) :: rest, kw⟩)
      (fun r s' => match r with
        | .ok (.ret v) => v = .none ∧ Q (.done (.ret (.ref (h.objs.size + 1)))) s'
        | .ok _ => False
        | .error e => E e s') ⟨(h.push (PySem.W.kdv_tup rest)).push (PySem.HandSPX.excO C h.objs.size), g, d, t, os⟩) :
    wpAny (model prog w) A (Builtin.«type.__call__» ⟨.ref C :: rest, kw⟩) Q E ⟨h, g, d, t, os⟩ := by
  repeat (first
    | with_reducible refine wpAny_loadPart_at hC ?_
    | with_reducible refine wpAny_madeBy_exc hC ?_
    | wp_step)
  refine codeAny_call_builtin_code (Code.quiet_builtin _ b.F.quiet) (made_check b x hC ?_)
  refine made_new b x hC hz ?_
  show wpAny _ _ _ _ _ _
  have k : ∀ y o, h.get? y = some o → ((h.push (PySem.W.kdv_tup rest)).push (PySem.HandSPX.excO C h.objs.size)).get? y = some o :=
    fun y o e => Heap.get?_push_of_some _ (Heap.get?_push_of_some _ e)
  have c1 := k _ _ hC
  have g1 : ((h.push (PySem.W.kdv_tup rest)).push (PySem.HandSPX.excO C h.objs.size)).get? (h.objs.size + 1) = some (PySem.HandSPX.excO C h.objs.size) := by heap_get
  have self : (Value.ref C :: bm).contains (.ref C) = true := by simp
  have i1 := hi.keeps k
  have b1 := (hb (.ref (h.objs.size + 1))).keeps k
  unfold isInstance
  repeat (first
    | with_reducible refine wpAny_loadPart_at g1 ?_
    | (with_reducible refine wpAny_isSubtype_exc c1 ?_; rw [self])
    | wp_step)
  show wpAny _ _ (typeLookup (.ref C) _) _ _ _
  refine i1.at ?_
  refine wpAny_holding (wpAny_bind (b1.at ?_))
  refine wpAny_bind (wpAny_call (codeAny_mono hq fun r s' z => ?_))
  match r, z with
  | .error e, z => exact z
  | .ok .next, z => exact z.elim
  | .ok .brk, z => exact z.elim
  | .ok .cont, z => exact z.elim
  | .ok (.ret v), z =>
    obtain ⟨rfl, z⟩ := z
    first
      | exact wpAny_pure (wpAny_pure z)
      | (wp_walk; exact z)
theorem made_call {R : Result → Shared → Prop} {fI : Addr} (b : BaseE B newId initId tl) (x : ∀ n : String, bm.contains (.type n) = tl.contains (.type n))
    (hC : h.get? C = some (excClassObj nm q C N bs bm hdct sn sub ab col dd k0 k1 k2 k3 k5 newId)) (hz : rest.length ≤ sizeLine)
    (hi : PySem.W.Looks (model prog w) h (typeLookup (.ref C) "__init__") (some (.ref fI)))
    (hb : ∀ self, PySem.W.Looks (model prog w) h (bindSpecial (.ref fI) self) (.ref fI, [self]))
    (hq : codeAny (model prog w) (A.under (.builtin "type.__call__" ⟨.ref C :: rest, kw⟩)) (.call (.ref fI) ⟨.ref (h.objs.size + 1) :: rest, kw⟩)
      (PySem.W.InitBack (h.objs.size + 1) R) ⟨(h.push (PySem.W.kdv_tup rest)).push (PySem.HandSPX.excO C h.objs.size), g, d, t, os⟩) :
    codeAny (model prog w) A (.call (.ref C) ⟨rest, kw⟩) R ⟨h, g, d, t, os⟩ := by
  have f1 := tc_lookup
  have f2 := tc_bind (.ref C)
  have f3 := tc_sub
  have ty : (⟨h, g, d, t, os⟩ : Shared).TypeIs (.ref C) "type" := ⟨_, hC, rfl⟩
  refine codeAny_of_tree ?_
  show wpAny _ _ (callAny (.ref C) _) _ _ _
  repeat (any_goals (first
    | assumption
    | with_reducible refine wpAny_loadPart_at hC ?_
    | wp_step))
  refine ⟨rfl, ?_⟩
  have ck : ∀ {A : Around} {E : Value → Shared → Prop} {Q : Unit → Shared → Prop}, Q () ⟨h, g, d, t, os⟩ →
      wpAny (model prog w) A (checkBuiltinCall "type.__call__" ⟨.ref C :: rest, kw⟩) Q E ⟨h, g, d, t, os⟩ := fun {A E Q} hq => by
    simp only [checkBuiltinCall, tc_kind, tc_split]
    repeat (any_goals (first
      | assumption
      | with_reducible refine wpAny_loadPart_at hC ?_
      | with_reducible refine wpAny_onRaise ?_
      | with_reducible refine wpAny_map ?_
      | wp_step))
  refine codeAny_call_builtin_at (Code.quiet_builtin _ (by decide +kernel)) entry_typeCall (ck (made_type b x hC hz hi hb ?_))
  refine codeAny_mono hq fun r s' z => ?_
  match r, z with
  | .error e, z => exact z
  | .ok .next, z => exact z
  | .ok .brk, z => exact z
  | .ok .cont, z => exact z
  | .ok (.ret v), z => exact z
end

/-! ### what the written part says of an own class of errors -/
structure ErC (K : PySem.W.Frag) (C : Addr) (newId : String) (tl : List Value) : Prop where
  ei : PySem.W.excInitIn K C tl newId = true
  eo : PySem.W.excOver K C tl = true
  sa : PySem.W.findIn K (.ref C) "__setattr__" = some (some (.builtin "object.__setattr__"))
  kC : PySem.W.keepIn K (.ref C) = true
  xf : XfC K C
  ex : ExcC K C
def erB (c : Str) (newId : String) (tl : List Value) (K : PySem.W.Frag) : Bool :=
  PySem.W.excInitIn K (He.ga K c) tl newId && (PySem.W.excOver K (He.ga K c) tl &&
  (decide (PySem.W.findIn K (.ref (He.ga K c)) "__setattr__" = some (some (.builtin "object.__setattr__"))) &&
  (PySem.W.keepIn K (.ref (He.ga K c)) && (xfB K (He.ga K c) &&
  (decide (PySem.W.findIn K (.ref (He.ga K c)) "__class__" = some (some (.builtin "object.__class__"))) &&
  (decide (PySem.W.specialIn K (.builtin "object.__class__") "__get__" = some (some (.builtin "getset_descriptor.__get__"))) &&
  (decide (PySem.W.takesIn K (.builtin "object.__class__") = some true) &&
  decide (PySem.W.mroIn K (He.ga K c) (.type "object") = some true))))))))
theorem er_of {c : Str} {newId : String} {tl : List Value} {K : PySem.W.Frag} (h : erB c newId tl K = true) : ErC K (He.ga K c) newId tl := by
  obtain ⟨h1, h⟩ := He.ba h
  obtain ⟨h2, h⟩ := He.ba h
  obtain ⟨h3, h⟩ := He.ba h
  obtain ⟨h4, h⟩ := He.ba h
  obtain ⟨h5, h⟩ := He.ba h
  obtain ⟨h6, h⟩ := He.ba h
  obtain ⟨h7, h⟩ := He.ba h
  obtain ⟨h8, h9⟩ := He.ba h
  have x := xfB_ok h5
  exact ⟨h1, h2, of_decide_eq_true h3, h4, x, ⟨x.ga, x.gg, x.exC, x.hdC, of_decide_eq_true h6, of_decide_eq_true h7, of_decide_eq_true h8, of_decide_eq_true h9⟩⟩

/-! ### self.f = y -/
section
variable {X : Cx} {pins : List (Addr × Obj)} {σ : L2.St} {H : Hp} {s : Shared} {a C : Addr} {f : Str} {y : V} {u : Value} {fs : List (Str × V)} {tl : List Value} {B newId initId : String}
variable {Q : Unit → Shared → Prop} {E : Value → Shared → Prop} {A : Around}
open Builtin.ObjectAttr in
theorem err_set1 (b : BaseE B newId initId tl) (T : ErC X.K C newId tl) (I : Inv X pins σ H s) (e : H a = some (exo a C none))
    (hno : PySem.W.findIn X.K (.ref C) f = some none) (ry : RelV y u)
    (h : ∀ dx s', H dx = none → dx ≠ a → Inv X pins σ (upd (upd H dx (exd dx [(f, y)])) a (exo a C (some dx))) s' → Q () s') :
    wpAny (model X.prog X.w) A (setAttr (.ref a) f u) Q E s := by
  obtain ⟨cd, hc, hh⟩ := PySem.W.any_some T.xf.hdC
  obtain ⟨t1, ho⟩ := exo_at I.hok e
  obtain ⟨hp, g, d, t, os⟩ := s
  have J : PySem.W.InstAt hp a { cls := .ref C, dict := none, data := .fields #[.ref t1, .none, .none, .none, .bool false, .none] } C none := ⟨ho, rfl, rfl, trivial⟩
  have kin := I.kIn
  have cls : PySem.W.Looks (model X.prog X.w) hp (classData C) cd := PySem.W.looks_clsIn kin hc
  have fin : ∀ h' tk' dx, (∀ b o, b ≠ a → hp.get? b = some o → h'.get? b = some o) → hp.objs.size ≤ dx → dx ≠ a →
      h'.get? a = some { cls := .ref C, dict := some dx, data := .fields #[.ref t1, .none, .none, .none, .bool false, .none] } →
      h'.Ns1 dx (fun z => if z = f then some u else none) → Q () ⟨h', g, d, tk', os⟩ := fun h' tk' dx k hl hne hx hn => by
    have nd : H dx = none := I.hok.fresh hl
    have ltd : ∀ {c : Addr} {o : Obj}, hp.get? c = some o → c ≠ dx := fun q => Nat.ne_of_lt (Nat.lt_of_lt_of_le (Heap.lt_size q) hl)
    have nea : ∀ {c : Addr}, H c = none → c ≠ a := fun n z => by rw [z, e] at n; cases n
    refine h dx _ nd hne (I.un (t' := tk') ?_ ?_)
    · constructor
      · intro c o q n _ _
        exact k c o (nea n) q
      · intro c o q n _ _
        exact ⟨o.slots, k c o (nea n) q⟩
      · intro c o q n _
        rw [upd_ne (nea n), upd_ne (ltd q)]
        exact n
      · intro c o q _
        by_cases z : c = a
        · exact ⟨_, z ▸ hx⟩
        · exact ⟨o, k c o z q⟩
      · intro c xs q
        rw [upd_ne (at_ne e q exo_tup), upd_ne (ne_of_none q nd)]
        exact q
      · intro c o v q
        rw [upd_ne (at_ne e q exo_frz), upd_ne (ne_of_none q nd)]
        exact q
      · intro c ps q
        refine ⟨#[], ?_⟩
        rw [upd_ne (at_ne e q exo_tbl), upd_ne (ne_of_none q nd), q, Array.append_empty]
    · intro c o q
      by_cases z : c = a
      · subst z
        rw [upd_same] at q
        cases q
        exact exo_ok hx
      · rw [upd_ne z] at q
        by_cases z2 : c = dx
        · subst z2
          rw [upd_same] at q
          cases q
          exact exd_ok hn (relO_put (fs := []) ry fun g => True.intro)
        · rw [upd_ne z2] at q
          refine (I.hok c o q).stay (fun c' v hc' y' => k c' v ?_ y') (fun c' hc' => ?_) (fun c' xs hc' => ?_)
          · rcases hc' with w | w
            · rw [w]; exact z
            · exact at_ne e w exo_own
          · rw [upd_ne (at_ne e hc' exo_own), upd_ne (ne_of_none hc' nd)]
            exact hc'
          · rw [upd_ne (at_ne e hc' exo_tup), upd_ne (ne_of_none hc' nd)]
            exact hc'
  have hax : a ≠ hp.objs.size := Nat.ne_of_lt (Heap.lt_size ho)
  have tk0 : PySem.W.takerIn X.K C f = some none := by
    unfold PySem.W.takerIn
    rw [hno]
    rfl
  refine PySem.W.set_plain kin J T.sa (PySem.W.osa_openX (s := ⟨hp, g, d, t + 1, os⟩) b.sf kin J T.eo tk0 fun b0 => ?_)
  show wpAny _ _ (storeInOwnDict (.ref a) (.ref C) (.str f _) f u b0) _ _ _
  obtain ⟨n1, n2, n3, n4, n5, n6, n7, n8, n9, n10, n11⟩ := cd
  dsimp only at hh
  subst hh
  unfold storeInOwnDict ownDictForStores
  repeat (first
    | with_reducible refine PySem.HandSPX.store_in_new ?_ ?_
    | with_reducible refine wpAny_loadPart_at ho ?_
    | with_reducible refine cls.at ?_
    | wp_step)
  · exact ⟨_, #[], _, (Heap.get?_update_ne _ _ _ _ hax.symm).trans (Heap.get?_push_at rfl rfl), rfl, fun e he => absurd he (by simp), fun _ => rfl⟩
  · intro h' tk' hn' hs
    have hx : (hp.push { cls := .type "dict", data := .dict #[] }).get? a = some { cls := .ref C, dict := none, data := .fields #[.ref t1, .none, .none, .none, .bool false, .none] } := Heap.get?_push_of_some _ ho
    refine fin h' tk' hp.objs.size (fun c o hb ho' => ?_) (Nat.le_refl _) hax.symm ?_ hn'
    · exact (hs.2 c (Nat.ne_of_lt (Heap.lt_size ho'))).trans ((Heap.get?_update_ne _ _ _ _ hb).trans (Heap.get?_push_of_some _ ho'))
    · exact (hs.2 a hax).trans (Heap.get?_update_self _ hx rfl)
end
end G
/-! own rules: errors of the module's own classes as values, second part -/
namespace G
open PySem PySem.Spec PyProof.Rows L2
/-! ### self.f = y, a further one; the statement -/
section
variable {X : Cx} {pins : List (Addr × Obj)} {σ : L2.St} {H : Hp} {s : Shared} {a dx C : Addr} {f : Str} {y : V} {u : Value} {fs : List (Str × V)} {tl : List Value} {B newId initId : String}
open Builtin.ObjectAttr in
theorem err_set2 {Q : Unit → Shared → Prop} {E : Value → Shared → Prop} {A : Around} (b : BaseE B newId initId tl) (T : ErC X.K C newId tl) (I : Inv X pins σ H s)
    (e : H a = some (exo a C (some dx))) (ed : H dx = some (exd dx fs)) (hl : fs.length ≤ 900) (hno : PySem.W.findIn X.K (.ref C) f = some none) (ry : RelV y u)
    (h : ∀ s', Inv X pins σ (upd H dx (exd dx ((f, y) :: fs))) s' → Q () s') : wpAny (model X.prog X.w) A (setAttr (.ref a) f u) Q E s := by
  obtain ⟨cd, hc, hh⟩ := PySem.W.any_some T.xf.hdC
  obtain ⟨t1, ho⟩ := exo_at I.hok e
  obtain ⟨mA, hns, rel⟩ := exd_at I.hok ed
  have hw := within_of rel
  obtain ⟨hp, g, d, t, os⟩ := s
  obtain ⟨oD, _, _, hoD, _, _⟩ := hns.count hw
  have J : PySem.W.InstAt hp a { cls := .ref C, dict := some dx, data := .fields #[.ref t1, .none, .none, .none, .bool false, .none] } C (some oD) := ⟨ho, rfl, rfl, hoD⟩
  have kin := I.kIn
  have cls : PySem.W.Looks (model X.prog X.w) hp (classData C) cd := PySem.W.looks_clsIn kin hc
  have hz : (fs.map (·.1)).length ≤ 1000 := by rw [List.length_map]; omega
  have tk0 : PySem.W.takerIn X.K C f = some none := by
    unfold PySem.W.takerIn
    rw [hno]
    rfl
  refine PySem.W.set_plain kin J T.sa (PySem.W.osa_openX (s := ⟨hp, g, d, t + 1, os⟩) b.sf kin J T.eo tk0 fun b0 => ?_)
  show wpAny _ _ (storeInOwnDict (.ref a) (.ref C) (.str f _) f u b0) _ _ _
  obtain ⟨n1, n2, n3, n4, n5, n6, n7, n8, n9, n10, n11⟩ := cd
  dsimp only at hh
  subst hh
  unfold storeInOwnDict ownDictForStores
  repeat (first
    | with_reducible refine PySem.OEX.store_in_old hns hw hz ?_
    | with_reducible refine wpAny_loadPart_at ho ?_
    | with_reducible refine cls.at ?_
    | wp_step)
  intro h' tk' hn hs
  have hd : ∃ o, h'.get? dx = some o := let ⟨o, _, _, z, _⟩ := hn; ⟨o, z⟩
  exact h _ (I.write (t' := tk') (x := dx) (e := dx) (o := exd dx ((f, y) :: fs)) (by rw [ed]; exact True.intro) (.inl rfl)
    (fun c o hc z => (hs.2 c hc).trans z) hd (exd_ok hn (relO_put ry rel)))
/-- self.f = e, at an error of the class at C -/
def tErrSet (C : Addr) (f : Str) (to te : TE) : TS := fun D σ H => te σ H fun y H1 => to σ H1 fun x H2 => ∃ a : Addr, x = .ref a ∧
  ((H2 a = some (exo a C none) ∧ ∀ dx, H2 dx = none → dx ≠ a → D.nx σ (upd (upd H2 dx (exd dx [(f, y)])) a (exo a C (some dx)))) ∨
    ∃ (dx : Addr) (fs : List (Str × V)), H2 a = some (exo a C (some dx)) ∧ H2 dx = some (exd dx fs) ∧ fs.length ≤ 900 ∧ D.nx σ (upd H2 dx (exd dx ((f, y) :: fs))))
theorem ps_errset {o e : Expr} {to te : TE} {p' pos : Pos} (b : BaseE B newId initId tl) (T : ErC X.K C newId tl) (hno : PySem.W.findIn X.K (.ref C) f = some none) (ho : PE X o to) (he : PE X e te)
    (hs : swapsWith e (some (.Attribute o f p')) pos.line X.env = pure false := by rfl) : PS X (.Assign [.Attribute o f p'] e pos) (tErrSet C f to te) := by
  refine ⟨fun pins s σ H D I h => ?_⟩
  refine plainObj_wpAny_Assign_Attribute (thn (he.run pins s σ H _ I h) ?_) hs
  rintro v s1 ⟨y, H1, I1, r1, q1⟩
  refine thn (ho.run pins s1 σ H1 _ I1 q1) ?_
  rintro u s2 ⟨x, H2, I2, r2, a, rfl, q⟩
  obtain rfl : u = Value.ref a := r2
  rcases q with ⟨ea, q⟩ | ⟨dx, fs, ea, ed, hl, q⟩
  · exact err_set1 b T I2 ea hno r1 fun dx s' n ne J => ⟨σ, _, J, q dx n ne⟩
  · exact err_set2 b T I2 ea ed hl hno r1 fun s' J => ⟨σ, _, J, q⟩
end

/-! ### an error stands -/
/-- x is an error of the class at C with the attributes fs -/
def ErrAt (H : Hp) (x : V) (C : Addr) (fs : List (Str × V)) : Prop := ∃ (a : Addr) (d : Option Addr), x = .ref a ∧ H a = some (exo a C d) ∧
  match d with
  | none => fs = []
  | some dx => H dx = some (exd dx fs)
theorem ErrAt.same {H H' : Hp} {x : V} {C : Addr} {fs : List (Str × V)} (e : ErrAt H x C fs) (s : Same H H') : ErrAt H' x C fs := by
  obtain ⟨a, d, rfl, ea, q⟩ := e
  refine ⟨a, d, rfl, s _ _ ea, ?_⟩
  cases d with
  | none => exact q
  | some dx => exact s _ _ q
theorem noL_exo {a C : Addr} {d : Option Addr} : noL (exo a C d) = true := rfl
theorem noL_exd {a : Addr} {fs : List (Str × V)} : noL (exd a fs) = true := rfl
theorem ErrAt.pl {H H' : Hp} {p : Addr} {x : V} {C : Addr} {fs : List (Str × V)} (e : ErrAt H x C fs) (s : Pl p H H') (h : PoolAt H p) : ErrAt H' x C fs := by
  obtain ⟨a, d, rfl, ea, q⟩ := e
  refine ⟨a, d, rfl, s.obj h ea noL_exo, ?_⟩
  cases d with
  | none => exact q
  | some dx => exact s.obj h q noL_exd
/-- what __init__ with n arguments does -/
def spE (C : Addr) (n : Nat) (gF : List V → List (Str × V)) : Sp := fun vs H Q _ => ∃ (a : Addr) (ws : List V), vs = .ref a :: ws ∧ ws.length = n ∧ H a = some (exo a C none) ∧
  ∀ dx H2, H dx = none → (∀ b o, b ≠ a → H b = some o → H2 b = some o) → H2 a = some (exo a C (some dx)) → H2 dx = some (exd dx (gF ws)) → Q .non H2
/-- the module's name x is the class at C of errors; its __init__ takes n values and keeps gF of them -/
def ErI (P : Program) (w : World) (K : PySem.W.Frag) (mg : Str → Option Value) (base : Heap) (x : Str) (C : Addr) (n : Nat) (ks : List Str) (gV : List V → List V) (gF : List V → List (Str × V)) : Prop :=
  ∃ B newId initId tl fI fd ps g, BaseE B newId initId tl ∧ ErC K C newId tl ∧ PySem.W.findIn K (.ref C) "__init__" = some (some (.ref fI)) ∧
    PySem.W.typeIn K (.ref fI) = some (.type "function") ∧ FnOk P w K mg base CX0 1 fI fd ps (spE C n gF) ∧ mg x = some (.ref C) ∧ Binds K fd ps [] ∧
    KBn K fd ps 1 ks g (fun vs zs => vs ++ gV zs)
section
variable {X : Cx} {C : Addr} {n : Nat} {gF : List V → List (Str × V)} {x : Str} {ks : List Str} {gV : List V → List V}
/-- C(e, ..) -/
def tErr (C : Addr) (n : Nat) (gF : List V → List (Str × V)) (ta : TA) : TE := fun σ H Q => ta σ H fun vs H1 => vs.length = n ∧ ∀ y H2, Same H1 H2 → ErrAt H2 y C (gF vs) → Q y H2
/-- C(k = e, ..) -/
def tErrN (C : Addr) (n m : Nat) (gV : List V → List V) (gF : List V → List (Str × V)) (tk : TA) : TE := fun σ H Q => tk σ H fun zs H1 => zs.length = m ∧ (gV zs).length = n ∧
  ∀ y H2, Same H1 H2 → ErrAt H2 y C (gF (gV zs)) → Q y H2
theorem run_err {pins : List (Addr × Obj)} {σ : L2.St} {H : Hp} {s : Shared} {Q : VK} {us full : List Value} {vs : List V} {kw : List (Str × Value)} {fI : Addr} {fd : FuncData} {ps : List Str} {B newId initId : String} {tl : List Value}
    (b : BaseE B newId initId tl) (T : ErC X.K C newId tl) (iC : PySem.W.findIn X.K (.ref C) "__init__" = some (some (.ref fI))) (tI : PySem.W.typeIn X.K (.ref fI) = some (.type "function"))
    (F : FnOk X.prog X.w X.K X.mg X.base CX0 1 fI fd ps (spE C n gF)) (hr : Room 2 X.A) (I : Inv X pins σ H s) (hz : us.length ≤ sizeLine) (hn : vs.length = n)
    (hb : ∀ s' a, X.K.In s'.heap → BindsTo s' fd ⟨.ref a :: us, kw⟩ (ps.zip (.ref a :: full))) (r : Vals vs full)
    (h : ∀ y H2, Same H H2 → ErrAt H2 y C (gF vs) → Q y H2) : wpAny (model X.prog X.w) X.A (call (.ref C) us kw) (EP X pins σ Q) X.xe s := by
  obtain ⟨hp, g, d, tk, os⟩ := s
  obtain ⟨nm, N, q, bs, bm, hd, sn, sub, ab, col, dd, k0, k1, k2, k3, k5, hC, hT⟩ := PySem.W.excInit_of I.kIn T.ei
  have kk : ∀ c o, hp.get? c = some o → ((hp.push (PySem.W.kdv_tup us)).push (PySem.HandSPX.excO C hp.objs.size)).get? c = some o :=
    fun c o e => Heap.get?_push_of_some _ (Heap.get?_push_of_some _ e)
  have hsz : hp.objs.size ≤ hp.objs.size + 1 := Nat.le_succ _
  have hnone : H (hp.objs.size + 1) = none := I.hok.fresh hsz
  have hget : ((hp.push (PySem.W.kdv_tup us)).push (PySem.HandSPX.excO C hp.objs.size)).get? (hp.objs.size + 1) = some (PySem.HandSPX.excO C hp.objs.size) := by heap_get
  have I2 : Inv X pins σ (upd H (hp.objs.size + 1) (exo (hp.objs.size + 1) C none)) ⟨(hp.push (PySem.W.kdv_tup us)).push (PySem.HandSPX.excO C hp.objs.size), g, d, tk, os⟩ :=
    I.laid (t' := tk) (a := hp.objs.size + 1) (o := exo (hp.objs.size + 1) C none) kk hsz (exo_ok hget)
  have hq : spE C n gF (.ref (hp.objs.size + 1) :: vs) (upd H (hp.objs.size + 1) (exo (hp.objs.size + 1) C none)) (fun v H2 => v = .non ∧ Q (.ref (hp.objs.size + 1)) H2) (fun _ _ _ => False) := by
    refine ⟨_, vs, rfl, hn, upd_same, fun dx H2 _ k e ed => ⟨rfl, h _ H2 (fun c o z => ?_) ⟨_, some dx, rfl, e, ed⟩⟩⟩
    have nc : c ≠ hp.objs.size + 1 := fun w => by rw [w, hnone] at z; cases z
    exact k c o nc (by rw [upd_ne nc]; exact z)
  refine wpAny_call (made_call b hT hC hz (PySem.W.looks_findIn I.kIn iC) (fun self => PySem.W.bind_fn I.kIn self tI) ?_)
  refine codeAny_mono (F.run _ X.stack _ _ _ (Value.ref (hp.objs.size + 1) :: full) (V.ref (hp.objs.size + 1) :: vs) _ (fun _ _ _ => False) (hr.make C us kw) (I2.env0.make C us kw) (hb _ _ I2.kIn) (.cons rfl r) hq) ?_
  intro r s' hq'
  match r, hq' with
  | .error er, hq' => exact pass0 (X := X) pins σ _ _ er s' I2 hq'
  | .ok (.ret u), hq' =>
    obtain ⟨v, H', I3, rv, rfl, q3⟩ := I2.after hq'
    exact ⟨rv, ⟨.ref (hp.objs.size + 1), H', I3, rfl, q3⟩⟩
  | .ok .next, hq' => exact hq'.elim
  | .ok .brk, hq' => exact hq'.elim
  | .ok .cont, hq' => exact hq'.elim
end
end G
/-! own rules: errors of the module's own classes as values, third part: the calls, isinstance, attributes; list.count -/
namespace G
open PySem PySem.Spec PyProof.Rows L2
/-! ### C(e, ..), C(k = e, ..), C() -/
/-- two keywords in the other order, or as they are -/
def gsw (sw : Bool) {α : Type} (l : List α) : List α := if sw then l.drop 1 ++ l.take 1 else l
theorem gsw_rel {sw : Bool} {vs : List V} {us : List Value} (r : Vals vs us) : Vals (gsw sw vs) (gsw sw us) := by
  cases sw
  · exact r
  · exact vals_app (vals_drop 1 r) (vals_take 1 r)
/-- the module's name x is the class at C of errors; its __init__ takes n values and keeps gF of them -/
def ErK (P : Program) (w : World) (K : PySem.W.Frag) (mg : Str → Option Value) (base : Heap) (x : Str) (C : Addr) (n : Nat) (ks : List Str) (sw : Bool) (gF : List V → List (Str × V)) : Prop :=
  ∃ B newId initId tl fI fd ps, BaseE B newId initId tl ∧ ErC K C newId tl ∧ PySem.W.findIn K (.ref C) "__init__" = some (some (.ref fI)) ∧
    PySem.W.typeIn K (.ref fI) = some (.type "function") ∧ FnOk P w K mg base CX0 1 fI fd ps (spE C n gF) ∧ mg x = some (.ref C) ∧ Binds K fd ps [] ∧
    ∀ s us ws, K.In s.heap → us.length = 1 → ws.length = ks.length → BindsTo s fd ⟨us, ks.zip ws⟩ (ps.zip (us ++ gsw sw ws))
section
variable {X : Cx} {C : Addr} {n : Nat} {gF : List V → List (Str × V)} {x : Str} {ks : List Str} {sw : Bool} {p pos : Pos} {e : Expr} {es : List Expr} {kws : List Keyword} {ta tk : TA}
theorem pe_err (c : ErK X.prog X.w X.K X.mg X.base x C n ks sw gF) (hr : Room 2 X.A) (ha : PA X (e :: es) ta) (hn : n ≤ 2) (hg : Gl X x := by rfl) (hdb : (x == ("__debug__" : Str)) = false := by decide)
    (he : starEach (e :: es) X.env = (false, eval e X.env) :: starEach es X.env := by rfl) (hpl : (backTo pos (starEach es X.env)).any (·.1) = false := by rfl) :
    PE X (.Call (.Name x p) (e :: es) [] pos) (tErr C n gF ta) := by
  obtain ⟨B, newId, initId, tl, fI, fd, ps, b, T, iC, tI, F, hm, hb, _⟩ := c
  refine ⟨fun pins s σ H Q I h => ?_⟩
  refine wpAny_Call_Name_kw (ld_glob I hg hm ?_ hdb)
  refine PySem.W.callWith_K (h₀ := X.base) I.ok.mod.kin T.kC (thn (ha.run pos pins s σ H _ I h) ?_) he hpl
  rintro us s1 ⟨vs, H1, I1, r, l, q⟩
  have lu : us.length = n := r.length.symm.trans l
  refine ⟨I1.kIn, run_err b T iC tI F hr I1 (Nat.le_trans (Nat.le_of_eq lu) (by rw [sizeLine_eq]; omega)) l (fun s' a X' => ?_) r q⟩
  have z := hb s' (.ref a :: us) X' (by
    have := F.len (V.ref a :: vs) (upd H1 a (exo a C none)) (fun _ _ => True) (fun _ _ _ => True) ⟨a, vs, rfl, l, upd_same, fun _ _ _ _ _ _ => trivial⟩
    rw [List.length_cons] at this
    simp only [List.append_nil, List.length_cons]
    omega)
  simpa using z
theorem pe_errN (c : ErK X.prog X.w X.K X.mg X.base x C n ks sw gF) (hr : Room 2 X.A) (hkw : PK X kws tk) (hg : Gl X x := by rfl) (hall : (backToKw pos (keywordEach kws X.env)).all (·.1.isSome) = true := by rfl)
    (hks : (backToKw pos (keywordEach kws X.env)).filterMap (·.1) = ks := by rfl) (hdb : (x == ("__debug__" : Str)) = false := by decide)
    (hpl : ((backTo pos (starEach [] X.env)).any (·.1) || (backToKw pos (keywordEach kws X.env)).any (·.1.isNone)) = false := by rfl) :
    PE X (.Call (.Name x p) [] kws pos) (tErrN C n ks.length (fun zs => gsw sw zs) gF tk) := by
  obtain ⟨B, newId, initId, tl, fI, fd, ps, b, T, iC, tI, F, hm, _, hb⟩ := c
  refine ⟨fun pins s σ H Q I h => ?_⟩
  refine wpAny_Call_Name_kw (ld_glob I hg hm ?_ hdb)
  refine PySem.W.callWith_KW0 (h₀ := X.base) I.ok.mod.kin T.kC hall ?_ hpl
  refine thn (hkw.run pos pins s σ H _ I h) ?_
  rintro ws s2 ⟨zs, H2, I2, rz, l1, l2, q2⟩
  refine ⟨I2.kIn, ?_⟩
  rw [hks]
  exact run_err b T iC tI F hr I2 (Nat.zero_le _) l2 (fun s' a X' => hb s' [.ref a] ws X' rfl (rz.length.symm.trans l1)) (gsw_rel rz) q2
/-- C(), C without an own __init__ -/
theorem pe_err0 {B newId initId : String} {tl : List Value} (F : ExcBaseFacts B newId initId tl) (q : PySem.W.excIn X.K C tl newId = true) (kC : PySem.W.keepIn X.K (.ref C) = true) (hm : ∃ u, X.mg x = some u ∧ RelV (.ref C) u)
    (hg : Gl X x := by rfl) (hdb : (x == ("__debug__" : Str)) = false := by decide) :
    PE X (.Call (.Name x p) [] [] pos) (fun σ H Q => ∀ y H2, Same H H2 → ErrAt H2 y C [] → Q y H2) := by
  obtain ⟨u, hm, ru⟩ := hm
  obtain rfl : u = Value.ref C := ru
  refine ⟨fun pins s σ H Q I h => ?_⟩
  refine wpAny_Call_Name_kw (ld_glob I hg hm ?_ hdb)
  refine PySem.W.callWith_K0 I.kIn kC ?_
  obtain ⟨bm, N, nm, qn, bs, hdct, sn, sub, ab, col, dd, k0, k1, k2, k3, k5, mN, hC, hN, hni, T⟩ := exc_obj I.kIn q
  refine wpAny_call_exc_subT F T hC hN hni (fun h' e hm' => ?_) (Nat.zero_le _)
  obtain ⟨hk, hnew, t1, he, _⟩ := hm'
  have hn : H e = none := I.hok.gone hnew
  refine ⟨.ref e, upd H e (exo e C none), I.laidN (t' := s.toks) (h' := h') hk hnew hn (exo_ok he), rfl, h _ _ (fun b o z => ?_) ⟨e, none, rfl, upd_same, rfl⟩⟩
  rw [upd_ne (fun w => by rw [w, hn] at z; cases z)]
  exact z
end

/-! ### the own __init__ -/
section
variable {P : Program} {w : World} {K : PySem.W.Frag} {mg : Str → Option Value} {base : Heap} {C fI : Addr} {fd : FuncData} {qual f g : Str} {params : Arguments} {body : List Stmt} {scope : Scope} {B newId initId : String} {tl : List Value}
def gF1 (f : Str) (ws : List V) : List (Str × V) := [(f, ws.headD .non)]
def gF2 (f g : Str) (ws : List V) : List (Str × V) := [(g, (ws.drop 1).headD .non), (f, ws.headD .non)]
theorem par_vis {ps N : List Str} {scope : Scope} (S : FnScope N ps scope) {n : Str} (h : n ∈ ps) : Vis scope n :=
  (S.par n h).elim (fun z => .inl z) fun z => .inr (.inl z)
theorem ok_err1 {p1 p2 p3 p4 : Pos} (b : BaseE B newId initId tl) (T : ErC K C newId tl) (hno : PySem.W.findIn K (.ref C) f = some none) (F : FunD K "__init__" qual params body scope [] [] fI fd)
    (S : FnScope ["self", f] ["self", f] scope) (hb : body = [.Assign [.Attribute (.Name "self" p1) f p2] (.Name f p3) p4])
    (hd : (f == ("__debug__" : Str)) = false := by decide) (hcd : (f == ("__classdict__" : Str)) = false := by decide) : FnOk P w K mg base CX0 1 fI fd ["self", f] (spE C 1 (gF1 f)) := by
  subst hb
  refine F.ok S (fun vs H Q E h => ?_) (fun cdv A outer s H vs Q E hr h => ?_)
  · obtain ⟨a, ws, rfl, l, _⟩ := h
    show ws.length + 1 = 2
    rw [l]
  · obtain ⟨a, ws, rfl, l, ha, q⟩ := h
    obtain ⟨v, rfl⟩ : ∃ v, ws = [v] := by
      match ws, l with
      | [v], _ => exact ⟨v, rfl⟩
    refine ⟨_, PSs.nox (pss_one (ps_errset b T hno (pe_var (i := 0) rfl (par_vis S (by simp))) (pe_var (i := 1) rfl (par_vis S (by simp)) hd hcd))), ?_⟩
    refine ⟨v, rfl, .ref a, rfl, a, rfl, .inl ⟨ha, fun dx nd ne => q dx _ nd (fun c o hc hn => ?_) upd_same ?_⟩⟩
    · rw [upd_ne hc, upd_ne (fun w => by rw [w, nd] at hn; cases hn)]
      exact hn
    · show upd (upd H dx _) a _ dx = _
      rw [upd_ne ne, upd_same]
      rfl
theorem ok_err2 {p1 p2 p3 p4 q1 q2 q3 q4 : Pos} (b : BaseE B newId initId tl) (T : ErC K C newId tl) (hno : PySem.W.findIn K (.ref C) f = some none) (hno2 : PySem.W.findIn K (.ref C) g = some none)
    (F : FunD K "__init__" qual params body scope [] [] fI fd) (S : FnScope ["self", f, g] ["self", f, g] scope)
    (hb : body = [.Assign [.Attribute (.Name "self" p1) f p2] (.Name f p3) p4, .Assign [.Attribute (.Name "self" q1) g q2] (.Name g q3) q4])
    (hd : (f == ("__debug__" : Str)) = false := by decide) (hcd : (f == ("__classdict__" : Str)) = false := by decide) (hd2 : (g == ("__debug__" : Str)) = false := by decide) (hcd2 : (g == ("__classdict__" : Str)) = false := by decide) : FnOk P w K mg base CX0 1 fI fd ["self", f, g] (spE C 2 (gF2 f g)) := by
  subst hb
  refine F.ok S (fun vs H Q E h => ?_) (fun cdv A outer s H vs Q E hr h => ?_)
  · obtain ⟨a, ws, rfl, l, _⟩ := h
    show ws.length + 1 = 3
    rw [l]
  · obtain ⟨a, ws, rfl, l, ha, q⟩ := h
    obtain ⟨v, u, rfl⟩ : ∃ v u, ws = [v, u] := by
      match ws, l with
      | [v, u], _ => exact ⟨v, u, rfl⟩
    refine ⟨_, PSs.nox (pss_cons (ps_errset b T hno (pe_var (i := 0) rfl (par_vis S (by simp))) (pe_var (i := 1) rfl (par_vis S (by simp)) hd hcd))
      (pss_one (ps_errset b T hno2 (pe_var (i := 0) rfl (par_vis S (by simp))) (pe_var (i := 2) rfl (par_vis S (by simp)) hd2 hcd2)))), ?_⟩
    refine ⟨v, rfl, .ref a, rfl, a, rfl, .inl ⟨ha, fun dx nd ne => ?_⟩⟩
    refine ⟨u, rfl, .ref a, rfl, a, rfl, .inr ⟨dx, [(f, v)], upd_same, ?_, (show 1 ≤ 900 by decide), q dx _ nd (fun c o hc hn => ?_) ?_ ?_⟩⟩
    · rw [upd_ne ne, upd_same]
    · have nc : c ≠ dx := fun w => by rw [w, nd] at hn; cases hn
      rw [upd_ne nc, upd_ne hc, upd_ne nc]
      exact hn
    · rw [upd_ne ne.symm, upd_same]
    · show upd _ dx _ dx = _
      rw [upd_same]
      rfl
theorem erK_of {x : Str} {n : Nat} {ks ps : List Str} {sw : Bool} {gF : List V → List (Str × V)} (b : BaseE B newId initId tl) (T : ErC K C newId tl) (iC : PySem.W.findIn K (.ref C) "__init__" = some (some (.ref fI)))
    (tI : PySem.W.isFn K (.ref fI) = true) (F : FunD K "__init__" qual params body scope [] [] fI fd) (ok : FnOk P w K mg base CX0 1 fI fd ps (spE C n gF)) (hm : ∃ u, mg x = some u ∧ RelV (.ref C) u)
    (h1 : ∀ (kV doc pm : Value) (an : Option Addr) (cdv ct : Value) (us : List Value), us.length = ps.length → bindArgs (PySem.W.fnOf "__init__" qual params body scope .none kV doc pm an cdv ct) ⟨us, []⟩ = pure (ps.zip us))
    (h2 : ∀ (kV doc pm : Value) (an : Option Addr) (cdv ct : Value) (us ws : List Value), us.length = 1 → ws.length = ks.length → bindArgs (PySem.W.fnOf "__init__" qual params body scope .none kV doc pm an cdv ct) ⟨us, ks.zip ws⟩ = pure (ps.zip (us ++ gsw sw ws))) :
    ErK P w K mg base x C n ks sw gF := by
  obtain ⟨u, hm, ru⟩ := hm
  obtain rfl : u = Value.ref C := ru
  refine ⟨B, newId, initId, tl, fI, fd, ps, b, T, iC, beq_iff_eq.mp tI, ok, hm, F.bindsN h1, fun s us ws X l1 l2 => BindsTo.of_looks fun M => ?_⟩
  obtain ⟨oc, od, dV, kV, doc, pm, an, cdv, ct, osl, rfl, lk, hcd, hD, hK⟩ := F.ex
  rcases hD with ⟨_, rfl⟩ | ⟨e, _⟩
  · exact PySem.W.Looks.of_pure (h2 kV doc pm an cdv ct us ws l1 l2)
  · exact absurd rfl e
end

/-! ### isinstance -/
section
open PySem.W
variable {K : Frag} {x D : Addr} {ox : Obj} {od : Option Obj}
theorem find_cls (c : ExcC K D) : findObj K D od "__class__" = some (.bind (.builtin "getset_descriptor.__get__") (.builtin "object.__class__")) := by
  obtain ⟨cd, hcd, _⟩ := any_some c.hd
  have so : (clsIn K D).isSome = true := by rw [hcd]; rfl
  cases od with
  | none => exact findObj_dataN so c.ha c.hn c.ht
  | some o => exact findObj_data so c.ha c.hn c.ht
open PySem.F in
theorem err_cls {prog : Program} {w : World} {A : Around} {E : Value → Shared → Prop} {s : Shared} {Q : Option Value → Shared → Prop} (c : ExcC K D) (X : K.In s.heap) (I : InstAt s.heap x ox D od)
    (h : Q (some (.ref D)) { s with toks := s.toks + 1 }) : wpAny (model prog w) A (getAttr? (.ref x) "__class__") Q E s := by
  obtain ⟨hp, g, d, t, os⟩ := s
  have ty := I.type (M := model prog w)
  have fd := looks_find (M := model prog w) X I (find_cls c)
  have ba : Looks (model prog w) hp (isInstance (.ref x) (.type "BaseException")) true := ty.andThen (looks_subIn X c.hs)
  have n0 : (false && onTheHeap (Value.builtin "BaseException.__getattribute__")) = false := rfl
  have n1 : (onTheHeap (Value.ref D) && Value.builtin "BaseException.__getattribute__" == Value.builtin "object.__getattribute__") = false := by
    rw [show (Value.builtin "BaseException.__getattribute__" == Value.builtin "object.__getattribute__") = false by decide +kernel]
    rfl
  unfold getAttr? getAttrBy? getAttrBy
  refine wpAny_bind (wpAny_mkText (wpAny_bind (wpAny_attempt (wpAny_holding (wpAny_bind (ty.at ?_))))))
  refine wpAny_bind ((looks_findIn X c.hg).at ?_)
  show wpAny _ _ (if (onTheHeap (Value.ref D) && Value.builtin "BaseException.__getattribute__" == Value.builtin "object.__getattribute__") = true then _ else _) _ _ _
  rw [n1, if_neg Bool.false_ne_true]
  unfold getAttrByItsOwn hookBefore
  refine wpAny_bind ?_
  rw [if_pos (show onTheHeap (Value.ref D) = true from rfl)]
  refine (looks_findIn X c.hk).at (wpAny_bind (wpAny_attempt (wpAny_holding ?_)))
  unfold callGetattribute
  rw [n0, if_neg Bool.false_ne_true]
  unfold boundAndCalled
  rw [excAttr_ValueError.ga.bind (.ref x)]
  refine wpAny_bind (wpAny_pure ?_)
  show wpAny _ _ (call (.builtin "BaseException.__getattribute__") [.ref x, .str "__class__" t]) _ _ _
  refine wpAny_call (codeAny_call_builtin excAttr_ValueError.ga.plain entry_bexc_ga ?_)
  refine @check_slot (model prog w) _ _ ⟨hp, g, d, t + 1, os⟩ "BaseException.__getattribute__" "BaseException" "__getattribute__" (.ref x) [.str "__class__" t] [] _
    (by decide +kernel) (by decide +kernel) ba (args_bexc_ga (.ref x) (.str "__class__" t)) ?_
  unfold Builtin.«object.__getattribute__»
  refine wpAny_bind (wpAny_of_eq (a := ((Value.ref x : Value), [Value.str "__class__" t])) (by first | rfl | (simp only [slotArgs]; rfl)) ?_)
  refine wpAny_bind (wpAny_pure (wpAny_bind (ty.at (wpAny_bind (fd.at ?_)))))
  show wpAny _ _ (holding [Value.builtin "object.__class__"] (call (.builtin "getset_descriptor.__get__") [.builtin "object.__class__", .ref x, .ref D]) >>= ret) _ _ _
  refine wpAny_bind (wpAny_holding (wpAny_call (class_get (s := ⟨hp, g, d, t + 1, os⟩) (ox := ox) (od := od) X I c.hm ?_)))
  refine wpAny_pure ?_
  show wpAny _ _ (handedOut (.ref D)) _ _ _
  rw [handedOut_of (v := .ref D) rfl]
  first
    | exact wpAny_pure (wpAny_pure h)
    | exact wpAny_pure h
    | exact wpAny_pure (wpAny_bind (wpAny_pure (wpAny_pure h)))
theorem err_kitx (c : ExcC K D) : KitX K (.ref x) (.ref D) (fun h => ∃ ox od, InstAt h x ox D od) := by
  obtain ⟨cd, hcd, _⟩ := any_some c.hd
  unfold clsIn at hcd
  split at hcd
  · rename_i c' d' cd' sl' ho
    refine ⟨?_, ?_, ?_, ?_⟩
    · rintro M h _ ⟨ox, od, I⟩
      exact I.type
    · intro M h X _ A' Q' E' s' k q
      unfold isType loadHead
      exact wpAny_bind (wpAny_loadPart (k _ _ (X _ _ ho)) (wpAny_pure q))
    · intro h tp dd its n sl X htp
      refine Bool.eq_false_iff.mpr fun q => ?_
      have e : D = tp := Value.ref.inj (beq_iff_eq.mp q)
      subst e
      have z := (X _ _ ho).symm.trans htp
      cases z
    · rintro prog w A E Q s X ⟨ox, od, I⟩ k
      exact err_cls c X I k
  · cases hcd
end
theorem ErrAt.inst {X : Cx} {pins : List (Addr × Obj)} {σ : L2.St} {H : Hp} {s : Shared} {x : V} {C : Addr} {fs : List (Str × V)} (I : Inv X pins σ H s) (e : ErrAt H x C fs) :
    ∃ a ox od, x = .ref a ∧ PySem.W.InstAt s.heap a ox C od := by
  obtain ⟨a, d, rfl, ea, q⟩ := e
  obtain ⟨t1, ho⟩ := exo_at I.hok ea
  cases d with
  | none => exact ⟨a, _, none, rfl, ho, rfl, rfl, trivial⟩
  | some dx =>
    obtain ⟨mA, ⟨oD, _, _, hoD, _⟩, _⟩ := exd_at I.hok q
    exact ⟨a, _, some oD, rfl, ho, rfl, rfl, hoD⟩
/-- isinstance(e, c), e an error of the i-th of the classes cl: f i -/
def rIsJ (n : Nat) (cl : Nat → Addr) (c : V) (f : Nat → Bool) : List V → Hp → VK → Prop := fun xs H Q => ∃ (x : V) (i : Nat) (fs : List (Str × V)), xs = [x, c] ∧ i < n ∧ ErrAt H x (cl i) fs ∧ Q (.bl (f i)) H
theorem cr_isJ {X : Cx} {n : Nat} {cl : Nat → Addr} {c : V} {cv : Value} {f : Nat → Bool} (hc : ∀ u, RelV c u → u = cv) (hx : ∀ i < n, ExcC X.K (cl i)) (hk : ∀ i < n, PySem.W.kitOne X.K (.ref (cl i)) cv = some (f i)) :
    CallR X (.builtin "isinstance") (rIsJ n cl c f) := by
  intro pins s σ H xs us Q I r h
  obtain ⟨x, i, fs, rfl, hi, e, q⟩ := h
  cases r with
  | cons rx rr =>
    cases rr with
    | cons rt rr =>
      cases rr
      obtain rfl := hc _ rt
      obtain ⟨a, ox, od, rfl, J⟩ := e.inst I
      obtain rfl := (show _ = Value.ref a from rx)
      exact PySem.W.kia_one (err_kitx (hx i hi)) I.kIn ⟨ox, od, J⟩ (hk i hi) (fun z => nomatch z) fun tk => ⟨.bl (f i), H, I.kept (t' := tk) fun _ _ z => z, rfl, q⟩

/-! ### e.f -/
def tErrFld (n : Nat) (cl : Nat → Addr) (ok : Nat → Bool) (f : Str) (te : TE) : TE := fun σ H Q => te σ H fun x H1 => ∃ (i : Nat) (fs : List (Str × V)) (v : V), ErrAt H1 x (cl i) fs ∧ i < n ∧ ok i = true ∧ fs.lookup f = some v ∧ Q v H1
theorem pe_errfld {X : Cx} {n : Nat} {cl : Nat → Addr} {ok : Nat → Bool} {f : Str} {e : Expr} {te : TE} {pos : Pos} (hx : ∀ i < n, XfC X.K (cl i)) (hno : ∀ i < n, ok i = true → PySem.W.findIn X.K (.ref (cl i)) f = some none)
    (he : PE X e te) (hb : attributeBase e f X.env (eval e X.env) = eval e X.env := by rfl) : PE X (.Attribute e f pos) (tErrFld n cl ok f te) := by
  refine ⟨fun pins s σ H Q I h => ?_⟩
  refine attr_of hb (thn (he.run pins s σ H _ I h) ?_)
  rintro u s1 ⟨x, H1, I1, rx, i, fs, v, ⟨a, d, rfl, ea, q0⟩, hi, ho, hl, q⟩
  obtain rfl : u = Value.ref a := rx
  obtain ⟨t1, hoe⟩ := exo_at I1.hok ea
  cases d with
  | none =>
    rw [show fs = [] from q0] at hl
    cases hl
  | some dx =>
    obtain ⟨mA, hns, hr⟩ := exd_at I1.hok q0
    obtain ⟨oD, hoD, look⟩ := lookIn_ns hns
    obtain ⟨u, hu, ru⟩ := RelO.some_of (v := v) (o := mA f) (by rw [← hl]; exact hr f)
    have J : PySem.W.InstAt s1.heap a { cls := .ref (cl i), dict := some dx, data := .fields #[.ref t1, .none, .none, .none, .bool false, .none] } (cl i) (some oD) := ⟨hoe, rfl, rfl, hoD⟩
    have T := hx i hi
    exact HandSPX.exc_get I1.kIn J T.ga T.gg T.exC (PySem.W.findObj_own T.hdC (hno i hi ho) rfl (by rw [look, hu])) (handed_of ru) ⟨v, H1, I1.tok _, ru, q⟩

/-! ### list.count, flat items -/
def rCount (K : PySem.W.Frag) : V → List V → Hp → VK → Prop := fun x xs H Q => ∃ (a : Addr) (ys : List V) (y : V), x = V.ref a ∧ xs = [y] ∧ SqL K H a ys ∧ flatV y = true ∧ ys.all flatV = true ∧
  Q (.int (ys.countP fun z => eqV z y : Nat)) H
theorem count_rel {y : V} : ∀ {ys : List V} {us : List Value}, Vals ys us → ys.all flatV = true → us.countP (eqU y) = ys.countP fun z => eqV z y
  | [], _, r, _ => by cases r; rfl
  | z :: zs, _, r, h => by
    cases r with
    | cons r1 r2 =>
      rw [List.all_cons, Bool.and_eq_true] at h
      rw [List.countP_cons, List.countP_cons, count_rel r2 h.2, eqU_of r1 h.1]
theorem mt_count {X : Cx} : MtR X "list.count" (rCount X.K) := by
  intro pins s σ H x xs v us Q I rx rxs h
  obtain ⟨a, ys, y, rfl, rfl, hs, fy, fys, q⟩ := h
  cases rx
  cases rxs with
  | cons ry rt =>
    rename_i uy ut
    cases rt
    obtain ⟨its, rv, ⟨⟨c1, c2, c3, c4⟩, n, ho, hc, hdn, hd⟩, hlen⟩ := I.list hs
    simp only at hc hd
    subst hc hd
    refine call_meets PySem.F.slot_list_count ⟨_, ho, rfl⟩ PySem.F.entry_list_count (PySem.F.args_list_count_2 _ _) (SeqAt.list_countAt a its.toArray n c2 c4 uy (eqU y))
      ⟨ho, fun u' hu' => mem_eqAt ry fy rv fys u' (by simpa using hu'), ?_⟩
    rw [show its.toArray.toList = its from rfl, count_rel rv fys]
    exact ⟨.int _, H, I.tok _, ⟨_, rfl⟩, q⟩
end G
/-! own rules: repr of data with dicts; what stands as data on the abstract heap alone -/
namespace G
open PySem PySem.Spec PyProof.Rows L2
mutual
inductive Dq (K : PySem.W.Frag) (H : Hp) : V → PyData → Prop
  | non : Dq K H .non .none
  | bl (b : Bool) : Dq K H (.bl b) (.bool b)
  | int (i : Int) : Dq K H (.int i) (.int i)
  | str (x : Str) : Dq K H (.str x) (.str x)
  | lst {a : Addr} {xs : List V} {ds : List PyData} : H a = some (.lst xs) → DqAll K H xs ds → Dq K H (.ref a) (.list ds)
  | tup {a : Addr} {xs : List V} {ds : List PyData} : SqT K H a xs → DqAll K H xs ds → Dq K H (.ref a) (.tuple ds)
  | dct {a : Addr} {kvs : List (Key × V)} {ds : List (PyData × PyData)} : H a = some (.dK kvs) → DqAll K H (kvs.map fun p => kV p.1) (ds.map (·.1)) →
      DqAll K H (kvs.map (·.2)) (ds.map (·.2)) → Dq K H (.ref a) (.dict ds)
inductive DqAll (K : PySem.W.Frag) (H : Hp) : List V → List PyData → Prop
  | nil : DqAll K H [] []
  | cons {v : V} {vs : List V} {d : PyData} {ds : List PyData} : Dq K H v d → DqAll K H vs ds → DqAll K H (v :: vs) (d :: ds)
end
theorem dk_vals {P : Program} {w : World} : ∀ {kvs : List (Key × V)} {vs : List (Key × Value)} {es : List DictEntry}, KV kvs vs → PySem.Pairs (mixKind P w) es vs →
    Vals (kvs.map fun p => kV p.1) (es.map (·.key)) ∧ Vals (kvs.map (·.2)) (es.map (·.val))
  | [], _, _, r, q => by
    cases r
    cases q
    exact ⟨.nil, .nil⟩
  | p :: kvs, _, _, r, q => by
    cases r with
    | cons h t =>
      cases q with
      | @cons e0 _ _ _ h1 h2 t2 =>
        obtain ⟨i1, i2⟩ := dk_vals t t2
        refine ⟨.cons ?_ i1, .cons ?_ i2⟩
        · show RelV (kV p.1) e0.key
          rw [h.1]
          rcases keyIs_shape h1 with ⟨i, tk, e1, e2⟩ | ⟨x, tk, e1, e2⟩
          · rw [e1, e2]
            exact ⟨tk, rfl⟩
          · rw [e1, e2]
            exact ⟨tk, rfl⟩
        · show RelV p.2 e0.val
          rw [h2]
          exact h.2
section
variable {X : Cx} {pins : List (Addr × Obj)} {σ : L2.St} {H : Hp} {s : Shared}
mutual
theorem Dq.reads (I : Inv X pins σ H s) (hsm : H sysModules = none) : ∀ {v : V} {d : PyData}, Dq X.K H v d → ∀ {u : Value}, RelV v u → ∃ as, Reads s.heap u d as ∧ sysModules ∉ as
  | _, _, .non, _, r => by
    cases r
    exact ⟨_, Reads.none, by simp⟩
  | _, _, .bl b, _, r => by
    cases r
    exact ⟨_, Reads.bool b, by simp⟩
  | _, _, .int i, _, r => by
    obtain ⟨t, rfl⟩ := r
    exact ⟨_, Reads.int i t, by simp⟩
  | _, _, .str x, _, r => by
    obtain ⟨t, rfl⟩ := r
    exact ⟨_, Reads.str x t, by simp⟩
  | _, _, .lst (a := a) e ha, _, r => by
    cases r
    obtain ⟨_, its, n, rv, ho⟩ := (show ObjOk X.prog X.w H s.heap a (.lst _) from I.hok a _ e)
    obtain ⟨as, hr, hn⟩ := DqAll.reads I hsm ha rv
    refine ⟨_, Reads.list ho rfl rfl (by simpa using hr), ?_⟩
    intro hm
    rcases List.mem_cons.mp hm with e1 | e1
    · rw [e1, e] at hsm
      cases hsm
    · exact hn e1
  | _, _, .tup (a := a) e ha, _, r => by
    cases r
    obtain ⟨its, rv, ⟨o, ho, hc, n, hd⟩, _⟩ := I.tuple e
    obtain ⟨as, hr, hn⟩ := DqAll.reads I hsm ha rv
    exact ⟨_, Reads.tuple ho hc hd (by simpa using hr), hn⟩
  | _, _, .dct (a := a) (kvs := kvs) e hk hv, _, r => by
    cases r
    obtain ⟨_, _, vs, rk, o, es, ep, ho, hx, hd, _, hp, _⟩ := (show ObjOk X.prog X.w H s.heap a (.dK kvs) from I.hok a _ e)
    obtain ⟨r1, r2⟩ := dk_vals rk hp
    obtain ⟨as, h1, n1⟩ := DqAll.reads I hsm hk r1
    obtain ⟨bs, h2, n2⟩ := DqAll.reads I hsm hv r2
    refine ⟨_, Reads.dict ho hx.1 hd h1 h2, ?_⟩
    intro hm
    rw [List.cons_append] at hm
    rcases List.mem_cons.mp hm with e1 | e1
    · rw [e1, e] at hsm
      cases hsm
    · rcases List.mem_append.mp e1 with e2 | e2
      · exact n1 e2
      · exact n2 e2
theorem DqAll.reads (I : Inv X pins σ H s) (hsm : H sysModules = none) : ∀ {vs : List V} {ds : List PyData}, DqAll X.K H vs ds → ∀ {us : List Value}, Vals vs us → ∃ as, ReadsAll s.heap us ds as ∧ sysModules ∉ as
  | _, _, .nil, _, r => by
    cases r
    exact ⟨_, ReadsAll.nil, by simp⟩
  | _, _, .cons h1 h2, _, r => by
    cases r with
    | cons r1 r2 =>
      obtain ⟨as, q1, n1⟩ := Dq.reads I hsm h1 r1
      obtain ⟨bs, q2, n2⟩ := DqAll.reads I hsm h2 r2
      refine ⟨_, ReadsAll.cons q1 q2, fun hm => ?_⟩
      rcases List.mem_append.mp hm with e | e
      · exact n1 e
      · exact n2 e
end
end
mutual
theorem Dq.same {K : PySem.W.Frag} {H H' : Hp} (s : Same H H') : ∀ {v : V} {d : PyData}, Dq K H v d → Dq K H' v d
  | _, _, .non => .non
  | _, _, .bl b => .bl b
  | _, _, .int i => .int i
  | _, _, .str x => .str x
  | _, _, .lst e ha => .lst (s _ _ e) (DqAll.same s ha)
  | _, _, .tup e ha => .tup (e.same s) (DqAll.same s ha)
  | _, _, .dct e hk hv => .dct (s _ _ e) (DqAll.same s hk) (DqAll.same s hv)
theorem DqAll.same {K : PySem.W.Frag} {H H' : Hp} (s : Same H H') : ∀ {vs : List V} {ds : List PyData}, DqAll K H vs ds → DqAll K H' vs ds
  | _, _, .nil => .nil
  | _, _, .cons h1 h2 => .cons (Dq.same s h1) (DqAll.same s h2)
end
theorem sm_freeB {X : Cx} (h : (X.base.get? sysModules).isSome = true) {pins : List (Addr × Obj)} {σ : L2.St} {H : Hp} {s : Shared} (I : Inv X pins σ H s) : H sysModules = none := by
  obtain ⟨o, e⟩ := Option.isSome_iff_exists.mp h
  exact (I.bs _ _ e).2
theorem sm_free {X : Cx} (h : (X.K.lookup sysModules).isSome = true) {pins : List (Addr × Obj)} {σ : L2.St} {H : Hp} {s : Shared} (I : Inv X pins σ H s) : H sysModules = none := by
  obtain ⟨o, e⟩ := Option.isSome_iff_exists.mp h
  exact (I.bs _ _ (I.ok.mod.kin _ _ e)).2
def rReprQ (K : PySem.W.Frag) : List V → Hp → VK → Prop := fun xs H Q => ∃ (x : V) (d : PyData), xs = [x] ∧ Dq K H x d ∧
  d.showable = true ∧ d.depth ≤ 60 ∧ d.shown.length ≤ sizeLine ∧ Q (.str d.shown) H
theorem call_reprH {X : Cx} (hgd : X.A.guards = some []) (hu : X.A.units + 64 < cLine) (hm : ∀ {pins : List (Addr × Obj)} {σ : L2.St} {H : Hp} {s : Shared}, Inv X pins σ H s → H sysModules = none) : CallR X (.builtin "repr") (rReprQ X.K) := by
  intro pins s σ H xs us Q I r h
  obtain ⟨x, d, rfl, hd, hs, hdp, hz, q⟩ := h
  obtain ⟨u, rfl, rx⟩ := vals1 r
  obtain ⟨as, rd, hn⟩ := Dq.reads I (hm I) hd rx
  cases rx' : x with
  | ref a =>
    subst rx'
    obtain rfl : u = Value.ref a := rx
    exact repr_of_reads' rd hs (fun _ => hn) hgd (by omega) (fun _ _ e => e)
      (fun h' t tk hk => ⟨.str d.shown, H, I.kept hk, ⟨_, rfl⟩, q⟩) hz
  | non => subst rx'; cases hd; cases rx; exact PySem.P.repr_of_none ⟨.str _, H, I.tok _, ⟨_, rfl⟩, q⟩
  | bl b => subst rx'; cases hd; cases rx; exact PySem.P.repr_of_bool ⟨.str _, H, I.tok _, ⟨_, rfl⟩, by simpa only [PyData.shown] using q⟩
  | int i =>
    subst rx'; cases hd; obtain ⟨t, rfl⟩ := rx
    exact PySem.P.repr_of_int (by simpa only [PyData.showable, decide_eq_true_eq] using hs) ⟨.str _, H, I.tok _, ⟨_, rfl⟩, by simpa only [PyData.shown] using q⟩
  | str z =>
    subst rx'; cases hd; obtain ⟨t, rfl⟩ := rx
    exact PySem.P.repr_of_str ⟨.str _, H, I.tok _, ⟨_, rfl⟩, by simpa only [PyData.shown] using q⟩ (by simpa only [PyData.shown] using hz)
  | byt b => subst rx'; cases hd
  | flt b => subst rx'; cases hd
  | ty n => subst rx'; cases hd
theorem call_reprQ {X : Cx} (hgd : X.A.guards = some []) (hu : X.A.units + 64 < cLine) (hm : (X.K.lookup sysModules).isSome = true) : CallR X (.builtin "repr") (rReprQ X.K) :=
  call_reprH hgd hu fun I => sm_free hm I
theorem call_reprB {X : Cx} (hgd : X.A.guards = some []) (hu : X.A.units + 64 < cLine) (hm : (X.base.get? sysModules).isSome = true) : CallR X (.builtin "repr") (rReprQ X.K) :=
  call_reprH hgd hu fun I => sm_freeB hm I
end G
/-! what texts of lists and tuples measure -/
namespace G
open PySem PySem.Spec PyProof.Rows L2
theorem mz_from {B : Nat} : ∀ (ts : List Str) (k : Nat) (acc : Str), (∀ t ∈ ts, t.length ≤ B) → (textFrom k acc ts).length ≤ acc.length + (B + 2) * ts.length
  | [], k, acc, _ => Nat.le_add_right _ _
  | t :: ts, k, acc, h => by
    have h1 := h t List.mem_cons_self
    have h2 := mz_from ts (k + 1) (acc ++ (if k > 0 then ", " else "" : String) ++ t) fun y hy => h y (List.mem_cons_of_mem _ hy)
    have h3 : (acc ++ ((if k > 0 then ", " else "" : String) : Str) ++ t).length ≤ acc.length + 2 + t.length := by
      rw [cat_len, cat_len]
      have : (((if k > 0 then ", " else "" : String) : Str)).length ≤ 2 := by
        split
        · decide +kernel
        · decide +kernel
      omega
    show (textFrom (k + 1) (acc ++ (if k > 0 then ", " else "" : String) ++ t) ts).length ≤ _
    rw [List.length_cons, Nat.mul_add]
    omega
theorem mz_list {B : Nat} {ts : List Str} (h : ∀ t ∈ ts, t.length ≤ B) : (listText ts).length ≤ (B + 2) * ts.length + 2 := by
  have h1 := mz_from ts 0 (Str.ofString "[") h
  unfold listText
  have e1 : (Str.ofString "[").length = 1 := by decide +kernel
  have e2 : (Str.ofString "]").length = 1 := by decide +kernel
  show (textFrom 0 (Str.ofString "[") ts ++ Str.ofString "]").length ≤ _
  rw [cat_len]
  omega
theorem mz_join {B : Nat} : ∀ ts : List Str, (∀ t ∈ ts, t.length ≤ B) → (Str.join (Str.ofString ", ") ts).length ≤ (B + 2) * ts.length
  | [], _ => Nat.zero_le _
  | [t], h => by
    have := h t List.mem_cons_self
    show t.length ≤ (B + 2) * 1
    omega
  | t :: u :: r, h => by
    have h1 := h t List.mem_cons_self
    have h2 := mz_join (B := B) (u :: r) fun y hy => h y (List.mem_cons_of_mem _ hy)
    show (t ++ Str.ofString ", " ++ Str.join (Str.ofString ", ") (u :: r)).length ≤ (B + 2) * ((u :: r).length + 1)
    rw [cat_len, cat_len, show (Str.ofString ", ").length = 2 from by decide +kernel, Nat.mul_add]
    omega
theorem mz_tuple {B : Nat} {ts : List Str} (h : ∀ t ∈ ts, t.length ≤ B) : (tupleText ts).length ≤ (B + 2) * ts.length + 3 := by
  have h1 := mz_join ts h
  unfold tupleText
  have e1 : (Str.ofString "(").length = 1 := by decide +kernel
  have e2 : (Str.ofString ",)").length = 2 := by decide +kernel
  have e3 : (Str.ofString ")").length = 1 := by decide +kernel
  split
  · show (Str.ofString "(" ++ Str.join (Str.ofString ", ") ts ++ Str.ofString ",)").length ≤ _
    rw [cat_len, cat_len]
    omega
  · show (Str.ofString "(" ++ Str.join (Str.ofString ", ") ts ++ Str.ofString ")").length ≤ _
    rw [cat_len, cat_len]
    omega
theorem shownAll_mapQ : ∀ ds : List PyData, PyData.shownAll ds = ds.map PyData.shown
  | [] => rfl
  | d :: ds => by rw [PyData.shownAll, shownAll_mapQ ds]; rfl
theorem showableAll_of : ∀ {ds : List PyData}, (∀ d ∈ ds, d.showable = true) → PyData.showableAll ds = true
  | [], _ => rfl
  | d :: ds, h => by
    rw [PyData.showableAll, h d List.mem_cons_self, showableAll_of fun x hx => h x (List.mem_cons_of_mem _ hx)]
    rfl
theorem depthAll_of {n : Nat} : ∀ {ds : List PyData}, (∀ d ∈ ds, d.depth ≤ n) → PyData.depthAll ds ≤ n
  | [], _ => Nat.zero_le _
  | d :: ds, h => by
    rw [PyData.depthAll]
    exact Nat.max_le.mpr ⟨h d List.mem_cons_self, depthAll_of fun x hx => h x (List.mem_cons_of_mem _ hx)⟩
/-- showable, not too deep, not too long -/
structure ShD (n B : Nat) (d : PyData) : Prop where
  sh : d.showable = true
  dp : d.depth ≤ n
  ln : d.shown.length ≤ B
theorem shD_list {n B : Nat} {ds : List PyData} (h : ∀ d ∈ ds, ShD n B d) : ShD (n + 1) ((B + 2) * ds.length + 2) (.list ds) := by
  refine ⟨showableAll_of fun d hd => (h d hd).sh, Nat.succ_le_succ (depthAll_of fun d hd => (h d hd).dp), ?_⟩
  have e : (PyData.list ds).shown = listText (ds.map PyData.shown) := by rw [PyData.shown, shownAll_mapQ]
  rw [e]
  have a := mz_list (B := B) (ts := ds.map PyData.shown) fun t ht => by
    obtain ⟨d, hd, rfl⟩ := List.mem_map.mp ht
    exact (h d hd).ln
  rw [List.length_map] at a
  exact a
theorem shD_tup {n B : Nat} {ds : List PyData} (h : ∀ d ∈ ds, ShD n B d) : ShD (n + 1) ((B + 2) * ds.length + 3) (.tuple ds) := by
  refine ⟨showableAll_of fun d hd => (h d hd).sh, Nat.succ_le_succ (depthAll_of fun d hd => (h d hd).dp), ?_⟩
  have e : (PyData.tuple ds).shown = tupleText (ds.map PyData.shown) := by rw [PyData.shown, shownAll_mapQ]
  rw [e]
  have a := mz_tuple (B := B) (ts := ds.map PyData.shown) fun t ht => by
    obtain ⟨d, hd, rfl⟩ := List.mem_map.mp ht
    exact (h d hd).ln
  rw [List.length_map] at a
  exact a
theorem ShD.mono {n B m C : Nat} {d : PyData} (h : ShD n B d) (a : n ≤ m) (b : B ≤ C) : ShD m C d := ⟨h.sh, Nat.le_trans h.dp a, Nat.le_trans h.ln b⟩
theorem DqAll.app {K : PySem.W.Frag} {H : Hp} : ∀ {xs ys : List V} {ds es : List PyData}, DqAll K H xs ds → DqAll K H ys es → DqAll K H (xs ++ ys) (ds ++ es)
  | _, _, _, _, .nil, h => h
  | _, _, _, _, .cons h1 h2, h => .cons h1 (DqAll.app h2 h)
theorem DqAll.rep {K : PySem.W.Frag} {H : Hp} {x : V} {d : PyData} (h : Dq K H x d) : ∀ n, DqAll K H (List.replicate n x) (List.replicate n d)
  | 0 => .nil
  | n + 1 => .cons h (DqAll.rep h n)
end G
/-! own rules: a caught error stands on the abstract heap; try .. except with it; raise of an own class; defs called where an error is handled -/
namespace G
open PySem PySem.Spec PyProof.Rows L2
/-! ### a caught error -/
/-- at a: an error of the class at C whose dict is d -/
def exl (a C : Addr) (d : Option Addr) : HO := .ext fun h => ∃ (oe : Obj) (vs : Array Value), h.get? a = some oe ∧ oe.cls = .ref C ∧ oe.dict = d ∧ oe.data = .fields vs
theorem exl_noL {a C : Addr} {d : Option Addr} : noL (exl a C d) = true := rfl
theorem exl_ok {P : Program} {w : World} {H : Hp} {h : Heap} {a C : Addr} {d : Option Addr} {oe : Obj} {vs : Array Value} (e : h.get? a = some oe) (c : oe.cls = .ref C) (dd : oe.dict = d) (f : oe.data = .fields vs) : ObjOk P w H h a (exl a C d) :=
  ⟨⟨oe, vs, e, c, dd, f⟩, ⟨_, e⟩, fun h1 h2 z k => by
    obtain ⟨o1, v1, e1, r⟩ := z
    exact ⟨o1, v1, k _ e1, r⟩⟩
theorem exl_at {P : Program} {w : World} {H : Hp} {h : Heap} {a C : Addr} {d : Option Addr} (hok : HOk P w H h) (e : H a = some (exl a C d)) :
    ∃ (oe : Obj) (vs : Array Value), h.get? a = some oe ∧ oe.cls = .ref C ∧ oe.dict = d ∧ oe.data = .fields vs :=
  (show ObjOk P w H h a (.ext _) from hok a _ e).1
/-- x is a caught error of the class at C with the attributes fs -/
def ErrL (H : Hp) (x : V) (C : Addr) (fs : List (Str × V)) : Prop := ∃ (a : Addr) (d : Option Addr), x = .ref a ∧ H a = some (exl a C d) ∧
  match d with
  | none => fs = []
  | some dx => H dx = some (.xd fs)
theorem ErrL.same {H H' : Hp} {x : V} {C : Addr} {fs : List (Str × V)} (e : ErrL H x C fs) (s : Same H H') : ErrL H' x C fs := by
  obtain ⟨a, d, rfl, ea, q⟩ := e
  refine ⟨a, d, rfl, s _ _ ea, ?_⟩
  cases d with
  | none => exact q
  | some dx => exact s _ _ q
section
variable {X : Cx} {pins : List (Addr × Obj)} {σ : L2.St} {H : Hp} {s : Shared} {a C : Addr} {d : Option Addr} {oe : Obj} {vs : Array Value}
/-- an error that is known to nobody is taken onto the abstract heap -/
theorem adopt (I : Inv X pins σ H s) (e : s.heap.get? a = some oe) (c : oe.cls = .ref C) (dd : oe.dict = d) (f : oe.data = .fields vs) (na : H a = none) (n0 : X.s_0.heap.get? a = none)
    (nL : a ≠ X.env.locals) (np : ∀ p ∈ X.pn ++ pins, p.1 ≠ a) : Inv X pins σ (upd H a (exl a C d)) s := by
  have cm : ∀ x c', X.env.cells.lookup x = some c' → c' ≠ a := fun x c' hc z => by
    obtain ⟨v, o, ho, hd⟩ := I.cell x c' hc
    rw [z, e] at ho
    cases ho
    rw [f] at hd
    cases hd
  refine ⟨I.ok, I.os, I.bare, ⟨fun b o q n hb hx => I.base.keep b o q n hb hx, fun b o q n hb hx => I.base.slot b o q n hb hx, fun b o q n hx => ?_, I.base.there, fun b xs q => ?_, fun b o u q => ?_, fun b ps q => ?_⟩,
    I.loc, I.cell, ?_, fun x c' hc => ?_, fun p hp => ?_, fun b o q => ?_, I.len⟩
  · rw [upd_ne (fun z => by rw [z, n0] at q; cases q)]
    exact I.base.free b o q n hx
  · have z := I.base.tups b xs q
    rw [upd_ne (ne_of_none z na)]
    exact z
  · have z := I.base.frzs b o u q
    rw [upd_ne (ne_of_none z na)]
    exact z
  · obtain ⟨more, z⟩ := I.base.tbls b ps q
    exact ⟨more, by rw [upd_ne (ne_of_none z na)]; exact z⟩
  · rw [upd_ne nL.symm]
    exact I.free
  · rw [upd_ne (cm x c' hc)]
    exact I.freeC x c' hc
  · have z := I.pin p hp
    exact ⟨z.1, by rw [upd_ne (np p hp)]; exact z.2.1, z.2.2⟩
  · by_cases z : b = a
    · subst z
      rw [upd_same] at q
      cases q
      exact exl_ok e c dd f
    · rw [upd_ne z] at q
      exact (I.hok b o q).stay (fun _ _ _ y => y) (fun c' hc => by rw [upd_ne (ne_of_none hc na)]; exact hc) fun c' xs hc => by rw [upd_ne (ne_of_none hc na)]; exact hc
end
/-- what one clause wishes of an error of the body, which then stands on the heap -/
def wAd (n : Nat) (w : Value → Option Bool) (i : Nat) (ts : TS) (Wout : WX) (D : Ends) : WX := fun cls d σ H =>
  σ.length = n → ∃ b, w cls = some b ∧ (b = true → ∃ C, cls = .ref C ∧ ∀ a, H a = none → ts (gone i D) (σ.set i (some (.ref a))) (upd H a (exl a C d))) ∧ (b = false → Wout cls d σ H)
section
variable {X : Cx} {n : Str} {i : Nat} {te : Expr} {w : Value → Option Bool} {body suite : List Stmt} {b₀ : Stmt} {pos pos' : Pos} {tb : WX → TS} {ts : TS} {Wout : WX}
theorem ps_try_ad (stk : X.stack = X.env :: X.outer) (frm : X.env.frame = some X.env.locals) (hex : X.ex = []) (nod : X.N.Nodup) (at_ : X.N[i]? = some n) (lcl : X.env.kindOf n = some .local)
    (test : TestBy X te w) (out : Takes X Wout)
    (hb : ∀ (W : WX) (pn : List (Addr × Obj)) (xe : Value → Shared → Prop), Takes (X.tr pn xe) W → PassesOwn (model X.prog X.w) X.A X.env xe → PSs (X.tr pn xe) body (tb W))
    (hsu : ∀ (a : Addr) (pn : List (Addr × Obj)), PSs (X.suite a pn) (b₀ :: suite) ts) :
    PS X (.Try body [.ExceptHandler (some te) (some n) (b₀ :: suite) pos'] [] [] pos) (fun D σ H => tb (wAd X.N.length w i ts Wout D) D σ H) := by
  constructor
  intro pins s σ H D I h
  have good := I.ok
  have frs0 : X.A.frames = some (X.env :: X.outer) := good.frames.trans (by rw [stk])
  apply wpAny_Try_except
  let hd : List ExceptHandler := [.ExceptHandler (some te) (some n) (b₀ :: suite) pos']
  let after : Value → Shared → Prop := fun e s₁ => wpAny (model X.prog X.w) X.A (noteFrame e X.env) (fun _ s₂ =>
    wpAny (model X.prog X.w) X.A (setFlight e none) (fun _ s₃ => wpAny (model X.prog X.w) X.A (handleBy e X.env hd) (SP X pins D) X.xe s₃) X.xe s₂) X.xe s₁
  have caught : Takes (X.tr (X.pn ++ pins) after) (wAd X.N.length w i ts Wout D) := by
    rintro u s' ⟨a, B, sI, pins', σ', H', cls, d, rfl, J', nb, up, sky, na, os, ag, wish⟩
    obtain ⟨b, wb, yes, no⟩ := wish J'.len
    have J : Inv X pins σ' H' sI := J'.ofTry good
    rw [show (X.tr (X.pn ++ pins) after).stack = X.env :: X.outer from stk] at sky
    apply Sky.land Zc.steady frs0 frm sky
    intro h3 fl up3
    have J3 := J.landed (s' := { s' with heap := h3 }) nb fl.1 (up.trans up3) os ag
    obtain ⟨o3, v3, g3, z3, d3⟩ := fl.there
    have apart : ∀ (hh : Heap) (o : Obj) (vs : Array Value), hh.FunFrames B (X.env :: X.outer) → hh.get? a = some o → o.data = .fields vs → a ∉ frs (X.env :: X.outer) := by
      intro hh o vs ff e1 e2 hm
      obtain ⟨_, o', e', nf⟩ := ff.mem hm
      obtain rfl : o = o' := Option.some.inj (e1.symm.trans e')
      exact nf vs e2
    have off := apart h3 o3 v3 fl.2.2.1 g3 d3
    have offL : a ≠ X.env.locals := by
      rintro rfl
      exact off (List.mem_filterMap.mpr ⟨X.env, List.mem_cons_self, frm⟩)
    have offF : a ∉ X.fs := by
      intro hm
      obtain ⟨e, he, q⟩ := List.mem_filterMap.mp hm
      exact off (List.mem_filterMap.mpr ⟨e, List.mem_cons_of_mem _ he, q⟩)
    have bare_ : B.get? a = none := fl.2.1
    have newI : sI.heap.get? a = none := by
      cases q : sI.heap.get? a with
      | none => rfl
      | some o =>
        have z := nb a o q (by rw [show (X.tr (X.pn ++ pins) after).stack = X.env :: X.outer from stk]; exact off)
        rw [bare_] at z
        cases z
    have new0 : X.s_0.heap.get? a = none := by
      cases q : X.s_0.heap.get? a with
      | none => rfl
      | some o =>
        obtain ⟨o', z⟩ := J.base.there a o q (by rw [hex]; simp)
        rw [newI] at z
        cases z
    have newP : ∀ p ∈ X.pn ++ pins, p.1 ≠ a := fun p hp z => by
      have q := (J.pin p hp).1
      rw [z, newI] at q
      cases q
    apply wpAny_handleBy_cons (codeAny_handlers_test ?_) (by intro q; cases q)
    apply test a o3 (X.pn ++ pins) { s' with heap := h3 } σ' H' _ _ (J3.suite g3 d3 na offL offF)
    intro c h4 k4 tell
    have fl4 := flies_on fl k4
    have up4 : sI.heap.UpToSlots h4 := (up.trans up3).trans (Heap.UpToSlots.of_keeps k4)
    have g4 : h4.get? a = some o3 := k4 a o3 g3
    have kind : PySem.W.Looks (model X.prog X.w) h4 (typeOf (.ref a)) cls := fun A Q E s k q => wpAny_typeOf_ref (k _ _ g4) (by rw [z3.1]; exact q)
    apply (tell cls b wb kind).here
    cases b with
    | false =>
      show wpAny _ X.A (handleBy (.ref a) X.env []) _ _ _
      apply wpAny_handleBy_nil
      obtain ⟨_, _, _, oe, vs, T, oT, tt, p1, p2, p3, p4, _⟩ := id fl4
      unfold PySem.passOn
      refine wpAny_bind (wpAny_field p1 p3 p4 ?_)
      rw [if_neg (by simp)]
      have leave : wpAny (model X.prog X.w) X.A (setFlight (.ref a) X.env.frame) (fun _ s4 => wpAny (model X.prog X.w) X.A (throw (.ref a) : Sem Flow) (SP X pins D) X.xe s4) X.xe { s' with heap := h4 } := by
        rw [frm]
        apply HandSPX.setFlight_upZ fl4
        intro h5 held up5
        apply wpAny_throw
        apply out
        exact ⟨a, B, sI, pins, σ', H', cls, d, rfl, J, nb, up4.trans up5, .inr (.inr (by rw [stk]; exact held)), na, os, ag, no rfl⟩
      first
        | exact wpAny_bind (wpAny_pure (wpAny_bind leave))
        | exact wpAny_bind leave
    | true =>
      obtain ⟨C, rfl, go⟩ := yes rfl
      apply codeAny_handlers_suite_as
      apply HandSPX.lands_againZ fl4
      intro h5 fl5 up5
      have J5 := J.landed (s' := { s' with heap := h5 }) nb fl5.1 (up4.trans up5) os ag
      obtain ⟨o5, v5, g5, z5, d5⟩ := fl5.there
      have S5 : Inv (X.suite a (X.pn ++ pins)) [] σ' (upd H' a (exl a C d)) { s' with heap := h5 } := by
        have K5 := (adopt J5 g5 z5.1 z5.2 d5 na new0 offL newP)
        exact ⟨K5.ok.suite _ _, K5.os, K5.bare, K5.base, K5.loc, K5.cell, K5.free, K5.freeC, fun p hp => K5.pin p (by rw [List.append_nil] at hp; exact hp), K5.hok, K5.len⟩
      apply store_ok (X := X.suite a (X.pn ++ pins)) (v := .ref a) S5 nod at_ (.inl lcl) rfl ?_ (.inr lcl)
      intro s6 S6
      refine wpAny_mono ((hsu a (X.pn ++ pins)).run [] s6 _ _ _ S6 (go a na)) (fun f s7 sp => ?_) (fun _ _ z => z.elim)
      have away : ∀ {σ7 : L2.St} {H7 : Hp} {Q : Shared → Prop}, Inv (X.suite a (X.pn ++ pins)) [] σ7 H7 s7 → (∀ s8, Inv X pins (σ7.set i none) H7 s8 → Q s8) →
          wpAny (model X.prog X.w) X.A (do bindName X.env n .none; unbindBehindTheSuite X.env n pos') (fun _ s8 => Q s8) X.xe s7 :=
        fun {σ7 H7 Q} S7 q => gone_ok (⟨good, S7.os, S7.bare, S7.base, S7.loc, S7.cell, S7.free, S7.freeC, fun p hp => S7.pin p (List.mem_append_left _ hp), S7.hok, S7.len⟩ : Inv X pins σ7 H7 s7) nod at_ lcl q
      match f, sp with
      | .next, ⟨σ7, H7, S7, q7⟩ => exact away S7 fun s8 J8 => ⟨_, _, J8, q7⟩
      | .brk, ⟨σ7, H7, S7, q7⟩ => exact away S7 fun s8 J8 => ⟨_, _, J8, q7⟩
      | .cont, ⟨σ7, H7, S7, q7⟩ => exact away S7 fun s8 J8 => ⟨_, _, J8, q7⟩
      | .ret u, ⟨v7, σ7, H7, S7, r7, q7⟩ => exact away S7 fun s8 J8 => ⟨_, _, _, J8, r7, q7⟩
  refine wpAny_mono ((hb (wAd X.N.length w i ts Wout D) (X.pn ++ pins) after caught PassesOwn.looking).run [] s σ H D (I.toTry _) h) (fun f s1 sp => ?_) (fun _ _ z => z)
  match f, sp with
  | .next, ⟨σ1, H1, J1, q1⟩ => exact wpAny_execs_nil ⟨σ1, H1, J1.ofTry good, q1⟩
  | .brk, ⟨σ1, H1, J1, q1⟩ => exact ⟨σ1, H1, J1.ofTry good, q1⟩
  | .cont, ⟨σ1, H1, J1, q1⟩ => exact ⟨σ1, H1, J1.ofTry good, q1⟩
  | .ret u, ⟨v1, σ1, H1, J1, r1, q1⟩ => exact ⟨v1, σ1, H1, J1.ofTry good, r1, q1⟩
end
end G
/-! own rules: caught errors asked; raise C(e); defs called where an error is handled -/
namespace G
open PySem PySem.Spec PyProof.Rows L2
/-! ### caught errors asked -/
theorem ErrL.inst {X : Cx} {pins : List (Addr × Obj)} {σ : L2.St} {H : Hp} {s : Shared} {x : V} {C : Addr} {fs : List (Str × V)} (I : Inv X pins σ H s) (e : ErrL H x C fs) :
    ∃ a ox od, x = .ref a ∧ PySem.W.InstAt s.heap a ox C od := by
  obtain ⟨a, d, rfl, ea, q⟩ := e
  obtain ⟨oe, vs, ho, hc, hd, hf⟩ := exl_at I.hok ea
  have nc : PySem.W.notCls oe = true := by
    unfold PySem.W.notCls
    rw [hf]
  cases d with
  | none => exact ⟨a, oe, none, rfl, ho, hc, nc, by rw [hd]; trivial⟩
  | some dx =>
    obtain ⟨mA, ⟨oD, es, ep, hoD, r⟩, _⟩ := (show ObjOk X.prog X.w H s.heap dx (.xd fs) from I.hok dx _ q)
    exact ⟨a, oe, some oD, rfl, ho, hc, nc, by rw [hd]; exact hoD⟩
/-- isinstance(e, c), e a caught error of the i-th of the classes cl: f i -/
def rIsL (n : Nat) (cl : Nat → Addr) (c : V) (f : Nat → Bool) : List V → Hp → VK → Prop := fun xs H Q => ∃ (x : V) (i : Nat) (fs : List (Str × V)), xs = [x, c] ∧ i < n ∧ ErrL H x (cl i) fs ∧ Q (.bl (f i)) H
theorem cr_isL {X : Cx} {n : Nat} {cl : Nat → Addr} {c : V} {cv : Value} {f : Nat → Bool} (hc : ∀ u, RelV c u → u = cv) (hx : ∀ i < n, ExcC X.K (cl i)) (hk : ∀ i < n, PySem.W.kitOne X.K (.ref (cl i)) cv = some (f i)) :
    CallR X (.builtin "isinstance") (rIsL n cl c f) := by
  intro pins s σ H xs us Q I r h
  obtain ⟨x, i, fs, rfl, hi, e, q⟩ := h
  cases r with
  | cons rx rr =>
    cases rr with
    | cons rt rr =>
      cases rr
      obtain rfl := hc _ rt
      obtain ⟨a, ox, od, rfl, J⟩ := e.inst I
      obtain rfl := (show _ = Value.ref a from rx)
      exact PySem.W.kia_one (err_kitx (hx i hi)) I.kIn ⟨ox, od, J⟩ (hk i hi) (fun z => nomatch z) fun tk => ⟨.bl (f i), H, I.kept (t' := tk) fun _ _ z => z, rfl, q⟩
def tErrFldL (n : Nat) (cl : Nat → Addr) (ok : Nat → Bool) (f : Str) (te : TE) : TE := fun σ H Q => te σ H fun x H1 => ∃ (i : Nat) (fs : List (Str × V)) (v : V), ErrL H1 x (cl i) fs ∧ i < n ∧ ok i = true ∧ fs.lookup f = some v ∧ Q v H1
theorem pe_errfldL {X : Cx} {n : Nat} {cl : Nat → Addr} {ok : Nat → Bool} {f : Str} {e : Expr} {te : TE} {pos : Pos} (hx : ∀ i < n, XfC X.K (cl i)) (hno : ∀ i < n, ok i = true → PySem.W.findIn X.K (.ref (cl i)) f = some none)
    (he : PE X e te) (hb : attributeBase e f X.env (eval e X.env) = eval e X.env := by rfl) : PE X (.Attribute e f pos) (tErrFldL n cl ok f te) := by
  refine ⟨fun pins s σ H Q I h => ?_⟩
  refine attr_of hb (thn (he.run pins s σ H _ I h) ?_)
  rintro u s1 ⟨x, H1, I1, rx, i, fs, v, ⟨a, d, rfl, ea, q0⟩, hi, ho, hl, q⟩
  obtain rfl : u = Value.ref a := rx
  obtain ⟨oe, vs, hoe, hc, hd, hf⟩ := exl_at I1.hok ea
  cases d with
  | none =>
    rw [show fs = [] from q0] at hl
    cases hl
  | some dx =>
    obtain ⟨mA, hns, hr⟩ := (show ObjOk X.prog X.w H1 s1.heap dx (.xd fs) from I1.hok dx _ q0)
    obtain ⟨oD, hoD, look⟩ := lookIn_ns hns
    obtain ⟨u, hu, ru⟩ := RelO.some_of (v := v) (o := mA f) (by rw [← hl]; exact hr f)
    have nc : PySem.W.notCls oe = true := by
      unfold PySem.W.notCls
      rw [hf]
    have J : PySem.W.InstAt s1.heap a oe (cl i) (some oD) := ⟨hoe, hc, nc, by rw [hd]; exact hoD⟩
    have T := hx i hi
    exact HandSPX.exc_get I1.kIn J T.ga T.gg T.exC (PySem.W.findObj_own T.hdC (hno i hi ho) rfl (by rw [look, hu])) (handed_of ru) ⟨v, H1, I1.tok _, ru, q⟩

/-! ### raise C(e) -/
section
variable {X : Cx} {C : Addr} {n : Nat} {gF : List V → List (Str × V)} {x : Str} {ks : List Str} {sw : Bool} {p pos : Pos} {e : Expr} {es : List Expr} {ta : TA}
/-- C(e, ..), made to be raised: its dict d stands -/
def tErrR (C : Addr) (n : Nat) (gF : List V → List (Str × V)) (ta : TA) : L2.St → Hp → XK → Prop := fun σ H Q => ta σ H fun vs H1 => vs.length = n ∧ ∀ d H2, Same H1 H2 → H2 d = some (.xd (gF vs)) → Q (.ref C) (some d) H2
theorem pmk_err (c : ErK X.prog X.w X.K X.mg X.base x C n ks sw gF) (rs : Raises X (.ref C)) (hr : Room 2 X.A) (ha : PA X (e :: es) ta) (hn : n ≤ 2) (hg : Gl X x := by rfl) (hdb : (x == ("__debug__" : Str)) = false := by decide)
    (he : starEach (e :: es) X.env = (false, eval e X.env) :: starEach es X.env := by rfl) (hpl : (backTo pos (starEach es X.env)).any (·.1) = false := by rfl) :
    PMk X (.Call (.Name x p) (e :: es) [] pos) (tErrR C n gF ta) := by
  obtain ⟨B, newId, initId, tl, fI, fd, ps, b, T, iC, tI, F, hm, hb, _⟩ := c
  intro pins s σ H Q I h
  refine wpAny_Call_Name_kw (ld_glob I hg hm ?_ hdb)
  refine PySem.W.callWith_K (h₀ := X.base) I.ok.mod.kin T.kC (thn (ha.run pos pins s σ H _ I h) ?_) he hpl
  rintro us s1 ⟨vs, H1, I1, r, l, q⟩
  have lu : us.length = n := r.length.symm.trans l
  refine ⟨I1.kIn, ?_⟩
  show wpAny _ _ (call (.ref C) us) _ _ _
  obtain ⟨hp, g, d0, tk, os⟩ := s1
  obtain ⟨nm, N, qn, bs, bm, hd, sn, sub, ab, col, dd, k0, k1, k2, k3, k5, hC, hT⟩ := PySem.W.excInit_of I1.kIn T.ei
  have kk : ∀ c o, hp.get? c = some o → ((hp.push (PySem.W.kdv_tup us)).push (PySem.HandSPX.excO C hp.objs.size)).get? c = some o :=
    fun c o e => Heap.get?_push_of_some _ (Heap.get?_push_of_some _ e)
  have hsz : hp.objs.size ≤ hp.objs.size + 1 := Nat.le_succ _
  have hnone : H1 (hp.objs.size + 1) = none := I1.hok.fresh hsz
  have hget : ((hp.push (PySem.W.kdv_tup us)).push (PySem.HandSPX.excO C hp.objs.size)).get? (hp.objs.size + 1) = some (PySem.HandSPX.excO C hp.objs.size) := by heap_get
  have I2 : Inv X pins σ (upd H1 (hp.objs.size + 1) (exo (hp.objs.size + 1) C none)) ⟨(hp.push (PySem.W.kdv_tup us)).push (PySem.HandSPX.excO C hp.objs.size), g, d0, tk, os⟩ :=
    I1.laid (t' := tk) (a := hp.objs.size + 1) (o := exo (hp.objs.size + 1) C none) kk hsz (exo_ok hget)
  have hq : spE C n gF (.ref (hp.objs.size + 1) :: vs) (upd H1 (hp.objs.size + 1) (exo (hp.objs.size + 1) C none))
      (fun v H2 => v = .non ∧ ∃ d : Addr, H2 (hp.objs.size + 1) = some (exo (hp.objs.size + 1) C (some d)) ∧ H2 d = some (exd d (gF vs)) ∧ H1 d = none ∧ Q (.ref C) (some d) (upd (del H2 (hp.objs.size + 1)) d (.xd (gF vs)))) (fun _ _ _ => False) := by
    refine ⟨_, vs, rfl, l, upd_same, fun dx H2 nd k e ed => ⟨rfl, dx, e, ed, upd_free nd, q dx _ (fun c o z => ?_) upd_same⟩⟩
    have nc : c ≠ hp.objs.size + 1 := fun w => by rw [w, hnone] at z; cases z
    have nd' : H1 dx = none := upd_free nd
    rw [upd_ne (ne_of_none z nd'), del_ne nc]
    exact k c o nc (by rw [upd_ne nc]; exact z)
  refine wpAny_call (made_call b hT hC (Nat.le_trans (Nat.le_of_eq lu) (by rw [sizeLine_eq]; omega)) (PySem.W.looks_findIn I1.kIn iC) (fun self => PySem.W.bind_fn I1.kIn self tI) ?_)
  have bind := hb ⟨(hp.push (PySem.W.kdv_tup us)).push (PySem.HandSPX.excO C hp.objs.size), g, d0, tk, os⟩ (.ref (hp.objs.size + 1) :: us) I2.kIn (by
    have := F.len _ _ _ _ hq
    rw [List.length_cons] at this
    simp only [List.append_nil, List.length_cons]
    omega)
  rw [List.append_nil] at bind
  refine codeAny_mono (F.run _ X.stack _ _ _ (Value.ref (hp.objs.size + 1) :: us) (V.ref (hp.objs.size + 1) :: vs) _ (fun _ _ _ => False) (hr.make C us []) (I2.env0.make C us []) bind (.cons rfl r) hq) ?_
  intro r' s' hq'
  match r', hq' with
  | .error er, hq' => exact pass0 (X := X) pins σ _ _ er s' I2 hq'
  | .ok .next, hq' => exact hq'.elim
  | .ok .brk, hq' => exact hq'.elim
  | .ok .cont, hq' => exact hq'.elim
  | .ok (.ret u), hq' =>
    obtain ⟨v, H2, os2, bare2, un2, hok2, rv, ev, d, ea, ed, hd1, q2⟩ := hq'
    subst ev
    obtain ⟨h2, g2, d2, t2, os'⟩ := s'
    exact ⟨rv, mk_end rs I1 hsz kk un2 hok2 os2 bare2 ea ed hd1 q2⟩
end
/-- what a def lets out that it is told to let out -/
theorem passX {P : Program} {w : World} {K : PySem.W.Frag} {mg : Str → Option Value} {base : Heap} {N : List Str} {qual : Str} {scope : Scope} {f : Addr} {cd : Value} {A : Around} {outer : List Env} {s : Shared} {H : Hp} {E : XK} :
    Passes (L2.CX P w) (cxOf (L2.CX P w) P w K mg base N qual scope f cd A outer s H E) E :=
  passes_call (takes_of rfl rfl rfl rfl) fun _ _ _ _ h => h
theorem takesX {P : Program} {w : World} {K : PySem.W.Frag} {mg : Str → Option Value} {base : Heap} {N : List Str} {qual : Str} {scope : Scope} {f : Addr} {cd : Value} {A : Around} {outer : List Env} {s : Shared} {H : Hp} {E : XK} :
    Takes (cxOf (L2.CX P w) P w K mg base N qual scope f cd A outer s H E) (fun cls d _ H => E cls d H) := takes_of rfl rfl rfl rfl

/-! ### defs called where an error is handled -/
structure FnT (P : Program) (w : World) (K : PySem.W.Frag) (mg : Str → Option Value) (base : Heap) (k : Nat) (f : Addr) (fd : FuncData) (ps : List Str) (sp : Sp) : Prop where
  len : ∀ vs H Q E, sp vs H Q E → vs.length = ps.length
  run : ∀ (A : Around) (outer : List Env) (s : Shared) (H : Hp) (args : Args) (us : List Value) (vs : List V) (Q : VK) (E : XK), L2H.RoomH k A → A.guards = some [] → Env0 P w K mg base A outer s H →
    BindsTo s fd args (ps.zip us) → Vals vs us → sp vs H Q E → codeAny (model P w) A (.call (.ref f) args) (CR CX0 outer P w H s Q E) s
/-- the context of such a def's body -/
def cxT (P : Program) (w : World) (K : PySem.W.Frag) (mg : Str → Option Value) (base : Heap) (N : List Str) (qual : Str) (scope : Scope) (f : Addr) (cd : Value) (A : Around) (outer : List Env) (s : Shared) (H : Hp) (E : XK) : Cx :=
  { cxOf CX0 P w K mg base N qual scope f cd A outer s H E with calm := false }
theorem okT {P : Program} {w : World} {K : PySem.W.Frag} {mg : Str → Option Value} {base : Heap} {k : Nat} {f : Addr}
    {fd : FuncData} {x qual : Str} {params : Arguments} {body : List Stmt} {scope : Scope} {dvs : List V} {kws : List (Str × V)}
    {N ps : List Str} {sp : Sp} (F : FunD K x qual params body scope dvs kws f fd) (S : FnScope N ps scope)
    (len : ∀ vs H Q E, sp vs H Q E → vs.length = ps.length)
    (hbody : ∀ (cdv : Value) (A : Around) (outer : List Env) (s : Shared) (H : Hp) (vs : List V) (Q : VK) (E : XK),
      L2H.RoomH k (A.deeper (envOfC qual scope s.heap.objs.size f cdv)) → A.guards = some [] → sp vs H Q E →
      ∃ t, PSs (cxT P w K mg base N qual scope f cdv A outer s H E) body t ∧
        t { nx := fun _ H' => Q .non H', rt := Q } (start N vs) H) : FnT P w K mg base (k + 1) f fd ps sp := by
  obtain ⟨oc, od, dV, kV, doc, pm, an, cdv, ct, osl, rfl, lk, hcd, _, _⟩ := F.ex
  refine ⟨len, ?_⟩
  intro A outer s H args us vs Q E hr hgd e0 hb r hsp
  have hl := len _ _ _ _ hsp
  have st := fun b o e => (e0.bs b o e).1
  have kin : K.In s.heap := e0.mod.kin.keeps st
  have hlim : s.heap.NoLimit := e0.mod.nolimit.keeps st
  have kinds : ∀ y ∈ ps.zip us, scope.names.lookup y.1 = some .local ∨
      (scope.names.lookup y.1 = some .cell ∧ ((cellsFrom (s.heap.objs.size + 1) scope.names []).lookup y.1).isSome = true) := by
    rintro ⟨n, v⟩ hy
    have hp := S.par n (List.of_mem_zip hy).1
    exact hp.imp id fun q => ⟨q, PySem.W.cellsFrom_some _ _ _ (.inl q)⟩
  refine codeAny_call_function hr.depth (kin _ _ lk) rfl S.co S.gen rfl
    (PySem.W.codeRec_of kin hcd) (hb _ _ _ _ ?_)
  refine wpAny_newFunctionEnv_cells S.kind kinds ?_
  rintro env rfl s1 x
  refine ⟨hlim.keeps x.toInCall.keep, codeAny_func ?_⟩
  obtain ⟨t, ht, hq⟩ := hbody cdv A outer s H vs Q E (hr.deeper _) hgd hsp
  have e1 : Env0 P w K mg base { A with handled := none } outer s H := ⟨e0.frames, e0.mod, e0.bs, e0.bsz, e0.funs, e0.frf, e0.hok, e0.bare⟩
  have I1 := inv_start (CX := CX0) (E := E) S rfl e1 hl r x
  have I0 : Inv (cxT P w K mg base N qual scope f cdv A outer s H E) [] (start N vs) H s1 :=
    ⟨⟨I1.ok.mod, I1.ok.kind, I1.ok.glob, I1.ok.blt, I1.ok.above, I1.ok.inj, I1.ok.has, I1.ok.cab, (fun z => Bool.noConfusion (show false = true from z)), Around.frames_deeper e0.frames, I1.ok.stk, I1.ok.exf, I1.ok.bs, I1.ok.bsz, I1.ok.noex, I1.ok.exfs, I1.ok.funs, I1.ok.frf⟩,
      I1.os, I1.bare, I1.base, I1.loc, I1.cell, I1.free, I1.freeC, I1.pin, I1.hok, I1.len⟩
  refine wpAny_mono (ht.run [] s1 (start N vs) H _ I0 hq) ?_ (fun e s' hs => hs)
  intro fl s' hs
  cases fl with
  | brk => exact (hs.choose_spec.choose_spec.2).elim
  | cont => exact (hs.choose_spec.choose_spec.2).elim
  | ret u =>
    obtain ⟨v, σ', H', J, rv, q⟩ := hs
    exact ⟨v, H', J.os, J.bare, J.base, J.hok, rv, q⟩
  | next =>
    obtain ⟨σ', H', J, q⟩ := hs
    exact ⟨V.non, H', J.os, J.bare, J.base, J.hok, rfl, q⟩
/-- the module's name x is a def that keeps sp, called where an error is handled -/
def CalT (P : Program) (w : World) (K : PySem.W.Frag) (mg : Str → Option Value) (base : Heap) (k : Nat) (x : Str) (sp : Sp) : Prop :=
  ∃ f fd ps, FnT P w K mg base k f fd ps sp ∧ mg x = some (.ref f) ∧ PySem.W.keepIn K (.ref f) = true ∧ Binds K fd ps []
theorem CalT.mk {P : Program} {w : World} {K : PySem.W.Frag} {mg : Str → Option Value} {base : Heap} {k : Nat} {x qual : Str} {f : Addr} {fd : FuncData}
    {params : Arguments} {body : List Stmt} {scope : Scope} {ps : List Str} {sp : Sp} (F : FunD K x qual params body scope [] [] f fd)
    (ok : FnT P w K mg base k f fd ps sp) (hm : mg x = some (.ref f))
    (h : ∀ (kV doc pm : Value) (an : Option Addr) (cdv ct : Value) (us : List Value), us.length = ps.length → bindArgs (PySem.W.fnOf x qual params body scope .none kV doc pm an cdv ct) ⟨us, []⟩ = pure (ps.zip us)) :
    CalT P w K mg base k x sp := ⟨f, fd, ps, ok, hm, F.kp, F.bindsN h⟩
section
variable {X : Cx} {k : Nat} {sp : Sp} {x : Str} {p pos : Pos} {e : Expr} {es : List Expr} {t : TA}
theorem pe_calT (C : CalT X.prog X.w X.K X.mg X.base k x sp) (hr : L2H.RoomH k X.A) (hgd : X.A.guards = some [])
    (ha : PA X (e :: es) t) (hg : Gl X x := by rfl) (hdb : (x == ("__debug__" : Str)) = false := by decide)
    (he : starEach (e :: es) X.env = (false, eval e X.env) :: starEach es X.env := by rfl)
    (hpl : (backTo pos (starEach es X.env)).any (·.1) = false := by rfl) :
    PE X (.Call (.Name x p) (e :: es) [] pos) (tCall sp [] E0 t) := by
  obtain ⟨f, fd, ps, F, hm, hk, hb⟩ := C
  refine ⟨?_⟩
  intro pins s σ H Q I h
  refine wpAny_Call_Name_kw (ld_glob I hg hm ?_ hdb)
  refine PySem.W.callWith_K (h₀ := X.base) I.ok.mod.kin hk ?_ he hpl
  refine thn (ha.run pos pins s σ H _ I h) ?_
  rintro us s1 ⟨vs, H1, I1, r, q⟩
  have q' : sp vs H1 Q E0 := by
    have q0 : sp (vs ++ []) H1 Q E0 := q
    rwa [List.append_nil] at q0
  have hl := (r.length.symm.trans (F.len _ _ _ _ q'))
  have b := hb s1 us I1.kIn (by rw [List.append_nil]; exact hl)
  rw [List.append_nil] at b
  refine ⟨I1.kIn, wpAny_call (codeAny_mono (F.run X.A X.stack s1 H1 ⟨us, []⟩ us vs Q E0 hr hgd I1.env0 b r q') ?_)⟩
  intro r s' hq
  match r, hq with
  | .error e, hq => exact pass0 (X := X) pins σ H1 s1 e s' I1 hq
  | .ok (.ret u), hq => exact I1.after hq
  | .ok .next, hq => exact hq.elim
  | .ok .brk, hq => exact hq.elim
  | .ok .cont, hq => exact hq.elim
theorem pe_calT0 (C : CalT X.prog X.w X.K X.mg X.base k x sp) (hr : L2H.RoomH k X.A) (hgd : X.A.guards = some [])
    (hg : Gl X x := by rfl) (hdb : (x == ("__debug__" : Str)) = false := by decide) :
    PE X (.Call (.Name x p) [] [] pos) (tCall sp [] E0 tNil) := by
  obtain ⟨f, fd, ps, F, hm, hk, hb⟩ := C
  refine ⟨?_⟩
  intro pins s σ H Q I h
  refine wpAny_Call_Name_kw (ld_glob I hg hm ?_ hdb)
  refine PySem.W.callWith_K0 I.kIn hk ?_
  have q' : sp [] H Q E0 := h
  have b := hb s [] I.kIn (F.len _ _ _ _ q')
  refine wpAny_call (codeAny_mono (F.run X.A X.stack s H ⟨[], []⟩ [] [] Q E0 hr hgd I.env0 b .nil q') ?_)
  intro r s' hq
  match r, hq with
  | .error e, hq => exact pass0 (X := X) pins σ H s e s' I hq
  | .ok (.ret u), hq => exact I.after hq
  | .ok .next, hq => exact hq.elim
  | .ok .brk, hq => exact hq.elim
  | .ok .cont, hq => exact hq.elim
end
end G
/-! own rules: the head tells of tables of code objects; the law's call where some of its defs make lambdas -/
namespace G
open PySem PySem.Spec PyProof.Rows L2
/-! ### where the code object of a global def stands, and its table -/
def codeA (K : PySem.W.Frag) (x : Str) : Addr := match K.lookup (He.ga K x) with
  | some ⟨_, _, .func fd, _⟩ => (match fd.code with
    | .ref c => c
    | _ => 0)
  | _ => 0
def tabA (K : PySem.W.Frag) (x : Str) : Addr := match K.lookup (codeA K x) with
  | some ⟨_, _, .fields vs, _⟩ => (match (vs[11]? : Option Value) with
    | some (.ref P) => P
    | _ => 0)
  | _ => 0
def isEmptyTab : Option Obj → Bool
  | some ⟨.none, none, .fields a, sl⟩ => a.isEmpty && sl.isEmpty
  | _ => false
theorem emptyTab_of {o : Option Obj} (h : isEmptyTab o = true) : o = some { cls := .none, data := .fields #[] } := by
  unfold isEmptyTab at h
  split at h
  · rename_i a sl
    obtain ⟨h1, h2⟩ := He.ba h
    rw [Array.isEmpty_iff] at h1 h2
    rw [h1, h2]
  · cases h
def valS : Value → Bool
  | .str _ _ => true
  | _ => false
def valI : Value → Bool
  | .int _ _ => true
  | _ => false
def valB : Value → Bool
  | .bool _ => true
  | _ => false
def fnCodeB (K : PySem.W.Frag) (x : Str) : Bool := match K.lookup (He.ga K x) with
  | some ⟨_, _, .func fd, _⟩ => decide (fd.code = .ref (codeA K x))
  | _ => false
def codeB (K : PySem.W.Frag) (x : Str) : Bool := match K.lookup (codeA K x) with
  | some ⟨c, _, .fields vs, _⟩ => decide (c = .type "code") && (decide (vs[11]? = some (.ref (tabA K x))) && (decide (vs.getD 11 .none = .ref (tabA K x)) &&
    (valS (vs.getD 18 .none) && (valI (vs.getD 7 .none) && (valB (vs.getD 9 .none) && (valI (vs.getD 10 .none) && decide (codeA K x ≠ tabA K x)))))))
  | _ => false
def tabB (g : Addr → Option Obj) (K : PySem.W.Frag) (x : Str) : Bool := fnCodeB K x && (codeB K x && ((K.lookup (tabA K x)).isNone && isEmptyTab (g (tabA K x))))
/-- the def x makes code objects of its own: its code object, its table, which is empty -/
structure TabK (K : PySem.W.Frag) (h : Heap) (x : Str) : Prop where
  fn : ∀ oc od fd osl, K.lookup (He.ga K x) = some ⟨oc, od, .func fd, osl⟩ → fd.code = .ref (codeA K x)
  code : PySem.W.CodeHd h (codeA K x) (tabA K x)
  tab : h.get? (tabA K x) = some { cls := .none, data := .fields #[] }
  no : K.lookup (tabA K x) = none
theorem tabK_of {K : PySem.W.Frag} {h : Heap} {x : Str} (kin : K.In h) (e : tabB h.get? K x = true) : TabK K h x := by
  obtain ⟨h1, e⟩ := He.ba e
  obtain ⟨h2, e⟩ := He.ba e
  obtain ⟨h3, h4⟩ := He.ba e
  refine ⟨?_, ?_, emptyTab_of h4, Option.isNone_iff_eq_none.mp h3⟩
  · intro oc od fd osl q
    unfold fnCodeB at h1
    rw [q] at h1
    exact of_decide_eq_true h1
  · unfold codeB at h2
    split at h2
    · rename_i c od vs sl q
      obtain ⟨a1, h2⟩ := He.ba h2
      obtain ⟨a2, h2⟩ := He.ba h2
      obtain ⟨a3, h2⟩ := He.ba h2
      obtain ⟨a4, h2⟩ := He.ba h2
      obtain ⟨a5, h2⟩ := He.ba h2
      obtain ⟨a6, h2⟩ := He.ba h2
      obtain ⟨a7, a8⟩ := He.ba h2
      obtain ⟨file, tf, z1⟩ : ∃ a b, vs.getD 18 .none = Value.str a b := by
        cases z : vs.getD 18 .none <;> rw [z] at a4 <;> first | exact ⟨_, _, rfl⟩ | cases a4
      obtain ⟨fl, tg, z2⟩ : ∃ a b, vs.getD 7 .none = Value.int a b := by
        cases z : vs.getD 7 .none <;> rw [z] at a5 <;> first | exact ⟨_, _, rfl⟩ | cases a5
      obtain ⟨inF, z3⟩ : ∃ a, vs.getD 9 .none = Value.bool a := by
        cases z : vs.getD 9 .none <;> rw [z] at a6 <;> first | exact ⟨_, rfl⟩ | cases a6
      obtain ⟨tx, tt, z4⟩ : ∃ a b, vs.getD 10 .none = Value.int a b := by
        cases z : vs.getD 10 .none <;> rw [z] at a7 <;> first | exact ⟨_, _, rfl⟩ | cases a7
      exact ⟨_, vs, file, tf, fl, tg, inF, tx, tt, kin _ _ q, of_decide_eq_true a1, rfl, of_decide_eq_true a2, of_decide_eq_true a3, z1, z2, z3, z4, of_decide_eq_true a8⟩
    · cases h2
theorem TabK.keeps {K : PySem.W.Frag} {h h' : Heap} {x : Str} (t : TabK K h x) (k : ∀ b o, h.get? b = some o → h'.get? b = some o) : TabK K h' x :=
  ⟨t.fn, t.code.keeps k, k _ _ t.tab, t.no⟩
/-! ### the hook -/
abbrev AlT : Type := AlG × Bool
section
variable (as : List Addr) (fa : List He.Fa) (fn : List He.DefD) (gs : List GetD) (ex : List (PySem.W.Frag → Bool)) (ts : List Str)
/-- what stands at some addresses -/
def frT (g : Addr → Option Obj) : PySem.W.Frag := He.frG g as
def obsKT (g : Addr → Option Obj) : AlT := (obsK fa fn gs ex (frT as g), ts.all fun x => tabB g (frT as g) x)
def valT : AlT := (valK fn gs, true)
def hookT : PySem.W.Hook where
  α := AlT
  obs := fun s => obsKT as fa fn gs ex ts s.heap.get?
  val := fun _ => valT fn gs
  says := fun _ h => ∃ K : PySem.W.Frag, K.In h ∧ SaysG fa fn gs ex K ∧ ∀ x ∈ ts, TabK K h x
  of := fun _ s e => ⟨_, He.frG_in, congrArg (fun z : AlT => z.1) e, fun x hx => tabK_of (He.frG_in) (List.all_eq_true.mp (congrArg (fun z : AlT => z.2) e) x hx)⟩
  keeps := fun _ _ _ ⟨K, hK, c, t⟩ k => ⟨K, PySem.W.Frag.In.keeps hK k, c, fun x hx => (t x hx).keeps k⟩
end
theorem obsKT_eq {as : List Addr} {fa : List He.Fa} {fn : List He.DefD} {gs : List GetD} {ex : List (PySem.W.Frag → Bool)} {ts : List Str} {g : Addr → Option Obj} {s : Shared}
    (h : ∀ a, g a = s.heap.get? a) : obsKT as fa fn gs ex ts g = (hookT as fa fn gs ex ts).obs s := by
  have e : g = s.heap.get? := funext h
  rw [e]
  rfl
/-! ### a def that makes lambdas -/
/-- okG, with the def's code object told -/
theorem okGC {P : Program} {w : World} {K : PySem.W.Frag} {mg : Str → Option Value} {base : Heap} {CX : CXT} {k : Nat} {fd : FuncData} {x qual : Str} {params : Arguments} {body : List Stmt} {scope : Scope} {dvs : List V} {kws : List (Str × V)}
    {N ps : List Str} {sp : Sp} {y : Str} (F : FunD K x qual params body scope dvs kws (He.ga K y) fd) (S : FnScope N ps scope)
    (code : ∀ oc od fd osl, K.lookup (He.ga K y) = some ⟨oc, od, .func fd, osl⟩ → fd.code = .ref (codeA K y))
    (len : ∀ vs H Q E, sp vs H Q E → vs.length = ps.length)
    (hbody : ∀ (A : Around) (outer : List Env) (s : Shared) (H : Hp) (vs : List V) (Q : VK) (E : XK),
      Room k (A.deeper (envOfC qual scope s.heap.objs.size (He.ga K y) (.ref (codeA K y)))) → A.guards = some [] → sp vs H Q E →
      ∃ t, PSs (cxOf CX P w K mg base N qual scope (He.ga K y) (.ref (codeA K y)) A outer s H E) body t ∧
        t { nx := fun _ H' => Q .non H', rt := Q } (start N vs) H) : FnG P w K mg base CX (k + 1) (He.ga K y) fd ps sp := by
  obtain ⟨oc, od, dV, kV, doc, pm, an, cdv, ct, osl, rfl, lk, hcd, _, _⟩ := F.ex
  have e : cdv = .ref (codeA K y) := code _ _ _ _ lk
  subst e
  exact fng_of lk hcd S len fun A outer s H vs Q E hr hg hsp => hbody A outer s H vs Q E hr hg hsp
/-! ### the law's call -/
section
variable {P : Program} {w : World} {K : PySem.W.Frag} {mg mb : Str → Option Value} {CX : CXT} {k : Nat}
variable {fa sa : Addr} {fd : FuncData} {x : Str} {sp : Sp} {s : Shared} {us : List Value} {ns : List Int} {ts : List Str}
/-- only the script and empty tables stand -/
def OnlyT (K : PySem.W.Frag) (ts : List Str) (sa : Addr) (H : Hp) : Prop := ∀ b, H b = none ∨ (∃ y ∈ ts, b = tabA K y ∧ H b = some (.tbl #[])) ∨ (b = sa ∧ ∃ o xs, H b = some (.frz o (.lst xs)))
theorem law_coreT (H : Hp) (only : OnlyT K ts sa H) (seq : SqL K H sa (ns.map V.int)) (ok : HOk P w H s.heap) (out : H sa ≠ none → K.lookup sa = none) (tabs : ∀ y ∈ ts, TabK K s.heap y)
    (kin : K.In s.heap) (gl : s.heap.Ns mainGlobals mg) (bl : s.heap.Ns builtinsNs mb) (bb : ∀ y : Str, y ≠ "__name__" → mb y = bootBuiltins y) (lim : s.heap.NoLimit) (gens : s.gens = #[])
    (bmn : ∃ (bm : Addr) (ob : Obj), mg "__builtins__" = some (.ref bm) ∧ bm ≠ builtinsNs ∧ s.heap.get? bm = some ob ∧ ob.cls = .type "module" ∧ ob.dict = some builtinsNs ∧ ob.data = .plain)
    (obj : s.heap.get? sa = some { cls := .type "list", data := .seq us.toArray }) (room : Room k callerA)
    (F : ∀ base : Heap, K.In base → base.Ns mainGlobals mg → (∀ y ∈ ts, LamX.TabB base mg (codeA K y) (tabA K y)) → FnG P w K mg base CX k fa fd [x] sp) (bind : ∀ (t : Shared) (u : Value), BindsTo t fd ⟨[u], []⟩ [(x, u)])
    (keeps : sp [.ref sa] H (fun v _ => v = .bl true) fun _ _ _ => False) (noX : ∀ e t, CX [] H s (fun _ _ _ => False) e t → False) :
    codeAny (model P w) callerA (.call (.ref fa) ⟨[.ref sa], []⟩) (LawEnd s) s := by
  -- what is no sequence and no empty table is not tracked
  have free : ∀ {b : Addr} {o : Obj}, s.heap.get? b = some o → (∀ i n, o.data ≠ .seq i n) → o.data ≠ .fields #[] → H b = none := by
    intro b o e d1 d2
    rcases only b with z | ⟨y, hy, rfl, z⟩ | ⟨rfl, _⟩
    · exact z
    · rw [(tabs y hy).tab] at e
      exact absurd rfl (Option.some.inj e ▸ d2)
    · rw [obj] at e
      exact absurd rfl (Option.some.inj e ▸ d1 us.toArray 0)
  have sees : ∀ {b : Addr} {m : Str → Option Value}, s.heap.Ns b m → (hidT s.heap H).Ns b m := by
    rintro b m ⟨o, es, ep, e, d, r⟩
    exact ⟨o, es, ep, hidT_get e (free e (fun i n z => by rw [d] at z; cases z) (fun z => by rw [d] at z; cases z)), d, r⟩
  have kinB : K.In (hidT s.heap H) := by
    intro b o e
    refine hidT_get (kin b o e) ?_
    rcases only b with z | ⟨y, hy, rfl, z⟩ | ⟨rfl, _, _, z⟩
    · exact z
    · rw [(tabs y hy).no] at e
      cases e
    · rw [out (by simp [z])] at e
      cases e
  obtain ⟨mc, c1, c2⟩ := id lim
  have md : Mod K mg (hidT s.heap H) := ⟨kinB, sees gl, ⟨mb, sees bl, bb⟩, mc, sees c1, c2⟩
  have tb : ∀ y ∈ ts, LamX.TabB (hidT s.heap H) mg (codeA K y) (tabA K y) := by
    intro y hy
    have t := tabs y hy
    refine ⟨?_, ?_, ?_⟩
    · obtain ⟨o, vs, file, tf, fl, tg, inF, tx, tt, e, q1, q2, q3, rest⟩ := t.code
      refine ⟨o, vs, file, tf, fl, tg, inF, tx, tt, hidT_get e (free e ?_ ?_), q1, q2, q3, rest⟩
      · intro i n z
        rw [q2] at z
        cases z
      · intro z
        rw [q2] at z
        injection z with z
        rw [z] at q3
        cases q3
    · obtain ⟨bm, ob, b1, b2, b3, b4, b5, b6⟩ := bmn
      refine ⟨bm, ob, b1, b2, ?_, ?_, hidT_get b3 (free b3 (fun i n z => by rw [b6] at z; cases z) (fun z => by rw [b6] at z; cases z)), b4, b5, b6⟩
      · rintro rfl
        obtain ⟨o, es, ep, e, d, _⟩ := gl
        rw [b3] at e
        rw [Option.some.inj e, d] at b6
        cases b6
      · rintro rfl
        rw [t.tab] at b3
        rw [← Option.some.inj b3] at b6
        cases b6
    · intro z
      obtain ⟨o, es, ep, e, d, _⟩ := gl
      rw [z, t.tab] at e
      rw [← Option.some.inj e] at d
      cases d
  have none_in : ∀ b : Addr, b ∉ ([] : List Addr) := fun b z => nomatch z
  have env : Env0 P w K mg (hidT s.heap H) callerA [] s H :=
    ⟨rfl, md, fun b o e => of_hidT e, Nat.le_of_eq (hidT_size _ _), trivial, fun b z => absurd (show b ∈ ([] : List Addr) from z) (none_in b), ok, .of_eq gens⟩
  have run := (F _ kinB (sees gl) tb).run callerA [] s H ⟨[.ref sa], []⟩ [.ref sa] [.ref sa] _ _ room rfl env (bind s (.ref sa)) (.cons rfl .nil) keeps
  refine codeAny_mono run ?_
  rintro (e | fl) t h
  · exact (noX e t h).elim
  cases fl with
  | ret u =>
    obtain ⟨v, H', os, bare, un, ok', rv, hv⟩ := h
    obtain rfl : v = V.bl true := hv
    obtain rfl : u = Value.bool true := rv
    have grown : ∀ y ∈ ts, H (tabA K y) = some (.tbl #[]) → ∃ more : Array Value, t.heap.get? (tabA K y) = some { cls := .none, data := .fields more } := fun y hy z => by
      obtain ⟨more, q⟩ := un.tbls _ _ z
      exact ⟨_, ok' _ _ q⟩
    have there : ∀ b o, s.heap.get? b = some o → (t.heap.get? b = some o) ∨ ∃ y ∈ ts, b = tabA K y ∧ H b = some (.tbl #[]) := by
      intro b o e
      rcases only b with z | z | ⟨rfl, ob, xs, z⟩
      · exact .inl (un.keep b o e z (fun z => none_in b z) (by simp))
      · exact .inr z
      · obtain ⟨e1, _⟩ := ok _ _ z
        obtain ⟨e2, _⟩ := ok' _ _ (un.frzs _ ob _ z)
        rw [e] at e1
        exact .inl ((Option.some.inj e1) ▸ e2)
    refine ⟨rfl, ⟨fun b o e => ?_, fun b o e => ?_⟩, os, bare⟩
    · rcases there b o e with z | ⟨y, hy, rfl, z⟩
      · exact .inl z
      · obtain ⟨more, q⟩ := grown y hy z
        have tt := (tabs y hy).tab
        rw [tt] at e
        obtain rfl := Option.some.inj e
        exact .inr (.inl ⟨((tabs y hy).code.tab tt).isCodeTable, rfl, #[], more, rfl, by rw [Array.empty_append]; exact q⟩)
    · rcases there b o e with z | ⟨y, hy, rfl, z⟩
      · exact ⟨o, z⟩
      · obtain ⟨more, q⟩ := grown y hy z
        exact ⟨_, q⟩
  | next => exact h.elim
  | brk => exact h.elim
  | cont => exact h.elim
/-- the heap at the call: the tables, the script where it is not written -/
def HT (K : PySem.W.Frag) (ts : List Str) (more : Hp) : Hp := fun b => if ∃ y ∈ ts, b = tabA K y then some (.tbl #[]) else more b
theorem law_callT (kin : K.In s.heap) (gl : s.heap.Ns mainGlobals mg) (bl : s.heap.Ns builtinsNs mb) (bb : ∀ y : Str, y ≠ "__name__" → mb y = bootBuiltins y) (lim : s.heap.NoLimit) (gens : s.gens = #[])
    (bmn : ∃ (bm : Addr) (ob : Obj), mg "__builtins__" = some (.ref bm) ∧ bm ≠ builtinsNs ∧ s.heap.get? bm = some ob ∧ ob.cls = .type "module" ∧ ob.dict = some builtinsNs ∧ ob.data = .plain)
    (tabs : ∀ y ∈ ts, TabK K s.heap y)
    (obj : s.heap.get? sa = some { cls := .type "list", data := .seq us.toArray }) (iv : IntsAre us ns) (fits : ns.length ≤ sizeLine) (room : Room k callerA)
    (F : ∀ base : Heap, K.In base → base.Ns mainGlobals mg → (∀ y ∈ ts, LamX.TabB base mg (codeA K y) (tabA K y)) → FnG P w K mg base CX k fa fd [x] sp) (bind : ∀ (t : Shared) (u : Value), BindsTo t fd ⟨[u], []⟩ [(x, u)])
    (keeps : ∀ H : Hp, (∀ y ∈ ts, H (tabA K y) = some (.tbl #[])) → SqL K H sa (ns.map V.int) → sp [.ref sa] H (fun v _ => v = .bl true) fun _ _ _ => False) (noX : ∀ H e t, CX [] H s (fun _ _ _ => False) e t → False) :
    codeAny (model P w) callerA (.call (.ref fa) ⟨[.ref sa], []⟩) (LawEnd s) s := by
  have vs := vals_ints iv
  have ln := iv.length
  have noT : ¬ ∃ y ∈ ts, sa = tabA K y := by
    rintro ⟨y, hy, e⟩
    have z := (tabs y hy).tab
    rw [← e, obj] at z
    cases z
  have atT : ∀ more : Hp, ∀ y ∈ ts, HT K ts more (tabA K y) = some (.tbl #[]) := fun more y hy => if_pos ⟨y, hy, rfl⟩
  have okT : ∀ (more : Hp), (∀ b u, more b = some u → ObjOk P w (HT K ts more) s.heap b u) → HOk P w (HT K ts more) s.heap := by
    intro more hm b u z
    by_cases h : ∃ y ∈ ts, b = tabA K y
    · have z1 : some (HO.tbl #[]) = some u := (if_pos h).symm.trans z
      obtain rfl := Option.some.inj z1
      obtain ⟨y, hy, rfl⟩ := h
      exact (tabs y hy).tab
    · exact hm b u ((if_neg h).symm.trans z)
  cases own : K.lookup sa with
  | some o =>
    have e := kin sa o own
    rw [obj] at e
    obtain rfl := Option.some.inj e
    have q1 : SqL K (HT K ts fun _ => none) sa (ns.map V.int) := .inr ⟨_, us.toArray, _, own, rfl, rfl, rfl, by simpa [ln] using fits, by simpa using vs⟩
    refine law_coreT _ ?_ q1 (okT _ fun b u z => nomatch z) (fun z => absurd (if_neg noT) z) tabs kin gl bl bb lim gens bmn obj room F bind (keeps _ (atT _) q1) (noX _)
    intro b
    by_cases h : ∃ y ∈ ts, b = tabA K y
    · obtain ⟨y, hy, e⟩ := h
      exact .inr (.inl ⟨y, hy, e, if_pos ⟨y, hy, e⟩⟩)
    · exact .inl (if_neg h)
  | none =>
    let H : Hp := HT K ts fun b => if b = sa then some (.frz { cls := .type "list", data := .seq us.toArray } (.lst (ns.map V.int))) else none
    have at1 : H sa = some (.frz { cls := .type "list", data := .seq us.toArray } (.lst (ns.map V.int))) := (if_neg noT).trans (if_pos rfl)
    have q1 : SqL K H sa (ns.map V.int) := .inl (.inr ⟨_, at1⟩)
    refine law_coreT H ?_ q1 (okT _ fun b u z => ?_) (fun _ => own) tabs kin gl bl bb lim gens bmn obj room F bind (keeps H (atT _) q1) (noX H)
    · intro b
      by_cases h : ∃ y ∈ ts, b = tabA K y
      · obtain ⟨y, hy, e⟩ := h
        exact .inr (.inl ⟨y, hy, e, if_pos ⟨y, hy, e⟩⟩)
      · by_cases h2 : b = sa
        · exact .inr (.inr ⟨h2, _, _, h2 ▸ at1⟩)
        · exact .inl ((if_neg h).trans (if_neg h2))
    · by_cases h2 : b = sa
      · subst h2
        have z1 := (if_pos rfl).symm.trans z
        obtain rfl := Option.some.inj z1
        exact ⟨obj, by rw [List.length_map]; exact fits, us, _, vs, obj⟩
      · have z1 := (if_neg h2).symm.trans z
        cases z1
end
/-- the walk of a law with tables -/
theorem walkT {l : PySem.W.OpenLaw} {n k : Nat} {q : Program} {loose : List Str} {XP : (Str → Option Value) → Heap → Prop} {YP : World → Heap → Prop} {d : DefRec} {CX : CXT} {x : Str} {ts : List Str}
    (most : l.most = some n) (fits : n ≤ sizeLine) (dfl : d.params.defaults = []) (room : Room k callerA)
    (F : ∀ (w : World) (mg : Str → Option Value) (fa : Addr) (h : Heap), YP w h → h.Ns mainGlobals mg → mg d.name = some (.ref fa) →
      ∃ (K : PySem.W.Frag) (fd : FuncData) (sp : Sp), K.In h ∧ (∀ y ∈ ts, TabK K h y) ∧ (∀ (s : Shared) (u : Value), BindsTo s fd ⟨[u], []⟩ [(x, u)]) ∧
        (∀ (H : Hp) (a : Addr) (ns : List Int), ns.length ≤ n → (∀ y ∈ ts, H (tabA K y) = some (.tbl #[])) → SqL K H a (ns.map V.int) → sp [.ref a] H (fun v _ => v = .bl true) fun _ _ _ => False) ∧
        ∀ base : Heap, K.In base → base.Ns mainGlobals mg → (∀ y ∈ ts, LamX.TabB base mg (codeA K y) (tabA K y)) → FnG l.prog w K mg base CX k fa fd [x] sp)
    (noX : ∀ (H : Hp) (s : Shared) (e : Value) (s' : Shared), CX [] H s (fun _ _ _ => False) e s' → False) :
    PySem.W.WalkO q loose XP YP l.row.toRowW d [] (fun f vs => PySem.call f vs) := by
  refine Att.attach_call most dfl ?_
  intro w s0 s1 mg mb fa o pm cd doc sa us ns G Y ho hd hcd hmg obj iv len gens
  obtain ⟨K, fd, sp, kin, tabs, bind, keeps, Fk⟩ := F w mg fa _ Y G.T.g hmg
  exact law_callT kin G.T.g G.T.b G.T.builtins G.T.nolimit gens G.T.bmain tabs obj iv (Nat.le_trans len fits) room Fk bind (fun H o1 q1 => keeps H sa ns len o1 q1) fun H e t => noX H s1 e t
end G
/-! plain signs: texts of data hold signs below 128 alone -/
namespace G
open PySem PySem.Spec PyProof.Rows L2
def Asc (z : Str) : Prop := ∀ c ∈ z.cps.toList, c < 128
theorem Asc.ok {z : Str} (h : Asc z) : PyData.strOk z = true := by
  unfold PyData.strOk
  rw [← Array.all_toList, List.all_eq_true]
  exact fun c hc => decide_eq_true (Nat.lt_trans (h c hc) (by decide))
theorem asc_cat {x y : Str} (h : Asc x) (h' : Asc y) : Asc (x ++ y) := by
  intro c hc
  have e : (x ++ y).cps.toList = x.cps.toList ++ y.cps.toList := by
    show (x.cps ++ y.cps).toList = _
    rw [Array.toList_append]
  rw [e] at hc
  rcases List.mem_append.mp hc with hc | hc
  · exact h c hc
  · exact h' c hc
theorem asc_char : ∀ q ∈ [34, 39], ∀ c < 128, ∀ d ∈ Builtin.Str.reprChar q c, d < 128 := by decide +kernel
theorem asc_fold (q : Nat) (hq : q ∈ [34, 39]) : ∀ (l : List Nat) (acc : Array Nat), (∀ c ∈ l, c < 128) → (∀ c ∈ acc.toList, c < 128) → ∀ c ∈ (l.foldl (fun out c => out ++ (Builtin.Str.reprChar q c).toArray) acc).toList, c < 128
  | [], acc, _, h => h
  | x :: l, acc, hl, h => by
    rw [List.foldl_cons]
    refine asc_fold q hq l _ (fun c hc => hl c (List.mem_cons_of_mem _ hc)) fun c hc => ?_
    rw [Array.toList_append] at hc
    rcases List.mem_append.mp hc with hc | hc
    · exact h c hc
    · exact asc_char q hq x (hl x List.mem_cons_self) c hc
theorem asc_repr {z : Str} (h : Asc z) : Asc (reprText z) := by
  have hq : reprQuote z ∈ [34, 39] := by
    unfold reprQuote
    split <;> simp
  intro c hc
  unfold reprText at hc
  rw [Array.toList_push] at hc
  have q128 : reprQuote z < 128 := by
    unfold reprQuote
    split <;> decide
  rcases List.mem_append.mp hc with hc | hc
  · rw [← Array.foldl_toList] at hc
    exact asc_fold _ hq _ #[reprQuote z] h (fun d hd => by
      have : d = reprQuote z := by simpa using hd
      rw [this]
      exact q128) c hc
  · have : c = reprQuote z := by simpa using hc
    rw [this]
    exact q128
theorem asc_lit {z : Str} (h : (z.cps.toList.all fun c => decide (c < 128)) = true) : Asc z := fun c hc => of_decide_eq_true (List.all_eq_true.mp h c hc)
theorem asc_from : ∀ (ts : List Str) (k : Nat) (acc : Str), (∀ t ∈ ts, Asc t) → Asc acc → Asc (textFrom k acc ts)
  | [], k, acc, _, h => h
  | t :: ts, k, acc, ht, h => by
    show Asc (textFrom (k + 1) (acc ++ (if k > 0 then ", " else "" : String) ++ t) ts)
    refine asc_from ts (k + 1) _ (fun y hy => ht y (List.mem_cons_of_mem _ hy)) (asc_cat (asc_cat h ?_) (ht t List.mem_cons_self))
    split
    · exact asc_lit (by decide +kernel)
    · exact asc_lit (by decide +kernel)
theorem asc_list {ts : List Str} (h : ∀ t ∈ ts, Asc t) : Asc (listText ts) := by
  unfold listText
  exact asc_cat (asc_from ts 0 _ h (asc_lit (by decide +kernel))) (asc_lit (by decide +kernel))
theorem asc_join : ∀ ts : List Str, (∀ t ∈ ts, Asc t) → Asc (Str.join (Str.ofString ", ") ts)
  | [], _ => fun c hc => by cases hc
  | [t], h => h t List.mem_cons_self
  | t :: u :: r, h => by
    show Asc (t ++ Str.ofString ", " ++ Str.join (Str.ofString ", ") (u :: r))
    exact asc_cat (asc_cat (h t List.mem_cons_self) (asc_lit (by decide +kernel))) (asc_join (u :: r) fun y hy => h y (List.mem_cons_of_mem _ hy))
theorem asc_tuple {ts : List Str} (h : ∀ t ∈ ts, Asc t) : Asc (tupleText ts) := by
  unfold tupleText
  split
  · exact asc_cat (asc_cat (asc_lit (by decide +kernel)) (asc_join ts h)) (asc_lit (by decide +kernel))
  · exact asc_cat (asc_cat (asc_lit (by decide +kernel)) (asc_join ts h)) (asc_lit (by decide +kernel))
theorem asc_dlist {ds : List PyData} (h : ∀ d ∈ ds, Asc d.shown) : Asc (PyData.list ds).shown := by
  rw [PyData.shown, shownAll_mapQ]
  exact asc_list fun t ht => by
    obtain ⟨d, hd, rfl⟩ := List.mem_map.mp ht
    exact h d hd
theorem asc_dtup {ds : List PyData} (h : ∀ d ∈ ds, Asc d.shown) : Asc (PyData.tuple ds).shown := by
  rw [PyData.shown, shownAll_mapQ]
  exact asc_tuple fun t ht => by
    obtain ⟨d, hd, rfl⟩ := List.mem_map.mp ht
    exact h d hd
theorem asc_dbool (b : Bool) : Asc (PyData.bool b).shown := by
  cases b <;> exact asc_lit (by decide +kernel)
theorem asc_dstr {z : Str} (h : Asc z) : Asc (PyData.str z).shown := by
  rw [PyData.shown]
  exact asc_repr h
/-- two texts in a tuple: the same, compared -/
theorem two_eqv (a b : Str) : PyData.eqv (.tuple [.str a, .str b]) (.tuple [.str a, .str b]) = true := by
  simp [PyData.eqv, PyData.eqvAll]
theorem two_shaped {a b : Str} (ha : Asc a) (hb : Asc b) : SeqAt.shaped (.tuple [.str a, .str b]) = true := by
  unfold SeqAt.shaped
  rw [Bool.and_eq_true]
  refine ⟨?_, decide_eq_true (by simp [PyData.depth, PyData.depthAll])⟩
  show (PyData.strOk a && (PyData.strOk b && true)) = true
  rw [ha.ok, hb.ok]
  rfl
end G
/-! own rules: the law's call where some of its defs make lambdas -/
namespace G
open PySem PySem.Spec PyProof.Rows L2
/-! ### the law's call -/
section
variable {P : Program} {w : World} {K : PySem.W.Frag} {mg mb : Str → Option Value} {CX : CXT} {k : Nat}
variable {fa sa : Addr} {fd : FuncData} {x : Str} {sp : Sp} {s : Shared} {us : List Value} {ns : List Int} {ts : List Str}
/-- only the script and empty tables stand -/
def OnlyS (K : PySem.W.Frag) (ts : List Str) (sa : Addr) (H : Hp) : Prop := ∀ b, H b = none ∨ (∃ y ∈ ts, b = tabA K y ∧ H b = some (.tbl #[])) ∨ (b = sa ∧ ∃ o xs, H b = some (.frz o (.lst xs)))
theorem law_coreS (H : Hp) (only : OnlyS K ts sa H) (seq : SqL K H sa (ns.map V.int)) (ok : HOk P w H s.heap) (out : H sa ≠ none → K.lookup sa = none) (tabs : ∀ y ∈ ts, TabK K s.heap y)
    (kin : K.In s.heap) (gl : s.heap.Ns mainGlobals mg) (bl : s.heap.Ns builtinsNs mb) (bb : ∀ y : Str, y ≠ "__name__" → mb y = bootBuiltins y) (lim : s.heap.NoLimit) (gens : s.gens = #[]) (smm : ∃ mm, s.heap.Ns sysModules mm)
    (bmn : ∃ (bm : Addr) (ob : Obj), mg "__builtins__" = some (.ref bm) ∧ bm ≠ builtinsNs ∧ s.heap.get? bm = some ob ∧ ob.cls = .type "module" ∧ ob.dict = some builtinsNs ∧ ob.data = .plain)
    (obj : s.heap.get? sa = some { cls := .type "list", data := .seq us.toArray }) (room : Room k callerA)
    (F : ∀ base : Heap, K.In base → base.Ns mainGlobals mg → (∀ y ∈ ts, LamX.TabB base mg (codeA K y) (tabA K y)) → (base.get? sysModules).isSome = true → FnG P w K mg base CX k fa fd [x] sp) (bind : ∀ (t : Shared) (u : Value), BindsTo t fd ⟨[u], []⟩ [(x, u)])
    (keeps : sp [.ref sa] H (fun v _ => v = .bl true) fun _ _ _ => False) (noX : ∀ e t, CX [] H s (fun _ _ _ => False) e t → False) :
    codeAny (model P w) callerA (.call (.ref fa) ⟨[.ref sa], []⟩) (LawEnd s) s := by
  -- what is no sequence and no empty table is not tracked
  have free : ∀ {b : Addr} {o : Obj}, s.heap.get? b = some o → (∀ i n, o.data ≠ .seq i n) → o.data ≠ .fields #[] → H b = none := by
    intro b o e d1 d2
    rcases only b with z | ⟨y, hy, rfl, z⟩ | ⟨rfl, _⟩
    · exact z
    · rw [(tabs y hy).tab] at e
      exact absurd rfl (Option.some.inj e ▸ d2)
    · rw [obj] at e
      exact absurd rfl (Option.some.inj e ▸ d1 us.toArray 0)
  have sees : ∀ {b : Addr} {m : Str → Option Value}, s.heap.Ns b m → (hidT s.heap H).Ns b m := by
    rintro b m ⟨o, es, ep, e, d, r⟩
    exact ⟨o, es, ep, hidT_get e (free e (fun i n z => by rw [d] at z; cases z) (fun z => by rw [d] at z; cases z)), d, r⟩
  have kinB : K.In (hidT s.heap H) := by
    intro b o e
    refine hidT_get (kin b o e) ?_
    rcases only b with z | ⟨y, hy, rfl, z⟩ | ⟨rfl, _, _, z⟩
    · exact z
    · rw [(tabs y hy).no] at e
      cases e
    · rw [out (by simp [z])] at e
      cases e
  obtain ⟨mc, c1, c2⟩ := id lim
  have md : Mod K mg (hidT s.heap H) := ⟨kinB, sees gl, ⟨mb, sees bl, bb⟩, mc, sees c1, c2⟩
  have tb : ∀ y ∈ ts, LamX.TabB (hidT s.heap H) mg (codeA K y) (tabA K y) := by
    intro y hy
    have t := tabs y hy
    refine ⟨?_, ?_, ?_⟩
    · obtain ⟨o, vs, file, tf, fl, tg, inF, tx, tt, e, q1, q2, q3, rest⟩ := t.code
      refine ⟨o, vs, file, tf, fl, tg, inF, tx, tt, hidT_get e (free e ?_ ?_), q1, q2, q3, rest⟩
      · intro i n z
        rw [q2] at z
        cases z
      · intro z
        rw [q2] at z
        injection z with z
        rw [z] at q3
        cases q3
    · obtain ⟨bm, ob, b1, b2, b3, b4, b5, b6⟩ := bmn
      refine ⟨bm, ob, b1, b2, ?_, ?_, hidT_get b3 (free b3 (fun i n z => by rw [b6] at z; cases z) (fun z => by rw [b6] at z; cases z)), b4, b5, b6⟩
      · rintro rfl
        obtain ⟨o, es, ep, e, d, _⟩ := gl
        rw [b3] at e
        rw [Option.some.inj e, d] at b6
        cases b6
      · rintro rfl
        rw [t.tab] at b3
        rw [← Option.some.inj b3] at b6
        cases b6
    · intro z
      obtain ⟨o, es, ep, e, d, _⟩ := gl
      rw [z, t.tab] at e
      rw [← Option.some.inj e] at d
      cases d
  have none_in : ∀ b : Addr, b ∉ ([] : List Addr) := fun b z => nomatch z
  have env : Env0 P w K mg (hidT s.heap H) callerA [] s H :=
    ⟨rfl, md, fun b o e => of_hidT e, Nat.le_of_eq (hidT_size _ _), trivial, fun b z => absurd (show b ∈ ([] : List Addr) from z) (none_in b), ok, .of_eq gens⟩
  have smb : ((hidT s.heap H).get? sysModules).isSome = true := by
    obtain ⟨mm, z⟩ := smm
    obtain ⟨o, es, ep, e, _⟩ := sees z
    rw [e]
    rfl
  have run := (F _ kinB (sees gl) tb smb).run callerA [] s H ⟨[.ref sa], []⟩ [.ref sa] [.ref sa] _ _ room rfl env (bind s (.ref sa)) (.cons rfl .nil) keeps
  refine codeAny_mono run ?_
  rintro (e | fl) t h
  · exact (noX e t h).elim
  cases fl with
  | ret u =>
    obtain ⟨v, H', os, bare, un, ok', rv, hv⟩ := h
    obtain rfl : v = V.bl true := hv
    obtain rfl : u = Value.bool true := rv
    have grown : ∀ y ∈ ts, H (tabA K y) = some (.tbl #[]) → ∃ more : Array Value, t.heap.get? (tabA K y) = some { cls := .none, data := .fields more } := fun y hy z => by
      obtain ⟨more, q⟩ := un.tbls _ _ z
      exact ⟨_, ok' _ _ q⟩
    have there : ∀ b o, s.heap.get? b = some o → (t.heap.get? b = some o) ∨ ∃ y ∈ ts, b = tabA K y ∧ H b = some (.tbl #[]) := by
      intro b o e
      rcases only b with z | z | ⟨rfl, ob, xs, z⟩
      · exact .inl (un.keep b o e z (fun z => none_in b z) (by simp))
      · exact .inr z
      · obtain ⟨e1, _⟩ := ok _ _ z
        obtain ⟨e2, _⟩ := ok' _ _ (un.frzs _ ob _ z)
        rw [e] at e1
        exact .inl ((Option.some.inj e1) ▸ e2)
    refine ⟨rfl, ⟨fun b o e => ?_, fun b o e => ?_⟩, os, bare⟩
    · rcases there b o e with z | ⟨y, hy, rfl, z⟩
      · exact .inl z
      · obtain ⟨more, q⟩ := grown y hy z
        have tt := (tabs y hy).tab
        rw [tt] at e
        obtain rfl := Option.some.inj e
        exact .inr (.inl ⟨((tabs y hy).code.tab tt).isCodeTable, rfl, #[], more, rfl, by rw [Array.empty_append]; exact q⟩)
    · rcases there b o e with z | ⟨y, hy, rfl, z⟩
      · exact ⟨o, z⟩
      · obtain ⟨more, q⟩ := grown y hy z
        exact ⟨_, q⟩
  | next => exact h.elim
  | brk => exact h.elim
  | cont => exact h.elim
/-- the heap at the call: the tables, the script where it is not written -/
def HTs (K : PySem.W.Frag) (ts : List Str) (more : Hp) : Hp := fun b => if ∃ y ∈ ts, b = tabA K y then some (.tbl #[]) else more b
theorem law_callS (kin : K.In s.heap) (gl : s.heap.Ns mainGlobals mg) (bl : s.heap.Ns builtinsNs mb) (bb : ∀ y : Str, y ≠ "__name__" → mb y = bootBuiltins y) (lim : s.heap.NoLimit) (gens : s.gens = #[]) (smm : ∃ mm, s.heap.Ns sysModules mm)
    (bmn : ∃ (bm : Addr) (ob : Obj), mg "__builtins__" = some (.ref bm) ∧ bm ≠ builtinsNs ∧ s.heap.get? bm = some ob ∧ ob.cls = .type "module" ∧ ob.dict = some builtinsNs ∧ ob.data = .plain)
    (tabs : ∀ y ∈ ts, TabK K s.heap y)
    (obj : s.heap.get? sa = some { cls := .type "list", data := .seq us.toArray }) (iv : IntsAre us ns) (fits : ns.length ≤ sizeLine) (room : Room k callerA)
    (F : ∀ base : Heap, K.In base → base.Ns mainGlobals mg → (∀ y ∈ ts, LamX.TabB base mg (codeA K y) (tabA K y)) → (base.get? sysModules).isSome = true → FnG P w K mg base CX k fa fd [x] sp) (bind : ∀ (t : Shared) (u : Value), BindsTo t fd ⟨[u], []⟩ [(x, u)])
    (keeps : ∀ H : Hp, (∀ y ∈ ts, H (tabA K y) = some (.tbl #[])) → SqL K H sa (ns.map V.int) → sp [.ref sa] H (fun v _ => v = .bl true) fun _ _ _ => False) (noX : ∀ H e t, CX [] H s (fun _ _ _ => False) e t → False) :
    codeAny (model P w) callerA (.call (.ref fa) ⟨[.ref sa], []⟩) (LawEnd s) s := by
  have vs := vals_ints iv
  have ln := iv.length
  have noT : ¬ ∃ y ∈ ts, sa = tabA K y := by
    rintro ⟨y, hy, e⟩
    have z := (tabs y hy).tab
    rw [← e, obj] at z
    cases z
  have atT : ∀ more : Hp, ∀ y ∈ ts, HTs K ts more (tabA K y) = some (.tbl #[]) := fun more y hy => if_pos ⟨y, hy, rfl⟩
  have okT : ∀ (more : Hp), (∀ b u, more b = some u → ObjOk P w (HTs K ts more) s.heap b u) → HOk P w (HTs K ts more) s.heap := by
    intro more hm b u z
    by_cases h : ∃ y ∈ ts, b = tabA K y
    · have z1 : some (HO.tbl #[]) = some u := (if_pos h).symm.trans z
      obtain rfl := Option.some.inj z1
      obtain ⟨y, hy, rfl⟩ := h
      exact (tabs y hy).tab
    · exact hm b u ((if_neg h).symm.trans z)
  cases own : K.lookup sa with
  | some o =>
    have e := kin sa o own
    rw [obj] at e
    obtain rfl := Option.some.inj e
    have q1 : SqL K (HTs K ts fun _ => none) sa (ns.map V.int) := .inr ⟨_, us.toArray, _, own, rfl, rfl, rfl, by simpa [ln] using fits, by simpa using vs⟩
    refine law_coreS _ ?_ q1 (okT _ fun b u z => nomatch z) (fun z => absurd (if_neg noT) z) tabs kin gl bl bb lim gens smm bmn obj room F bind (keeps _ (atT _) q1) (noX _)
    intro b
    by_cases h : ∃ y ∈ ts, b = tabA K y
    · obtain ⟨y, hy, e⟩ := h
      exact .inr (.inl ⟨y, hy, e, if_pos ⟨y, hy, e⟩⟩)
    · exact .inl (if_neg h)
  | none =>
    let H : Hp := HTs K ts fun b => if b = sa then some (.frz { cls := .type "list", data := .seq us.toArray } (.lst (ns.map V.int))) else none
    have at1 : H sa = some (.frz { cls := .type "list", data := .seq us.toArray } (.lst (ns.map V.int))) := (if_neg noT).trans (if_pos rfl)
    have q1 : SqL K H sa (ns.map V.int) := .inl (.inr ⟨_, at1⟩)
    refine law_coreS H ?_ q1 (okT _ fun b u z => ?_) (fun _ => own) tabs kin gl bl bb lim gens smm bmn obj room F bind (keeps H (atT _) q1) (noX H)
    · intro b
      by_cases h : ∃ y ∈ ts, b = tabA K y
      · obtain ⟨y, hy, e⟩ := h
        exact .inr (.inl ⟨y, hy, e, if_pos ⟨y, hy, e⟩⟩)
      · by_cases h2 : b = sa
        · exact .inr (.inr ⟨h2, _, _, h2 ▸ at1⟩)
        · exact .inl ((if_neg h).trans (if_neg h2))
    · by_cases h2 : b = sa
      · subst h2
        have z1 := (if_pos rfl).symm.trans z
        obtain rfl := Option.some.inj z1
        exact ⟨obj, by rw [List.length_map]; exact fits, us, _, vs, obj⟩
      · have z1 := (if_neg h2).symm.trans z
        cases z1
end
/-- the walk of a law with tables -/
theorem walkS {l : PySem.W.OpenLaw} {n k : Nat} {q : Program} {loose : List Str} {XP : (Str → Option Value) → Heap → Prop} {YP : World → Heap → Prop} {d : DefRec} {CX : CXT} {x : Str} {ts : List Str}
    (most : l.most = some n) (fits : n ≤ sizeLine) (dfl : d.params.defaults = []) (room : Room k callerA) (imp : importsNone q = true)
    (F : ∀ (w : World) (mg : Str → Option Value) (fa : Addr) (h : Heap), YP w h → h.Ns mainGlobals mg → mg d.name = some (.ref fa) →
      (∀ (K : PySem.W.Frag) (y : Str) (d : DefRec), K.In h → (recsOf q).find? (fun e => e.name == y) = some d → PySem.W.tabIn K y = some (codeA K y, tabA K y) → PySem.W.CodeHd h (codeA K y) (tabA K y) ∧ h.get? (tabA K y) = some { cls := .none, data := .fields #[] }) →
      ∃ (K : PySem.W.Frag) (fd : FuncData) (sp : Sp), K.In h ∧ (∀ y ∈ ts, TabK K h y) ∧ (∀ (s : Shared) (u : Value), BindsTo s fd ⟨[u], []⟩ [(x, u)]) ∧
        (∀ (H : Hp) (a : Addr) (ns : List Int), ns.length ≤ n → (∀ y ∈ ts, H (tabA K y) = some (.tbl #[])) → SqL K H a (ns.map V.int) → sp [.ref a] H (fun v _ => v = .bl true) fun _ _ _ => False) ∧
        ∀ base : Heap, K.In base → base.Ns mainGlobals mg → (∀ y ∈ ts, LamX.TabB base mg (codeA K y) (tabA K y)) → (base.get? sysModules).isSome = true → FnG l.prog w K mg base CX k fa fd [x] sp)
    (noX : ∀ (H : Hp) (s : Shared) (e : Value) (s' : Shared), CX [] H s (fun _ _ _ => False) e s' → False) :
    PySem.W.WalkO q loose XP YP l.row.toRowW d [] (fun f vs => PySem.call f vs) := by
  refine Att.attach_call most dfl ?_
  intro w s0 s1 mg mb fa o pm cd doc sa us ns G Y ho hd hcd hmg obj iv len gens
  obtain ⟨K, fd, sp, kin, tabs, bind, keeps, Fk⟩ := F w mg fa _ Y G.T.g hmg (fun K y d kin hr ht => PySem.W.tab_of G.T kin hr ht)
  obtain ⟨mm, z, _⟩ := (G.T.seer imp).mods
  exact law_callS kin G.T.g G.T.b G.T.builtins G.T.nolimit gens ⟨mm, z⟩ G.T.bmain tabs obj iv (Nat.le_trans len fits) room Fk bind (fun H o1 q1 => keeps H sa ns len o1 q1) fun H e t => noX H s1 e t
end G
namespace G
open PySem PySem.Spec PyProof.Rows L2
def top (i : Nat) : Stmt := PySem.Challenge.pw_gatecrowds_k12_kinds_asked_for.main.body.getD i (.Pass ⟨0, 0, 0, 0⟩)
abbrev s__wall : Stmt := top 0
abbrev n__wall : List Str := ["k"]
theorem sc__wall : FnScope n__wall ["k"] (defScope s__wall) := ⟨rfl, rfl, rfl, by decide +kernel, rfl, by decide +kernel, by decide +kernel⟩
abbrev s_InvalidName___init__ : Stmt := inClass (top 3) 0
abbrev n_InvalidName___init__ : List Str := ["self", "given"]
theorem sc_InvalidName___init__ : FnScope n_InvalidName___init__ ["self", "given"] (defScope s_InvalidName___init__) := ⟨rfl, rfl, rfl, by decide +kernel, rfl, by decide +kernel, by decide +kernel⟩
abbrev s_InvalidText___init__ : Stmt := inClass (top 4) 0
abbrev n_InvalidText___init__ : List Str := ["self", "given"]
theorem sc_InvalidText___init__ : FnScope n_InvalidText___init__ ["self", "given"] (defScope s_InvalidText___init__) := ⟨rfl, rfl, rfl, by decide +kernel, rfl, by decide +kernel, by decide +kernel⟩
abbrev s_InvalidFlag___init__ : Stmt := inClass (top 5) 0
abbrev n_InvalidFlag___init__ : List Str := ["self", "given"]
theorem sc_InvalidFlag___init__ : FnScope n_InvalidFlag___init__ ["self", "given"] (defScope s_InvalidFlag___init__) := ⟨rfl, rfl, rfl, by decide +kernel, rfl, by decide +kernel, by decide +kernel⟩
abbrev s_InvalidNumber___init__ : Stmt := inClass (top 6) 0
abbrev n_InvalidNumber___init__ : List Str := ["self", "given"]
theorem sc_InvalidNumber___init__ : FnScope n_InvalidNumber___init__ ["self", "given"] (defScope s_InvalidNumber___init__) := ⟨rfl, rfl, rfl, by decide +kernel, rfl, by decide +kernel, by decide +kernel⟩
abbrev s_InvalidThing___init__ : Stmt := inClass (top 7) 0
abbrev n_InvalidThing___init__ : List Str := ["self", "given"]
theorem sc_InvalidThing___init__ : FnScope n_InvalidThing___init__ ["self", "given"] (defScope s_InvalidThing___init__) := ⟨rfl, rfl, rfl, by decide +kernel, rfl, by decide +kernel, by decide +kernel⟩
abbrev s_InvalidChoice___init__ : Stmt := inClass (top 8) 0
abbrev n_InvalidChoice___init__ : List Str := ["self", "given"]
theorem sc_InvalidChoice___init__ : FnScope n_InvalidChoice___init__ ["self", "given"] (defScope s_InvalidChoice___init__) := ⟨rfl, rfl, rfl, by decide +kernel, rfl, by decide +kernel, by decide +kernel⟩
abbrev s_InvalidWish___init__ : Stmt := inClass (top 9) 0
abbrev n_InvalidWish___init__ : List Str := ["self", "given"]
theorem sc_InvalidWish___init__ : FnScope n_InvalidWish___init__ ["self", "given"] (defScope s_InvalidWish___init__) := ⟨rfl, rfl, rfl, by decide +kernel, rfl, by decide +kernel, by decide +kernel⟩
abbrev s_InvalidSet___init__ : Stmt := inClass (top 10) 0
abbrev n_InvalidSet___init__ : List Str := ["self", "given"]
theorem sc_InvalidSet___init__ : FnScope n_InvalidSet___init__ ["self", "given"] (defScope s_InvalidSet___init__) := ⟨rfl, rfl, rfl, by decide +kernel, rfl, by decide +kernel, by decide +kernel⟩
abbrev s_InvalidIndex___init__ : Stmt := inClass (top 11) 0
abbrev n_InvalidIndex___init__ : List Str := ["self", "given"]
theorem sc_InvalidIndex___init__ : FnScope n_InvalidIndex___init__ ["self", "given"] (defScope s_InvalidIndex___init__) := ⟨rfl, rfl, rfl, by decide +kernel, rfl, by decide +kernel, by decide +kernel⟩
abbrev s_NotASystem___init__ : Stmt := inClass (top 12) 0
abbrev n_NotASystem___init__ : List Str := ["self", "given"]
theorem sc_NotASystem___init__ : FnScope n_NotASystem___init__ ["self", "given"] (defScope s_NotASystem___init__) := ⟨rfl, rfl, rfl, by decide +kernel, rfl, by decide +kernel, by decide +kernel⟩
abbrev s_InvalidGates___init__ : Stmt := inClass (top 13) 0
abbrev n_InvalidGates___init__ : List Str := ["self", "index"]
theorem sc_InvalidGates___init__ : FnScope n_InvalidGates___init__ ["self", "index"] (defScope s_InvalidGates___init__) := ⟨rfl, rfl, rfl, by decide +kernel, rfl, by decide +kernel, by decide +kernel⟩
abbrev s_InvalidKinds___init__ : Stmt := inClass (top 14) 0
abbrev n_InvalidKinds___init__ : List Str := ["self", "index"]
theorem sc_InvalidKinds___init__ : FnScope n_InvalidKinds___init__ ["self", "index"] (defScope s_InvalidKinds___init__) := ⟨rfl, rfl, rfl, by decide +kernel, rfl, by decide +kernel, by decide +kernel⟩
abbrev s_InvalidRows___init__ : Stmt := inClass (top 15) 0
abbrev n_InvalidRows___init__ : List Str := ["self", "index"]
theorem sc_InvalidRows___init__ : FnScope n_InvalidRows___init__ ["self", "index"] (defScope s_InvalidRows___init__) := ⟨rfl, rfl, rfl, by decide +kernel, rfl, by decide +kernel, by decide +kernel⟩
abbrev s_InvalidMembers___init__ : Stmt := inClass (top 16) 0
abbrev n_InvalidMembers___init__ : List Str := ["self", "index"]
theorem sc_InvalidMembers___init__ : FnScope n_InvalidMembers___init__ ["self", "index"] (defScope s_InvalidMembers___init__) := ⟨rfl, rfl, rfl, by decide +kernel, rfl, by decide +kernel, by decide +kernel⟩
abbrev s_InvalidNumbers___init__ : Stmt := inClass (top 17) 0
abbrev n_InvalidNumbers___init__ : List Str := ["self", "index"]
theorem sc_InvalidNumbers___init__ : FnScope n_InvalidNumbers___init__ ["self", "index"] (defScope s_InvalidNumbers___init__) := ⟨rfl, rfl, rfl, by decide +kernel, rfl, by decide +kernel, by decide +kernel⟩
abbrev s_InvalidRun___init__ : Stmt := inClass (top 18) 0
abbrev n_InvalidRun___init__ : List Str := ["self", "index"]
theorem sc_InvalidRun___init__ : FnScope n_InvalidRun___init__ ["self", "index"] (defScope s_InvalidRun___init__) := ⟨rfl, rfl, rfl, by decide +kernel, rfl, by decide +kernel, by decide +kernel⟩
abbrev s_InvalidThings___init__ : Stmt := inClass (top 19) 0
abbrev n_InvalidThings___init__ : List Str := ["self", "index"]
theorem sc_InvalidThings___init__ : FnScope n_InvalidThings___init__ ["self", "index"] (defScope s_InvalidThings___init__) := ⟨rfl, rfl, rfl, by decide +kernel, rfl, by decide +kernel, by decide +kernel⟩
abbrev s_InvalidChanges___init__ : Stmt := inClass (top 20) 0
abbrev n_InvalidChanges___init__ : List Str := ["self", "index"]
theorem sc_InvalidChanges___init__ : FnScope n_InvalidChanges___init__ ["self", "index"] (defScope s_InvalidChanges___init__) := ⟨rfl, rfl, rfl, by decide +kernel, rfl, by decide +kernel, by decide +kernel⟩
abbrev s_UnknownName___init__ : Stmt := inClass (top 22) 0
abbrev n_UnknownName___init__ : List Str := ["self", "given"]
theorem sc_UnknownName___init__ : FnScope n_UnknownName___init__ ["self", "given"] (defScope s_UnknownName___init__) := ⟨rfl, rfl, rfl, by decide +kernel, rfl, by decide +kernel, by decide +kernel⟩
abbrev s_UnknownHand___init__ : Stmt := inClass (top 23) 0
abbrev n_UnknownHand___init__ : List Str := ["self", "given"]
theorem sc_UnknownHand___init__ : FnScope n_UnknownHand___init__ ["self", "given"] (defScope s_UnknownHand___init__) := ⟨rfl, rfl, rfl, by decide +kernel, rfl, by decide +kernel, by decide +kernel⟩
abbrev s_InUse___init__ : Stmt := inClass (top 24) 0
abbrev n_InUse___init__ : List Str := ["self", "index"]
theorem sc_InUse___init__ : FnScope n_InUse___init__ ["self", "index"] (defScope s_InUse___init__) := ⟨rfl, rfl, rfl, by decide +kernel, rfl, by decide +kernel, by decide +kernel⟩
abbrev s_TooMany___init__ : Stmt := inClass (top 26) 0
abbrev n_TooMany___init__ : List Str := ["self", "limit"]
theorem sc_TooMany___init__ : FnScope n_TooMany___init__ ["self", "limit"] (defScope s_TooMany___init__) := ⟨rfl, rfl, rfl, by decide +kernel, rfl, by decide +kernel, by decide +kernel⟩
abbrev s_Alone___init__ : Stmt := inClass (top 27) 0
abbrev n_Alone___init__ : List Str := ["self", "given"]
theorem sc_Alone___init__ : FnScope n_Alone___init__ ["self", "given"] (defScope s_Alone___init__) := ⟨rfl, rfl, rfl, by decide +kernel, rfl, by decide +kernel, by decide +kernel⟩
abbrev s_Waits___init__ : Stmt := inClass (top 28) 0
abbrev n_Waits___init__ : List Str := ["self", "hand"]
theorem sc_Waits___init__ : FnScope n_Waits___init__ ["self", "hand"] (defScope s_Waits___init__) := ⟨rfl, rfl, rfl, by decide +kernel, rfl, by decide +kernel, by decide +kernel⟩
abbrev s_Ended___init__ : Stmt := inClass (top 29) 0
abbrev n_Ended___init__ : List Str := ["self", "hand"]
theorem sc_Ended___init__ : FnScope n_Ended___init__ ["self", "hand"] (defScope s_Ended___init__) := ⟨rfl, rfl, rfl, by decide +kernel, rfl, by decide +kernel, by decide +kernel⟩
abbrev s_Broken___init__ : Stmt := inClass (top 31) 0
abbrev n_Broken___init__ : List Str := ["self", "index", "shown"]
theorem sc_Broken___init__ : FnScope n_Broken___init__ ["self", "index", "shown"] (defScope s_Broken___init__) := ⟨rfl, rfl, rfl, by decide +kernel, rfl, by decide +kernel, by decide +kernel⟩
abbrev s_is_name : Stmt := top 40
abbrev n_is_name : List Str := ["value", "sign"]
theorem sc_is_name : FnScope n_is_name ["value"] (defScope s_is_name) := ⟨rfl, rfl, rfl, by decide +kernel, rfl, by decide +kernel, by decide +kernel⟩
abbrev s_Row___init__ : Stmt := inClass (top 44) 0
abbrev n_Row___init__ : List Str := ["self", "text", "label", "word", "gate", "value", "goals"]
theorem sc_Row___init__ : FnScope n_Row___init__ ["self", "text", "label", "word", "gate", "value", "goals"] (defScope s_Row___init__) := ⟨rfl, rfl, rfl, by decide +kernel, rfl, by decide +kernel, by decide +kernel⟩
abbrev s_digit_of : Stmt := top 45
abbrev n_digit_of : List Str := ["word"]
theorem sc_digit_of : FnScope n_digit_of ["word"] (defScope s_digit_of) := ⟨rfl, rfl, rfl, by decide +kernel, rfl, by decide +kernel, by decide +kernel⟩
abbrev s_row_of_words : Stmt := top 46
abbrev n_row_of_words : List Str := ["text", "label", "words", "word", "more", "goal"]
theorem sc_row_of_words : FnScope n_row_of_words ["text", "label", "words"] (defScope s_row_of_words) := ⟨rfl, rfl, rfl, by decide +kernel, rfl, by decide +kernel, by decide +kernel⟩
abbrev s_has_right_parts : Stmt := top 47
abbrev n_has_right_parts : List Str := ["row", "at"]
theorem sc_has_right_parts : FnScope n_has_right_parts ["row"] (defScope s_has_right_parts) := ⟨rfl, rfl, rfl, by decide +kernel, rfl, by decide +kernel, by decide +kernel⟩
abbrev s_parsed_row : Stmt := top 48
abbrev n_parsed_row : List Str := ["text", "label", "sign", "rest", "row"]
theorem sc_parsed_row : FnScope n_parsed_row ["text"] (defScope s_parsed_row) := ⟨rfl, rfl, rfl, by decide +kernel, rfl, by decide +kernel, by decide +kernel⟩
abbrev s_leads_within : Stmt := top 49
abbrev n_leads_within : List Str := ["row", "many", "goal"]
theorem sc_leads_within : FnScope n_leads_within ["row", "many"] (defScope s_leads_within) := ⟨rfl, rfl, rfl, by decide +kernel, rfl, by decide +kernel, by decide +kernel⟩
abbrev s_Gate___init__ : Stmt := inClass (top 51) 0
abbrev n_Gate___init__ : List Str := ["self", "name", "within"]
theorem sc_Gate___init__ : FnScope n_Gate___init__ ["self", "name", "within"] (defScope s_Gate___init__) := ⟨rfl, rfl, rfl, by decide +kernel, rfl, by decide +kernel, by decide +kernel⟩
abbrev s_Gate_name : Stmt := inClass (top 51) 1
abbrev n_Gate_name : List Str := ["self"]
theorem sc_Gate_name : FnScope n_Gate_name ["self"] (defScope s_Gate_name) := ⟨rfl, rfl, rfl, by decide +kernel, rfl, by decide +kernel, by decide +kernel⟩
abbrev s_Gate_within : Stmt := inClass (top 51) 2
abbrev n_Gate_within : List Str := ["self"]
theorem sc_Gate_within : FnScope n_Gate_within ["self"] (defScope s_Gate_within) := ⟨rfl, rfl, rfl, by decide +kernel, rfl, by decide +kernel, by decide +kernel⟩
abbrev s_Gate___eq__ : Stmt := inClass (top 51) 3
abbrev n_Gate___eq__ : List Str := ["self", "other"]
theorem sc_Gate___eq__ : FnScope n_Gate___eq__ ["self", "other"] (defScope s_Gate___eq__) := ⟨rfl, rfl, rfl, by decide +kernel, rfl, by decide +kernel, by decide +kernel⟩
abbrev s_Kind___init__ : Stmt := inClass (top 52) 0
abbrev n_Kind___init__ : List Str := ["self", "name", "rows", "many", "members"]
theorem sc_Kind___init__ : FnScope n_Kind___init__ ["self", "name", "rows", "many", "members"] (defScope s_Kind___init__) := ⟨rfl, rfl, rfl, by decide +kernel, rfl, by decide +kernel, by decide +kernel⟩
abbrev s_Kind_name : Stmt := inClass (top 52) 1
abbrev n_Kind_name : List Str := ["self"]
theorem sc_Kind_name : FnScope n_Kind_name ["self"] (defScope s_Kind_name) := ⟨rfl, rfl, rfl, by decide +kernel, rfl, by decide +kernel, by decide +kernel⟩
abbrev s_Kind_rows : Stmt := inClass (top 52) 2
abbrev n_Kind_rows : List Str := ["self"]
theorem sc_Kind_rows : FnScope n_Kind_rows ["self"] (defScope s_Kind_rows) := ⟨rfl, rfl, rfl, by decide +kernel, rfl, by decide +kernel, by decide +kernel⟩
abbrev s_Kind_many : Stmt := inClass (top 52) 3
abbrev n_Kind_many : List Str := ["self"]
theorem sc_Kind_many : FnScope n_Kind_many ["self"] (defScope s_Kind_many) := ⟨rfl, rfl, rfl, by decide +kernel, rfl, by decide +kernel, by decide +kernel⟩
abbrev s_Kind_members : Stmt := inClass (top 52) 4
abbrev n_Kind_members : List Str := ["self"]
theorem sc_Kind_members : FnScope n_Kind_members ["self"] (defScope s_Kind_members) := ⟨rfl, rfl, rfl, by decide +kernel, rfl, by decide +kernel, by decide +kernel⟩
abbrev s_Kind___eq__ : Stmt := inClass (top 52) 5
abbrev n_Kind___eq__ : List Str := ["self", "other"]
theorem sc_Kind___eq__ : FnScope n_Kind___eq__ ["self", "other"] (defScope s_Kind___eq__) := ⟨rfl, rfl, rfl, by decide +kernel, rfl, by decide +kernel, by decide +kernel⟩
abbrev s_Kind___len__ : Stmt := inClass (top 52) 6
abbrev n_Kind___len__ : List Str := ["self"]
theorem sc_Kind___len__ : FnScope n_Kind___len__ ["self"] (defScope s_Kind___len__) := ⟨rfl, rfl, rfl, by decide +kernel, rfl, by decide +kernel, by decide +kernel⟩
abbrev s_System___init__ : Stmt := inClass (top 53) 0
abbrev n_System___init__ : List Str := ["self", "gates", "kinds", "place", "gate", "kind", "labels", "row", "roots", "other", "name"]
theorem sc_System___init__ : FnScope n_System___init__ ["self", "gates", "kinds"] (defScope s_System___init__) := ⟨rfl, rfl, rfl, by decide +kernel, rfl, by decide +kernel, by decide +kernel⟩
abbrev s_System_read : Stmt := inClass (top 53) 1
abbrev n_System_read : List Str := ["cls", "text", "gates", "kinds", "found"]
theorem sc_System_read : FnScope n_System_read ["cls", "text"] (defScope s_System_read) := ⟨rfl, rfl, rfl, by decide +kernel, rfl, by decide +kernel, by decide +kernel⟩
abbrev s_System_gates : Stmt := inClass (top 53) 2
abbrev n_System_gates : List Str := ["self"]
theorem sc_System_gates : FnScope n_System_gates ["self"] (defScope s_System_gates) := ⟨rfl, rfl, rfl, by decide +kernel, rfl, by decide +kernel, by decide +kernel⟩
abbrev s_System_kinds : Stmt := inClass (top 53) 3
abbrev n_System_kinds : List Str := ["self"]
theorem sc_System_kinds : FnScope n_System_kinds ["self"] (defScope s_System_kinds) := ⟨rfl, rfl, rfl, by decide +kernel, rfl, by decide +kernel, by decide +kernel⟩
abbrev s_System_labels : Stmt := inClass (top 53) 4
abbrev n_System_labels : List Str := ["self"]
theorem sc_System_labels : FnScope n_System_labels ["self"] (defScope s_System_labels) := ⟨rfl, rfl, rfl, by decide +kernel, rfl, by decide +kernel, by decide +kernel⟩
abbrev s_System_kind : Stmt := inClass (top 53) 5
abbrev n_System_kind : List Str := ["self", "kind", "known"]
theorem sc_System_kind : FnScope n_System_kind ["self", "kind"] (defScope s_System_kind) := ⟨rfl, rfl, rfl, by decide +kernel, rfl, by decide +kernel, by decide +kernel⟩
abbrev s_System_changed : Stmt := inClass (top 53) 6
abbrev n_System_changed : List Str := ["self", "kind", "row", "text"]
theorem sc_System_changed : FnScope n_System_changed ["self", "kind", "row", "text"] (defScope s_System_changed) := ⟨rfl, rfl, rfl, by decide +kernel, rfl, by decide +kernel, by decide +kernel⟩
abbrev s_System_rows_of : Stmt := inClass (top 53) 7
abbrev n_System_rows_of : List Str := ["self", "kind"]
theorem sc_System_rows_of : FnScope n_System_rows_of ["self", "kind"] (defScope s_System_rows_of) := ⟨rfl, rfl, rfl, by decide +kernel, rfl, by decide +kernel, by decide +kernel⟩
abbrev s_System_place_of : Stmt := inClass (top 53) 8
abbrev n_System_place_of : List Str := ["self", "gate"]
theorem sc_System_place_of : FnScope n_System_place_of ["self", "gate"] (defScope s_System_place_of) := ⟨rfl, rfl, rfl, by decide +kernel, rfl, by decide +kernel, by decide +kernel⟩
abbrev s_System_tree_of : Stmt := inClass (top 53) 9
abbrev n_System_tree_of : List Str := ["self", "gate"]
theorem sc_System_tree_of : FnScope n_System_tree_of ["self", "gate"] (defScope s_System_tree_of) := ⟨rfl, rfl, rfl, by decide +kernel, rfl, by decide +kernel, by decide +kernel⟩
abbrev s_System___eq__ : Stmt := inClass (top 53) 10
abbrev n_System___eq__ : List Str := ["self", "other"]
theorem sc_System___eq__ : FnScope n_System___eq__ ["self", "other"] (defScope s_System___eq__) := ⟨rfl, rfl, rfl, by decide +kernel, rfl, by decide +kernel, by decide +kernel⟩
abbrev s_System___str__ : Stmt := inClass (top 53) 11
abbrev n_System___str__ : List Str := ["self"]
theorem sc_System___str__ : FnScope n_System___str__ ["self"] (defScope s_System___str__) := ⟨rfl, rfl, rfl, by decide +kernel, rfl, by decide +kernel, by decide +kernel⟩
abbrev s_System___repr__ : Stmt := inClass (top 53) 12
abbrev n_System___repr__ : List Str := ["self"]
theorem sc_System___repr__ : FnScope n_System___repr__ ["self"] (defScope s_System___repr__) := ⟨rfl, rfl, rfl, by decide +kernel, rfl, by decide +kernel, by decide +kernel⟩
abbrev s_System___len__ : Stmt := inClass (top 53) 13
abbrev n_System___len__ : List Str := ["self"]
theorem sc_System___len__ : FnScope n_System___len__ ["self"] (defScope s_System___len__) := ⟨rfl, rfl, rfl, by decide +kernel, rfl, by decide +kernel, by decide +kernel⟩
abbrev s_parsed_rows : Stmt := top 54
abbrev n_parsed_rows : List Str := ["rows", "found", "index", "text", "row"]
theorem sc_parsed_rows : FnScope n_parsed_rows ["rows"] (defScope s_parsed_rows) := ⟨rfl, rfl, rfl, by decide +kernel, rfl, by decide +kernel, by decide +kernel⟩
abbrev s_check_members : Stmt := top 55
abbrev n_check_members : List Str := ["members", "index", "name"]
theorem sc_check_members : FnScope n_check_members ["members"] (defScope s_check_members) := ⟨rfl, rfl, rfl, by decide +kernel, rfl, by decide +kernel, by decide +kernel⟩
abbrev s_check_gates : Stmt := top 56
abbrev n_check_gates : List Str := ["gates", "names", "index", "gate"]
theorem sc_check_gates : FnScope n_check_gates ["gates"] (defScope s_check_gates) := ⟨rfl, rfl, rfl, by decide +kernel, rfl, by decide +kernel, by decide +kernel⟩
abbrev s_gates_named : Stmt := top 57
abbrev n_gates_named : List Str := ["kind", "row"]
theorem sc_gates_named : FnScope n_gates_named ["kind"] (defScope s_gates_named) := ⟨rfl, rfl, rfl, by decide +kernel, rfl, by decide +kernel, by decide +kernel⟩
abbrev s_check_kinds : Stmt := top 58
abbrev n_check_kinds : List Str := ["gates", "kinds", "known", "gate", "names", "index", "kind", "name"]
theorem sc_check_kinds : FnScope n_check_kinds ["gates", "kinds"] (defScope s_check_kinds) := ⟨rfl, rfl, rfl, by decide +kernel, rfl, by decide +kernel, by decide +kernel⟩
abbrev s_roots_of : Stmt := top 59
abbrev n_roots_of : List Str := ["gates", "found", "gate"]
theorem sc_roots_of : FnScope n_roots_of ["gates"] (defScope s_roots_of) := ⟨rfl, rfl, rfl, by decide +kernel, rfl, by decide +kernel, by decide +kernel⟩
abbrev s_head_of : Stmt := top 60
abbrev n_head_of : List Str := ["gates", "kind", "members", "gate", "head"]
theorem sc_head_of : FnScope n_head_of ["gates", "kind"] (defScope s_head_of) := ⟨rfl, rfl, rfl, by decide +kernel, rfl, by decide +kernel, by decide +kernel⟩
abbrev s_text_of : Stmt := top 61
abbrev n_text_of : List Str := ["gates", "kinds", "found", "gate", "kind"]
theorem sc_text_of : FnScope n_text_of ["gates", "kinds"] (defScope s_text_of) := ⟨rfl, rfl, rfl, by decide +kernel, rfl, by decide +kernel, by decide +kernel⟩
abbrev s_gate_of : Stmt := top 62
abbrev n_gate_of : List Str := ["words"]
theorem sc_gate_of : FnScope n_gate_of ["words"] (defScope s_gate_of) := ⟨rfl, rfl, rfl, by decide +kernel, rfl, by decide +kernel, by decide +kernel⟩
abbrev s_kind_of : Stmt := top 63
abbrev n_kind_of : List Str := ["lines", "words"]
theorem sc_kind_of : FnScope n_kind_of ["lines"] (defScope s_kind_of) := ⟨rfl, rfl, rfl, by decide +kernel, rfl, by decide +kernel, by decide +kernel⟩
abbrev s_parts_of : Stmt := top 64
abbrev n_parts_of : List Str := ["text", "gates", "parts", "line", "words", "lines"]
theorem sc_parts_of : FnScope n_parts_of ["text"] (defScope s_parts_of) := ⟨rfl, rfl, rfl, by decide +kernel, rfl, by decide +kernel, by decide +kernel⟩
abbrev s_check_kind : Stmt := top 65
abbrev n_check_kind : List Str := ["system", "value", "kind"]
theorem sc_check_kind : FnScope n_check_kind ["system", "value"] (defScope s_check_kind) := ⟨rfl, rfl, rfl, by decide +kernel, rfl, by decide +kernel, by decide +kernel⟩
abbrev s__law_pool : Stmt := top 67
abbrev n__law_pool : List Str := ["_law_script", "_law_k", "_law_cell", "_law_digits"]
theorem sc__law_pool : FnScope n__law_pool ["_law_script", "_law_k"] (defScope s__law_pool) := ⟨rfl, rfl, rfl, by decide +kernel, rfl, by decide +kernel, by decide +kernel⟩
abbrev s__law_draw : Stmt := top 68
abbrev n__law_draw : List Str := ["_law_pool_here", "_law_most", "_law_digit"]
theorem sc__law_draw : FnScope n__law_draw ["_law_pool_here", "_law_most"] (defScope s__law_draw) := ⟨rfl, rfl, rfl, by decide +kernel, rfl, by decide +kernel, by decide +kernel⟩
abbrev s__law_words : Stmt := top 69
abbrev n__law_words : List Str := ["_law_words_here"]
theorem sc__law_words : FnScope n__law_words [] (defScope s__law_words) := ⟨rfl, rfl, rfl, by decide +kernel, rfl, by decide +kernel, by decide +kernel⟩
abbrev s__law_place : Stmt := top 70
abbrev n__law_place : List Str := ["_law_e", "_law_own", "_law_bases", "_law_at"]
theorem sc__law_place : FnScope n__law_place ["_law_e"] (defScope s__law_place) := ⟨rfl, rfl, rfl, by decide +kernel, rfl, by decide +kernel, by decide +kernel⟩
abbrev s__law_kept : Stmt := top 71
abbrev n__law_kept : List Str := ["_law_e", "_law_at"]
theorem sc__law_kept : FnScope n__law_kept ["_law_e", "_law_at"] (defScope s__law_kept) := ⟨rfl, rfl, rfl, by decide +kernel, rfl, by decide +kernel, by decide +kernel⟩
abbrev s__law_caught : Stmt := top 72
abbrev n__law_caught : List Str := ["_law_act", "_law_back", "_law_e", "_law_at"]
theorem sc__law_caught : FnScope n__law_caught ["_law_act"] (defScope s__law_caught) := ⟨rfl, rfl, rfl, by decide +kernel, rfl, by decide +kernel, by decide +kernel⟩
abbrev s__law_tag : Stmt := top 73
abbrev n__law_tag : List Str := ["_law_pool_here", "_law_words_here", "_law_signs", "_law_size", "_law_k"]
theorem sc__law_tag : FnScope n__law_tag ["_law_pool_here"] (defScope s__law_tag) := ⟨rfl, rfl, rfl, by decide +kernel, rfl, by decide +kernel, by decide +kernel⟩
abbrev s__law_new : Stmt := top 74
abbrev n__law_new : List Str := ["_law_pool_here", "_law_taken", "_law_tag_here", "_law_spare", "_law_other"]
theorem sc__law_new : FnScope n__law_new ["_law_pool_here", "_law_taken"] (defScope s__law_new) := ⟨rfl, rfl, rfl, by decide +kernel, rfl, by decide +kernel, by decide +kernel⟩
abbrev s__law_line : Stmt := top 75
abbrev n__law_line : List Str := ["_law_pool_here", "_law_tags", "_law_most", "_law_way", "_law_tag_here", "_law_worth", "_law_goal", "_law_mark", "_law_goals", "_law_k"]
theorem sc__law_line : FnScope n__law_line ["_law_pool_here", "_law_tags", "_law_most"] (defScope s__law_line) := ⟨rfl, rfl, rfl, by decide +kernel, rfl, by decide +kernel, by decide +kernel⟩
abbrev s__law_lines : Stmt := top 76
abbrev n__law_lines : List Str := ["_law_pool_here", "_law_tags", "_law_most", "_law_k"]
theorem sc__law_lines : FnScope n__law_lines ["_law_pool_here", "_law_tags"] (defScope s__law_lines) := ⟨rfl, rfl, rfl, by decide +kernel, rfl, by decide +kernel, by decide +kernel⟩
abbrev s__law_forest : Stmt := top 77
abbrev n__law_forest : List Str := ["_law_pool_here", "_law_pairs", "_law_k", "_law_outer", "_law_pair"]
theorem sc__law_forest : FnScope n__law_forest ["_law_pool_here"] (defScope s__law_forest) := ⟨rfl, rfl, rfl, by decide +kernel, rfl, by decide +kernel, by decide +kernel⟩
abbrev s__law_sorts : Stmt := top 78
abbrev n__law_sorts : List Str := ["_law_pool_here", "_law_tags", "_law_sorts_here", "_law_k", "_law_plural", "_law_turned", "_law_begun", "_law_tag_here", "_law_lines_here", "_law_called", "_law_part"]
theorem sc__law_sorts : FnScope n__law_sorts ["_law_pool_here", "_law_tags"] (defScope s__law_sorts) := ⟨rfl, rfl, rfl, by decide +kernel, rfl, by decide +kernel, by decide +kernel⟩
abbrev s__law_page : Stmt := top 79
abbrev n__law_page : List Str := ["_law_pairs", "_law_sorts_here", "_law_page_here", "_law_tag_here", "_law_outer", "_law_called", "_law_lines_here", "_law_plural", "_law_begun", "_law_ordered", "_law_pair", "_law_head"]
theorem sc__law_page : FnScope n__law_page ["_law_pairs", "_law_sorts_here"] (defScope s__law_page) := ⟨rfl, rfl, rfl, by decide +kernel, rfl, by decide +kernel, by decide +kernel⟩
abbrev s__law_marks : Stmt := top 80
abbrev n__law_marks : List Str := ["_law_sorts_here", "_law_found", "_law_part", "_law_line_here", "_law_word"]
theorem sc__law_marks : FnScope n__law_marks ["_law_sorts_here"] (defScope s__law_marks) := ⟨rfl, rfl, rfl, by decide +kernel, rfl, by decide +kernel, by decide +kernel⟩
abbrev s__law_built : Stmt := top 81
abbrev n__law_built : List Str := ["_law_pairs", "_law_sorts_here", "_law_doors", "_law_tag_here", "_law_outer", "_law_made", "_law_called", "_law_lines_here", "_law_plural", "_law_begun"]
theorem sc__law_built : FnScope n__law_built ["_law_pairs", "_law_sorts_here"] (defScope s__law_built) := ⟨rfl, rfl, rfl, by decide +kernel, rfl, by decide +kernel, by decide +kernel⟩
abbrev s__law_is : Stmt := top 82
abbrev n__law_is : List Str := ["_law_mine", "_law_pairs", "_law_sorts_here", "_law_door", "_law_part", "_law_told"]
theorem sc__law_is : FnScope n__law_is ["_law_mine", "_law_pairs", "_law_sorts_here"] (defScope s__law_is) := ⟨rfl, rfl, rfl, by decide +kernel, rfl, by decide +kernel, by decide +kernel⟩
abbrev s__law_due : Stmt := top 83
abbrev n__law_due : List Str := ["_law_sorts_here", "_law_thing", "_law_found", "_law_part"]
theorem sc__law_due : FnScope n__law_due ["_law_sorts_here", "_law_thing"] (defScope s__law_due) := ⟨rfl, rfl, rfl, by decide +kernel, rfl, by decide +kernel, by decide +kernel⟩
abbrev s__law_shown : Stmt := top 84
abbrev n__law_shown : List Str := ["_law_mine"]
theorem sc__law_shown : FnScope n__law_shown ["_law_mine"] (defScope s__law_shown) := ⟨rfl, rfl, rfl, by decide +kernel, rfl, by decide +kernel, by decide +kernel⟩
abbrev s__law_asked : Stmt := top 85
abbrev n__law_asked : List Str := ["_law_mine", "_law_sorts_here", "_law_thing", "_law_due_here"]
theorem sc__law_asked : FnScope n__law_asked ["_law_mine", "_law_sorts_here", "_law_thing"] (defScope s__law_asked) := ⟨rfl, rfl, rfl, by decide +kernel, rfl, by decide +kernel, by decide +kernel⟩
abbrev s__law_right : Stmt := top 86
abbrev n__law_right : List Str := ["_law_pool_here", "_law_pairs", "_law_sorts_here", "_law_pair", "_law_far", "_law_mine", "_law_twin", "_law_things", "_law_part", "_law_thing"]
theorem sc__law_right : FnScope n__law_right ["_law_pool_here"] (defScope s__law_right) := ⟨rfl, rfl, rfl, by decide +kernel, rfl, by decide +kernel, by decide +kernel⟩
abbrev s_law : Stmt := top 87
abbrev n_law : List Str := ["_law_script", "_law_k"]
theorem sc_law : FnScope n_law ["_law_script"] (defScope s_law) := ⟨rfl, rfl, rfl, by decide +kernel, rfl, by decide +kernel, by decide +kernel⟩
/-- the keyword-only default x of the def at f, if it is an object -/
def kwdAt (f : Str × Option Str) (x : Str) (K : PySem.W.Frag) : Addr := match K.lookup (He.fAd K f) with
  | some ⟨_, _, .func fd, _⟩ => (match fd.kwdefaults with
    | .ref D => (match PySem.W.nsIn K D x with
      | some (some (.ref a)) => a
      | _ => 0)
    | _ => 0)
  | _ => 0
/-- the classes of errors, in their order -/
def nmE (i : Nat) : Str := (["InvalidName", "InvalidText", "InvalidFlag", "InvalidNumber", "InvalidThing", "InvalidChoice", "InvalidWish", "InvalidSet", "InvalidIndex", "NotASystem", "InvalidGates", "InvalidKinds", "InvalidRows", "InvalidMembers", "InvalidNumbers", "InvalidRun", "InvalidThings", "InvalidChanges", "UnknownName", "UnknownHand", "InUse", "TooMany", "Alone", "Waits", "Ended", "NothingToUndo", "Broken"] : List Str).getD i ""
def exB (c : Str) (K : PySem.W.Frag) : Bool := xfB K (He.ga K c) &&
  (decide (PySem.W.findIn K (.ref (He.ga K c)) "__class__" = some (some (.builtin "object.__class__"))) &&
  (decide (PySem.W.specialIn K (.builtin "object.__class__") "__get__" = some (some (.builtin "getset_descriptor.__get__"))) &&
  (decide (PySem.W.takesIn K (.builtin "object.__class__") = some true) &&
  decide (PySem.W.mroIn K (He.ga K c) (.type "object") = some true))))
theorem ex_of {c : Str} {K : PySem.W.Frag} (h : exB c K = true) : ExcC K (He.ga K c) ∧ XfC K (He.ga K c) := by
  obtain ⟨h5, h⟩ := He.ba h
  obtain ⟨h6, h⟩ := He.ba h
  obtain ⟨h7, h⟩ := He.ba h
  obtain ⟨h8, h9⟩ := He.ba h
  have x := xfB_ok h5
  exact ⟨⟨x.ga, x.gg, x.exC, x.hdC, of_decide_eq_true h6, of_decide_eq_true h7, of_decide_eq_true h8, of_decide_eq_true h9⟩, x⟩
def er0B (c : Str) (b : String) (K : PySem.W.Frag) : Bool := PySem.W.excIn K (He.ga K c) (tlE b) (b ++ ".__new__") && PySem.W.keepIn K (.ref (He.ga K c))
theorem er0_of {c : Str} {b : String} {K : PySem.W.Frag} (h : er0B c b K = true) : PySem.W.excIn K (He.ga K c) (tlE b) (b ++ ".__new__") = true ∧ PySem.W.keepIn K (.ref (He.ga K c)) = true := He.ba h
theorem all_of {n : Nat} {f : Nat → Bool} {p : Nat → Prop} (h : (List.range n).all f = true) (g : ∀ i, f i = true → p i) : ∀ i < n, p i :=
  fun i hi => g i (List.all_eq_true.mp h i (List.mem_range.mpr hi))
def d__wall : He.DefD := ⟨("_wall", none), "_wall", "_wall", defArgs s__wall, defBody s__wall, defScope s__wall, [], []⟩
def d_InvalidName___init__ : He.DefD := ⟨("InvalidName", some "__init__"), "__init__", "InvalidName.__init__", defArgs s_InvalidName___init__, defBody s_InvalidName___init__, defScope s_InvalidName___init__, [], []⟩
def d_InvalidText___init__ : He.DefD := ⟨("InvalidText", some "__init__"), "__init__", "InvalidText.__init__", defArgs s_InvalidText___init__, defBody s_InvalidText___init__, defScope s_InvalidText___init__, [], []⟩
def d_InvalidFlag___init__ : He.DefD := ⟨("InvalidFlag", some "__init__"), "__init__", "InvalidFlag.__init__", defArgs s_InvalidFlag___init__, defBody s_InvalidFlag___init__, defScope s_InvalidFlag___init__, [], []⟩
def d_InvalidNumber___init__ : He.DefD := ⟨("InvalidNumber", some "__init__"), "__init__", "InvalidNumber.__init__", defArgs s_InvalidNumber___init__, defBody s_InvalidNumber___init__, defScope s_InvalidNumber___init__, [], []⟩
def d_InvalidThing___init__ : He.DefD := ⟨("InvalidThing", some "__init__"), "__init__", "InvalidThing.__init__", defArgs s_InvalidThing___init__, defBody s_InvalidThing___init__, defScope s_InvalidThing___init__, [], []⟩
def d_InvalidChoice___init__ : He.DefD := ⟨("InvalidChoice", some "__init__"), "__init__", "InvalidChoice.__init__", defArgs s_InvalidChoice___init__, defBody s_InvalidChoice___init__, defScope s_InvalidChoice___init__, [], []⟩
def d_InvalidWish___init__ : He.DefD := ⟨("InvalidWish", some "__init__"), "__init__", "InvalidWish.__init__", defArgs s_InvalidWish___init__, defBody s_InvalidWish___init__, defScope s_InvalidWish___init__, [], []⟩
def d_InvalidSet___init__ : He.DefD := ⟨("InvalidSet", some "__init__"), "__init__", "InvalidSet.__init__", defArgs s_InvalidSet___init__, defBody s_InvalidSet___init__, defScope s_InvalidSet___init__, [], []⟩
def d_InvalidIndex___init__ : He.DefD := ⟨("InvalidIndex", some "__init__"), "__init__", "InvalidIndex.__init__", defArgs s_InvalidIndex___init__, defBody s_InvalidIndex___init__, defScope s_InvalidIndex___init__, [], []⟩
def d_NotASystem___init__ : He.DefD := ⟨("NotASystem", some "__init__"), "__init__", "NotASystem.__init__", defArgs s_NotASystem___init__, defBody s_NotASystem___init__, defScope s_NotASystem___init__, [], []⟩
def d_InvalidGates___init__ : He.DefD := ⟨("InvalidGates", some "__init__"), "__init__", "InvalidGates.__init__", defArgs s_InvalidGates___init__, defBody s_InvalidGates___init__, defScope s_InvalidGates___init__, [], []⟩
def d_InvalidKinds___init__ : He.DefD := ⟨("InvalidKinds", some "__init__"), "__init__", "InvalidKinds.__init__", defArgs s_InvalidKinds___init__, defBody s_InvalidKinds___init__, defScope s_InvalidKinds___init__, [], []⟩
def d_InvalidRows___init__ : He.DefD := ⟨("InvalidRows", some "__init__"), "__init__", "InvalidRows.__init__", defArgs s_InvalidRows___init__, defBody s_InvalidRows___init__, defScope s_InvalidRows___init__, [], []⟩
def d_InvalidMembers___init__ : He.DefD := ⟨("InvalidMembers", some "__init__"), "__init__", "InvalidMembers.__init__", defArgs s_InvalidMembers___init__, defBody s_InvalidMembers___init__, defScope s_InvalidMembers___init__, [], []⟩
def d_InvalidNumbers___init__ : He.DefD := ⟨("InvalidNumbers", some "__init__"), "__init__", "InvalidNumbers.__init__", defArgs s_InvalidNumbers___init__, defBody s_InvalidNumbers___init__, defScope s_InvalidNumbers___init__, [], []⟩
def d_InvalidRun___init__ : He.DefD := ⟨("InvalidRun", some "__init__"), "__init__", "InvalidRun.__init__", defArgs s_InvalidRun___init__, defBody s_InvalidRun___init__, defScope s_InvalidRun___init__, [], []⟩
def d_InvalidThings___init__ : He.DefD := ⟨("InvalidThings", some "__init__"), "__init__", "InvalidThings.__init__", defArgs s_InvalidThings___init__, defBody s_InvalidThings___init__, defScope s_InvalidThings___init__, [], []⟩
def d_InvalidChanges___init__ : He.DefD := ⟨("InvalidChanges", some "__init__"), "__init__", "InvalidChanges.__init__", defArgs s_InvalidChanges___init__, defBody s_InvalidChanges___init__, defScope s_InvalidChanges___init__, [], []⟩
def d_UnknownName___init__ : He.DefD := ⟨("UnknownName", some "__init__"), "__init__", "UnknownName.__init__", defArgs s_UnknownName___init__, defBody s_UnknownName___init__, defScope s_UnknownName___init__, [], []⟩
def d_UnknownHand___init__ : He.DefD := ⟨("UnknownHand", some "__init__"), "__init__", "UnknownHand.__init__", defArgs s_UnknownHand___init__, defBody s_UnknownHand___init__, defScope s_UnknownHand___init__, [], []⟩
def d_InUse___init__ : He.DefD := ⟨("InUse", some "__init__"), "__init__", "InUse.__init__", defArgs s_InUse___init__, defBody s_InUse___init__, defScope s_InUse___init__, [], []⟩
def d_TooMany___init__ : He.DefD := ⟨("TooMany", some "__init__"), "__init__", "TooMany.__init__", defArgs s_TooMany___init__, defBody s_TooMany___init__, defScope s_TooMany___init__, [], []⟩
def d_Alone___init__ : He.DefD := ⟨("Alone", some "__init__"), "__init__", "Alone.__init__", defArgs s_Alone___init__, defBody s_Alone___init__, defScope s_Alone___init__, [], []⟩
def d_Waits___init__ : He.DefD := ⟨("Waits", some "__init__"), "__init__", "Waits.__init__", defArgs s_Waits___init__, defBody s_Waits___init__, defScope s_Waits___init__, [], []⟩
def d_Ended___init__ : He.DefD := ⟨("Ended", some "__init__"), "__init__", "Ended.__init__", defArgs s_Ended___init__, defBody s_Ended___init__, defScope s_Ended___init__, [], []⟩
def d_Broken___init__ : He.DefD := ⟨("Broken", some "__init__"), "__init__", "Broken.__init__", defArgs s_Broken___init__, defBody s_Broken___init__, defScope s_Broken___init__, [], []⟩
def d_is_name : He.DefD := ⟨("is_name", none), "is_name", "is_name", defArgs s_is_name, defBody s_is_name, defScope s_is_name, [], []⟩
def d_Row___init__ : He.DefD := ⟨("Row", some "__init__"), "__init__", "Row.__init__", defArgs s_Row___init__, defBody s_Row___init__, defScope s_Row___init__, [], [("gate", .non), ("value", .non), ("goals", .adr (kwdAt ("Row", some "__init__") "goals"))]⟩
def d_digit_of : He.DefD := ⟨("digit_of", none), "digit_of", "digit_of", defArgs s_digit_of, defBody s_digit_of, defScope s_digit_of, [], []⟩
def d_row_of_words : He.DefD := ⟨("row_of_words", none), "row_of_words", "row_of_words", defArgs s_row_of_words, defBody s_row_of_words, defScope s_row_of_words, [], []⟩
def d_has_right_parts : He.DefD := ⟨("has_right_parts", none), "has_right_parts", "has_right_parts", defArgs s_has_right_parts, defBody s_has_right_parts, defScope s_has_right_parts, [], []⟩
def d_parsed_row : He.DefD := ⟨("parsed_row", none), "parsed_row", "parsed_row", defArgs s_parsed_row, defBody s_parsed_row, defScope s_parsed_row, [], []⟩
def d_leads_within : He.DefD := ⟨("leads_within", none), "leads_within", "leads_within", defArgs s_leads_within, defBody s_leads_within, defScope s_leads_within, [], []⟩
def d_Gate___init__ : He.DefD := ⟨("Gate", some "__init__"), "__init__", "Gate.__init__", defArgs s_Gate___init__, defBody s_Gate___init__, defScope s_Gate___init__, [.non], []⟩
def d_Gate___eq__ : He.DefD := ⟨("Gate", some "__eq__"), "__eq__", "Gate.__eq__", defArgs s_Gate___eq__, defBody s_Gate___eq__, defScope s_Gate___eq__, [], []⟩
def d_Kind___init__ : He.DefD := ⟨("Kind", some "__init__"), "__init__", "Kind.__init__", defArgs s_Kind___init__, defBody s_Kind___init__, defScope s_Kind___init__, [], [("many", .bl false), ("members", .adr (kwdAt ("Kind", some "__init__") "members"))]⟩
def d_Kind___eq__ : He.DefD := ⟨("Kind", some "__eq__"), "__eq__", "Kind.__eq__", defArgs s_Kind___eq__, defBody s_Kind___eq__, defScope s_Kind___eq__, [], []⟩
def d_Kind___len__ : He.DefD := ⟨("Kind", some "__len__"), "__len__", "Kind.__len__", defArgs s_Kind___len__, defBody s_Kind___len__, defScope s_Kind___len__, [], []⟩
def d_System___init__ : He.DefD := ⟨("System", some "__init__"), "__init__", "System.__init__", defArgs s_System___init__, defBody s_System___init__, defScope s_System___init__, [], []⟩
def d_System_kind : He.DefD := ⟨("System", some "kind"), "kind", "System.kind", defArgs s_System_kind, defBody s_System_kind, defScope s_System_kind, [], []⟩
def d_System_changed : He.DefD := ⟨("System", some "changed"), "changed", "System.changed", defArgs s_System_changed, defBody s_System_changed, defScope s_System_changed, [], []⟩
def d_System_rows_of : He.DefD := ⟨("System", some "rows_of"), "rows_of", "System.rows_of", defArgs s_System_rows_of, defBody s_System_rows_of, defScope s_System_rows_of, [], []⟩
def d_System_place_of : He.DefD := ⟨("System", some "place_of"), "place_of", "System.place_of", defArgs s_System_place_of, defBody s_System_place_of, defScope s_System_place_of, [], []⟩
def d_System_tree_of : He.DefD := ⟨("System", some "tree_of"), "tree_of", "System.tree_of", defArgs s_System_tree_of, defBody s_System_tree_of, defScope s_System_tree_of, [], []⟩
def d_System___eq__ : He.DefD := ⟨("System", some "__eq__"), "__eq__", "System.__eq__", defArgs s_System___eq__, defBody s_System___eq__, defScope s_System___eq__, [], []⟩
def d_System___str__ : He.DefD := ⟨("System", some "__str__"), "__str__", "System.__str__", defArgs s_System___str__, defBody s_System___str__, defScope s_System___str__, [], []⟩
def d_System___repr__ : He.DefD := ⟨("System", some "__repr__"), "__repr__", "System.__repr__", defArgs s_System___repr__, defBody s_System___repr__, defScope s_System___repr__, [], []⟩
def d_System___len__ : He.DefD := ⟨("System", some "__len__"), "__len__", "System.__len__", defArgs s_System___len__, defBody s_System___len__, defScope s_System___len__, [], []⟩
def d_parsed_rows : He.DefD := ⟨("parsed_rows", none), "parsed_rows", "parsed_rows", defArgs s_parsed_rows, defBody s_parsed_rows, defScope s_parsed_rows, [], []⟩
def d_check_members : He.DefD := ⟨("check_members", none), "check_members", "check_members", defArgs s_check_members, defBody s_check_members, defScope s_check_members, [], []⟩
def d_check_gates : He.DefD := ⟨("check_gates", none), "check_gates", "check_gates", defArgs s_check_gates, defBody s_check_gates, defScope s_check_gates, [], []⟩
def d_gates_named : He.DefD := ⟨("gates_named", none), "gates_named", "gates_named", defArgs s_gates_named, defBody s_gates_named, defScope s_gates_named, [], []⟩
def d_check_kinds : He.DefD := ⟨("check_kinds", none), "check_kinds", "check_kinds", defArgs s_check_kinds, defBody s_check_kinds, defScope s_check_kinds, [], []⟩
def d_roots_of : He.DefD := ⟨("roots_of", none), "roots_of", "roots_of", defArgs s_roots_of, defBody s_roots_of, defScope s_roots_of, [], []⟩
def d_head_of : He.DefD := ⟨("head_of", none), "head_of", "head_of", defArgs s_head_of, defBody s_head_of, defScope s_head_of, [], []⟩
def d_text_of : He.DefD := ⟨("text_of", none), "text_of", "text_of", defArgs s_text_of, defBody s_text_of, defScope s_text_of, [], []⟩
def d_gate_of : He.DefD := ⟨("gate_of", none), "gate_of", "gate_of", defArgs s_gate_of, defBody s_gate_of, defScope s_gate_of, [], []⟩
def d_kind_of : He.DefD := ⟨("kind_of", none), "kind_of", "kind_of", defArgs s_kind_of, defBody s_kind_of, defScope s_kind_of, [], []⟩
def d_parts_of : He.DefD := ⟨("parts_of", none), "parts_of", "parts_of", defArgs s_parts_of, defBody s_parts_of, defScope s_parts_of, [], []⟩
def d_check_kind : He.DefD := ⟨("check_kind", none), "check_kind", "check_kind", defArgs s_check_kind, defBody s_check_kind, defScope s_check_kind, [], []⟩
def d__law_pool : He.DefD := ⟨("_law_pool", none), "_law_pool", "_law_pool", defArgs s__law_pool, defBody s__law_pool, defScope s__law_pool, [], []⟩
def d__law_draw : He.DefD := ⟨("_law_draw", none), "_law_draw", "_law_draw", defArgs s__law_draw, defBody s__law_draw, defScope s__law_draw, [], []⟩
def d__law_words : He.DefD := ⟨("_law_words", none), "_law_words", "_law_words", defArgs s__law_words, defBody s__law_words, defScope s__law_words, [], []⟩
def d__law_place : He.DefD := ⟨("_law_place", none), "_law_place", "_law_place", defArgs s__law_place, defBody s__law_place, defScope s__law_place, [], []⟩
def d__law_kept : He.DefD := ⟨("_law_kept", none), "_law_kept", "_law_kept", defArgs s__law_kept, defBody s__law_kept, defScope s__law_kept, [], []⟩
def d__law_caught : He.DefD := ⟨("_law_caught", none), "_law_caught", "_law_caught", defArgs s__law_caught, defBody s__law_caught, defScope s__law_caught, [], []⟩
def d__law_tag : He.DefD := ⟨("_law_tag", none), "_law_tag", "_law_tag", defArgs s__law_tag, defBody s__law_tag, defScope s__law_tag, [], []⟩
def d__law_new : He.DefD := ⟨("_law_new", none), "_law_new", "_law_new", defArgs s__law_new, defBody s__law_new, defScope s__law_new, [], []⟩
def d__law_line : He.DefD := ⟨("_law_line", none), "_law_line", "_law_line", defArgs s__law_line, defBody s__law_line, defScope s__law_line, [], []⟩
def d__law_lines : He.DefD := ⟨("_law_lines", none), "_law_lines", "_law_lines", defArgs s__law_lines, defBody s__law_lines, defScope s__law_lines, [], []⟩
def d__law_forest : He.DefD := ⟨("_law_forest", none), "_law_forest", "_law_forest", defArgs s__law_forest, defBody s__law_forest, defScope s__law_forest, [], []⟩
def d__law_sorts : He.DefD := ⟨("_law_sorts", none), "_law_sorts", "_law_sorts", defArgs s__law_sorts, defBody s__law_sorts, defScope s__law_sorts, [], []⟩
def d__law_page : He.DefD := ⟨("_law_page", none), "_law_page", "_law_page", defArgs s__law_page, defBody s__law_page, defScope s__law_page, [], []⟩
def d__law_marks : He.DefD := ⟨("_law_marks", none), "_law_marks", "_law_marks", defArgs s__law_marks, defBody s__law_marks, defScope s__law_marks, [], []⟩
def d__law_built : He.DefD := ⟨("_law_built", none), "_law_built", "_law_built", defArgs s__law_built, defBody s__law_built, defScope s__law_built, [], []⟩
def d__law_is : He.DefD := ⟨("_law_is", none), "_law_is", "_law_is", defArgs s__law_is, defBody s__law_is, defScope s__law_is, [], []⟩
def d__law_due : He.DefD := ⟨("_law_due", none), "_law_due", "_law_due", defArgs s__law_due, defBody s__law_due, defScope s__law_due, [], []⟩
def d__law_shown : He.DefD := ⟨("_law_shown", none), "_law_shown", "_law_shown", defArgs s__law_shown, defBody s__law_shown, defScope s__law_shown, [], []⟩
def d__law_asked : He.DefD := ⟨("_law_asked", none), "_law_asked", "_law_asked", defArgs s__law_asked, defBody s__law_asked, defScope s__law_asked, [], []⟩
def d__law_right : He.DefD := ⟨("_law_right", none), "_law_right", "_law_right", defArgs s__law_right, defBody s__law_right, defScope s__law_right, [], []⟩
def d_law : He.DefD := ⟨("law", none), "law", "law", defArgs s_law, defBody s_law, defScope s_law, [], []⟩
structure Tx (K : PySem.W.Frag) (mg : Str → Option Value) : Prop where
  f_isinstance : mg "isinstance" = none
  f_str : mg "str" = none
  f_len : mg "len" = none
  f_all : mg "all" = none
  f_int : mg "int" = none
  f_tuple : mg "tuple" = none
  f_range : mg "range" = none
  f_enumerate : mg "enumerate" = none
  f_sorted : mg "sorted" = none
  f_sum : mg "sum" = none
  f_abs : mg "abs" = none
  f_divmod : mg "divmod" = none
  f_ValueError : mg "ValueError" = none
  f_LookupError : mg "LookupError" = none
  f_ArithmeticError : mg "ArithmeticError" = none
  f_repr : mg "repr" = none
  f_list : mg "list" = none
  f_max : mg "max" = none
  f_min : mg "min" = none
  g_MOST_GATES : ∃ u, mg "MOST_GATES" = some u ∧ RelV (.int 3) u
  g_MOST_KINDS : ∃ u, mg "MOST_KINDS" = some u ∧ RelV (.int 4) u
  g_MOST_ROWS : ∃ u, mg "MOST_ROWS" = some u ∧ RelV (.int 10) u
  g_MOST_VALUE : ∃ u, mg "MOST_VALUE" = some u ∧ RelV (.int 3) u
  g_LONGEST_NAME : ∃ u, mg "LONGEST_NAME" = some u ∧ RelV (.int 8) u
  g_LETTERS : ∃ u, mg "LETTERS" = some u ∧ RelV (.str "abcdefghijklmnopqrstuvwxyz") u
  g_SIGNS : ∃ u, mg "SIGNS" = some u ∧ RelV (.str "abcdefghijklmnopqrstuvwxyz0123456789") u
  g_DIGITS : ∃ u, mg "DIGITS" = some u ∧ RelV (.str "0123456789") u
  g_MOST_GOALS : ∃ u, mg "MOST_GOALS" = some u ∧ RelV (.int 4) u
  g_WrongValue : ∃ u, mg "WrongValue" = some u ∧ RelV (.ref (He.ga K "WrongValue")) u
  g_InvalidName : ∃ u, mg "InvalidName" = some u ∧ RelV (.ref (He.ga K "InvalidName")) u
  g_InvalidText : ∃ u, mg "InvalidText" = some u ∧ RelV (.ref (He.ga K "InvalidText")) u
  g_InvalidFlag : ∃ u, mg "InvalidFlag" = some u ∧ RelV (.ref (He.ga K "InvalidFlag")) u
  g_InvalidNumber : ∃ u, mg "InvalidNumber" = some u ∧ RelV (.ref (He.ga K "InvalidNumber")) u
  g_InvalidThing : ∃ u, mg "InvalidThing" = some u ∧ RelV (.ref (He.ga K "InvalidThing")) u
  g_InvalidChoice : ∃ u, mg "InvalidChoice" = some u ∧ RelV (.ref (He.ga K "InvalidChoice")) u
  g_InvalidWish : ∃ u, mg "InvalidWish" = some u ∧ RelV (.ref (He.ga K "InvalidWish")) u
  g_InvalidSet : ∃ u, mg "InvalidSet" = some u ∧ RelV (.ref (He.ga K "InvalidSet")) u
  g_InvalidIndex : ∃ u, mg "InvalidIndex" = some u ∧ RelV (.ref (He.ga K "InvalidIndex")) u
  g_NotASystem : ∃ u, mg "NotASystem" = some u ∧ RelV (.ref (He.ga K "NotASystem")) u
  g_InvalidGates : ∃ u, mg "InvalidGates" = some u ∧ RelV (.ref (He.ga K "InvalidGates")) u
  g_InvalidKinds : ∃ u, mg "InvalidKinds" = some u ∧ RelV (.ref (He.ga K "InvalidKinds")) u
  g_InvalidRows : ∃ u, mg "InvalidRows" = some u ∧ RelV (.ref (He.ga K "InvalidRows")) u
  g_InvalidMembers : ∃ u, mg "InvalidMembers" = some u ∧ RelV (.ref (He.ga K "InvalidMembers")) u
  g_InvalidNumbers : ∃ u, mg "InvalidNumbers" = some u ∧ RelV (.ref (He.ga K "InvalidNumbers")) u
  g_InvalidRun : ∃ u, mg "InvalidRun" = some u ∧ RelV (.ref (He.ga K "InvalidRun")) u
  g_InvalidThings : ∃ u, mg "InvalidThings" = some u ∧ RelV (.ref (He.ga K "InvalidThings")) u
  g_InvalidChanges : ∃ u, mg "InvalidChanges" = some u ∧ RelV (.ref (He.ga K "InvalidChanges")) u
  g_WrongName : ∃ u, mg "WrongName" = some u ∧ RelV (.ref (He.ga K "WrongName")) u
  g_UnknownName : ∃ u, mg "UnknownName" = some u ∧ RelV (.ref (He.ga K "UnknownName")) u
  g_UnknownHand : ∃ u, mg "UnknownHand" = some u ∧ RelV (.ref (He.ga K "UnknownHand")) u
  g_InUse : ∃ u, mg "InUse" = some u ∧ RelV (.ref (He.ga K "InUse")) u
  g_NoAnswer : ∃ u, mg "NoAnswer" = some u ∧ RelV (.ref (He.ga K "NoAnswer")) u
  g_TooMany : ∃ u, mg "TooMany" = some u ∧ RelV (.ref (He.ga K "TooMany")) u
  g_Alone : ∃ u, mg "Alone" = some u ∧ RelV (.ref (He.ga K "Alone")) u
  g_Waits : ∃ u, mg "Waits" = some u ∧ RelV (.ref (He.ga K "Waits")) u
  g_Ended : ∃ u, mg "Ended" = some u ∧ RelV (.ref (He.ga K "Ended")) u
  g_NothingToUndo : ∃ u, mg "NothingToUndo" = some u ∧ RelV (.ref (He.ga K "NothingToUndo")) u
  g_Broken : ∃ u, mg "Broken" = some u ∧ RelV (.ref (He.ga K "Broken")) u
  g_Row : ∃ u, mg "Row" = some u ∧ RelV (.ref (He.ga K "Row")) u
  c_Row : Cls K (He.ga K "Row")
  na_Row_goal : NoAttr K (He.ga K "Row") "goal"
  na_Row_text : NoAttr K (He.ga K "Row") "text"
  na_Row_label : NoAttr K (He.ga K "Row") "label"
  na_Row_word : NoAttr K (He.ga K "Row") "word"
  na_Row_gate : NoAttr K (He.ga K "Row") "gate"
  na_Row_value : NoAttr K (He.ga K "Row") "value"
  na_Row_goals : NoAttr K (He.ga K "Row") "goals"
  mk_Row : Mk K (He.ga K "Row") (He.ma K (He.ga K "Row") "__init__")
  g_Gate : ∃ u, mg "Gate" = some u ∧ RelV (.ref (He.ga K "Gate")) u
  c_Gate : Cls K (He.ga K "Gate")
  na_Gate_called : NoAttr K (He.ga K "Gate") "called"
  na_Gate_outer : NoAttr K (He.ga K "Gate") "outer"
  mk_Gate : Mk K (He.ga K "Gate") (He.ma K (He.ga K "Gate") "__init__")
  g_Kind : ∃ u, mg "Kind" = some u ∧ RelV (.ref (He.ga K "Kind")) u
  c_Kind : Cls K (He.ga K "Kind")
  na_Kind_called : NoAttr K (He.ga K "Kind") "called"
  na_Kind_texts : NoAttr K (He.ga K "Kind") "texts"
  na_Kind_parsed : NoAttr K (He.ga K "Kind") "parsed"
  na_Kind_any_number : NoAttr K (He.ga K "Kind") "any_number"
  na_Kind_begun : NoAttr K (He.ga K "Kind") "begun"
  mk_Kind : Mk K (He.ga K "Kind") (He.ma K (He.ga K "Kind") "__init__")
  g_System : ∃ u, mg "System" = some u ∧ RelV (.ref (He.ga K "System")) u
  c_System : Cls K (He.ga K "System")
  na_System_places : NoAttr K (He.ga K "System") "places"
  na_System_programs : NoAttr K (He.ga K "System") "programs"
  na_System_all_labels : NoAttr K (He.ga K "System") "all_labels"
  na_System_trees : NoAttr K (He.ga K "System") "trees"
  na_System_all_gates : NoAttr K (He.ga K "System") "all_gates"
  na_System_all_kinds : NoAttr K (He.ga K "System") "all_kinds"
  na_System_written : NoAttr K (He.ga K "System") "written"
  mk_System : Mk K (He.ga K "System") (He.ma K (He.ga K "System") "__init__")
  n__wall : mg "_wall" = some (.ref (He.ga K "_wall"))
  n_is_name : mg "is_name" = some (.ref (He.ga K "is_name"))
  n_digit_of : mg "digit_of" = some (.ref (He.ga K "digit_of"))
  n_row_of_words : mg "row_of_words" = some (.ref (He.ga K "row_of_words"))
  n_has_right_parts : mg "has_right_parts" = some (.ref (He.ga K "has_right_parts"))
  n_parsed_row : mg "parsed_row" = some (.ref (He.ga K "parsed_row"))
  n_leads_within : mg "leads_within" = some (.ref (He.ga K "leads_within"))
  n_parsed_rows : mg "parsed_rows" = some (.ref (He.ga K "parsed_rows"))
  n_check_members : mg "check_members" = some (.ref (He.ga K "check_members"))
  n_check_gates : mg "check_gates" = some (.ref (He.ga K "check_gates"))
  n_gates_named : mg "gates_named" = some (.ref (He.ga K "gates_named"))
  n_check_kinds : mg "check_kinds" = some (.ref (He.ga K "check_kinds"))
  n_roots_of : mg "roots_of" = some (.ref (He.ga K "roots_of"))
  n_head_of : mg "head_of" = some (.ref (He.ga K "head_of"))
  n_text_of : mg "text_of" = some (.ref (He.ga K "text_of"))
  n_gate_of : mg "gate_of" = some (.ref (He.ga K "gate_of"))
  n_kind_of : mg "kind_of" = some (.ref (He.ga K "kind_of"))
  n_parts_of : mg "parts_of" = some (.ref (He.ga K "parts_of"))
  n_check_kind : mg "check_kind" = some (.ref (He.ga K "check_kind"))
  n__law_pool : mg "_law_pool" = some (.ref (He.ga K "_law_pool"))
  n__law_draw : mg "_law_draw" = some (.ref (He.ga K "_law_draw"))
  n__law_words : mg "_law_words" = some (.ref (He.ga K "_law_words"))
  n__law_place : mg "_law_place" = some (.ref (He.ga K "_law_place"))
  n__law_kept : mg "_law_kept" = some (.ref (He.ga K "_law_kept"))
  n__law_caught : mg "_law_caught" = some (.ref (He.ga K "_law_caught"))
  n__law_tag : mg "_law_tag" = some (.ref (He.ga K "_law_tag"))
  n__law_new : mg "_law_new" = some (.ref (He.ga K "_law_new"))
  n__law_line : mg "_law_line" = some (.ref (He.ga K "_law_line"))
  n__law_lines : mg "_law_lines" = some (.ref (He.ga K "_law_lines"))
  n__law_forest : mg "_law_forest" = some (.ref (He.ga K "_law_forest"))
  n__law_sorts : mg "_law_sorts" = some (.ref (He.ga K "_law_sorts"))
  n__law_page : mg "_law_page" = some (.ref (He.ga K "_law_page"))
  n__law_marks : mg "_law_marks" = some (.ref (He.ga K "_law_marks"))
  n__law_built : mg "_law_built" = some (.ref (He.ga K "_law_built"))
  n__law_is : mg "_law_is" = some (.ref (He.ga K "_law_is"))
  n__law_due : mg "_law_due" = some (.ref (He.ga K "_law_due"))
  n__law_shown : mg "_law_shown" = some (.ref (He.ga K "_law_shown"))
  n__law_asked : mg "_law_asked" = some (.ref (He.ga K "_law_asked"))
  n__law_right : mg "_law_right" = some (.ref (He.ga K "_law_right"))
  n_law : mg "law" = some (.ref (He.ga K "law"))
  i_Row : ClsI K (He.ga K "Row")
  nb_Row : PySem.W.findIn K (.ref (He.ga K "Row")) "__bool__" = some none
  nl_Row : PySem.W.findIn K (.ref (He.ga K "Row")) "__len__" = some none
  j_Row_Gate : ClsJ K (He.ga K "Row") (He.ga K "Gate")
  j_Row_Kind : ClsJ K (He.ga K "Row") (He.ga K "Kind")
  j_Row_System : ClsJ K (He.ga K "Row") (He.ga K "System")
  i_Gate : ClsI K (He.ga K "Gate")
  e_Gate : EqC K (He.ga K "Gate") (He.ma K (He.ga K "Gate") "__eq__")
  nb_Gate : PySem.W.findIn K (.ref (He.ga K "Gate")) "__bool__" = some none
  nl_Gate : PySem.W.findIn K (.ref (He.ga K "Gate")) "__len__" = some none
  j_Gate_Row : ClsJ K (He.ga K "Gate") (He.ga K "Row")
  j_Gate_Kind : ClsJ K (He.ga K "Gate") (He.ga K "Kind")
  j_Gate_System : ClsJ K (He.ga K "Gate") (He.ga K "System")
  i_Kind : ClsI K (He.ga K "Kind")
  e_Kind : EqC K (He.ga K "Kind") (He.ma K (He.ga K "Kind") "__eq__")
  nb_Kind : PySem.W.findIn K (.ref (He.ga K "Kind")) "__bool__" = some none
  l_Kind : PySem.W.findIn K (.ref (He.ga K "Kind")) "__len__" = some (some (.ref (He.ma K (He.ga K "Kind") "__len__"))) ∧ PySem.W.isFn K (.ref (He.ma K (He.ga K "Kind") "__len__")) = true
  j_Kind_Row : ClsJ K (He.ga K "Kind") (He.ga K "Row")
  j_Kind_Gate : ClsJ K (He.ga K "Kind") (He.ga K "Gate")
  j_Kind_System : ClsJ K (He.ga K "Kind") (He.ga K "System")
  i_System : ClsI K (He.ga K "System")
  e_System : EqC K (He.ga K "System") (He.ma K (He.ga K "System") "__eq__")
  nb_System : PySem.W.findIn K (.ref (He.ga K "System")) "__bool__" = some none
  l_System : PySem.W.findIn K (.ref (He.ga K "System")) "__len__" = some (some (.ref (He.ma K (He.ga K "System") "__len__"))) ∧ PySem.W.isFn K (.ref (He.ma K (He.ga K "System") "__len__")) = true
  st_System : PySem.W.findIn K (.ref (He.ga K "System")) "__str__" = some (some (.ref (He.ma K (He.ga K "System") "__str__"))) ∧ PySem.W.isFn K (.ref (He.ma K (He.ga K "System") "__str__")) = true
  re_System : PySem.W.findIn K (.ref (He.ga K "System")) "__repr__" = some (some (.ref (He.ma K (He.ga K "System") "__repr__"))) ∧ PySem.W.isFn K (.ref (He.ma K (He.ga K "System") "__repr__")) = true
  mt_System_kind : PySem.W.findIn K (.ref (He.ga K "System")) "kind" = some (some (.ref (He.ma K (He.ga K "System") "kind"))) ∧ PySem.W.isFn K (.ref (He.ma K (He.ga K "System") "kind")) = true
  mt_System_changed : PySem.W.findIn K (.ref (He.ga K "System")) "changed" = some (some (.ref (He.ma K (He.ga K "System") "changed"))) ∧ PySem.W.isFn K (.ref (He.ma K (He.ga K "System") "changed")) = true
  mt_System_rows_of : PySem.W.findIn K (.ref (He.ga K "System")) "rows_of" = some (some (.ref (He.ma K (He.ga K "System") "rows_of"))) ∧ PySem.W.isFn K (.ref (He.ma K (He.ga K "System") "rows_of")) = true
  mt_System_place_of : PySem.W.findIn K (.ref (He.ga K "System")) "place_of" = some (some (.ref (He.ma K (He.ga K "System") "place_of"))) ∧ PySem.W.isFn K (.ref (He.ma K (He.ga K "System") "place_of")) = true
  mt_System_tree_of : PySem.W.findIn K (.ref (He.ga K "System")) "tree_of" = some (some (.ref (He.ma K (He.ga K "System") "tree_of"))) ∧ PySem.W.isFn K (.ref (He.ma K (He.ga K "System") "tree_of")) = true
  j_System_Row : ClsJ K (He.ga K "System") (He.ga K "Row")
  j_System_Gate : ClsJ K (He.ga K "System") (He.ga K "Gate")
  j_System_Kind : ClsJ K (He.ga K "System") (He.ga K "Kind")
  er_InvalidName : ErC K (He.ga K "InvalidName") "ValueError.__new__" (tlE "ValueError")
  ty_InvalidName : PySem.W.typeIn K (.ref (He.ga K "InvalidName")) = some (.type "type")
  in_InvalidName : PySem.W.findIn K (.ref (He.ga K "InvalidName")) "__init__" = some (some (.ref (He.ma K (He.ga K "InvalidName") "__init__"))) ∧ PySem.W.isFn K (.ref (He.ma K (He.ga K "InvalidName") "__init__")) = true
  no_InvalidName_given : PySem.W.findIn K (.ref (He.ga K "InvalidName")) "given" = some none
  er_InvalidText : ErC K (He.ga K "InvalidText") "ValueError.__new__" (tlE "ValueError")
  ty_InvalidText : PySem.W.typeIn K (.ref (He.ga K "InvalidText")) = some (.type "type")
  in_InvalidText : PySem.W.findIn K (.ref (He.ga K "InvalidText")) "__init__" = some (some (.ref (He.ma K (He.ga K "InvalidText") "__init__"))) ∧ PySem.W.isFn K (.ref (He.ma K (He.ga K "InvalidText") "__init__")) = true
  no_InvalidText_given : PySem.W.findIn K (.ref (He.ga K "InvalidText")) "given" = some none
  er_InvalidFlag : ErC K (He.ga K "InvalidFlag") "ValueError.__new__" (tlE "ValueError")
  ty_InvalidFlag : PySem.W.typeIn K (.ref (He.ga K "InvalidFlag")) = some (.type "type")
  in_InvalidFlag : PySem.W.findIn K (.ref (He.ga K "InvalidFlag")) "__init__" = some (some (.ref (He.ma K (He.ga K "InvalidFlag") "__init__"))) ∧ PySem.W.isFn K (.ref (He.ma K (He.ga K "InvalidFlag") "__init__")) = true
  no_InvalidFlag_given : PySem.W.findIn K (.ref (He.ga K "InvalidFlag")) "given" = some none
  er_InvalidNumber : ErC K (He.ga K "InvalidNumber") "ValueError.__new__" (tlE "ValueError")
  ty_InvalidNumber : PySem.W.typeIn K (.ref (He.ga K "InvalidNumber")) = some (.type "type")
  in_InvalidNumber : PySem.W.findIn K (.ref (He.ga K "InvalidNumber")) "__init__" = some (some (.ref (He.ma K (He.ga K "InvalidNumber") "__init__"))) ∧ PySem.W.isFn K (.ref (He.ma K (He.ga K "InvalidNumber") "__init__")) = true
  no_InvalidNumber_given : PySem.W.findIn K (.ref (He.ga K "InvalidNumber")) "given" = some none
  er_InvalidThing : ErC K (He.ga K "InvalidThing") "ValueError.__new__" (tlE "ValueError")
  ty_InvalidThing : PySem.W.typeIn K (.ref (He.ga K "InvalidThing")) = some (.type "type")
  in_InvalidThing : PySem.W.findIn K (.ref (He.ga K "InvalidThing")) "__init__" = some (some (.ref (He.ma K (He.ga K "InvalidThing") "__init__"))) ∧ PySem.W.isFn K (.ref (He.ma K (He.ga K "InvalidThing") "__init__")) = true
  no_InvalidThing_given : PySem.W.findIn K (.ref (He.ga K "InvalidThing")) "given" = some none
  er_InvalidChoice : ErC K (He.ga K "InvalidChoice") "ValueError.__new__" (tlE "ValueError")
  ty_InvalidChoice : PySem.W.typeIn K (.ref (He.ga K "InvalidChoice")) = some (.type "type")
  in_InvalidChoice : PySem.W.findIn K (.ref (He.ga K "InvalidChoice")) "__init__" = some (some (.ref (He.ma K (He.ga K "InvalidChoice") "__init__"))) ∧ PySem.W.isFn K (.ref (He.ma K (He.ga K "InvalidChoice") "__init__")) = true
  no_InvalidChoice_given : PySem.W.findIn K (.ref (He.ga K "InvalidChoice")) "given" = some none
  er_InvalidWish : ErC K (He.ga K "InvalidWish") "ValueError.__new__" (tlE "ValueError")
  ty_InvalidWish : PySem.W.typeIn K (.ref (He.ga K "InvalidWish")) = some (.type "type")
  in_InvalidWish : PySem.W.findIn K (.ref (He.ga K "InvalidWish")) "__init__" = some (some (.ref (He.ma K (He.ga K "InvalidWish") "__init__"))) ∧ PySem.W.isFn K (.ref (He.ma K (He.ga K "InvalidWish") "__init__")) = true
  no_InvalidWish_given : PySem.W.findIn K (.ref (He.ga K "InvalidWish")) "given" = some none
  er_InvalidSet : ErC K (He.ga K "InvalidSet") "ValueError.__new__" (tlE "ValueError")
  ty_InvalidSet : PySem.W.typeIn K (.ref (He.ga K "InvalidSet")) = some (.type "type")
  in_InvalidSet : PySem.W.findIn K (.ref (He.ga K "InvalidSet")) "__init__" = some (some (.ref (He.ma K (He.ga K "InvalidSet") "__init__"))) ∧ PySem.W.isFn K (.ref (He.ma K (He.ga K "InvalidSet") "__init__")) = true
  no_InvalidSet_given : PySem.W.findIn K (.ref (He.ga K "InvalidSet")) "given" = some none
  er_InvalidIndex : ErC K (He.ga K "InvalidIndex") "ValueError.__new__" (tlE "ValueError")
  ty_InvalidIndex : PySem.W.typeIn K (.ref (He.ga K "InvalidIndex")) = some (.type "type")
  in_InvalidIndex : PySem.W.findIn K (.ref (He.ga K "InvalidIndex")) "__init__" = some (some (.ref (He.ma K (He.ga K "InvalidIndex") "__init__"))) ∧ PySem.W.isFn K (.ref (He.ma K (He.ga K "InvalidIndex") "__init__")) = true
  no_InvalidIndex_given : PySem.W.findIn K (.ref (He.ga K "InvalidIndex")) "given" = some none
  er_NotASystem : ErC K (He.ga K "NotASystem") "ValueError.__new__" (tlE "ValueError")
  ty_NotASystem : PySem.W.typeIn K (.ref (He.ga K "NotASystem")) = some (.type "type")
  in_NotASystem : PySem.W.findIn K (.ref (He.ga K "NotASystem")) "__init__" = some (some (.ref (He.ma K (He.ga K "NotASystem") "__init__"))) ∧ PySem.W.isFn K (.ref (He.ma K (He.ga K "NotASystem") "__init__")) = true
  no_NotASystem_given : PySem.W.findIn K (.ref (He.ga K "NotASystem")) "given" = some none
  er_InvalidGates : ErC K (He.ga K "InvalidGates") "ValueError.__new__" (tlE "ValueError")
  ty_InvalidGates : PySem.W.typeIn K (.ref (He.ga K "InvalidGates")) = some (.type "type")
  in_InvalidGates : PySem.W.findIn K (.ref (He.ga K "InvalidGates")) "__init__" = some (some (.ref (He.ma K (He.ga K "InvalidGates") "__init__"))) ∧ PySem.W.isFn K (.ref (He.ma K (He.ga K "InvalidGates") "__init__")) = true
  no_InvalidGates_index : PySem.W.findIn K (.ref (He.ga K "InvalidGates")) "index" = some none
  er_InvalidKinds : ErC K (He.ga K "InvalidKinds") "ValueError.__new__" (tlE "ValueError")
  ty_InvalidKinds : PySem.W.typeIn K (.ref (He.ga K "InvalidKinds")) = some (.type "type")
  in_InvalidKinds : PySem.W.findIn K (.ref (He.ga K "InvalidKinds")) "__init__" = some (some (.ref (He.ma K (He.ga K "InvalidKinds") "__init__"))) ∧ PySem.W.isFn K (.ref (He.ma K (He.ga K "InvalidKinds") "__init__")) = true
  no_InvalidKinds_index : PySem.W.findIn K (.ref (He.ga K "InvalidKinds")) "index" = some none
  er_InvalidRows : ErC K (He.ga K "InvalidRows") "ValueError.__new__" (tlE "ValueError")
  ty_InvalidRows : PySem.W.typeIn K (.ref (He.ga K "InvalidRows")) = some (.type "type")
  in_InvalidRows : PySem.W.findIn K (.ref (He.ga K "InvalidRows")) "__init__" = some (some (.ref (He.ma K (He.ga K "InvalidRows") "__init__"))) ∧ PySem.W.isFn K (.ref (He.ma K (He.ga K "InvalidRows") "__init__")) = true
  no_InvalidRows_index : PySem.W.findIn K (.ref (He.ga K "InvalidRows")) "index" = some none
  er_InvalidMembers : ErC K (He.ga K "InvalidMembers") "ValueError.__new__" (tlE "ValueError")
  ty_InvalidMembers : PySem.W.typeIn K (.ref (He.ga K "InvalidMembers")) = some (.type "type")
  in_InvalidMembers : PySem.W.findIn K (.ref (He.ga K "InvalidMembers")) "__init__" = some (some (.ref (He.ma K (He.ga K "InvalidMembers") "__init__"))) ∧ PySem.W.isFn K (.ref (He.ma K (He.ga K "InvalidMembers") "__init__")) = true
  no_InvalidMembers_index : PySem.W.findIn K (.ref (He.ga K "InvalidMembers")) "index" = some none
  er_InvalidNumbers : ErC K (He.ga K "InvalidNumbers") "ValueError.__new__" (tlE "ValueError")
  ty_InvalidNumbers : PySem.W.typeIn K (.ref (He.ga K "InvalidNumbers")) = some (.type "type")
  in_InvalidNumbers : PySem.W.findIn K (.ref (He.ga K "InvalidNumbers")) "__init__" = some (some (.ref (He.ma K (He.ga K "InvalidNumbers") "__init__"))) ∧ PySem.W.isFn K (.ref (He.ma K (He.ga K "InvalidNumbers") "__init__")) = true
  no_InvalidNumbers_index : PySem.W.findIn K (.ref (He.ga K "InvalidNumbers")) "index" = some none
  er_InvalidRun : ErC K (He.ga K "InvalidRun") "ValueError.__new__" (tlE "ValueError")
  ty_InvalidRun : PySem.W.typeIn K (.ref (He.ga K "InvalidRun")) = some (.type "type")
  in_InvalidRun : PySem.W.findIn K (.ref (He.ga K "InvalidRun")) "__init__" = some (some (.ref (He.ma K (He.ga K "InvalidRun") "__init__"))) ∧ PySem.W.isFn K (.ref (He.ma K (He.ga K "InvalidRun") "__init__")) = true
  no_InvalidRun_index : PySem.W.findIn K (.ref (He.ga K "InvalidRun")) "index" = some none
  er_InvalidThings : ErC K (He.ga K "InvalidThings") "ValueError.__new__" (tlE "ValueError")
  ty_InvalidThings : PySem.W.typeIn K (.ref (He.ga K "InvalidThings")) = some (.type "type")
  in_InvalidThings : PySem.W.findIn K (.ref (He.ga K "InvalidThings")) "__init__" = some (some (.ref (He.ma K (He.ga K "InvalidThings") "__init__"))) ∧ PySem.W.isFn K (.ref (He.ma K (He.ga K "InvalidThings") "__init__")) = true
  no_InvalidThings_index : PySem.W.findIn K (.ref (He.ga K "InvalidThings")) "index" = some none
  er_InvalidChanges : ErC K (He.ga K "InvalidChanges") "ValueError.__new__" (tlE "ValueError")
  ty_InvalidChanges : PySem.W.typeIn K (.ref (He.ga K "InvalidChanges")) = some (.type "type")
  in_InvalidChanges : PySem.W.findIn K (.ref (He.ga K "InvalidChanges")) "__init__" = some (some (.ref (He.ma K (He.ga K "InvalidChanges") "__init__"))) ∧ PySem.W.isFn K (.ref (He.ma K (He.ga K "InvalidChanges") "__init__")) = true
  no_InvalidChanges_index : PySem.W.findIn K (.ref (He.ga K "InvalidChanges")) "index" = some none
  er_UnknownName : ErC K (He.ga K "UnknownName") "LookupError.__new__" (tlE "LookupError")
  ty_UnknownName : PySem.W.typeIn K (.ref (He.ga K "UnknownName")) = some (.type "type")
  in_UnknownName : PySem.W.findIn K (.ref (He.ga K "UnknownName")) "__init__" = some (some (.ref (He.ma K (He.ga K "UnknownName") "__init__"))) ∧ PySem.W.isFn K (.ref (He.ma K (He.ga K "UnknownName") "__init__")) = true
  no_UnknownName_given : PySem.W.findIn K (.ref (He.ga K "UnknownName")) "given" = some none
  er_UnknownHand : ErC K (He.ga K "UnknownHand") "LookupError.__new__" (tlE "LookupError")
  ty_UnknownHand : PySem.W.typeIn K (.ref (He.ga K "UnknownHand")) = some (.type "type")
  in_UnknownHand : PySem.W.findIn K (.ref (He.ga K "UnknownHand")) "__init__" = some (some (.ref (He.ma K (He.ga K "UnknownHand") "__init__"))) ∧ PySem.W.isFn K (.ref (He.ma K (He.ga K "UnknownHand") "__init__")) = true
  no_UnknownHand_given : PySem.W.findIn K (.ref (He.ga K "UnknownHand")) "given" = some none
  er_InUse : ErC K (He.ga K "InUse") "LookupError.__new__" (tlE "LookupError")
  ty_InUse : PySem.W.typeIn K (.ref (He.ga K "InUse")) = some (.type "type")
  in_InUse : PySem.W.findIn K (.ref (He.ga K "InUse")) "__init__" = some (some (.ref (He.ma K (He.ga K "InUse") "__init__"))) ∧ PySem.W.isFn K (.ref (He.ma K (He.ga K "InUse") "__init__")) = true
  no_InUse_index : PySem.W.findIn K (.ref (He.ga K "InUse")) "index" = some none
  er_TooMany : ErC K (He.ga K "TooMany") "ArithmeticError.__new__" (tlE "ArithmeticError")
  ty_TooMany : PySem.W.typeIn K (.ref (He.ga K "TooMany")) = some (.type "type")
  in_TooMany : PySem.W.findIn K (.ref (He.ga K "TooMany")) "__init__" = some (some (.ref (He.ma K (He.ga K "TooMany") "__init__"))) ∧ PySem.W.isFn K (.ref (He.ma K (He.ga K "TooMany") "__init__")) = true
  no_TooMany_limit : PySem.W.findIn K (.ref (He.ga K "TooMany")) "limit" = some none
  er_Alone : ErC K (He.ga K "Alone") "ArithmeticError.__new__" (tlE "ArithmeticError")
  ty_Alone : PySem.W.typeIn K (.ref (He.ga K "Alone")) = some (.type "type")
  in_Alone : PySem.W.findIn K (.ref (He.ga K "Alone")) "__init__" = some (some (.ref (He.ma K (He.ga K "Alone") "__init__"))) ∧ PySem.W.isFn K (.ref (He.ma K (He.ga K "Alone") "__init__")) = true
  no_Alone_given : PySem.W.findIn K (.ref (He.ga K "Alone")) "given" = some none
  er_Waits : ErC K (He.ga K "Waits") "ArithmeticError.__new__" (tlE "ArithmeticError")
  ty_Waits : PySem.W.typeIn K (.ref (He.ga K "Waits")) = some (.type "type")
  in_Waits : PySem.W.findIn K (.ref (He.ga K "Waits")) "__init__" = some (some (.ref (He.ma K (He.ga K "Waits") "__init__"))) ∧ PySem.W.isFn K (.ref (He.ma K (He.ga K "Waits") "__init__")) = true
  no_Waits_hand : PySem.W.findIn K (.ref (He.ga K "Waits")) "hand" = some none
  er_Ended : ErC K (He.ga K "Ended") "ArithmeticError.__new__" (tlE "ArithmeticError")
  ty_Ended : PySem.W.typeIn K (.ref (He.ga K "Ended")) = some (.type "type")
  in_Ended : PySem.W.findIn K (.ref (He.ga K "Ended")) "__init__" = some (some (.ref (He.ma K (He.ga K "Ended") "__init__"))) ∧ PySem.W.isFn K (.ref (He.ma K (He.ga K "Ended") "__init__")) = true
  no_Ended_hand : PySem.W.findIn K (.ref (He.ga K "Ended")) "hand" = some none
  ei_NothingToUndo : PySem.W.excIn K (He.ga K "NothingToUndo") (tlE "ArithmeticError") "ArithmeticError.__new__" = true ∧ PySem.W.keepIn K (.ref (He.ga K "NothingToUndo")) = true
  er_Broken : ErC K (He.ga K "Broken") "ArithmeticError.__new__" (tlE "ArithmeticError")
  ty_Broken : PySem.W.typeIn K (.ref (He.ga K "Broken")) = some (.type "type")
  in_Broken : PySem.W.findIn K (.ref (He.ga K "Broken")) "__init__" = some (some (.ref (He.ma K (He.ga K "Broken") "__init__"))) ∧ PySem.W.isFn K (.ref (He.ma K (He.ga K "Broken") "__init__")) = true
  no_Broken_index : PySem.W.findIn K (.ref (He.ga K "Broken")) "index" = some none
  no_Broken_shown : PySem.W.findIn K (.ref (He.ga K "Broken")) "shown" = some none
  ex_all : ∀ i < 27, ExcC K (He.ga K (nmE i)) ∧ XfC K (He.ga K (nmE i))
  nf_given : ∀ i < 27, ([0, 1, 2, 3, 4, 5, 6, 7, 8, 9, 18, 19, 22].contains i) = true → PySem.W.findIn K (.ref (He.ga K (nmE i))) "given" = some none
  nf_hand : ∀ i < 27, ([23, 24].contains i) = true → PySem.W.findIn K (.ref (He.ga K (nmE i))) "hand" = some none
  nf_index : ∀ i < 27, ([10, 11, 12, 13, 14, 15, 16, 17, 20, 26].contains i) = true → PySem.W.findIn K (.ref (He.ga K (nmE i))) "index" = some none
  nf_limit : ∀ i < 27, ([21].contains i) = true → PySem.W.findIn K (.ref (He.ga K (nmE i))) "limit" = some none
  nf_shown : ∀ i < 27, ([26].contains i) = true → PySem.W.findIn K (.ref (He.ga K (nmE i))) "shown" = some none
  k_InvalidName : ∀ i < 27, PySem.W.kitOne K (.ref (He.ga K (nmE i))) (.ref (He.ga K "InvalidName")) = some ((fun i => decide (i = 0)) i)
  k_InvalidText : ∀ i < 27, PySem.W.kitOne K (.ref (He.ga K (nmE i))) (.ref (He.ga K "InvalidText")) = some ((fun i => decide (i = 1)) i)
  k_InvalidFlag : ∀ i < 27, PySem.W.kitOne K (.ref (He.ga K (nmE i))) (.ref (He.ga K "InvalidFlag")) = some ((fun i => decide (i = 2)) i)
  k_InvalidNumber : ∀ i < 27, PySem.W.kitOne K (.ref (He.ga K (nmE i))) (.ref (He.ga K "InvalidNumber")) = some ((fun i => decide (i = 3)) i)
  k_InvalidThing : ∀ i < 27, PySem.W.kitOne K (.ref (He.ga K (nmE i))) (.ref (He.ga K "InvalidThing")) = some ((fun i => decide (i = 4)) i)
  k_InvalidChoice : ∀ i < 27, PySem.W.kitOne K (.ref (He.ga K (nmE i))) (.ref (He.ga K "InvalidChoice")) = some ((fun i => decide (i = 5)) i)
  k_InvalidWish : ∀ i < 27, PySem.W.kitOne K (.ref (He.ga K (nmE i))) (.ref (He.ga K "InvalidWish")) = some ((fun i => decide (i = 6)) i)
  k_InvalidSet : ∀ i < 27, PySem.W.kitOne K (.ref (He.ga K (nmE i))) (.ref (He.ga K "InvalidSet")) = some ((fun i => decide (i = 7)) i)
  k_InvalidIndex : ∀ i < 27, PySem.W.kitOne K (.ref (He.ga K (nmE i))) (.ref (He.ga K "InvalidIndex")) = some ((fun i => decide (i = 8)) i)
  k_NotASystem : ∀ i < 27, PySem.W.kitOne K (.ref (He.ga K (nmE i))) (.ref (He.ga K "NotASystem")) = some ((fun i => decide (i = 9)) i)
  k_InvalidGates : ∀ i < 27, PySem.W.kitOne K (.ref (He.ga K (nmE i))) (.ref (He.ga K "InvalidGates")) = some ((fun i => decide (i = 10)) i)
  k_InvalidKinds : ∀ i < 27, PySem.W.kitOne K (.ref (He.ga K (nmE i))) (.ref (He.ga K "InvalidKinds")) = some ((fun i => decide (i = 11)) i)
  k_InvalidRows : ∀ i < 27, PySem.W.kitOne K (.ref (He.ga K (nmE i))) (.ref (He.ga K "InvalidRows")) = some ((fun i => decide (i = 12)) i)
  k_InvalidMembers : ∀ i < 27, PySem.W.kitOne K (.ref (He.ga K (nmE i))) (.ref (He.ga K "InvalidMembers")) = some ((fun i => decide (i = 13)) i)
  k_InvalidNumbers : ∀ i < 27, PySem.W.kitOne K (.ref (He.ga K (nmE i))) (.ref (He.ga K "InvalidNumbers")) = some ((fun i => decide (i = 14)) i)
  k_InvalidRun : ∀ i < 27, PySem.W.kitOne K (.ref (He.ga K (nmE i))) (.ref (He.ga K "InvalidRun")) = some ((fun i => decide (i = 15)) i)
  k_InvalidThings : ∀ i < 27, PySem.W.kitOne K (.ref (He.ga K (nmE i))) (.ref (He.ga K "InvalidThings")) = some ((fun i => decide (i = 16)) i)
  k_InvalidChanges : ∀ i < 27, PySem.W.kitOne K (.ref (He.ga K (nmE i))) (.ref (He.ga K "InvalidChanges")) = some ((fun i => decide (i = 17)) i)
  k_UnknownName : ∀ i < 27, PySem.W.kitOne K (.ref (He.ga K (nmE i))) (.ref (He.ga K "UnknownName")) = some ((fun i => decide (i = 18)) i)
  k_UnknownHand : ∀ i < 27, PySem.W.kitOne K (.ref (He.ga K (nmE i))) (.ref (He.ga K "UnknownHand")) = some ((fun i => decide (i = 19)) i)
  k_InUse : ∀ i < 27, PySem.W.kitOne K (.ref (He.ga K (nmE i))) (.ref (He.ga K "InUse")) = some ((fun i => decide (i = 20)) i)
  k_TooMany : ∀ i < 27, PySem.W.kitOne K (.ref (He.ga K (nmE i))) (.ref (He.ga K "TooMany")) = some ((fun i => decide (i = 21)) i)
  k_Alone : ∀ i < 27, PySem.W.kitOne K (.ref (He.ga K (nmE i))) (.ref (He.ga K "Alone")) = some ((fun i => decide (i = 22)) i)
  k_Waits : ∀ i < 27, PySem.W.kitOne K (.ref (He.ga K (nmE i))) (.ref (He.ga K "Waits")) = some ((fun i => decide (i = 23)) i)
  k_Ended : ∀ i < 27, PySem.W.kitOne K (.ref (He.ga K (nmE i))) (.ref (He.ga K "Ended")) = some ((fun i => decide (i = 24)) i)
  k_NothingToUndo : ∀ i < 27, PySem.W.kitOne K (.ref (He.ga K (nmE i))) (.ref (He.ga K "NothingToUndo")) = some ((fun i => decide (i = 25)) i)
  k_Broken : ∀ i < 27, PySem.W.kitOne K (.ref (He.ga K (nmE i))) (.ref (He.ga K "Broken")) = some ((fun i => decide (i = 26)) i)
  k_WrongValue : ∀ i < 27, PySem.W.kitOne K (.ref (He.ga K (nmE i))) (.ref (He.ga K "WrongValue")) = some ((fun i => decide (i < 18)) i)
  k_WrongName : ∀ i < 27, PySem.W.kitOne K (.ref (He.ga K (nmE i))) (.ref (He.ga K "WrongName")) = some ((fun i => decide (17 < i) && decide (i < 21)) i)
  k_NoAnswer : ∀ i < 27, PySem.W.kitOne K (.ref (He.ga K (nmE i))) (.ref (He.ga K "NoAnswer")) = some ((fun i => decide (20 < i)) i)
  k_ArithmeticError : ∀ i < 27, PySem.W.kitOne K (.ref (He.ga K (nmE i))) (.type "ArithmeticError") = some ((fun i => decide (20 < i)) i)
  k_LookupError : ∀ i < 27, PySem.W.kitOne K (.ref (He.ga K (nmE i))) (.type "LookupError") = some ((fun i => decide (17 < i) && decide (i < 21)) i)
  k_ValueError : ∀ i < 27, PySem.W.kitOne K (.ref (He.ga K (nmE i))) (.type "ValueError") = some ((fun i => decide (i < 18)) i)
  xm_all : ∀ i < 27, PySem.W.exmAny K (.ref (He.ga K (nmE i))) [.ref (He.ga K "WrongValue"), .ref (He.ga K "WrongName"), .ref (He.ga K "NoAnswer")] = some true
  sm : (K.lookup sysModules).isSome = true
  kt_Row___init___goals : ∀ H, SqT K H (kwdAt ("Row", some "__init__") "goals" K) []
  kt_Kind___init___members : ∀ H, SqT K H (kwdAt ("Kind", some "__init__") "members" K) []
  p_Gate_name : ∀ (P : Program) (w : World) (base : Heap), GetP P w K mg base 1 (He.ga K "Gate") "name" "called"
  p_Gate_within : ∀ (P : Program) (w : World) (base : Heap), GetP P w K mg base 1 (He.ga K "Gate") "within" "outer"
  p_Kind_name : ∀ (P : Program) (w : World) (base : Heap), GetP P w K mg base 1 (He.ga K "Kind") "name" "called"
  p_Kind_rows : ∀ (P : Program) (w : World) (base : Heap), GetP P w K mg base 1 (He.ga K "Kind") "rows" "texts"
  p_Kind_many : ∀ (P : Program) (w : World) (base : Heap), GetP P w K mg base 1 (He.ga K "Kind") "many" "any_number"
  p_Kind_members : ∀ (P : Program) (w : World) (base : Heap), GetP P w K mg base 1 (He.ga K "Kind") "members" "begun"
  p_System_gates : ∀ (P : Program) (w : World) (base : Heap), GetP P w K mg base 1 (He.ga K "System") "gates" "all_gates"
  p_System_kinds : ∀ (P : Program) (w : World) (base : Heap), GetP P w K mg base 1 (He.ga K "System") "kinds" "all_kinds"
  p_System_labels : ∀ (P : Program) (w : World) (base : Heap), GetP P w K mg base 1 (He.ga K "System") "labels" "all_labels"
  d__wall : ∃ fd, FunD K d__wall.name d__wall.qual d__wall.params d__wall.body d__wall.scope (d__wall.dvs K) (d__wall.kws K) (He.fAd K d__wall.at_) fd
  d_InvalidName___init__ : ∃ fd, FunD K d_InvalidName___init__.name d_InvalidName___init__.qual d_InvalidName___init__.params d_InvalidName___init__.body d_InvalidName___init__.scope (d_InvalidName___init__.dvs K) (d_InvalidName___init__.kws K) (He.fAd K d_InvalidName___init__.at_) fd
  d_InvalidText___init__ : ∃ fd, FunD K d_InvalidText___init__.name d_InvalidText___init__.qual d_InvalidText___init__.params d_InvalidText___init__.body d_InvalidText___init__.scope (d_InvalidText___init__.dvs K) (d_InvalidText___init__.kws K) (He.fAd K d_InvalidText___init__.at_) fd
  d_InvalidFlag___init__ : ∃ fd, FunD K d_InvalidFlag___init__.name d_InvalidFlag___init__.qual d_InvalidFlag___init__.params d_InvalidFlag___init__.body d_InvalidFlag___init__.scope (d_InvalidFlag___init__.dvs K) (d_InvalidFlag___init__.kws K) (He.fAd K d_InvalidFlag___init__.at_) fd
  d_InvalidNumber___init__ : ∃ fd, FunD K d_InvalidNumber___init__.name d_InvalidNumber___init__.qual d_InvalidNumber___init__.params d_InvalidNumber___init__.body d_InvalidNumber___init__.scope (d_InvalidNumber___init__.dvs K) (d_InvalidNumber___init__.kws K) (He.fAd K d_InvalidNumber___init__.at_) fd
  d_InvalidThing___init__ : ∃ fd, FunD K d_InvalidThing___init__.name d_InvalidThing___init__.qual d_InvalidThing___init__.params d_InvalidThing___init__.body d_InvalidThing___init__.scope (d_InvalidThing___init__.dvs K) (d_InvalidThing___init__.kws K) (He.fAd K d_InvalidThing___init__.at_) fd
  d_InvalidChoice___init__ : ∃ fd, FunD K d_InvalidChoice___init__.name d_InvalidChoice___init__.qual d_InvalidChoice___init__.params d_InvalidChoice___init__.body d_InvalidChoice___init__.scope (d_InvalidChoice___init__.dvs K) (d_InvalidChoice___init__.kws K) (He.fAd K d_InvalidChoice___init__.at_) fd
  d_InvalidWish___init__ : ∃ fd, FunD K d_InvalidWish___init__.name d_InvalidWish___init__.qual d_InvalidWish___init__.params d_InvalidWish___init__.body d_InvalidWish___init__.scope (d_InvalidWish___init__.dvs K) (d_InvalidWish___init__.kws K) (He.fAd K d_InvalidWish___init__.at_) fd
  d_InvalidSet___init__ : ∃ fd, FunD K d_InvalidSet___init__.name d_InvalidSet___init__.qual d_InvalidSet___init__.params d_InvalidSet___init__.body d_InvalidSet___init__.scope (d_InvalidSet___init__.dvs K) (d_InvalidSet___init__.kws K) (He.fAd K d_InvalidSet___init__.at_) fd
  d_InvalidIndex___init__ : ∃ fd, FunD K d_InvalidIndex___init__.name d_InvalidIndex___init__.qual d_InvalidIndex___init__.params d_InvalidIndex___init__.body d_InvalidIndex___init__.scope (d_InvalidIndex___init__.dvs K) (d_InvalidIndex___init__.kws K) (He.fAd K d_InvalidIndex___init__.at_) fd
  d_NotASystem___init__ : ∃ fd, FunD K d_NotASystem___init__.name d_NotASystem___init__.qual d_NotASystem___init__.params d_NotASystem___init__.body d_NotASystem___init__.scope (d_NotASystem___init__.dvs K) (d_NotASystem___init__.kws K) (He.fAd K d_NotASystem___init__.at_) fd
  d_InvalidGates___init__ : ∃ fd, FunD K d_InvalidGates___init__.name d_InvalidGates___init__.qual d_InvalidGates___init__.params d_InvalidGates___init__.body d_InvalidGates___init__.scope (d_InvalidGates___init__.dvs K) (d_InvalidGates___init__.kws K) (He.fAd K d_InvalidGates___init__.at_) fd
  d_InvalidKinds___init__ : ∃ fd, FunD K d_InvalidKinds___init__.name d_InvalidKinds___init__.qual d_InvalidKinds___init__.params d_InvalidKinds___init__.body d_InvalidKinds___init__.scope (d_InvalidKinds___init__.dvs K) (d_InvalidKinds___init__.kws K) (He.fAd K d_InvalidKinds___init__.at_) fd
  d_InvalidRows___init__ : ∃ fd, FunD K d_InvalidRows___init__.name d_InvalidRows___init__.qual d_InvalidRows___init__.params d_InvalidRows___init__.body d_InvalidRows___init__.scope (d_InvalidRows___init__.dvs K) (d_InvalidRows___init__.kws K) (He.fAd K d_InvalidRows___init__.at_) fd
  d_InvalidMembers___init__ : ∃ fd, FunD K d_InvalidMembers___init__.name d_InvalidMembers___init__.qual d_InvalidMembers___init__.params d_InvalidMembers___init__.body d_InvalidMembers___init__.scope (d_InvalidMembers___init__.dvs K) (d_InvalidMembers___init__.kws K) (He.fAd K d_InvalidMembers___init__.at_) fd
  d_InvalidNumbers___init__ : ∃ fd, FunD K d_InvalidNumbers___init__.name d_InvalidNumbers___init__.qual d_InvalidNumbers___init__.params d_InvalidNumbers___init__.body d_InvalidNumbers___init__.scope (d_InvalidNumbers___init__.dvs K) (d_InvalidNumbers___init__.kws K) (He.fAd K d_InvalidNumbers___init__.at_) fd
  d_InvalidRun___init__ : ∃ fd, FunD K d_InvalidRun___init__.name d_InvalidRun___init__.qual d_InvalidRun___init__.params d_InvalidRun___init__.body d_InvalidRun___init__.scope (d_InvalidRun___init__.dvs K) (d_InvalidRun___init__.kws K) (He.fAd K d_InvalidRun___init__.at_) fd
  d_InvalidThings___init__ : ∃ fd, FunD K d_InvalidThings___init__.name d_InvalidThings___init__.qual d_InvalidThings___init__.params d_InvalidThings___init__.body d_InvalidThings___init__.scope (d_InvalidThings___init__.dvs K) (d_InvalidThings___init__.kws K) (He.fAd K d_InvalidThings___init__.at_) fd
  d_InvalidChanges___init__ : ∃ fd, FunD K d_InvalidChanges___init__.name d_InvalidChanges___init__.qual d_InvalidChanges___init__.params d_InvalidChanges___init__.body d_InvalidChanges___init__.scope (d_InvalidChanges___init__.dvs K) (d_InvalidChanges___init__.kws K) (He.fAd K d_InvalidChanges___init__.at_) fd
  d_UnknownName___init__ : ∃ fd, FunD K d_UnknownName___init__.name d_UnknownName___init__.qual d_UnknownName___init__.params d_UnknownName___init__.body d_UnknownName___init__.scope (d_UnknownName___init__.dvs K) (d_UnknownName___init__.kws K) (He.fAd K d_UnknownName___init__.at_) fd
  d_UnknownHand___init__ : ∃ fd, FunD K d_UnknownHand___init__.name d_UnknownHand___init__.qual d_UnknownHand___init__.params d_UnknownHand___init__.body d_UnknownHand___init__.scope (d_UnknownHand___init__.dvs K) (d_UnknownHand___init__.kws K) (He.fAd K d_UnknownHand___init__.at_) fd
  d_InUse___init__ : ∃ fd, FunD K d_InUse___init__.name d_InUse___init__.qual d_InUse___init__.params d_InUse___init__.body d_InUse___init__.scope (d_InUse___init__.dvs K) (d_InUse___init__.kws K) (He.fAd K d_InUse___init__.at_) fd
  d_TooMany___init__ : ∃ fd, FunD K d_TooMany___init__.name d_TooMany___init__.qual d_TooMany___init__.params d_TooMany___init__.body d_TooMany___init__.scope (d_TooMany___init__.dvs K) (d_TooMany___init__.kws K) (He.fAd K d_TooMany___init__.at_) fd
  d_Alone___init__ : ∃ fd, FunD K d_Alone___init__.name d_Alone___init__.qual d_Alone___init__.params d_Alone___init__.body d_Alone___init__.scope (d_Alone___init__.dvs K) (d_Alone___init__.kws K) (He.fAd K d_Alone___init__.at_) fd
  d_Waits___init__ : ∃ fd, FunD K d_Waits___init__.name d_Waits___init__.qual d_Waits___init__.params d_Waits___init__.body d_Waits___init__.scope (d_Waits___init__.dvs K) (d_Waits___init__.kws K) (He.fAd K d_Waits___init__.at_) fd
  d_Ended___init__ : ∃ fd, FunD K d_Ended___init__.name d_Ended___init__.qual d_Ended___init__.params d_Ended___init__.body d_Ended___init__.scope (d_Ended___init__.dvs K) (d_Ended___init__.kws K) (He.fAd K d_Ended___init__.at_) fd
  d_Broken___init__ : ∃ fd, FunD K d_Broken___init__.name d_Broken___init__.qual d_Broken___init__.params d_Broken___init__.body d_Broken___init__.scope (d_Broken___init__.dvs K) (d_Broken___init__.kws K) (He.fAd K d_Broken___init__.at_) fd
  d_is_name : ∃ fd, FunD K d_is_name.name d_is_name.qual d_is_name.params d_is_name.body d_is_name.scope (d_is_name.dvs K) (d_is_name.kws K) (He.fAd K d_is_name.at_) fd
  d_Row___init__ : ∃ fd, FunD K d_Row___init__.name d_Row___init__.qual d_Row___init__.params d_Row___init__.body d_Row___init__.scope (d_Row___init__.dvs K) (d_Row___init__.kws K) (He.fAd K d_Row___init__.at_) fd
  d_digit_of : ∃ fd, FunD K d_digit_of.name d_digit_of.qual d_digit_of.params d_digit_of.body d_digit_of.scope (d_digit_of.dvs K) (d_digit_of.kws K) (He.fAd K d_digit_of.at_) fd
  d_row_of_words : ∃ fd, FunD K d_row_of_words.name d_row_of_words.qual d_row_of_words.params d_row_of_words.body d_row_of_words.scope (d_row_of_words.dvs K) (d_row_of_words.kws K) (He.fAd K d_row_of_words.at_) fd
  d_has_right_parts : ∃ fd, FunD K d_has_right_parts.name d_has_right_parts.qual d_has_right_parts.params d_has_right_parts.body d_has_right_parts.scope (d_has_right_parts.dvs K) (d_has_right_parts.kws K) (He.fAd K d_has_right_parts.at_) fd
  d_parsed_row : ∃ fd, FunD K d_parsed_row.name d_parsed_row.qual d_parsed_row.params d_parsed_row.body d_parsed_row.scope (d_parsed_row.dvs K) (d_parsed_row.kws K) (He.fAd K d_parsed_row.at_) fd
  d_leads_within : ∃ fd, FunD K d_leads_within.name d_leads_within.qual d_leads_within.params d_leads_within.body d_leads_within.scope (d_leads_within.dvs K) (d_leads_within.kws K) (He.fAd K d_leads_within.at_) fd
  d_Gate___init__ : ∃ fd, FunD K d_Gate___init__.name d_Gate___init__.qual d_Gate___init__.params d_Gate___init__.body d_Gate___init__.scope (d_Gate___init__.dvs K) (d_Gate___init__.kws K) (He.fAd K d_Gate___init__.at_) fd
  d_Gate___eq__ : ∃ fd, FunD K d_Gate___eq__.name d_Gate___eq__.qual d_Gate___eq__.params d_Gate___eq__.body d_Gate___eq__.scope (d_Gate___eq__.dvs K) (d_Gate___eq__.kws K) (He.fAd K d_Gate___eq__.at_) fd
  d_Kind___init__ : ∃ fd, FunD K d_Kind___init__.name d_Kind___init__.qual d_Kind___init__.params d_Kind___init__.body d_Kind___init__.scope (d_Kind___init__.dvs K) (d_Kind___init__.kws K) (He.fAd K d_Kind___init__.at_) fd
  d_Kind___eq__ : ∃ fd, FunD K d_Kind___eq__.name d_Kind___eq__.qual d_Kind___eq__.params d_Kind___eq__.body d_Kind___eq__.scope (d_Kind___eq__.dvs K) (d_Kind___eq__.kws K) (He.fAd K d_Kind___eq__.at_) fd
  d_Kind___len__ : ∃ fd, FunD K d_Kind___len__.name d_Kind___len__.qual d_Kind___len__.params d_Kind___len__.body d_Kind___len__.scope (d_Kind___len__.dvs K) (d_Kind___len__.kws K) (He.fAd K d_Kind___len__.at_) fd
  d_System___init__ : ∃ fd, FunD K d_System___init__.name d_System___init__.qual d_System___init__.params d_System___init__.body d_System___init__.scope (d_System___init__.dvs K) (d_System___init__.kws K) (He.fAd K d_System___init__.at_) fd
  d_System_kind : ∃ fd, FunD K d_System_kind.name d_System_kind.qual d_System_kind.params d_System_kind.body d_System_kind.scope (d_System_kind.dvs K) (d_System_kind.kws K) (He.fAd K d_System_kind.at_) fd
  d_System_changed : ∃ fd, FunD K d_System_changed.name d_System_changed.qual d_System_changed.params d_System_changed.body d_System_changed.scope (d_System_changed.dvs K) (d_System_changed.kws K) (He.fAd K d_System_changed.at_) fd
  d_System_rows_of : ∃ fd, FunD K d_System_rows_of.name d_System_rows_of.qual d_System_rows_of.params d_System_rows_of.body d_System_rows_of.scope (d_System_rows_of.dvs K) (d_System_rows_of.kws K) (He.fAd K d_System_rows_of.at_) fd
  d_System_place_of : ∃ fd, FunD K d_System_place_of.name d_System_place_of.qual d_System_place_of.params d_System_place_of.body d_System_place_of.scope (d_System_place_of.dvs K) (d_System_place_of.kws K) (He.fAd K d_System_place_of.at_) fd
  d_System_tree_of : ∃ fd, FunD K d_System_tree_of.name d_System_tree_of.qual d_System_tree_of.params d_System_tree_of.body d_System_tree_of.scope (d_System_tree_of.dvs K) (d_System_tree_of.kws K) (He.fAd K d_System_tree_of.at_) fd
  d_System___eq__ : ∃ fd, FunD K d_System___eq__.name d_System___eq__.qual d_System___eq__.params d_System___eq__.body d_System___eq__.scope (d_System___eq__.dvs K) (d_System___eq__.kws K) (He.fAd K d_System___eq__.at_) fd
  d_System___str__ : ∃ fd, FunD K d_System___str__.name d_System___str__.qual d_System___str__.params d_System___str__.body d_System___str__.scope (d_System___str__.dvs K) (d_System___str__.kws K) (He.fAd K d_System___str__.at_) fd
  d_System___repr__ : ∃ fd, FunD K d_System___repr__.name d_System___repr__.qual d_System___repr__.params d_System___repr__.body d_System___repr__.scope (d_System___repr__.dvs K) (d_System___repr__.kws K) (He.fAd K d_System___repr__.at_) fd
  d_System___len__ : ∃ fd, FunD K d_System___len__.name d_System___len__.qual d_System___len__.params d_System___len__.body d_System___len__.scope (d_System___len__.dvs K) (d_System___len__.kws K) (He.fAd K d_System___len__.at_) fd
  d_parsed_rows : ∃ fd, FunD K d_parsed_rows.name d_parsed_rows.qual d_parsed_rows.params d_parsed_rows.body d_parsed_rows.scope (d_parsed_rows.dvs K) (d_parsed_rows.kws K) (He.fAd K d_parsed_rows.at_) fd
  d_check_members : ∃ fd, FunD K d_check_members.name d_check_members.qual d_check_members.params d_check_members.body d_check_members.scope (d_check_members.dvs K) (d_check_members.kws K) (He.fAd K d_check_members.at_) fd
  d_check_gates : ∃ fd, FunD K d_check_gates.name d_check_gates.qual d_check_gates.params d_check_gates.body d_check_gates.scope (d_check_gates.dvs K) (d_check_gates.kws K) (He.fAd K d_check_gates.at_) fd
  d_gates_named : ∃ fd, FunD K d_gates_named.name d_gates_named.qual d_gates_named.params d_gates_named.body d_gates_named.scope (d_gates_named.dvs K) (d_gates_named.kws K) (He.fAd K d_gates_named.at_) fd
  d_check_kinds : ∃ fd, FunD K d_check_kinds.name d_check_kinds.qual d_check_kinds.params d_check_kinds.body d_check_kinds.scope (d_check_kinds.dvs K) (d_check_kinds.kws K) (He.fAd K d_check_kinds.at_) fd
  d_roots_of : ∃ fd, FunD K d_roots_of.name d_roots_of.qual d_roots_of.params d_roots_of.body d_roots_of.scope (d_roots_of.dvs K) (d_roots_of.kws K) (He.fAd K d_roots_of.at_) fd
  d_head_of : ∃ fd, FunD K d_head_of.name d_head_of.qual d_head_of.params d_head_of.body d_head_of.scope (d_head_of.dvs K) (d_head_of.kws K) (He.fAd K d_head_of.at_) fd
  d_text_of : ∃ fd, FunD K d_text_of.name d_text_of.qual d_text_of.params d_text_of.body d_text_of.scope (d_text_of.dvs K) (d_text_of.kws K) (He.fAd K d_text_of.at_) fd
  d_gate_of : ∃ fd, FunD K d_gate_of.name d_gate_of.qual d_gate_of.params d_gate_of.body d_gate_of.scope (d_gate_of.dvs K) (d_gate_of.kws K) (He.fAd K d_gate_of.at_) fd
  d_kind_of : ∃ fd, FunD K d_kind_of.name d_kind_of.qual d_kind_of.params d_kind_of.body d_kind_of.scope (d_kind_of.dvs K) (d_kind_of.kws K) (He.fAd K d_kind_of.at_) fd
  d_parts_of : ∃ fd, FunD K d_parts_of.name d_parts_of.qual d_parts_of.params d_parts_of.body d_parts_of.scope (d_parts_of.dvs K) (d_parts_of.kws K) (He.fAd K d_parts_of.at_) fd
  d_check_kind : ∃ fd, FunD K d_check_kind.name d_check_kind.qual d_check_kind.params d_check_kind.body d_check_kind.scope (d_check_kind.dvs K) (d_check_kind.kws K) (He.fAd K d_check_kind.at_) fd
  d__law_pool : ∃ fd, FunD K d__law_pool.name d__law_pool.qual d__law_pool.params d__law_pool.body d__law_pool.scope (d__law_pool.dvs K) (d__law_pool.kws K) (He.fAd K d__law_pool.at_) fd
  d__law_draw : ∃ fd, FunD K d__law_draw.name d__law_draw.qual d__law_draw.params d__law_draw.body d__law_draw.scope (d__law_draw.dvs K) (d__law_draw.kws K) (He.fAd K d__law_draw.at_) fd
  d__law_words : ∃ fd, FunD K d__law_words.name d__law_words.qual d__law_words.params d__law_words.body d__law_words.scope (d__law_words.dvs K) (d__law_words.kws K) (He.fAd K d__law_words.at_) fd
  d__law_place : ∃ fd, FunD K d__law_place.name d__law_place.qual d__law_place.params d__law_place.body d__law_place.scope (d__law_place.dvs K) (d__law_place.kws K) (He.fAd K d__law_place.at_) fd
  d__law_kept : ∃ fd, FunD K d__law_kept.name d__law_kept.qual d__law_kept.params d__law_kept.body d__law_kept.scope (d__law_kept.dvs K) (d__law_kept.kws K) (He.fAd K d__law_kept.at_) fd
  d__law_caught : ∃ fd, FunD K d__law_caught.name d__law_caught.qual d__law_caught.params d__law_caught.body d__law_caught.scope (d__law_caught.dvs K) (d__law_caught.kws K) (He.fAd K d__law_caught.at_) fd
  d__law_tag : ∃ fd, FunD K d__law_tag.name d__law_tag.qual d__law_tag.params d__law_tag.body d__law_tag.scope (d__law_tag.dvs K) (d__law_tag.kws K) (He.fAd K d__law_tag.at_) fd
  d__law_new : ∃ fd, FunD K d__law_new.name d__law_new.qual d__law_new.params d__law_new.body d__law_new.scope (d__law_new.dvs K) (d__law_new.kws K) (He.fAd K d__law_new.at_) fd
  d__law_line : ∃ fd, FunD K d__law_line.name d__law_line.qual d__law_line.params d__law_line.body d__law_line.scope (d__law_line.dvs K) (d__law_line.kws K) (He.fAd K d__law_line.at_) fd
  d__law_lines : ∃ fd, FunD K d__law_lines.name d__law_lines.qual d__law_lines.params d__law_lines.body d__law_lines.scope (d__law_lines.dvs K) (d__law_lines.kws K) (He.fAd K d__law_lines.at_) fd
  d__law_forest : ∃ fd, FunD K d__law_forest.name d__law_forest.qual d__law_forest.params d__law_forest.body d__law_forest.scope (d__law_forest.dvs K) (d__law_forest.kws K) (He.fAd K d__law_forest.at_) fd
  d__law_sorts : ∃ fd, FunD K d__law_sorts.name d__law_sorts.qual d__law_sorts.params d__law_sorts.body d__law_sorts.scope (d__law_sorts.dvs K) (d__law_sorts.kws K) (He.fAd K d__law_sorts.at_) fd
  d__law_page : ∃ fd, FunD K d__law_page.name d__law_page.qual d__law_page.params d__law_page.body d__law_page.scope (d__law_page.dvs K) (d__law_page.kws K) (He.fAd K d__law_page.at_) fd
  d__law_marks : ∃ fd, FunD K d__law_marks.name d__law_marks.qual d__law_marks.params d__law_marks.body d__law_marks.scope (d__law_marks.dvs K) (d__law_marks.kws K) (He.fAd K d__law_marks.at_) fd
  d__law_built : ∃ fd, FunD K d__law_built.name d__law_built.qual d__law_built.params d__law_built.body d__law_built.scope (d__law_built.dvs K) (d__law_built.kws K) (He.fAd K d__law_built.at_) fd
  d__law_is : ∃ fd, FunD K d__law_is.name d__law_is.qual d__law_is.params d__law_is.body d__law_is.scope (d__law_is.dvs K) (d__law_is.kws K) (He.fAd K d__law_is.at_) fd
  d__law_due : ∃ fd, FunD K d__law_due.name d__law_due.qual d__law_due.params d__law_due.body d__law_due.scope (d__law_due.dvs K) (d__law_due.kws K) (He.fAd K d__law_due.at_) fd
  d__law_shown : ∃ fd, FunD K d__law_shown.name d__law_shown.qual d__law_shown.params d__law_shown.body d__law_shown.scope (d__law_shown.dvs K) (d__law_shown.kws K) (He.fAd K d__law_shown.at_) fd
  d__law_asked : ∃ fd, FunD K d__law_asked.name d__law_asked.qual d__law_asked.params d__law_asked.body d__law_asked.scope (d__law_asked.dvs K) (d__law_asked.kws K) (He.fAd K d__law_asked.at_) fd
  d__law_right : ∃ fd, FunD K d__law_right.name d__law_right.qual d__law_right.params d__law_right.body d__law_right.scope (d__law_right.dvs K) (d__law_right.kws K) (He.fAd K d__law_right.at_) fd
  d_law : ∃ fd, FunD K d_law.name d_law.qual d_law.params d_law.body d_law.scope (d_law.dvs K) (d_law.kws K) (He.fAd K d_law.at_) fd
def fa : List He.Fa := [.free "isinstance", .free "str", .free "len", .free "all", .free "int", .free "tuple", .free "range", .free "enumerate", .free "sorted", .free "sum", .free "abs", .free "divmod", .free "ValueError", .free "LookupError", .free "ArithmeticError", .free "repr", .free "list", .free "max", .free "min", .int "MOST_GATES" 3, .int "MOST_KINDS" 4, .int "MOST_ROWS" 10, .int "MOST_VALUE" 3, .int "LONGEST_NAME" 8, .str "LETTERS" "abcdefghijklmnopqrstuvwxyz", .str "SIGNS" "abcdefghijklmnopqrstuvwxyz0123456789", .str "DIGITS" "0123456789", .int "MOST_GOALS" 4, .glo "WrongValue", .glo "InvalidName", .glo "InvalidText", .glo "InvalidFlag", .glo "InvalidNumber", .glo "InvalidThing", .glo "InvalidChoice", .glo "InvalidWish", .glo "InvalidSet", .glo "InvalidIndex", .glo "NotASystem", .glo "InvalidGates", .glo "InvalidKinds", .glo "InvalidRows", .glo "InvalidMembers", .glo "InvalidNumbers", .glo "InvalidRun", .glo "InvalidThings", .glo "InvalidChanges", .glo "WrongName", .glo "UnknownName", .glo "UnknownHand", .glo "InUse", .glo "NoAnswer", .glo "TooMany", .glo "Alone", .glo "Waits", .glo "Ended", .glo "NothingToUndo", .glo "Broken", .glo "Row", .cls "Row", .noat "Row" "goal", .noat "Row" "text", .noat "Row" "label", .noat "Row" "word", .noat "Row" "gate", .noat "Row" "value", .noat "Row" "goals", .mkr "Row", .glo "Gate", .cls "Gate", .noat "Gate" "called", .noat "Gate" "outer", .mkr "Gate", .glo "Kind", .cls "Kind", .noat "Kind" "called", .noat "Kind" "texts", .noat "Kind" "parsed", .noat "Kind" "any_number", .noat "Kind" "begun", .mkr "Kind", .glo "System", .cls "System", .noat "System" "places", .noat "System" "programs", .noat "System" "all_labels", .noat "System" "trees", .noat "System" "all_gates", .noat "System" "all_kinds", .noat "System" "written", .mkr "System", .glo "_wall", .glo "is_name", .glo "digit_of", .glo "row_of_words", .glo "has_right_parts", .glo "parsed_row", .glo "leads_within", .glo "parsed_rows", .glo "check_members", .glo "check_gates", .glo "gates_named", .glo "check_kinds", .glo "roots_of", .glo "head_of", .glo "text_of", .glo "gate_of", .glo "kind_of", .glo "parts_of", .glo "check_kind", .glo "_law_pool", .glo "_law_draw", .glo "_law_words", .glo "_law_place", .glo "_law_kept", .glo "_law_caught", .glo "_law_tag", .glo "_law_new", .glo "_law_line", .glo "_law_lines", .glo "_law_forest", .glo "_law_sorts", .glo "_law_page", .glo "_law_marks", .glo "_law_built", .glo "_law_is", .glo "_law_due", .glo "_law_shown", .glo "_law_asked", .glo "_law_right", .glo "law"]
def fn : List He.DefD := [d__wall, d_InvalidName___init__, d_InvalidText___init__, d_InvalidFlag___init__, d_InvalidNumber___init__, d_InvalidThing___init__, d_InvalidChoice___init__, d_InvalidWish___init__, d_InvalidSet___init__, d_InvalidIndex___init__, d_NotASystem___init__, d_InvalidGates___init__, d_InvalidKinds___init__, d_InvalidRows___init__, d_InvalidMembers___init__, d_InvalidNumbers___init__, d_InvalidRun___init__, d_InvalidThings___init__, d_InvalidChanges___init__, d_UnknownName___init__, d_UnknownHand___init__, d_InUse___init__, d_TooMany___init__, d_Alone___init__, d_Waits___init__, d_Ended___init__, d_Broken___init__, d_is_name, d_Row___init__, d_digit_of, d_row_of_words, d_has_right_parts, d_parsed_row, d_leads_within, d_Gate___init__, d_Gate___eq__, d_Kind___init__, d_Kind___eq__, d_Kind___len__, d_System___init__, d_System_kind, d_System_changed, d_System_rows_of, d_System_place_of, d_System_tree_of, d_System___eq__, d_System___str__, d_System___repr__, d_System___len__, d_parsed_rows, d_check_members, d_check_gates, d_gates_named, d_check_kinds, d_roots_of, d_head_of, d_text_of, d_gate_of, d_kind_of, d_parts_of, d_check_kind, d__law_pool, d__law_draw, d__law_words, d__law_place, d__law_kept, d__law_caught, d__law_tag, d__law_new, d__law_line, d__law_lines, d__law_forest, d__law_sorts, d__law_page, d__law_marks, d__law_built, d__law_is, d__law_due, d__law_shown, d__law_asked, d__law_right, d_law]
def exs : List (PySem.W.Frag → Bool) := [clsIB "Row", noB "Row" "__bool__", noB "Row" "__len__", clsJB "Row" "Gate", clsJB "Row" "Kind", clsJB "Row" "System", clsIB "Gate", eqCB "Gate", noB "Gate" "__bool__", noB "Gate" "__len__", clsJB "Gate" "Row", clsJB "Gate" "Kind", clsJB "Gate" "System", clsIB "Kind", eqCB "Kind", noB "Kind" "__bool__", lenB "Kind", clsJB "Kind" "Row", clsJB "Kind" "Gate", clsJB "Kind" "System", clsIB "System", eqCB "System", noB "System" "__bool__", lenB "System", mthB "System" "__str__", mthB "System" "__repr__", mthB "System" "kind", mthB "System" "changed", mthB "System" "rows_of", mthB "System" "place_of", mthB "System" "tree_of", clsJB "System" "Row", clsJB "System" "Gate", clsJB "System" "Kind", erB "InvalidName" "ValueError.__new__" (tlE "ValueError"), (fun K => decide (PySem.W.typeIn K (.ref (He.ga K "InvalidName")) = some (.type "type"))), mthB "InvalidName" "__init__", noB "InvalidName" "given", erB "InvalidText" "ValueError.__new__" (tlE "ValueError"), (fun K => decide (PySem.W.typeIn K (.ref (He.ga K "InvalidText")) = some (.type "type"))), mthB "InvalidText" "__init__", noB "InvalidText" "given", erB "InvalidFlag" "ValueError.__new__" (tlE "ValueError"), (fun K => decide (PySem.W.typeIn K (.ref (He.ga K "InvalidFlag")) = some (.type "type"))), mthB "InvalidFlag" "__init__", noB "InvalidFlag" "given", erB "InvalidNumber" "ValueError.__new__" (tlE "ValueError"), (fun K => decide (PySem.W.typeIn K (.ref (He.ga K "InvalidNumber")) = some (.type "type"))), mthB "InvalidNumber" "__init__", noB "InvalidNumber" "given", erB "InvalidThing" "ValueError.__new__" (tlE "ValueError"), (fun K => decide (PySem.W.typeIn K (.ref (He.ga K "InvalidThing")) = some (.type "type"))), mthB "InvalidThing" "__init__", noB "InvalidThing" "given", erB "InvalidChoice" "ValueError.__new__" (tlE "ValueError"), (fun K => decide (PySem.W.typeIn K (.ref (He.ga K "InvalidChoice")) = some (.type "type"))), mthB "InvalidChoice" "__init__", noB "InvalidChoice" "given", erB "InvalidWish" "ValueError.__new__" (tlE "ValueError"), (fun K => decide (PySem.W.typeIn K (.ref (He.ga K "InvalidWish")) = some (.type "type"))), mthB "InvalidWish" "__init__", noB "InvalidWish" "given", erB "InvalidSet" "ValueError.__new__" (tlE "ValueError"), (fun K => decide (PySem.W.typeIn K (.ref (He.ga K "InvalidSet")) = some (.type "type"))), mthB "InvalidSet" "__init__", noB "InvalidSet" "given", erB "InvalidIndex" "ValueError.__new__" (tlE "ValueError"), (fun K => decide (PySem.W.typeIn K (.ref (He.ga K "InvalidIndex")) = some (.type "type"))), mthB "InvalidIndex" "__init__", noB "InvalidIndex" "given", erB "NotASystem" "ValueError.__new__" (tlE "ValueError"), (fun K => decide (PySem.W.typeIn K (.ref (He.ga K "NotASystem")) = some (.type "type"))), mthB "NotASystem" "__init__", noB "NotASystem" "given", erB "InvalidGates" "ValueError.__new__" (tlE "ValueError"), (fun K => decide (PySem.W.typeIn K (.ref (He.ga K "InvalidGates")) = some (.type "type"))), mthB "InvalidGates" "__init__", noB "InvalidGates" "index", erB "InvalidKinds" "ValueError.__new__" (tlE "ValueError"), (fun K => decide (PySem.W.typeIn K (.ref (He.ga K "InvalidKinds")) = some (.type "type"))), mthB "InvalidKinds" "__init__", noB "InvalidKinds" "index", erB "InvalidRows" "ValueError.__new__" (tlE "ValueError"), (fun K => decide (PySem.W.typeIn K (.ref (He.ga K "InvalidRows")) = some (.type "type"))), mthB "InvalidRows" "__init__", noB "InvalidRows" "index", erB "InvalidMembers" "ValueError.__new__" (tlE "ValueError"), (fun K => decide (PySem.W.typeIn K (.ref (He.ga K "InvalidMembers")) = some (.type "type"))), mthB "InvalidMembers" "__init__", noB "InvalidMembers" "index", erB "InvalidNumbers" "ValueError.__new__" (tlE "ValueError"), (fun K => decide (PySem.W.typeIn K (.ref (He.ga K "InvalidNumbers")) = some (.type "type"))), mthB "InvalidNumbers" "__init__", noB "InvalidNumbers" "index", erB "InvalidRun" "ValueError.__new__" (tlE "ValueError"), (fun K => decide (PySem.W.typeIn K (.ref (He.ga K "InvalidRun")) = some (.type "type"))), mthB "InvalidRun" "__init__", noB "InvalidRun" "index", erB "InvalidThings" "ValueError.__new__" (tlE "ValueError"), (fun K => decide (PySem.W.typeIn K (.ref (He.ga K "InvalidThings")) = some (.type "type"))), mthB "InvalidThings" "__init__", noB "InvalidThings" "index", erB "InvalidChanges" "ValueError.__new__" (tlE "ValueError"), (fun K => decide (PySem.W.typeIn K (.ref (He.ga K "InvalidChanges")) = some (.type "type"))), mthB "InvalidChanges" "__init__", noB "InvalidChanges" "index", erB "UnknownName" "LookupError.__new__" (tlE "LookupError"), (fun K => decide (PySem.W.typeIn K (.ref (He.ga K "UnknownName")) = some (.type "type"))), mthB "UnknownName" "__init__", noB "UnknownName" "given", erB "UnknownHand" "LookupError.__new__" (tlE "LookupError"), (fun K => decide (PySem.W.typeIn K (.ref (He.ga K "UnknownHand")) = some (.type "type"))), mthB "UnknownHand" "__init__", noB "UnknownHand" "given", erB "InUse" "LookupError.__new__" (tlE "LookupError"), (fun K => decide (PySem.W.typeIn K (.ref (He.ga K "InUse")) = some (.type "type"))), mthB "InUse" "__init__", noB "InUse" "index", erB "TooMany" "ArithmeticError.__new__" (tlE "ArithmeticError"), (fun K => decide (PySem.W.typeIn K (.ref (He.ga K "TooMany")) = some (.type "type"))), mthB "TooMany" "__init__", noB "TooMany" "limit", erB "Alone" "ArithmeticError.__new__" (tlE "ArithmeticError"), (fun K => decide (PySem.W.typeIn K (.ref (He.ga K "Alone")) = some (.type "type"))), mthB "Alone" "__init__", noB "Alone" "given", erB "Waits" "ArithmeticError.__new__" (tlE "ArithmeticError"), (fun K => decide (PySem.W.typeIn K (.ref (He.ga K "Waits")) = some (.type "type"))), mthB "Waits" "__init__", noB "Waits" "hand", erB "Ended" "ArithmeticError.__new__" (tlE "ArithmeticError"), (fun K => decide (PySem.W.typeIn K (.ref (He.ga K "Ended")) = some (.type "type"))), mthB "Ended" "__init__", noB "Ended" "hand", er0B "NothingToUndo" "ArithmeticError", erB "Broken" "ArithmeticError.__new__" (tlE "ArithmeticError"), (fun K => decide (PySem.W.typeIn K (.ref (He.ga K "Broken")) = some (.type "type"))), mthB "Broken" "__init__", noB "Broken" "index", noB "Broken" "shown", (fun K => (List.range 27).all fun i => exB (nmE i) K), (fun K => (List.range 27).all fun i => !([0, 1, 2, 3, 4, 5, 6, 7, 8, 9, 18, 19, 22].contains i) || noB (nmE i) "given" K), (fun K => (List.range 27).all fun i => !([23, 24].contains i) || noB (nmE i) "hand" K), (fun K => (List.range 27).all fun i => !([10, 11, 12, 13, 14, 15, 16, 17, 20, 26].contains i) || noB (nmE i) "index" K), (fun K => (List.range 27).all fun i => !([21].contains i) || noB (nmE i) "limit" K), (fun K => (List.range 27).all fun i => !([26].contains i) || noB (nmE i) "shown" K), (fun K => (List.range 27).all fun i => decide (PySem.W.kitOne K (.ref (He.ga K (nmE i))) (.ref (He.ga K "InvalidName")) = some ((fun i => decide (i = 0)) i))), (fun K => (List.range 27).all fun i => decide (PySem.W.kitOne K (.ref (He.ga K (nmE i))) (.ref (He.ga K "InvalidText")) = some ((fun i => decide (i = 1)) i))), (fun K => (List.range 27).all fun i => decide (PySem.W.kitOne K (.ref (He.ga K (nmE i))) (.ref (He.ga K "InvalidFlag")) = some ((fun i => decide (i = 2)) i))), (fun K => (List.range 27).all fun i => decide (PySem.W.kitOne K (.ref (He.ga K (nmE i))) (.ref (He.ga K "InvalidNumber")) = some ((fun i => decide (i = 3)) i))), (fun K => (List.range 27).all fun i => decide (PySem.W.kitOne K (.ref (He.ga K (nmE i))) (.ref (He.ga K "InvalidThing")) = some ((fun i => decide (i = 4)) i))), (fun K => (List.range 27).all fun i => decide (PySem.W.kitOne K (.ref (He.ga K (nmE i))) (.ref (He.ga K "InvalidChoice")) = some ((fun i => decide (i = 5)) i))), (fun K => (List.range 27).all fun i => decide (PySem.W.kitOne K (.ref (He.ga K (nmE i))) (.ref (He.ga K "InvalidWish")) = some ((fun i => decide (i = 6)) i))), (fun K => (List.range 27).all fun i => decide (PySem.W.kitOne K (.ref (He.ga K (nmE i))) (.ref (He.ga K "InvalidSet")) = some ((fun i => decide (i = 7)) i))), (fun K => (List.range 27).all fun i => decide (PySem.W.kitOne K (.ref (He.ga K (nmE i))) (.ref (He.ga K "InvalidIndex")) = some ((fun i => decide (i = 8)) i))), (fun K => (List.range 27).all fun i => decide (PySem.W.kitOne K (.ref (He.ga K (nmE i))) (.ref (He.ga K "NotASystem")) = some ((fun i => decide (i = 9)) i))), (fun K => (List.range 27).all fun i => decide (PySem.W.kitOne K (.ref (He.ga K (nmE i))) (.ref (He.ga K "InvalidGates")) = some ((fun i => decide (i = 10)) i))), (fun K => (List.range 27).all fun i => decide (PySem.W.kitOne K (.ref (He.ga K (nmE i))) (.ref (He.ga K "InvalidKinds")) = some ((fun i => decide (i = 11)) i))), (fun K => (List.range 27).all fun i => decide (PySem.W.kitOne K (.ref (He.ga K (nmE i))) (.ref (He.ga K "InvalidRows")) = some ((fun i => decide (i = 12)) i))), (fun K => (List.range 27).all fun i => decide (PySem.W.kitOne K (.ref (He.ga K (nmE i))) (.ref (He.ga K "InvalidMembers")) = some ((fun i => decide (i = 13)) i))), (fun K => (List.range 27).all fun i => decide (PySem.W.kitOne K (.ref (He.ga K (nmE i))) (.ref (He.ga K "InvalidNumbers")) = some ((fun i => decide (i = 14)) i))), (fun K => (List.range 27).all fun i => decide (PySem.W.kitOne K (.ref (He.ga K (nmE i))) (.ref (He.ga K "InvalidRun")) = some ((fun i => decide (i = 15)) i))), (fun K => (List.range 27).all fun i => decide (PySem.W.kitOne K (.ref (He.ga K (nmE i))) (.ref (He.ga K "InvalidThings")) = some ((fun i => decide (i = 16)) i))), (fun K => (List.range 27).all fun i => decide (PySem.W.kitOne K (.ref (He.ga K (nmE i))) (.ref (He.ga K "InvalidChanges")) = some ((fun i => decide (i = 17)) i))), (fun K => (List.range 27).all fun i => decide (PySem.W.kitOne K (.ref (He.ga K (nmE i))) (.ref (He.ga K "UnknownName")) = some ((fun i => decide (i = 18)) i))), (fun K => (List.range 27).all fun i => decide (PySem.W.kitOne K (.ref (He.ga K (nmE i))) (.ref (He.ga K "UnknownHand")) = some ((fun i => decide (i = 19)) i))), (fun K => (List.range 27).all fun i => decide (PySem.W.kitOne K (.ref (He.ga K (nmE i))) (.ref (He.ga K "InUse")) = some ((fun i => decide (i = 20)) i))), (fun K => (List.range 27).all fun i => decide (PySem.W.kitOne K (.ref (He.ga K (nmE i))) (.ref (He.ga K "TooMany")) = some ((fun i => decide (i = 21)) i))), (fun K => (List.range 27).all fun i => decide (PySem.W.kitOne K (.ref (He.ga K (nmE i))) (.ref (He.ga K "Alone")) = some ((fun i => decide (i = 22)) i))), (fun K => (List.range 27).all fun i => decide (PySem.W.kitOne K (.ref (He.ga K (nmE i))) (.ref (He.ga K "Waits")) = some ((fun i => decide (i = 23)) i))), (fun K => (List.range 27).all fun i => decide (PySem.W.kitOne K (.ref (He.ga K (nmE i))) (.ref (He.ga K "Ended")) = some ((fun i => decide (i = 24)) i))), (fun K => (List.range 27).all fun i => decide (PySem.W.kitOne K (.ref (He.ga K (nmE i))) (.ref (He.ga K "NothingToUndo")) = some ((fun i => decide (i = 25)) i))), (fun K => (List.range 27).all fun i => decide (PySem.W.kitOne K (.ref (He.ga K (nmE i))) (.ref (He.ga K "Broken")) = some ((fun i => decide (i = 26)) i))), (fun K => (List.range 27).all fun i => decide (PySem.W.kitOne K (.ref (He.ga K (nmE i))) (.ref (He.ga K "WrongValue")) = some ((fun i => decide (i < 18)) i))), (fun K => (List.range 27).all fun i => decide (PySem.W.kitOne K (.ref (He.ga K (nmE i))) (.ref (He.ga K "WrongName")) = some ((fun i => decide (17 < i) && decide (i < 21)) i))), (fun K => (List.range 27).all fun i => decide (PySem.W.kitOne K (.ref (He.ga K (nmE i))) (.ref (He.ga K "NoAnswer")) = some ((fun i => decide (20 < i)) i))), (fun K => (List.range 27).all fun i => decide (PySem.W.kitOne K (.ref (He.ga K (nmE i))) (.type "ArithmeticError") = some ((fun i => decide (20 < i)) i))), (fun K => (List.range 27).all fun i => decide (PySem.W.kitOne K (.ref (He.ga K (nmE i))) (.type "LookupError") = some ((fun i => decide (17 < i) && decide (i < 21)) i))), (fun K => (List.range 27).all fun i => decide (PySem.W.kitOne K (.ref (He.ga K (nmE i))) (.type "ValueError") = some ((fun i => decide (i < 18)) i))), (fun K => (List.range 27).all fun i => decide (PySem.W.exmAny K (.ref (He.ga K (nmE i))) [.ref (He.ga K "WrongValue"), .ref (He.ga K "WrongName"), .ref (He.ga K "NoAnswer")] = some true)), (fun K => (K.lookup sysModules).isSome), (fun K => noneIn K (kwdAt ("Row", some "__init__") "goals" K)), (fun K => noneIn K (kwdAt ("Kind", some "__init__") "members" K))]
def gets : List GetD := [⟨"Gate", "name", "property", defArgs s_Gate_name, defBody s_Gate_name, defScope s_Gate_name⟩, ⟨"Gate", "within", "property", defArgs s_Gate_within, defBody s_Gate_within, defScope s_Gate_within⟩, ⟨"Kind", "name", "property", defArgs s_Kind_name, defBody s_Kind_name, defScope s_Kind_name⟩, ⟨"Kind", "rows", "property", defArgs s_Kind_rows, defBody s_Kind_rows, defScope s_Kind_rows⟩, ⟨"Kind", "many", "property", defArgs s_Kind_many, defBody s_Kind_many, defScope s_Kind_many⟩, ⟨"Kind", "members", "property", defArgs s_Kind_members, defBody s_Kind_members, defScope s_Kind_members⟩, ⟨"System", "gates", "property", defArgs s_System_gates, defBody s_System_gates, defScope s_System_gates⟩, ⟨"System", "kinds", "property", defArgs s_System_kinds, defBody s_System_kinds, defScope s_System_kinds⟩, ⟨"System", "labels", "property", defArgs s_System_labels, defBody s_System_labels, defScope s_System_labels⟩]
theorem tx_of {K : PySem.W.Frag} {h : Heap} {mg : Str → Option Value} (X : K.In h) (G : h.Ns mainGlobals mg) (cg : SaysG fa fn gets exs K) : Tx K mg := by
  have c := cg.d
  exact {
    f_isinstance := He.free_ok X G (c.fact 0 rfl)
    f_str := He.free_ok X G (c.fact 1 rfl)
    f_len := He.free_ok X G (c.fact 2 rfl)
    f_all := He.free_ok X G (c.fact 3 rfl)
    f_int := He.free_ok X G (c.fact 4 rfl)
    f_tuple := He.free_ok X G (c.fact 5 rfl)
    f_range := He.free_ok X G (c.fact 6 rfl)
    f_enumerate := He.free_ok X G (c.fact 7 rfl)
    f_sorted := He.free_ok X G (c.fact 8 rfl)
    f_sum := He.free_ok X G (c.fact 9 rfl)
    f_abs := He.free_ok X G (c.fact 10 rfl)
    f_divmod := He.free_ok X G (c.fact 11 rfl)
    f_ValueError := He.free_ok X G (c.fact 12 rfl)
    f_LookupError := He.free_ok X G (c.fact 13 rfl)
    f_ArithmeticError := He.free_ok X G (c.fact 14 rfl)
    f_repr := He.free_ok X G (c.fact 15 rfl)
    f_list := He.free_ok X G (c.fact 16 rfl)
    f_max := He.free_ok X G (c.fact 17 rfl)
    f_min := He.free_ok X G (c.fact 18 rfl)
    g_MOST_GATES := (He.int_ok X G (c.fact 19 rfl)).elim fun t e => ⟨_, e, t, rfl⟩
    g_MOST_KINDS := (He.int_ok X G (c.fact 20 rfl)).elim fun t e => ⟨_, e, t, rfl⟩
    g_MOST_ROWS := (He.int_ok X G (c.fact 21 rfl)).elim fun t e => ⟨_, e, t, rfl⟩
    g_MOST_VALUE := (He.int_ok X G (c.fact 22 rfl)).elim fun t e => ⟨_, e, t, rfl⟩
    g_LONGEST_NAME := (He.int_ok X G (c.fact 23 rfl)).elim fun t e => ⟨_, e, t, rfl⟩
    g_LETTERS := (He.str_ok X G (c.fact 24 rfl)).elim fun t e => ⟨_, e, t, rfl⟩
    g_SIGNS := (He.str_ok X G (c.fact 25 rfl)).elim fun t e => ⟨_, e, t, rfl⟩
    g_DIGITS := (He.str_ok X G (c.fact 26 rfl)).elim fun t e => ⟨_, e, t, rfl⟩
    g_MOST_GOALS := (He.int_ok X G (c.fact 27 rfl)).elim fun t e => ⟨_, e, t, rfl⟩
    g_WrongValue := ⟨_, He.glo_ok X G (c.fact 28 rfl), rfl⟩
    g_InvalidName := ⟨_, He.glo_ok X G (c.fact 29 rfl), rfl⟩
    g_InvalidText := ⟨_, He.glo_ok X G (c.fact 30 rfl), rfl⟩
    g_InvalidFlag := ⟨_, He.glo_ok X G (c.fact 31 rfl), rfl⟩
    g_InvalidNumber := ⟨_, He.glo_ok X G (c.fact 32 rfl), rfl⟩
    g_InvalidThing := ⟨_, He.glo_ok X G (c.fact 33 rfl), rfl⟩
    g_InvalidChoice := ⟨_, He.glo_ok X G (c.fact 34 rfl), rfl⟩
    g_InvalidWish := ⟨_, He.glo_ok X G (c.fact 35 rfl), rfl⟩
    g_InvalidSet := ⟨_, He.glo_ok X G (c.fact 36 rfl), rfl⟩
    g_InvalidIndex := ⟨_, He.glo_ok X G (c.fact 37 rfl), rfl⟩
    g_NotASystem := ⟨_, He.glo_ok X G (c.fact 38 rfl), rfl⟩
    g_InvalidGates := ⟨_, He.glo_ok X G (c.fact 39 rfl), rfl⟩
    g_InvalidKinds := ⟨_, He.glo_ok X G (c.fact 40 rfl), rfl⟩
    g_InvalidRows := ⟨_, He.glo_ok X G (c.fact 41 rfl), rfl⟩
    g_InvalidMembers := ⟨_, He.glo_ok X G (c.fact 42 rfl), rfl⟩
    g_InvalidNumbers := ⟨_, He.glo_ok X G (c.fact 43 rfl), rfl⟩
    g_InvalidRun := ⟨_, He.glo_ok X G (c.fact 44 rfl), rfl⟩
    g_InvalidThings := ⟨_, He.glo_ok X G (c.fact 45 rfl), rfl⟩
    g_InvalidChanges := ⟨_, He.glo_ok X G (c.fact 46 rfl), rfl⟩
    g_WrongName := ⟨_, He.glo_ok X G (c.fact 47 rfl), rfl⟩
    g_UnknownName := ⟨_, He.glo_ok X G (c.fact 48 rfl), rfl⟩
    g_UnknownHand := ⟨_, He.glo_ok X G (c.fact 49 rfl), rfl⟩
    g_InUse := ⟨_, He.glo_ok X G (c.fact 50 rfl), rfl⟩
    g_NoAnswer := ⟨_, He.glo_ok X G (c.fact 51 rfl), rfl⟩
    g_TooMany := ⟨_, He.glo_ok X G (c.fact 52 rfl), rfl⟩
    g_Alone := ⟨_, He.glo_ok X G (c.fact 53 rfl), rfl⟩
    g_Waits := ⟨_, He.glo_ok X G (c.fact 54 rfl), rfl⟩
    g_Ended := ⟨_, He.glo_ok X G (c.fact 55 rfl), rfl⟩
    g_NothingToUndo := ⟨_, He.glo_ok X G (c.fact 56 rfl), rfl⟩
    g_Broken := ⟨_, He.glo_ok X G (c.fact 57 rfl), rfl⟩
    g_Row := ⟨_, He.glo_ok X G (c.fact 58 rfl), rfl⟩
    c_Row := He.cls_ok (c.fact 59 rfl)
    na_Row_goal := He.noat_ok (c.fact 60 rfl)
    na_Row_text := He.noat_ok (c.fact 61 rfl)
    na_Row_label := He.noat_ok (c.fact 62 rfl)
    na_Row_word := He.noat_ok (c.fact 63 rfl)
    na_Row_gate := He.noat_ok (c.fact 64 rfl)
    na_Row_value := He.noat_ok (c.fact 65 rfl)
    na_Row_goals := He.noat_ok (c.fact 66 rfl)
    mk_Row := He.mkr_ok (c.fact 67 rfl)
    g_Gate := ⟨_, He.glo_ok X G (c.fact 68 rfl), rfl⟩
    c_Gate := He.cls_ok (c.fact 69 rfl)
    na_Gate_called := He.noat_ok (c.fact 70 rfl)
    na_Gate_outer := He.noat_ok (c.fact 71 rfl)
    mk_Gate := He.mkr_ok (c.fact 72 rfl)
    g_Kind := ⟨_, He.glo_ok X G (c.fact 73 rfl), rfl⟩
    c_Kind := He.cls_ok (c.fact 74 rfl)
    na_Kind_called := He.noat_ok (c.fact 75 rfl)
    na_Kind_texts := He.noat_ok (c.fact 76 rfl)
    na_Kind_parsed := He.noat_ok (c.fact 77 rfl)
    na_Kind_any_number := He.noat_ok (c.fact 78 rfl)
    na_Kind_begun := He.noat_ok (c.fact 79 rfl)
    mk_Kind := He.mkr_ok (c.fact 80 rfl)
    g_System := ⟨_, He.glo_ok X G (c.fact 81 rfl), rfl⟩
    c_System := He.cls_ok (c.fact 82 rfl)
    na_System_places := He.noat_ok (c.fact 83 rfl)
    na_System_programs := He.noat_ok (c.fact 84 rfl)
    na_System_all_labels := He.noat_ok (c.fact 85 rfl)
    na_System_trees := He.noat_ok (c.fact 86 rfl)
    na_System_all_gates := He.noat_ok (c.fact 87 rfl)
    na_System_all_kinds := He.noat_ok (c.fact 88 rfl)
    na_System_written := He.noat_ok (c.fact 89 rfl)
    mk_System := He.mkr_ok (c.fact 90 rfl)
    n__wall := He.glo_ok X G (c.fact 91 rfl)
    n_is_name := He.glo_ok X G (c.fact 92 rfl)
    n_digit_of := He.glo_ok X G (c.fact 93 rfl)
    n_row_of_words := He.glo_ok X G (c.fact 94 rfl)
    n_has_right_parts := He.glo_ok X G (c.fact 95 rfl)
    n_parsed_row := He.glo_ok X G (c.fact 96 rfl)
    n_leads_within := He.glo_ok X G (c.fact 97 rfl)
    n_parsed_rows := He.glo_ok X G (c.fact 98 rfl)
    n_check_members := He.glo_ok X G (c.fact 99 rfl)
    n_check_gates := He.glo_ok X G (c.fact 100 rfl)
    n_gates_named := He.glo_ok X G (c.fact 101 rfl)
    n_check_kinds := He.glo_ok X G (c.fact 102 rfl)
    n_roots_of := He.glo_ok X G (c.fact 103 rfl)
    n_head_of := He.glo_ok X G (c.fact 104 rfl)
    n_text_of := He.glo_ok X G (c.fact 105 rfl)
    n_gate_of := He.glo_ok X G (c.fact 106 rfl)
    n_kind_of := He.glo_ok X G (c.fact 107 rfl)
    n_parts_of := He.glo_ok X G (c.fact 108 rfl)
    n_check_kind := He.glo_ok X G (c.fact 109 rfl)
    n__law_pool := He.glo_ok X G (c.fact 110 rfl)
    n__law_draw := He.glo_ok X G (c.fact 111 rfl)
    n__law_words := He.glo_ok X G (c.fact 112 rfl)
    n__law_place := He.glo_ok X G (c.fact 113 rfl)
    n__law_kept := He.glo_ok X G (c.fact 114 rfl)
    n__law_caught := He.glo_ok X G (c.fact 115 rfl)
    n__law_tag := He.glo_ok X G (c.fact 116 rfl)
    n__law_new := He.glo_ok X G (c.fact 117 rfl)
    n__law_line := He.glo_ok X G (c.fact 118 rfl)
    n__law_lines := He.glo_ok X G (c.fact 119 rfl)
    n__law_forest := He.glo_ok X G (c.fact 120 rfl)
    n__law_sorts := He.glo_ok X G (c.fact 121 rfl)
    n__law_page := He.glo_ok X G (c.fact 122 rfl)
    n__law_marks := He.glo_ok X G (c.fact 123 rfl)
    n__law_built := He.glo_ok X G (c.fact 124 rfl)
    n__law_is := He.glo_ok X G (c.fact 125 rfl)
    n__law_due := He.glo_ok X G (c.fact 126 rfl)
    n__law_shown := He.glo_ok X G (c.fact 127 rfl)
    n__law_asked := He.glo_ok X G (c.fact 128 rfl)
    n__law_right := He.glo_ok X G (c.fact 129 rfl)
    n_law := He.glo_ok X G (c.fact 130 rfl)
    d__wall := c.def_ 0 rfl
    d_InvalidName___init__ := c.def_ 1 rfl
    d_InvalidText___init__ := c.def_ 2 rfl
    d_InvalidFlag___init__ := c.def_ 3 rfl
    d_InvalidNumber___init__ := c.def_ 4 rfl
    d_InvalidThing___init__ := c.def_ 5 rfl
    d_InvalidChoice___init__ := c.def_ 6 rfl
    d_InvalidWish___init__ := c.def_ 7 rfl
    d_InvalidSet___init__ := c.def_ 8 rfl
    d_InvalidIndex___init__ := c.def_ 9 rfl
    d_NotASystem___init__ := c.def_ 10 rfl
    d_InvalidGates___init__ := c.def_ 11 rfl
    d_InvalidKinds___init__ := c.def_ 12 rfl
    d_InvalidRows___init__ := c.def_ 13 rfl
    d_InvalidMembers___init__ := c.def_ 14 rfl
    d_InvalidNumbers___init__ := c.def_ 15 rfl
    d_InvalidRun___init__ := c.def_ 16 rfl
    d_InvalidThings___init__ := c.def_ 17 rfl
    d_InvalidChanges___init__ := c.def_ 18 rfl
    d_UnknownName___init__ := c.def_ 19 rfl
    d_UnknownHand___init__ := c.def_ 20 rfl
    d_InUse___init__ := c.def_ 21 rfl
    d_TooMany___init__ := c.def_ 22 rfl
    d_Alone___init__ := c.def_ 23 rfl
    d_Waits___init__ := c.def_ 24 rfl
    d_Ended___init__ := c.def_ 25 rfl
    d_Broken___init__ := c.def_ 26 rfl
    d_is_name := c.def_ 27 rfl
    d_Row___init__ := c.def_ 28 rfl
    d_digit_of := c.def_ 29 rfl
    d_row_of_words := c.def_ 30 rfl
    d_has_right_parts := c.def_ 31 rfl
    d_parsed_row := c.def_ 32 rfl
    d_leads_within := c.def_ 33 rfl
    d_Gate___init__ := c.def_ 34 rfl
    d_Gate___eq__ := c.def_ 35 rfl
    d_Kind___init__ := c.def_ 36 rfl
    d_Kind___eq__ := c.def_ 37 rfl
    d_Kind___len__ := c.def_ 38 rfl
    d_System___init__ := c.def_ 39 rfl
    d_System_kind := c.def_ 40 rfl
    d_System_changed := c.def_ 41 rfl
    d_System_rows_of := c.def_ 42 rfl
    d_System_place_of := c.def_ 43 rfl
    d_System_tree_of := c.def_ 44 rfl
    d_System___eq__ := c.def_ 45 rfl
    d_System___str__ := c.def_ 46 rfl
    d_System___repr__ := c.def_ 47 rfl
    d_System___len__ := c.def_ 48 rfl
    d_parsed_rows := c.def_ 49 rfl
    d_check_members := c.def_ 50 rfl
    d_check_gates := c.def_ 51 rfl
    d_gates_named := c.def_ 52 rfl
    d_check_kinds := c.def_ 53 rfl
    d_roots_of := c.def_ 54 rfl
    d_head_of := c.def_ 55 rfl
    d_text_of := c.def_ 56 rfl
    d_gate_of := c.def_ 57 rfl
    d_kind_of := c.def_ 58 rfl
    d_parts_of := c.def_ 59 rfl
    d_check_kind := c.def_ 60 rfl
    d__law_pool := c.def_ 61 rfl
    d__law_draw := c.def_ 62 rfl
    d__law_words := c.def_ 63 rfl
    d__law_place := c.def_ 64 rfl
    d__law_kept := c.def_ 65 rfl
    d__law_caught := c.def_ 66 rfl
    d__law_tag := c.def_ 67 rfl
    d__law_new := c.def_ 68 rfl
    d__law_line := c.def_ 69 rfl
    d__law_lines := c.def_ 70 rfl
    d__law_forest := c.def_ 71 rfl
    d__law_sorts := c.def_ 72 rfl
    d__law_page := c.def_ 73 rfl
    d__law_marks := c.def_ 74 rfl
    d__law_built := c.def_ 75 rfl
    d__law_is := c.def_ 76 rfl
    d__law_due := c.def_ 77 rfl
    d__law_shown := c.def_ 78 rfl
    d__law_asked := c.def_ 79 rfl
    d__law_right := c.def_ 80 rfl
    d_law := c.def_ 81 rfl
    i_Row := clsI_of (cg.more 0 rfl)
    nb_Row := no_of (cg.more 1 rfl)
    nl_Row := no_of (cg.more 2 rfl)
    j_Row_Gate := clsJ_of (cg.more 3 rfl)
    j_Row_Kind := clsJ_of (cg.more 4 rfl)
    j_Row_System := clsJ_of (cg.more 5 rfl)
    i_Gate := clsI_of (cg.more 6 rfl)
    e_Gate := eqC_of (cg.more 7 rfl)
    nb_Gate := no_of (cg.more 8 rfl)
    nl_Gate := no_of (cg.more 9 rfl)
    j_Gate_Row := clsJ_of (cg.more 10 rfl)
    j_Gate_Kind := clsJ_of (cg.more 11 rfl)
    j_Gate_System := clsJ_of (cg.more 12 rfl)
    i_Kind := clsI_of (cg.more 13 rfl)
    e_Kind := eqC_of (cg.more 14 rfl)
    nb_Kind := no_of (cg.more 15 rfl)
    l_Kind := len_of (cg.more 16 rfl)
    j_Kind_Row := clsJ_of (cg.more 17 rfl)
    j_Kind_Gate := clsJ_of (cg.more 18 rfl)
    j_Kind_System := clsJ_of (cg.more 19 rfl)
    i_System := clsI_of (cg.more 20 rfl)
    e_System := eqC_of (cg.more 21 rfl)
    nb_System := no_of (cg.more 22 rfl)
    l_System := len_of (cg.more 23 rfl)
    st_System := mth_of (cg.more 24 rfl)
    re_System := mth_of (cg.more 25 rfl)
    mt_System_kind := mth_of (cg.more 26 rfl)
    mt_System_changed := mth_of (cg.more 27 rfl)
    mt_System_rows_of := mth_of (cg.more 28 rfl)
    mt_System_place_of := mth_of (cg.more 29 rfl)
    mt_System_tree_of := mth_of (cg.more 30 rfl)
    j_System_Row := clsJ_of (cg.more 31 rfl)
    j_System_Gate := clsJ_of (cg.more 32 rfl)
    j_System_Kind := clsJ_of (cg.more 33 rfl)
    er_InvalidName := er_of (cg.more 34 rfl)
    ty_InvalidName := of_decide_eq_true (cg.more 35 rfl)
    in_InvalidName := mth_of (cg.more 36 rfl)
    no_InvalidName_given := no_of (cg.more 37 rfl)
    er_InvalidText := er_of (cg.more 38 rfl)
    ty_InvalidText := of_decide_eq_true (cg.more 39 rfl)
    in_InvalidText := mth_of (cg.more 40 rfl)
    no_InvalidText_given := no_of (cg.more 41 rfl)
    er_InvalidFlag := er_of (cg.more 42 rfl)
    ty_InvalidFlag := of_decide_eq_true (cg.more 43 rfl)
    in_InvalidFlag := mth_of (cg.more 44 rfl)
    no_InvalidFlag_given := no_of (cg.more 45 rfl)
    er_InvalidNumber := er_of (cg.more 46 rfl)
    ty_InvalidNumber := of_decide_eq_true (cg.more 47 rfl)
    in_InvalidNumber := mth_of (cg.more 48 rfl)
    no_InvalidNumber_given := no_of (cg.more 49 rfl)
    er_InvalidThing := er_of (cg.more 50 rfl)
    ty_InvalidThing := of_decide_eq_true (cg.more 51 rfl)
    in_InvalidThing := mth_of (cg.more 52 rfl)
    no_InvalidThing_given := no_of (cg.more 53 rfl)
    er_InvalidChoice := er_of (cg.more 54 rfl)
    ty_InvalidChoice := of_decide_eq_true (cg.more 55 rfl)
    in_InvalidChoice := mth_of (cg.more 56 rfl)
    no_InvalidChoice_given := no_of (cg.more 57 rfl)
    er_InvalidWish := er_of (cg.more 58 rfl)
    ty_InvalidWish := of_decide_eq_true (cg.more 59 rfl)
    in_InvalidWish := mth_of (cg.more 60 rfl)
    no_InvalidWish_given := no_of (cg.more 61 rfl)
    er_InvalidSet := er_of (cg.more 62 rfl)
    ty_InvalidSet := of_decide_eq_true (cg.more 63 rfl)
    in_InvalidSet := mth_of (cg.more 64 rfl)
    no_InvalidSet_given := no_of (cg.more 65 rfl)
    er_InvalidIndex := er_of (cg.more 66 rfl)
    ty_InvalidIndex := of_decide_eq_true (cg.more 67 rfl)
    in_InvalidIndex := mth_of (cg.more 68 rfl)
    no_InvalidIndex_given := no_of (cg.more 69 rfl)
    er_NotASystem := er_of (cg.more 70 rfl)
    ty_NotASystem := of_decide_eq_true (cg.more 71 rfl)
    in_NotASystem := mth_of (cg.more 72 rfl)
    no_NotASystem_given := no_of (cg.more 73 rfl)
    er_InvalidGates := er_of (cg.more 74 rfl)
    ty_InvalidGates := of_decide_eq_true (cg.more 75 rfl)
    in_InvalidGates := mth_of (cg.more 76 rfl)
    no_InvalidGates_index := no_of (cg.more 77 rfl)
    er_InvalidKinds := er_of (cg.more 78 rfl)
    ty_InvalidKinds := of_decide_eq_true (cg.more 79 rfl)
    in_InvalidKinds := mth_of (cg.more 80 rfl)
    no_InvalidKinds_index := no_of (cg.more 81 rfl)
    er_InvalidRows := er_of (cg.more 82 rfl)
    ty_InvalidRows := of_decide_eq_true (cg.more 83 rfl)
    in_InvalidRows := mth_of (cg.more 84 rfl)
    no_InvalidRows_index := no_of (cg.more 85 rfl)
    er_InvalidMembers := er_of (cg.more 86 rfl)
    ty_InvalidMembers := of_decide_eq_true (cg.more 87 rfl)
    in_InvalidMembers := mth_of (cg.more 88 rfl)
    no_InvalidMembers_index := no_of (cg.more 89 rfl)
    er_InvalidNumbers := er_of (cg.more 90 rfl)
    ty_InvalidNumbers := of_decide_eq_true (cg.more 91 rfl)
    in_InvalidNumbers := mth_of (cg.more 92 rfl)
    no_InvalidNumbers_index := no_of (cg.more 93 rfl)
    er_InvalidRun := er_of (cg.more 94 rfl)
    ty_InvalidRun := of_decide_eq_true (cg.more 95 rfl)
    in_InvalidRun := mth_of (cg.more 96 rfl)
    no_InvalidRun_index := no_of (cg.more 97 rfl)
    er_InvalidThings := er_of (cg.more 98 rfl)
    ty_InvalidThings := of_decide_eq_true (cg.more 99 rfl)
    in_InvalidThings := mth_of (cg.more 100 rfl)
    no_InvalidThings_index := no_of (cg.more 101 rfl)
    er_InvalidChanges := er_of (cg.more 102 rfl)
    ty_InvalidChanges := of_decide_eq_true (cg.more 103 rfl)
    in_InvalidChanges := mth_of (cg.more 104 rfl)
    no_InvalidChanges_index := no_of (cg.more 105 rfl)
    er_UnknownName := er_of (cg.more 106 rfl)
    ty_UnknownName := of_decide_eq_true (cg.more 107 rfl)
    in_UnknownName := mth_of (cg.more 108 rfl)
    no_UnknownName_given := no_of (cg.more 109 rfl)
    er_UnknownHand := er_of (cg.more 110 rfl)
    ty_UnknownHand := of_decide_eq_true (cg.more 111 rfl)
    in_UnknownHand := mth_of (cg.more 112 rfl)
    no_UnknownHand_given := no_of (cg.more 113 rfl)
    er_InUse := er_of (cg.more 114 rfl)
    ty_InUse := of_decide_eq_true (cg.more 115 rfl)
    in_InUse := mth_of (cg.more 116 rfl)
    no_InUse_index := no_of (cg.more 117 rfl)
    er_TooMany := er_of (cg.more 118 rfl)
    ty_TooMany := of_decide_eq_true (cg.more 119 rfl)
    in_TooMany := mth_of (cg.more 120 rfl)
    no_TooMany_limit := no_of (cg.more 121 rfl)
    er_Alone := er_of (cg.more 122 rfl)
    ty_Alone := of_decide_eq_true (cg.more 123 rfl)
    in_Alone := mth_of (cg.more 124 rfl)
    no_Alone_given := no_of (cg.more 125 rfl)
    er_Waits := er_of (cg.more 126 rfl)
    ty_Waits := of_decide_eq_true (cg.more 127 rfl)
    in_Waits := mth_of (cg.more 128 rfl)
    no_Waits_hand := no_of (cg.more 129 rfl)
    er_Ended := er_of (cg.more 130 rfl)
    ty_Ended := of_decide_eq_true (cg.more 131 rfl)
    in_Ended := mth_of (cg.more 132 rfl)
    no_Ended_hand := no_of (cg.more 133 rfl)
    ei_NothingToUndo := er0_of (cg.more 134 rfl)
    er_Broken := er_of (cg.more 135 rfl)
    ty_Broken := of_decide_eq_true (cg.more 136 rfl)
    in_Broken := mth_of (cg.more 137 rfl)
    no_Broken_index := no_of (cg.more 138 rfl)
    no_Broken_shown := no_of (cg.more 139 rfl)
    ex_all := all_of (cg.more 140 rfl) fun i => ex_of
    nf_given := all_of (cg.more 141 rfl) fun i h ho => by rw [ho] at h; exact no_of h
    nf_hand := all_of (cg.more 142 rfl) fun i h ho => by rw [ho] at h; exact no_of h
    nf_index := all_of (cg.more 143 rfl) fun i h ho => by rw [ho] at h; exact no_of h
    nf_limit := all_of (cg.more 144 rfl) fun i h ho => by rw [ho] at h; exact no_of h
    nf_shown := all_of (cg.more 145 rfl) fun i h ho => by rw [ho] at h; exact no_of h
    k_InvalidName := all_of (cg.more 146 rfl) fun i => of_decide_eq_true
    k_InvalidText := all_of (cg.more 147 rfl) fun i => of_decide_eq_true
    k_InvalidFlag := all_of (cg.more 148 rfl) fun i => of_decide_eq_true
    k_InvalidNumber := all_of (cg.more 149 rfl) fun i => of_decide_eq_true
    k_InvalidThing := all_of (cg.more 150 rfl) fun i => of_decide_eq_true
    k_InvalidChoice := all_of (cg.more 151 rfl) fun i => of_decide_eq_true
    k_InvalidWish := all_of (cg.more 152 rfl) fun i => of_decide_eq_true
    k_InvalidSet := all_of (cg.more 153 rfl) fun i => of_decide_eq_true
    k_InvalidIndex := all_of (cg.more 154 rfl) fun i => of_decide_eq_true
    k_NotASystem := all_of (cg.more 155 rfl) fun i => of_decide_eq_true
    k_InvalidGates := all_of (cg.more 156 rfl) fun i => of_decide_eq_true
    k_InvalidKinds := all_of (cg.more 157 rfl) fun i => of_decide_eq_true
    k_InvalidRows := all_of (cg.more 158 rfl) fun i => of_decide_eq_true
    k_InvalidMembers := all_of (cg.more 159 rfl) fun i => of_decide_eq_true
    k_InvalidNumbers := all_of (cg.more 160 rfl) fun i => of_decide_eq_true
    k_InvalidRun := all_of (cg.more 161 rfl) fun i => of_decide_eq_true
    k_InvalidThings := all_of (cg.more 162 rfl) fun i => of_decide_eq_true
    k_InvalidChanges := all_of (cg.more 163 rfl) fun i => of_decide_eq_true
    k_UnknownName := all_of (cg.more 164 rfl) fun i => of_decide_eq_true
    k_UnknownHand := all_of (cg.more 165 rfl) fun i => of_decide_eq_true
    k_InUse := all_of (cg.more 166 rfl) fun i => of_decide_eq_true
    k_TooMany := all_of (cg.more 167 rfl) fun i => of_decide_eq_true
    k_Alone := all_of (cg.more 168 rfl) fun i => of_decide_eq_true
    k_Waits := all_of (cg.more 169 rfl) fun i => of_decide_eq_true
    k_Ended := all_of (cg.more 170 rfl) fun i => of_decide_eq_true
    k_NothingToUndo := all_of (cg.more 171 rfl) fun i => of_decide_eq_true
    k_Broken := all_of (cg.more 172 rfl) fun i => of_decide_eq_true
    k_WrongValue := all_of (cg.more 173 rfl) fun i => of_decide_eq_true
    k_WrongName := all_of (cg.more 174 rfl) fun i => of_decide_eq_true
    k_NoAnswer := all_of (cg.more 175 rfl) fun i => of_decide_eq_true
    k_ArithmeticError := all_of (cg.more 176 rfl) fun i => of_decide_eq_true
    k_LookupError := all_of (cg.more 177 rfl) fun i => of_decide_eq_true
    k_ValueError := all_of (cg.more 178 rfl) fun i => of_decide_eq_true
    xm_all := all_of (cg.more 179 rfl) fun i => of_decide_eq_true
    sm := cg.more 180 rfl
    kt_Row___init___goals := noneIn_of (cg.more 181 rfl)
    kt_Kind___init___members := noneIn_of (cg.more 182 rfl)
    p_Gate_name := fun P w base => getP_of (d := ⟨"Gate", "name", "property", defArgs s_Gate_name, defBody s_Gate_name, defScope s_Gate_name⟩) (cg.getter 0 rfl).2 (cg.getter 0 rfl).1 rfl (He.cls_ok (c.fact 69 rfl)) (He.noat_ok (c.fact 70 rfl)) sc_Gate_name rfl fun _ _ _ _ _ _ us hl => match us, hl with | [_], _ => rfl
    p_Gate_within := fun P w base => getP_of (d := ⟨"Gate", "within", "property", defArgs s_Gate_within, defBody s_Gate_within, defScope s_Gate_within⟩) (cg.getter 1 rfl).2 (cg.getter 1 rfl).1 rfl (He.cls_ok (c.fact 69 rfl)) (He.noat_ok (c.fact 71 rfl)) sc_Gate_within rfl fun _ _ _ _ _ _ us hl => match us, hl with | [_], _ => rfl
    p_Kind_name := fun P w base => getP_of (d := ⟨"Kind", "name", "property", defArgs s_Kind_name, defBody s_Kind_name, defScope s_Kind_name⟩) (cg.getter 2 rfl).2 (cg.getter 2 rfl).1 rfl (He.cls_ok (c.fact 74 rfl)) (He.noat_ok (c.fact 75 rfl)) sc_Kind_name rfl fun _ _ _ _ _ _ us hl => match us, hl with | [_], _ => rfl
    p_Kind_rows := fun P w base => getP_of (d := ⟨"Kind", "rows", "property", defArgs s_Kind_rows, defBody s_Kind_rows, defScope s_Kind_rows⟩) (cg.getter 3 rfl).2 (cg.getter 3 rfl).1 rfl (He.cls_ok (c.fact 74 rfl)) (He.noat_ok (c.fact 76 rfl)) sc_Kind_rows rfl fun _ _ _ _ _ _ us hl => match us, hl with | [_], _ => rfl
    p_Kind_many := fun P w base => getP_of (d := ⟨"Kind", "many", "property", defArgs s_Kind_many, defBody s_Kind_many, defScope s_Kind_many⟩) (cg.getter 4 rfl).2 (cg.getter 4 rfl).1 rfl (He.cls_ok (c.fact 74 rfl)) (He.noat_ok (c.fact 78 rfl)) sc_Kind_many rfl fun _ _ _ _ _ _ us hl => match us, hl with | [_], _ => rfl
    p_Kind_members := fun P w base => getP_of (d := ⟨"Kind", "members", "property", defArgs s_Kind_members, defBody s_Kind_members, defScope s_Kind_members⟩) (cg.getter 5 rfl).2 (cg.getter 5 rfl).1 rfl (He.cls_ok (c.fact 74 rfl)) (He.noat_ok (c.fact 79 rfl)) sc_Kind_members rfl fun _ _ _ _ _ _ us hl => match us, hl with | [_], _ => rfl
    p_System_gates := fun P w base => getP_of (d := ⟨"System", "gates", "property", defArgs s_System_gates, defBody s_System_gates, defScope s_System_gates⟩) (cg.getter 6 rfl).2 (cg.getter 6 rfl).1 rfl (He.cls_ok (c.fact 82 rfl)) (He.noat_ok (c.fact 87 rfl)) sc_System_gates rfl fun _ _ _ _ _ _ us hl => match us, hl with | [_], _ => rfl
    p_System_kinds := fun P w base => getP_of (d := ⟨"System", "kinds", "property", defArgs s_System_kinds, defBody s_System_kinds, defScope s_System_kinds⟩) (cg.getter 7 rfl).2 (cg.getter 7 rfl).1 rfl (He.cls_ok (c.fact 82 rfl)) (He.noat_ok (c.fact 88 rfl)) sc_System_kinds rfl fun _ _ _ _ _ _ us hl => match us, hl with | [_], _ => rfl
    p_System_labels := fun P w base => getP_of (d := ⟨"System", "labels", "property", defArgs s_System_labels, defBody s_System_labels, defScope s_System_labels⟩) (cg.getter 8 rfl).2 (cg.getter 8 rfl).1 rfl (He.cls_ok (c.fact 82 rfl)) (He.noat_ok (c.fact 85 rfl)) sc_System_labels rfl fun _ _ _ _ _ _ us hl => match us, hl with | [_], _ => rfl
  }
abbrev R : PySem.W.OpenRow := PySem.W.OpenLaw.row PySem.Challenge.rw_gatecrowds_k12_kinds_asked_for
abbrev tbs : List Str := ["_law_asked"]
/-- the addresses that the facts look at -/
def adds : List Addr := [3, 6, 4, 21, 31, 51, 70, 89, 108, 127, 146, 165, 184, 203, 222, 241, 260, 279, 298, 317, 336, 355, 374, 386, 406, 425, 444, 456, 476, 495, 514, 533, 545, 564, 571, 590, 601, 606, 611, 618, 623, 664, 733, 847, 858, 865, 872, 877, 882, 889, 894, 901, 908, 915, 920, 925, 932, 939, 946, 953, 960, 967, 972, 977, 982, 987, 992, 997, 1002, 1009, 1014, 1019, 1024, 1031, 1038, 1043, 1048, 0, 20, 30, 50, 69, 88, 107, 126, 145, 164, 183, 202, 221, 240, 259, 278, 297, 316, 335, 354, 373, 385, 405, 424, 443, 455, 475, 494, 513, 532, 544, 563, 570, 589, 600, 605, 610, 617, 622, 663, 732, 846, 857, 864, 871, 876, 881, 888, 893, 900, 907, 914, 919, 924, 931, 938, 945, 952, 959, 966, 971, 976, 981, 986, 991, 996, 1001, 1008, 1013, 1018, 1023, 1030, 1037, 1042, 1047, 15, 17, 18, 19, 29, 32, 48, 49, 67, 68, 86, 87, 105, 106, 124, 125, 143, 144, 162, 163, 181, 182, 200, 201, 219, 220, 238, 239, 257, 258, 276, 277, 295, 296, 314, 315, 333, 334, 352, 353, 371, 372, 384, 387, 403, 404, 422, 423, 441, 442, 454, 457, 473, 474, 492, 493, 511, 512, 530, 531, 543, 561, 562, 567, 569, 587, 588, 591, 592, 595, 597, 598, 599, 602, 604, 607, 609, 612, 614, 615, 616, 619, 621, 638, 646, 654, 661, 662, 665, 666, 684, 692, 700, 708, 716, 723, 730, 731, 734, 735, 749, 758, 767, 775, 783, 788, 795, 802, 809, 816, 823, 830, 837, 844, 845, 848, 849, 852, 854, 855, 856, 859, 861, 862, 863, 866, 868, 869, 870, 873, 875, 878, 880, 883, 885, 886, 887, 890, 892, 895, 897, 898, 899, 902, 904, 905, 906, 909, 911, 912, 913, 916, 918, 921, 923, 926, 928, 929, 930, 933, 935, 936, 937, 940, 942, 943, 944, 947, 949, 950, 951, 954, 956, 957, 958, 961, 963, 964, 965, 968, 970, 973, 975, 978, 980, 983, 985, 988, 990, 993, 995, 998, 1000, 1003, 1005, 1006, 1007, 1010, 1012, 1015, 1017, 1020, 1022, 1025, 1027, 1028, 1029, 1032, 1034, 1035, 1036, 1039, 1041, 1044, 1046, 47, 66, 85, 104, 123, 142, 161, 180, 199, 218, 237, 256, 275, 294, 313, 332, 351, 370, 402, 421, 440, 472, 491, 510, 529, 560, 586, 580, 637, 631, 645, 653, 660, 683, 677, 691, 699, 707, 715, 722, 729, 748, 756, 757, 766, 774, 782, 787, 794, 801, 808, 815, 822, 829, 836, 843, 42, 44, 45, 46, 61, 63, 64, 65, 80, 82, 83, 84, 99, 101, 102, 103, 118, 120, 121, 122, 137, 139, 140, 141, 156, 158, 159, 160, 175, 177, 178, 179, 194, 196, 197, 198, 213, 215, 216, 217, 232, 234, 235, 236, 251, 253, 254, 255, 270, 272, 273, 274, 289, 291, 292, 293, 308, 310, 311, 312, 327, 329, 330, 331, 346, 348, 349, 350, 365, 367, 368, 369, 397, 399, 400, 401, 416, 418, 419, 420, 435, 437, 438, 439, 467, 469, 470, 471, 486, 488, 489, 490, 505, 507, 508, 509, 524, 526, 527, 528, 555, 557, 558, 559, 581, 583, 584, 585, 579, 632, 634, 635, 636, 644, 652, 655, 657, 658, 659, 678, 680, 681, 682, 676, 690, 698, 706, 714, 717, 719, 720, 721, 724, 726, 727, 728, 745, 747, 755, 759, 765, 773, 781, 784, 786, 789, 791, 792, 793, 796, 798, 799, 800, 803, 805, 806, 807, 810, 812, 813, 814, 817, 819, 820, 821, 824, 826, 827, 828, 831, 833, 834, 835, 838, 840, 841, 842, 639, 641, 642, 643, 647, 649, 650, 651, 685, 687, 688, 689, 693, 695, 696, 697, 701, 703, 704, 705, 709, 711, 712, 713, 750, 752, 753, 754, 760, 762, 763, 764, 768, 770, 771, 772, 776, 778, 779, 780, 2, 1]
abbrev hk : PySem.W.Hook := hookT adds fa fn gets exs tbs
end G
namespace G
open PySem PySem.Spec PyProof.Rows L2
/-- what is left for the law, where K is what the head tells -/
def LawF (w : World) (mg : Str → Option Value) (f : Addr) (h : Heap) (K : PySem.W.Frag) : Prop :=
  ∃ (fd : FuncData) (sp : Sp), (∀ (s : Shared) (u : Value), BindsTo s fd ⟨[u], []⟩ [("_law_script", u)]) ∧
    (∀ (H : Hp) (a : Addr) (ns : List Int), ns.length ≤ 63 → (∀ y ∈ tbs, H (tabA K y) = some (.tbl #[])) → SqL K H a (ns.map V.int) → sp [.ref a] H (fun v _ => v = .bl true) fun _ _ _ => False) ∧
    ∀ base : Heap, K.In base → base.Ns mainGlobals mg → (∀ y ∈ tbs, LamX.TabB base mg (codeA K y) (tabA K y)) → (base.get? sysModules).isSome = true → FnG (PySem.Challenge.rw_gatecrowds_k12_kinds_asked_for).prog w K mg base CX0 12 f fd ["_law_script"] sp
def tabKB (K : PySem.W.Frag) (ts : List Addr) (x : Str) : Bool := fnCodeB K x && (codeB K x && ((K.lookup (tabA K x)).isNone && ts.contains (tabA K x)))
theorem tabK_km {K : PySem.W.Frag} {h : Heap} {x : Str} {ts : List Addr} (kin : K.In h) (tb : ∀ P ∈ ts, h.get? P = some (PySem.W.tabObj #[])) (e : tabKB K ts x = true) : TabK K h x := by
  unfold tabKB at e
  obtain ⟨h1, e⟩ := He.ba e
  obtain ⟨h2, e⟩ := He.ba e
  obtain ⟨h3, h4⟩ := He.ba e
  refine tabK_of kin ?_
  have h5 := tb _ (by simpa using h4)
  unfold tabB
  rw [h1, h2, h3, h5]
  rfl
/-- what remains once the head is run -/
abbrev Rest : Prop := ∀ (w : World) (mg : Str → Option Value) (f : Addr) (h : Heap) (K : PySem.W.Frag), K.In h → h.Ns mainGlobals mg → mg ("law" : Str) = some (.ref f) →
  SaysG fa fn gets exs K → (∀ y ∈ tbs, TabK K h y) → LawF w mg f h K
theorem lawF_km {Kp : PySem.Params → PySem.W.Frag} {as : List Addr} {e : ∀ P, as = (Kp P).map (·.1)} {ts : List Addr} {w : World} {mg : Str → Option Value} {f : Addr} {h : Heap} (Y : (PySem.W.kmHook Kp as e ts).says w h)
    (a : tbs.all (tabKB (Kp w.params) ts) = true) (b : SaysG fa fn gets exs (Kp w.params)) (F : Rest) (Gl : h.Ns mainGlobals mg) (own : mg ("law" : Str) = some (.ref f)) :
    ∃ (K : PySem.W.Frag) (fd : FuncData) (sp : Sp), K.In h ∧ (∀ y ∈ tbs, TabK K h y) ∧ (∀ (s : Shared) (u : Value), BindsTo s fd ⟨[u], []⟩ [("_law_script", u)]) ∧
      (∀ (H : Hp) (a : Addr) (ns : List Int), ns.length ≤ 63 → (∀ y ∈ tbs, H (tabA K y) = some (.tbl #[])) → SqL K H a (ns.map V.int) → sp [.ref a] H (fun v _ => v = .bl true) fun _ _ _ => False) ∧
      ∀ base : Heap, K.In base → base.Ns mainGlobals mg → (∀ y ∈ tbs, LamX.TabB base mg (codeA K y) (tabA K y)) → (base.get? sysModules).isSome = true → FnG (PySem.Challenge.rw_gatecrowds_k12_kinds_asked_for).prog w K mg base CX0 12 f fd ["_law_script"] sp := by
  have kin := PySem.W.km_in_of Y
  have tk : ∀ y ∈ tbs, TabK (Kp w.params) h y := fun y hy => tabK_km kin (PySem.W.km_tabs_of Y) (List.all_eq_true.mp a y hy)
  obtain ⟨fd, sp, x1, x2, x3⟩ := F w mg f h _ kin Gl own b tk
  exact ⟨_, fd, sp, kin, tk, x1, x2, x3⟩
end G
namespace G
open PySem PySem.Spec PyProof.Rows L2
/-! ### the head's run, looked at in parts: each part its own theorem -/
def ob (s : PySem.W.SharedT) : AlT := obsKT adds fa fn gets exs tbs (HandSHeadRun.getT s)
theorem ob_eq (s : PySem.W.SharedT) : ob s = hk.obs s.abs := obsKT_eq (HandSHeadRun.getT_eq s)
def names : List PySem.Str := (["_wall", "WrongValue", "InvalidName", "InvalidText", "InvalidFlag", "InvalidNumber", "InvalidThing", "InvalidChoice", "InvalidWish", "InvalidSet", "InvalidIndex", "NotASystem", "InvalidGates", "InvalidKinds", "InvalidRows", "InvalidMembers", "InvalidNumbers", "InvalidRun", "InvalidThings", "InvalidChanges"] : List PySem.Str) ++ (["WrongName", "UnknownName", "UnknownHand", "InUse", "NoAnswer", "TooMany", "Alone", "Waits", "Ended", "NothingToUndo", "Broken", "MOST_GATES", "MOST_KINDS", "MOST_ROWS", "MOST_VALUE", "LONGEST_NAME", "LETTERS", "SIGNS", "is_name", "DIGITS"] : List PySem.Str) ++ (["MOST_GOALS", "Row", "digit_of", "row_of_words", "has_right_parts", "parsed_row", "leads_within", "Gate", "Kind", "System", "parsed_rows", "check_members", "check_gates", "gates_named", "check_kinds", "roots_of", "head_of", "text_of", "gate_of", "kind_of"] : List PySem.Str) ++ (["parts_of", "check_kind", "_law_pool", "_law_draw", "_law_words", "_law_place", "_law_kept", "_law_caught", "_law_tag", "_law_new", "_law_line", "_law_lines", "_law_forest", "_law_sorts", "_law_page", "_law_marks", "_law_built", "_law_is", "_law_due", "_law_shown"] : List PySem.Str) ++ (["_law_asked", "_law_right"] : List PySem.Str)
noncomputable abbrev theEnd (w : World) (os : OsState) : Option PySem.W.SharedT := HandSHeadRun.endF (HandSHeadRun.stepQ (HandSHeadRun.denQ HandSHeadRun.tabQ) R.prog w) 20000 R.prog w os
theorem run1 (w : World) (os : OsState) : (theEnd w os).map (fun s => HandSHeadRun.looksF R.prog (PySem.W.boot_heap w.params) s.abs) = some true := by kernel_rfl
theorem run2 (w : World) (os : OsState) : (theEnd w os).map (fun s => HandSHeadRun.seenQ (PySem.W.view R.prog [87]) names (importedModules R.prog.main.body) (fun s => PySem.W.xlAt (PySem.W.view R.prog [87]) [] s && PySem.W.recOk R.toRowW.records s) s.abs) = some (PySem.W.openGood (PySem.W.view R.prog [87]) names) := by kernel_rfl
/-- the fragment at the end -/
abbrev endFr (s : PySem.W.SharedT) : PySem.W.Frag := frT adds (HandSHeadRun.getT s)
theorem run3 (w : World) (os : OsState) : (theEnd w os).map (fun s => He.obsD fa fn (endFr s)) = some (He.valD fn) := by kernel_rfl
theorem run4 (w : World) (os : OsState) : (theEnd w os).map (fun s => exs.all fun f => f (endFr s)) = some true := by kernel_rfl
theorem run7 (w : World) (os : OsState) : (theEnd w os).map (fun s => ((gets.all fun d => d.ok (endFr s), gets.map fun d => obsF (endFr s) (d.at (endFr s))), tbs.all fun x => tabB (HandSHeadRun.getT s) (endFr s) x)) = some ((true, gets.map GetD.val), true) := by kernel_rfl
theorem at_some {α β : Type} {o : Option α} {f : α → β} {b : β} {s : α} (e : o = some s) (h : o.map f = some b) : f s = b := by
  rw [e] at h
  exact Option.some.inj h
theorem run (w : World) : HandSHeadRun.RunEq R (PySem.W.view R.prog [87]) hk ob 20000 names w := fun os => by
  obtain ⟨s, e, _⟩ := Option.map_eq_some_iff.mp (run1 w os)
  have q1 := at_some e (run1 w os)
  have q2 := at_some e (run2 w os)
  have q3 := at_some e (run3 w os)
  have q4 := at_some e (run4 w os)
  have q7 := at_some e (run7 w os)
  obtain ⟨q9, q8⟩ := Prod.mk.inj q7
  have e' : HandSHeadRun.endF (HandSHeadRun.stepQ (HandSHeadRun.denQ HandSHeadRun.tabQ) R.prog w) 20000 R.prog w os = some s := e
  have o : ob s = hk.val w := by
    show (((He.obsD fa fn (endFr s), ((exs.all fun f => f (endFr s)) && gets.all fun d => d.ok (endFr s)), gets.map fun d => obsF (endFr s) (d.at (endFr s))) : AlG), tbs.all fun x => tabB (HandSHeadRun.getT s) (endFr s) x) = ((He.valD fn, true, gets.map GetD.val), true)
    rw [q3, q4, q8, (Prod.mk.inj q9).1, (Prod.mk.inj q9).2]
    rfl
  rw [e']
  show some (_, _, ob s) = some (true, PySem.W.openGood _ names, hk.val w)
  rw [o]
  exact congrArg some (Prod.ext q1 (Prod.ext q2 rfl))
end G
open PySem PySem.W PySem.Calls PyProof.Rows
theorem G.kread_of (F : G.Rest) : PySem.Challenge.rw_gatecrowds_k12_kinds_asked_for.Holds := by
  w_on; o_law
  refine HandSHeadRun.head_any (r := G.R) (q := view G.R.prog [87]) (H := G.hk) (ob := G.ob) (M := 20000) (loose := G.names) (d := HandSHeadRun.topDef G.R.prog 87) (kwd := []) G.ob_eq
    (by kernel_rfl) (fun s => by kernel_rfl) G.run (by kernel_rfl) (by kernel_rfl) (by kernel_rfl) (by rfl) (by first | assumption | decide +kernel) (by decide +kernel)
    ⟨rfl, rfl, rfl, rfl, rfl, by decide +kernel⟩ ?hw ?call
  case hw => w_witness2
  case call =>
    refine G.walkS (l := PySem.Challenge.rw_gatecrowds_k12_kinds_asked_for) (n := 63) (k := 12) (x := "_law_script") (ts := G.tbs) (CX := L2.CX0) rfl (by decide) (by kernel_rfl) ⟨rfl, by decide, by decide⟩ (by kernel_rfl) ?F (fun _ _ _ _ z => z)
    intro w mg fa h Y Gl own _
    obtain ⟨K, kin, c, t⟩ := Y
    have own' : mg ("law" : PySem.Str) = some (.ref fa) := by
      have e : (HandSHeadRun.topDef G.R.prog 87).name = ("law" : PySem.Str) := by kernel_rfl
      rw [← e]
      exact own
    obtain ⟨fd, sp, x1, x2, x3⟩ := F w mg fa h K kin Gl own' c t
    exact ⟨K, fd, sp, kin, t, x1, x2, x3⟩
/-! ### small tactics -/
local macro_rules | `(tactic| walk_at "g hp") => `(tactic| first
  | assumption
  | exact L2.upd_same
  | (refine G.upd_get (by assumption) ?_; walk_at "g hp")
  | (refine G.same_get (by assumption) ?_; walk_at "g hp")
  | (refine G.Pl.obj (by assumption) (by walk_at "g pool") ?_ rfl; walk_at "g hp")
  | (refine G.Pl.get (by assumption) ?_ (by walk_at "g ne"); walk_at "g hp"))
local macro_rules | `(tactic| walk_at "g but") => `(tactic| first
  | assumption
  | exact G.But.refl _ _
  | exact L2.Same.refl _
  | (refine G.But.at ?_; walk_at "g but")
  | (refine G.But.new ?_ (by assumption); walk_at "g but")
  | (refine L2.Same.new ?_ (by assumption); walk_at "g but")
  | (refine G.Pl.new ?_ (by assumption); walk_at "g but")
  | (refine G.Pl.own ?_ (by assumption) (by walk_at "g ne"); walk_at "g but")
  | (refine G.Pl.same ?_ (by assumption); walk_at "g but")
  | (refine G.Pl.trans ?_ (by assumption); walk_at "g but")
  | (refine G.But.same ?_ (by assumption); walk_at "g but")
  | (refine G.But.of ?_; walk_at "g but")
  | (refine L2.Same.trans ?_ (by assumption); walk_at "g but")
  | (refine G.Pl.refl ?_; walk_at "g pool"))
local macro_rules | `(tactic| walk_at "g ne") => `(tactic| first
  | assumption
  | (refine G.PoolAt.ne_new ?_ (by assumption); walk_at "g pool"))
local macro_rules | `(tactic| walk_at "g pool") => `(tactic| first
  | assumption
  | exact G.Pl.pool (by assumption)
  | (refine G.PoolAt.new ?_ (by assumption); walk_at "g pool")
  | (refine G.PoolAt.same ?_ (by assumption); walk_at "g pool"))
local macro_rules | `(tactic| walk_at "g and") => `(tactic| first
  | (show (_ : Int) < _; omega)
  | exact rfl
  | assumption
  | exact L2.upd_same
  | exact ⟨_, rfl⟩
  | exact L2.ClsV.ty _
  | exact L2.ClsV.own _
  | exact L2.TyX.base (L2.TyOf.str _)
  | exact L2.TyX.base (L2.TyOf.int _)
  | exact L2.TyX.base (L2.TyOf.bl _)
  | exact L2.TyX.base L2.TyOf.non
  | exact L2.kit_ty (by decide +kernel)
  | exact L2.SqL.of (by walk_at "g hp")
  | exact L2.SqT.of (by walk_at "g hp")
  | exact Or.inl (by assumption)
  | exact Or.inr (by assumption)
  | exact Or.inr ((show ∀ H, L2.SqT _ H _ _ by assumption) _)
  | exact (show ∀ H, L2.SqT _ H _ _ by assumption) _
  | exact G.sqT_ty (by assumption)
  | exact G.sqT_ty ((show ∀ H, L2.SqT _ H _ _ by assumption) _)
  | exact Or.inl (L2.SqL.of (by walk_at "g hp"))
  | exact Or.inr (L2.SqT.of (by walk_at "g hp"))
  | walk_at "g pool"
  | (show (_ : Int) < _; decide)
  | (show (_ : Int) < _; omega)
  | (show (_ : Int) ≤ _; omega)
  | exact ⟨by decide, by decide, by decide⟩
  | exact ⟨by decide, by decide⟩
  | exact ⟨by omega, by omega⟩
  | exact Or.inl ⟨by omega, by omega⟩
  | exact Or.inr ⟨by omega, by omega⟩
  | (show (_ : Int) ≤ _; decide)
  | (show (_ : Nat) ≤ _; exact Nat.le_of_ble_eq_true rfl)
  | (show (_ : Nat) < _; exact Nat.le_of_ble_eq_true rfl)
  | (show (_ : Nat) ≤ _; omega)
  | (show (_ : Nat) ≤ _; simp only [G.cat_len]; omega)
  | walk_at "g hp")
local macro_rules | `(tactic| walk_at "rd") => `(tactic| repeat (first
  | (apply And.intro; (focus (walk_at "g and")))
  | (refine L2.iteT ?_)
  | (refine Or.inl ⟨_, rfl, ?_⟩)
  | (refine Or.inr ⟨_, rfl, ?_⟩)
  | (refine L2.iteF ?_)
  | (refine G.iteKT (by decide +kernel) ?_)
  | (refine G.iteKF (by decide +kernel) ?_)
  | (apply Exists.intro (α := L2.V))
  | (apply Exists.intro (α := Int))
  | (apply Exists.intro (α := PySem.Str))
  | (apply Exists.intro (α := Bool))
  | (apply Exists.intro (α := PySem.Value))
  | (apply Exists.intro (α := PySem.Addr))
  | (apply Exists.intro (α := List L2.V))
  | (apply Exists.intro (α := List (PySem.Str × L2.V)))
  | (apply Exists.intro (α := Nat))
  | (apply Exists.intro (α := List PySem.Str))
  | (apply Exists.intro (α := List Bool))
  | (apply Exists.intro (α := List Nat))
  ))

namespace G
open PySem PySem.Spec PyProof.Rows L2
/-! ### names -/
def lettersS : Str := "abcdefghijklmnopqrstuvwxyz"
def signsS : Str := "abcdefghijklmnopqrstuvwxyz0123456789"
def isLetter (c : Nat) : Bool := decide (c ∈ lettersS.cps.toList)
def isSign (c : Nat) : Bool := decide (c ∈ signsS.cps.toList)
def isNameL (l : List Nat) : Bool := decide (1 ≤ l.length) && decide (l.length ≤ 8) && isLetter (l.headD 0) && l.all isSign
def isNameS (z : Str) : Bool := isNameL z.cps.toList
theorem isNameS_eq (z : Str) : isNameS z = (decide (1 ≤ z.length) && decide (z.length ≤ 8) && isLetter (z.cps.toList.headD 0) && z.cps.toList.all isSign) := by
  unfold isNameS isNameL
  rw [str_len]
theorem at_head {c : Nat} {r : List Nat} : atI (c :: r) 0 = some c := atI_nat (j := 0) rfl
def fSign : V → V
  | .str s => .bl (isSign (s.cps.getD 0 0))
  | _ => .non
theorem signs_map (z : Str) : (signs z).map fSign = (z.cps.toList.map isSign).map V.bl := by
  unfold signs
  rw [List.map_map, List.map_map]
  rfl
theorem all_map {α : Type} (l : List α) (f : α → Bool) : (l.map f).all id = l.all f := by
  induction l with
  | nil => rfl
  | cons a l ih => simp
section
variable {P : Program} {w : World} {K : PySem.W.Frag} {mg : Str → Option Value} {base : Heap} {CX : CXT}
def spIsName (K : PySem.W.Frag) : Sp := fun vs H Q _ => ∃ x : V, vs = [x] ∧
  ((∃ z : Str, x = .str z ∧ z.length ≤ sizeLine ∧ ∀ H', Same H H' → Q (.bl (isNameS z)) H') ∨
   (∃ t, TyX K H x t ∧ PySem.W.kitOne K t (.type "str") = some false ∧ Q (.bl false) H))
theorem ok_is_name {f : Addr} {fd : FuncData} {dvs : List V} {kws : List (Str × V)} (T : Tx K mg)
    (F : FunD K "is_name" "is_name" (defArgs s_is_name) (defBody s_is_name) (defScope s_is_name) dvs kws f fd) :
    FnOk P w K mg base CX 1 f fd ["value"] (spIsName K) := by
  refine F.ok sc_is_name (fun vs H Q E h => ?_) (fun cdv A outer s H vs Q E hr h => ?_)
  · obtain ⟨x, rfl, _⟩ := h
    rfl
  · obtain ⟨x, rfl, h⟩ := h
    refine ⟨_, PSs.nox (pss_cons (ps_if (PW.pt (pw_or (pt_not (pt_val (pe_callB call_isi rfl T.f_isinstance (by decide +kernel) (pa_cons (pv 0) (pa_cons (pe_bltn (v := .ty "str") (u := .type "str") rfl T.f_str (by decide +kernel) rfl) pa_nil))))) (pw_or1 (pt_not (pt_chain op_le op_le pe_int (pe_callB call_len_str rfl T.f_len (by decide +kernel) (pa_cons (pv 0) pa_nil)) (pe_gl T.g_LONGEST_NAME)))))) (pss_one (ps_ret pe_bl)) pss_nil)
    (pss_one (ps_ret (pe_and (pe_cmpR op_in_sign (pe_ix ix_str (pv 0) pe_int (fun _ _ => rfl)) (pe_gl T.g_LETTERS) rfl) (pe_one (pe_callB (cr_all rfl) rfl T.f_all (by decide +kernel) (pa_cons (pe_lc (own := [("sign", 1)]) (g := gName 1) (tt := tYes) rfl sc_is_name.nd (pi_str (pv 0)) (blkOk_by (own := [("sign", 1)]) (N := n_is_name) (sc := defScope s_is_name) (by decide +kernel)) (fun _ _ _ _ _ => (pg_name (i := 1) sc_is_name.nd rfl (Or.inl rfl))) (fun _ _ _ _ _ => pts_nil) (fun _ _ _ _ _ => (pe_cmpR op_in_sign (pv 1) (pe_gl T.g_SIGNS) rfl))) pa_nil))))))), ?_⟩
    rcases h with ⟨z, rfl, hz, q⟩ | ⟨t, ty, ek, q⟩
    · -- a text
      walk_at "rd"
      refine iteD (fun h1 => ?_) (fun h1 => ?_)
      · walk_at "rd"
        refine iteND (fun h2 => ?_) (fun h2 => ?_)
        · have e : isNameS z = false := by
            rw [isNameS_eq, decide_eq_false (show ¬ z.length ≤ 8 by omega)]
            simp
          exact ret_eq (q H (Same.refl H)) (by rw [e])
        · obtain ⟨c, r, ez⟩ : ∃ c r, z.cps.toList = c :: r := by
            rw [str_len] at h1
            cases e : z.cps.toList with
            | nil => rw [e] at h1; simp at h1
            | cons c r => exact ⟨c, r, rfl⟩
          walk_at "rd"
          apply And.intro
          · rw [ez]
            exact at_head
          walk_at "rd"
          refine iteD (fun h3 => ?_) (fun h3 => ?_)
          · walk_at "rd"
            intro D nD
            refine lcP (wk_str z) fSign (fun _ => trivial) (by rw [signs_len]; have := str_len z; simp at this; rw [sizeLine_eq]; omega) ?_ ?_
            · intro i x acc Q' hx hq
              obtain ⟨u, hu, rfl⟩ : ∃ u, z.cps.toList[i]? = some u ∧ x = V.str ⟨#[u]⟩ := by
                unfold signs at hx
                rw [List.getElem?_map] at hx
                cases e : z.cps.toList[i]? with
                | none => rw [e] at hx; cases hx
                | some u => rw [e] at hx; exact ⟨u, rfl, (Option.some.inj hx).symm⟩
              walk_at "rd"
              exact hq
            · refine ⟨D, z.cps.toList.map isSign, rfl, SqL.of ?_, ?_⟩
              · rw [signs_map]; exact upd_same
              · have e : isNameS z = (z.cps.toList.map isSign).all id := by
                  rw [isNameS_eq, all_map, decide_eq_true (show 1 ≤ z.length by omega), decide_eq_true (show z.length ≤ 8 by omega), ez]
                  have hl : isLetter c = true := decide_eq_true h3
                  simp [hl]
                exact ret_eq (q _ ((Same.refl H).new nD)) (by rw [e])
          · have e : isNameS z = false := by
              rw [isNameS_eq, ez]
              have hl : isLetter c = false := decide_eq_false h3
              simp [hl]
            exact ret_eq (q H (Same.refl H)) (by rw [e])
      · walk_at "rd"
        have e : isNameS z = false := by
          rw [isNameS_eq, decide_eq_false (show ¬ 1 ≤ z.length by omega)]
          simp
        exact ret_eq (q H (Same.refl H)) (by rw [e])
    · walk_at "rd"
      exact q
theorem c_is_name (T : Tx K mg) : CalO P w K mg base CX 1 "is_name" [] (spIsName K) := by
  obtain ⟨fd, F⟩ := T.d_is_name
  exact .mk F (ok_is_name T F) T.n_is_name fun _ _ _ _ _ _ us hl => match us, hl with | [_], _ => rfl
/-! ### gates -/
abbrev cG (K : PySem.W.Frag) : Addr := He.ga K "Gate"
def gateF (n w : V) : List (Str × V) := [("called", n), ("outer", w)]
theorem gate_put {n w : V} : putF "outer" w (putF "called" n []) = gateF n w := by
  show (if ("called" : Str) = "outer" then _ else _) = _
  rw [if_neg (by decide +kernel)]
  rfl
/-- a name, or None -/
def NameOr (w : V) : Prop := w = .non ∨ ∃ z, w = .str z ∧ z.length ≤ sizeLine ∧ isNameS z = true
def spGate (K : PySem.W.Frag) : Sp := fun vs H Q _ => ∃ (p dx : Addr) (n : Str) (w : V), vs = [.ref p, .str n, w] ∧ H p = some (.ins (cG K) dx []) ∧
  n.length ≤ sizeLine ∧ isNameS n = true ∧ NameOr w ∧
  ∀ H', But p H H' → H' p = some (.ins (cG K) dx (gateF (.str n) w)) → Q .non H'
theorem ok_Gate {f : Addr} {fd : FuncData} {dvs : List V} {kws : List (Str × V)} (T : Tx K mg)
    (F : FunD K "__init__" "Gate.__init__" (defArgs s_Gate___init__) (defBody s_Gate___init__) (defScope s_Gate___init__) dvs kws f fd) :
    FnOk P w K mg base CX0 2 f fd ["self", "name", "within"] (spGate K) := by
  have c_is_name : CalO P w K mg base CX0 1 "is_name" [] (spIsName K) := c_is_name T
  refine F.ok sc_Gate___init__ (fun vs H Q E h => ?_) (fun cdv A outer s H vs Q E hr h => ?_)
  · obtain ⟨p, dx, n, w, rfl, _⟩ := h
    rfl
  · obtain ⟨p, dx, n, w, rfl, hp, hn, vn, hw, q⟩ := h
    refine ⟨_, PSs.nox (pss_cons (ps_if (pt_not (pt_val (pe_calO c_is_name (hr.mono (by decide)) pass0 (pa_cons (pv 1) pa_nil)))) (pss_one ps_never) pss_nil)
    (pss_cons (ps_if (PW.pt (pw_and (pt_cmpR op_notN (pv 2) pe_non (nomark _)) (pw_and1 (pt_not (pt_val (pe_calO c_is_name (hr.mono (by decide)) pass0 (pa_cons (pv 2) pa_nil))))))) (pss_one ps_never) pss_nil)
    (pss_one (ps_asg (pe_tup (pa_cons (pv 1) (pa_cons (pv 2) pa_nil))) (pg_tup rfl (pgs_cons (pg_attr (pv 0)) (pgs_cons (pg_attr (pv 0)) pgs_nil))))))), ?_⟩
    have cl := T.c_Gate
    have n1 := T.na_Gate_called
    have n2 := T.na_Gate_outer
    walk_at "rd"
    intro H1 s1
    rw [vn]
    rcases hw with rfl | ⟨z, rfl, hz, vz⟩
    · walk_at "rd"
      intro t nt
      walk_at "rd"
      refine q _ (by walk_at "g but") ?_
      rw [upd_same, gate_put]
    · walk_at "rd"
      intro H2 s2
      rw [vz]
      walk_at "rd"
      intro t nt
      walk_at "rd"
      refine q _ (by walk_at "g but") ?_
      rw [upd_same, gate_put]
theorem gate_called {n w : V} : (gateF n w).lookup ("called" : Str) = some n := rfl
theorem gate_outer {n w : V} : (gateF n w).lookup ("outer" : Str) = some w := rfl
theorem scal_nameOr {w w' : V} (h : NameOr w) (h' : NameOr w') : scal w w' = true := by
  rcases h with rfl | ⟨z, rfl, _⟩ <;> rcases h' with rfl | ⟨z', rfl, _⟩ <;> rfl
def spGateEq (K : PySem.W.Frag) : Sp := fun vs H Q _ => ∃ (a dx : Addr) (n : Str) (w y : V), vs = [.ref a, y] ∧ H a = some (.ins (cG K) dx (gateF (.str n) w)) ∧ NameOr w ∧
  ((∃ (b dx' : Addr) (n' : Str) (w' : V), y = .ref b ∧ H b = some (.ins (cG K) dx' (gateF (.str n') w')) ∧ NameOr w' ∧ Q (.bl (decide (n = n') && decide (w = w'))) H) ∨
   (∃ t, TyX K H y t ∧ PySem.W.kitOne K t (.ref (cG K)) = some false ∧ Q (.bl false) H))
theorem ok_Gate_eq {f : Addr} {fd : FuncData} {dvs : List V} {kws : List (Str × V)} (T : Tx K mg)
    (F : FunD K "__eq__" "Gate.__eq__" (defArgs s_Gate___eq__) (defBody s_Gate___eq__) (defScope s_Gate___eq__) dvs kws f fd) :
    FnOk P w K mg base CX 1 f fd ["self", "other"] (spGateEq K) := by
  refine F.ok sc_Gate___eq__ (fun vs H Q E h => ?_) (fun cdv A outer s H vs Q E hr h => ?_)
  · obtain ⟨a, dx, n, w, y, rfl, _⟩ := h
    rfl
  · obtain ⟨a, dx, n, w', y, rfl, ha, hw, h⟩ := h
    have cl := T.c_Gate
    have ci := T.i_Gate
    have n1 := T.na_Gate_called
    have n2 := T.na_Gate_outer
    have me := ci.me
    refine ⟨_, PSs.nox (pss_one (ps_ret (pe_and (pe_callB call_isi rfl T.f_isinstance (by decide +kernel) (pa_cons (pv 1) (pa_cons (pe_gl T.g_Gate) pa_nil))) (pe_and (pe_cmpR op_eq (pe_fld (pv 0) rfl) (pe_fld (pv 1) rfl) (nomark _)) (pe_one (pe_cmpR op_eq (pe_fld (pv 0) rfl) (pe_fld (pv 1) rfl) (nomark _))))))), ?_⟩
    rcases h with ⟨b, dx', n', w'', rfl, hb, hw', q⟩ | ⟨t, ty, ek, q⟩
    · have ty : TyX K H (.ref b) (.ref (cG K)) := .base (ci.ty cl hb)
      have sc := scal_nameOr hw hw'
      walk_at "rd"
      refine iteD (fun h1 => ?_) (fun h1 => ?_)
      · walk_at "rd"
        refine ret_eq q ?_
        have e : n = n' := by injection h1
        rw [decide_eq_true e, Bool.true_and]
      · refine ret_eq q ?_
        have e : ¬ n = n' := fun z => h1 (by rw [z])
        rw [decide_eq_false e, Bool.false_and]
    · walk_at "rd"
      exact q
end
end G
namespace G
open PySem PySem.Spec PyProof.Rows L2
/-! ### the draws -/
theorem cut_take (xs : List V) (k : Nat) : cutV xs none (some (k : Int)) = xs.take k := by
  unfold cutV
  rw [HT.sIx_none, HT.sIx_nat]
  simp only [List.drop_zero, Nat.sub_zero]
  rcases Nat.le_total k xs.length with h | h
  · rw [Nat.min_eq_left h]
  · rw [Nat.min_eq_right h, List.take_of_length_le (Nat.le_refl _), List.take_of_length_le h]
section
variable {P : Program} {w : World} {K : PySem.W.Frag} {mg : Str → Option Value} {base : Heap} {CX : CXT}
def spPool (K : PySem.W.Frag) : Sp := fun vs H Q _ => ∃ (a : Addr) (ns : List Int) (k : Int), vs = [.ref a, .int k] ∧ SqL K H a (ns.map V.int) ∧
  ns.length ≤ 63 ∧ 0 ≤ k ∧ k ≤ 100 ∧ ∀ H' p, Same H H' → H p = none → PoolAt H' p → Q (.ref p) H'
theorem ok_pool {f : Addr} {fd : FuncData} {dvs : List V} {kws : List (Str × V)} (T : Tx K mg)
    (F : FunD K "_law_pool" "_law_pool" (defArgs s__law_pool) (defBody s__law_pool) (defScope s__law_pool) dvs kws f fd) :
    FnG P w K mg base CX 1 f fd ["_law_script", "_law_k"] (spPool K) := by
  refine okG F sc__law_pool (fun vs H Q E h => ?_) (fun cdv A outer s H vs Q E hr hgd h => ?_)
  · obtain ⟨a, ns, k, rfl, _⟩ := h
    rfl
  · obtain ⟨a, ns, k, rfl, ha, hl, k0, k1, q⟩ := h
    have hu := hr.units
    refine ⟨_, PSs.nox (pss_cons (ps_set (i := 2) sc__law_pool.nd rfl (Or.inl rfl) (pe_ifExp (pt_cmpR op_lt (pv 1) (pe_callB call_len_seq rfl T.f_len (by decide +kernel) (pa_cons (pv 0) pa_nil)) (nomark _)) (pe_ix ix_list (pv 0) (pv 1) (fun _ _ => rfl)) (pe_op op_add (pe_op op_mod (pe_callTy call_int1 rfl T.f_int (by decide +kernel) (pa_cons (pe_callB (cr_sum rfl) rfl T.f_sum (by decide +kernel) (pa_cons (pe_slice sl_list (pv 0) po_none (po_some pe_int)) pa_nil)) pa_nil)) pe_int) (pe_op op_mul (pe_op op_mul pe_int (pv 1)) (pv 1)))))
    (pss_cons (ps_set (i := 3) sc__law_pool.nd rfl (Or.inl rfl) (pe_ifExp (pt_cmpR op_ge (pe_callB call_abs rfl T.f_abs (by decide +kernel) (pa_cons (pv 2) pa_nil)) (pe_op op_pow pe_int pe_int) (nomark _)) (pe_callB call_abs rfl T.f_abs (by decide +kernel) (pa_cons (pv 2) pa_nil)) pe_int))
    (pss_one (ps_ret (pe_lst (pa_cons (pe_op op_mod (pe_callTy call_int1 rfl T.f_int (by decide +kernel) (pa_cons (pv 2) pa_nil)) pe_int) (pa_cons (pe_op op_add (pe_op op_mod (pe_callTy call_int1 rfl T.f_int (by decide +kernel) (pa_cons (pe_op op_add (pv 2) (pe_op op_mul pe_int (pv 1))) pa_nil)) pe_int) pe_int) (pa_cons (pv 3) pa_nil)))))))), ?_⟩
    walk_at "rd"
    refine iteD (fun h1 => ?_) (fun h1 => ?_)
    · rw [List.length_map] at h1
      obtain ⟨v, hv⟩ : ∃ v, ns[k.toNat]? = some v := ⟨_, List.getElem?_eq_getElem (by omega)⟩
      walk_at "rd"
      apply And.intro
      · exact at_of (j := k.toNat) (v := V.int v) (by omega) (by rw [List.getElem?_map, hv]; rfl)
      walk_at "rd"
      refine iteD (fun h2 => ?_) (fun h2 => ?_)
      all_goals
        walk_at "rd"
        intro p np
        refine q _ p (by walk_at "g but") np ⟨_, _, _, upd_same, by omega, by omega, by omega, by omega, ?_⟩
        try split
        all_goals omega
    · walk_at "rd"
      intro l nl
      walk_at "rd"
      refine ⟨ns.take 4, rfl, SqL.of ?_, ?_⟩
      · rw [upd_same, show (4 : Int) = ((4 : Nat) : Int) from rfl, cut_take, List.map_take]
      walk_at "rd"
      refine iteD (fun h2 => ?_) (fun h2 => ?_)
      all_goals
        walk_at "rd"
        intro p np
        refine q _ p (by walk_at "g but") (upd_free np) ⟨_, _, _, upd_same, by omega, by omega, by omega, by omega, ?_⟩
        try split
        all_goals omega
def spDraw : Sp := fun vs H Q _ => ∃ (p : Addr) (m : Int), vs = [.ref p, .int m] ∧ 0 < m ∧ m < 1073741824 ∧ PoolAt H p ∧
  ∀ H' r, Pl p H H' → 0 ≤ r → r < m → Q (.int r) H'
theorem ok_draw {f : Addr} {fd : FuncData} {dvs : List V} {kws : List (Str × V)} (T : Tx K mg)
    (F : FunD K "_law_draw" "_law_draw" (defArgs s__law_draw) (defBody s__law_draw) (defScope s__law_draw) dvs kws f fd) :
    FnG P w K mg base CX 1 f fd ["_law_pool_here", "_law_most"] spDraw := by
  refine okG F sc__law_draw (fun vs H Q E h => ?_) (fun cdv A outer s H vs Q E hr hgd h => ?_)
  · obtain ⟨p, m, rfl, _⟩ := h
    rfl
  · obtain ⟨p, m, rfl, m0, m1, ⟨a, b, d, hp, a0, a1, b0, b1, d0⟩, q⟩ := h
    have hu := hr.units
    refine ⟨_, PSs.nox (pss_cons (ps_asg (pe_op op_mod (pe_callTy call_int1 rfl T.f_int (by decide +kernel) (pa_cons (pe_op op_add (pe_op op_add (pe_op op_mul (pe_ix ix_list (pv 0) pe_int (fun _ _ => rfl)) pe_int) (pe_ix ix_list (pv 0) pe_int (fun _ _ => rfl))) pe_int) pa_nil)) pe_int) (pg_sub (pv 0) pe_int set_list))
    (pss_cons (ps_asg (pe_op op_mod (pe_callTy call_int1 rfl T.f_int (by decide +kernel) (pa_cons (pe_op op_add (pe_op op_add (pe_op op_mul (pe_ix ix_list (pv 0) pe_int (fun _ _ => rfl)) pe_int) (pe_op op_fdiv (pe_ix ix_list (pv 0) pe_int (fun _ _ => rfl)) pe_int)) pe_int) pa_nil)) pe_int) (pg_sub (pv 0) pe_int set_list))
    (pss_cons (ps_if (pt_cmpR op_gt (pe_ix ix_list (pv 0) pe_int (fun _ _ => rfl)) pe_int (nomark _)) (pss_cons (ps_asg (pe_callB call_divmod rfl T.f_divmod (by decide +kernel) (pa_cons (pe_ix ix_list (pv 0) pe_int (fun _ _ => rfl)) (pa_cons (pv 1) pa_nil))) (pg_tup rfl (pgs_cons (pg_sub (pv 0) pe_int set_list) (pgs_cons (pg_name (i := 2) sc__law_draw.nd rfl (Or.inl rfl)) pgs_nil))))
    (pss_one (ps_ret (pv 2)))) pss_nil)
    (pss_one (ps_ret (pe_op op_mod (pe_callTy call_int1 rfl T.f_int (by decide +kernel) (pa_cons (pe_op op_add (pe_op op_fdiv (pe_ix ix_list (pv 0) pe_int (fun _ _ => rfl)) pe_int) (pe_op op_fdiv (pe_ix ix_list (pv 0) pe_int (fun _ _ => rfl)) pe_int)) pa_nil)) (pv 1))))))), ?_⟩
    walk_at "rd"
    refine iteD (fun h1 => ?_) (fun h1 => ?_)
    · walk_at "rd"
      intro t nt
      walk_at "rd"
      refine q _ _ ⟨by walk_at "g but", _, _, _, upd_same, ?_⟩ (Int.emod_nonneg _ (by omega)) (Int.emod_lt_of_pos _ m0)
      have := Int.ediv_nonneg d0 (Int.le_of_lt m0)
      refine ⟨?_, ?_, ?_, ?_, ?_⟩ <;> omega
    · walk_at "rd"
      refine q _ _ ⟨by walk_at "g but", _, _, _, upd_same, ?_⟩ (Int.emod_nonneg _ (by omega)) (Int.emod_lt_of_pos _ m0)
      refine ⟨?_, ?_, ?_, ?_, ?_⟩ <;> omega

theorem c_pool (T : Tx K mg) : Cal P w K mg base CX 1 "_law_pool" [] (spPool K) := by
  obtain ⟨fd, F⟩ := T.d__law_pool
  exact .mk F (ok_pool T F) T.n__law_pool fun _ _ _ _ _ _ us hl => match us, hl with | [_, _], _ => rfl
theorem c_draw (T : Tx K mg) : Cal P w K mg base CX 1 "_law_draw" [] spDraw := by
  obtain ⟨fd, F⟩ := T.d__law_draw
  exact .mk F (ok_draw T F) T.n__law_draw fun _ _ _ _ _ _ us hl => match us, hl with | [_, _], _ => rfl
/-! ### drawn names -/
def tagWords : List Str := ["gate", "in", "of", "one", "many", "join", "drop", "arrive", "wait", "else", "look", "anew", "over", "go", "end"]
theorem tagWords_ok : (tagWords.all fun z => isNameS z && decide (z.length ≤ 8)) = true := by decide +kernel
theorem at_any {α : Type} {xs : List α} {z : Int} {j : Nat} {v : α} (e : z = (j : Int)) (h : xs[j]? = some v) : atI xs z = some v := by
  rw [e]
  exact atI_nat h
theorem word_at {r : Int} (h0 : 0 ≤ r) (h1 : r < 15) : ∃ z, atI (tagWords.map V.str) r = some (.str z) ∧ isNameS z = true ∧ z.length ≤ 8 := by
  have lt : r.toNat < tagWords.length := by show r.toNat < 15; omega
  have e : tagWords[r.toNat]? = some (tagWords[r.toNat]) := List.getElem?_eq_getElem lt
  have h := List.all_eq_true.mp tagWords_ok _ (List.getElem_mem lt)
  obtain ⟨h2, h3⟩ := Bool.and_eq_true_iff.mp h
  exact ⟨tagWords[r.toNat], at_any (z := r) (j := r.toNat) (by omega) (by rw [List.getElem?_map, e]; rfl), h2, of_decide_eq_true h3⟩
theorem signs_ok : (signsS.cps.toList.all isSign) = true := by decide +kernel
theorem letters_ok : ((signsS.cps.toList.take 26).all isLetter) = true := by decide +kernel
theorem sign_at {r : Int} (h0 : 0 ≤ r) (h1 : r < 36) : ∃ c, atI signsS.cps.toList r = some c ∧ isSign c = true ∧ (r < 26 → isLetter c = true) := by
  have hl : signsS.cps.toList.length = 36 := by decide +kernel
  have lt : r.toNat < signsS.cps.toList.length := by omega
  have e : signsS.cps.toList[r.toNat]? = some (signsS.cps.toList[r.toNat]) := List.getElem?_eq_getElem lt
  refine ⟨signsS.cps.toList[r.toNat], at_any (z := r) (j := r.toNat) (by omega) e, List.all_eq_true.mp signs_ok _ (List.getElem_mem lt), fun h => ?_⟩
  refine List.all_eq_true.mp letters_ok _ ?_
  rw [List.mem_take_iff_getElem]
  exact ⟨r.toNat, by omega, rfl⟩
theorem letter_at {r : Int} (h0 : 0 ≤ r) (h1 : r < 26) : ∃ c, atI lettersS.cps.toList r = some c ∧ isLetter c = true := by
  have hl : lettersS.cps.toList.length = 26 := by decide +kernel
  have lt : r.toNat < lettersS.cps.toList.length := by omega
  have e : lettersS.cps.toList[r.toNat]? = some (lettersS.cps.toList[r.toNat]) := List.getElem?_eq_getElem lt
  exact ⟨lettersS.cps.toList[r.toNat], at_any (z := r) (j := r.toNat) (by omega) e, decide_eq_true (List.getElem_mem lt)⟩
theorem letter_sign {c : Nat} (h : isLetter c = true) : isSign c = true := by
  have sub : (lettersS.cps.toList.all isSign) = true := by decide +kernel
  exact List.all_eq_true.mp sub c (of_decide_eq_true h)
def one (c : Nat) : Str := ⟨#[c]⟩
theorem joinL_ones : ∀ cs : List Nat, TL.joinL [] (cs.map fun c => [c]) = cs
  | [] => rfl
  | [c] => rfl
  | c :: d :: r => by
    show [c] ++ ([] ++ TL.joinL [] ((d :: r).map fun c => [c])) = c :: d :: r
    rw [joinL_ones (d :: r)]
    rfl
theorem join_ones (cs : List Nat) : (Txt.join Str.empty (cs.map one)).cps.toList = cs := by
  rw [TL.join_eq]
  have h := TL.tl_join Str.empty (cs.map one)
  rw [List.map_map] at h
  exact h.trans (joinL_ones cs)
theorem name_cons {c : Nat} {cs : List Nat} (h : isLetter c = true) (hs : cs.all isSign = true) (hl : cs.length ≤ 7) {z : Str} (e : z.cps.toList = c :: cs) : isNameS z = true ∧ z.length ≤ 8 := by
  refine ⟨?_, by rw [str_len, e, List.length_cons]; omega⟩
  unfold isNameS isNameL
  rw [e, decide_eq_true (show 1 ≤ (c :: cs).length by simp), decide_eq_true (show (c :: cs).length ≤ 8 by rw [List.length_cons]; omega)]
  simp only [List.headD_cons, h, List.all_cons, letter_sign h, hs, Bool.and_self]
/-- None, or a name that is short -/
def NameOr8 (v : V) : Prop := v = .non ∨ ∃ z, v = .str z ∧ z.length ≤ 8 ∧ isNameS z = true
def spTag : Sp := fun vs H Q _ => ∃ p : Addr, vs = [.ref p] ∧ PoolAt H p ∧ ∀ H' z, Pl p H H' → isNameS z = true → z.length ≤ 8 → Q (.str z) H'
theorem ok_tag {f : Addr} {fd : FuncData} {dvs : List V} {kws : List (Str × V)} (T : Tx K mg)
    (F : FunD K "_law_tag" "_law_tag" (defArgs s__law_tag) (defBody s__law_tag) (defScope s__law_tag) dvs kws f fd) :
    FnG P w K mg base CX0 2 f fd ["_law_pool_here"] spTag := by
  have c__law_draw : Cal P w K mg base CX0 1 "_law_draw" [] spDraw := c_draw T
  refine okG F sc__law_tag (fun vs H Q E h => ?_) (fun cdv A outer s H vs Q E hr hgd h => ?_)
  · obtain ⟨p, rfl, _⟩ := h
    rfl
  · obtain ⟨p, rfl, hp, q⟩ := h
    have hu := hr.units
    refine ⟨_, PSs.nox (pss_cons (ps_if (pt_cmpR op_eq (pe_cal c__law_draw (hr.mono (by decide)) hgd pass0 (pa_cons (pv 0) (pa_cons pe_int pa_nil))) pe_int (nomark _)) (pss_cons (ps_set (i := 1) sc__law_tag.nd rfl (Or.inl rfl) (pe_lst (pa_cons pe_str (pa_cons pe_str (pa_cons pe_str (pa_cons pe_str (pa_cons pe_str (pa_cons pe_str (pa_cons pe_str (pa_cons pe_str (pa_cons pe_str (pa_cons pe_str (pa_cons pe_str (pa_cons pe_str (pa_cons pe_str pa_nil)))))))))))))))
    (pss_one (ps_ret (pe_ix ix_list (pe_op op_cat (pv 1) (pe_lst (pa_cons pe_str (pa_cons pe_str pa_nil)))) (pe_cal c__law_draw (hr.mono (by decide)) hgd pass0 (pa_cons (pv 0) (pa_cons pe_int pa_nil))) (fun _ _ => rfl))))) pss_nil)
    (pss_cons (ps_asg (pe_tup (pa_cons pe_str (pa_cons (pe_cal c__law_draw (hr.mono (by decide)) hgd pass0 (pa_cons (pv 0) (pa_cons pe_int pa_nil))) pa_nil))) (pg_tup rfl (pgs_cons (pg_name (i := 2) sc__law_tag.nd rfl (Or.inr rfl)) (pgs_cons (pg_name (i := 3) sc__law_tag.nd rfl (Or.inl rfl)) pgs_nil))))
    (pss_one (ps_ret (pe_op op_add_str (pe_ix ix_str (pv 2) (pe_cal c__law_draw (hr.mono (by decide)) hgd pass0 (pa_cons (pv 0) (pa_cons pe_int pa_nil))) (fun _ _ => rfl)) (pe_join pe_str (pe_lc (own := [("_law_k", 4)]) (g := gName 4) (tt := tYes) rfl sc__law_tag.nd (pi_range1 rfl T.f_range (pa_cons (pv 3) pa_nil)) (blkOk_by (own := [("_law_k", 4)]) (N := n__law_tag) (sc := defScope s__law_tag) (by decide +kernel)) (fun _ _ _ _ _ => (pg_name (i := 4) sc__law_tag.nd rfl (Or.inl rfl))) (fun _ _ _ _ _ => pts_nil) (fun _ _ _ _ _ => (pe_ix ix_str (pv 2) (pe_cal c__law_draw (hr.mono (by decide)) hgd pass0 (pa_cons (pv 0) (pa_cons pe_int pa_nil))) (fun _ _ => rfl)))))))))), ?_⟩
    walk_at "rd"
    intro H1 r r1 r0 rm
    walk_at "rd"
    refine iteD (fun h1 => ?_) (fun h1 => ?_)
    · walk_at "rd"
      intro l1 n1
      walk_at "rd"
      intro l2 n2
      walk_at "rd"
      intro l3 n3
      walk_at "rd"
      intro H2 r2 s2 r20 r21
      obtain ⟨z, hz, vz, lz⟩ := word_at r20 r21
      walk_at "rd"
      exact q _ _ (by walk_at "g but") vz lz
    · walk_at "rd"
      intro H2 sz r2 sz0 szm
      walk_at "rd"
      intro t nt
      walk_at "rd"
      intro H3 at1 r3 at0 atm
      obtain ⟨c, hc, lc⟩ := sign_at at0 (show at1 < 36 by omega)
      walk_at "rd"
      intro D nD
      refine lcW (wk_range 0 sz.toNat) (fun i H => Pl p H3 H ∧ ∃ cs : List Nat, H D = some (.lst ((cs.map one).map V.str)) ∧ cs.length = i ∧ cs.all isSign = true)
        ⟨by walk_at "g but", [], upd_same, rfl, rfl⟩ (fun _ _ _ _ => trivial) ?_ ?_
      · rintro i x H4 hx ⟨pl4, cs, hD, hl, ha⟩
        have hi := (List.getElem?_eq_some_iff.mp hx).1
        rw [rngV_len] at hi
        walk_at "rd"
        intro H5 r5 pl5 r50 r51
        obtain ⟨c5, hc5, sc5, _⟩ := sign_at r50 r51
        walk_at "rd"
        refine ⟨by rw [List.length_map, List.length_map, hl]; show i < 16777216; omega, by walk_at "g but", cs ++ [c5], ?_, ?_, ?_⟩
        · rw [upd_same, List.map_append, List.map_append]
          rfl
        · rw [List.length_append, hl]
          rfl
        · rw [List.all_append, ha]
          simp [sc5]
      · rintro H4 ⟨pl4, cs, hD, hl, ha⟩
        rw [rngV_len] at hl
        have hz := join_ones cs
        have hc := name_cons (lc.2 atm) ha (by omega) (z := one c ++ Txt.join (Str.ofString "") (cs.map one)) (by
          show (#[c] ++ _).toList = _
          rw [Array.toList_append]
          exact congrArg (c :: ·) hz)
        have hs : ((cs.map one).map fun x => x.length).sum = cs.length := by
          rw [List.map_map]
          clear hz hc hl ha hD
          induction cs with
          | nil => rfl
          | cons d r ih => rw [List.map_cons, List.sum_cons, ih, List.length_cons]; show 1 + _ = _; omega
        walk_at "rd"
        refine ⟨by rw [hs, List.length_map]; show cs.length + cs.length * 0 ≤ _; omega, ?_⟩
        walk_at "rd"
        exact ⟨by have h8 : _ ≤ 8 := hc.2; exact Nat.le_trans (Nat.le_of_eq (cat_len _ _).symm) (Nat.le_trans h8 (by decide)), q _ _ (by walk_at "g but") hc.1 hc.2⟩
theorem c_tag (T : Tx K mg) : Cal P w K mg base CX0 2 "_law_tag" [] spTag := by
  obtain ⟨fd, F⟩ := T.d__law_tag
  exact .mk F (ok_tag T F) T.n__law_tag fun _ _ _ _ _ _ us hl => match us, hl with | [_], _ => rfl
end
end G
namespace G
open PySem PySem.Spec PyProof.Rows L2
theorem name_form {z : Str} (h : isNameS z = true) : ∃ c r, z.cps.toList = c :: r ∧ isLetter c = true ∧ r.all isSign = true ∧ r.length ≤ 7 := by
  rw [isNameS_eq, str_len] at h
  simp only [Bool.and_eq_true, decide_eq_true_eq] at h
  obtain ⟨⟨⟨h1, h2⟩, h3⟩, h4⟩ := h
  cases e : z.cps.toList with
  | nil => rw [e] at h1; simp at h1
  | cons c r =>
    rw [e] at h2 h3 h4
    rw [List.all_cons, Bool.and_eq_true] at h4
    exact ⟨c, r, rfl, h3, h4.2, by rw [List.length_cons] at h2; omega⟩
theorem cat_list (x y : Str) : (x ++ y).cps.toList = x.cps.toList ++ y.cps.toList := by
  show (x.cps ++ y.cps).toList = _
  rw [Array.toList_append]
/-! ### rows as texts -/
def digS (k : Nat) : Str := ⟨#[48 + k]⟩
def fourW : List Str := ["join", "drop", "look", "anew"]
inductive RW
  | one (w g : Str)
  | arr (g : Str) (d : Nat)
  | wai (g : Str) (k : Nat)
  | ovr (g : Str) (d k : Nat)
  | go (ks : List Nat)
  | fin
def Nm (z : Str) : Prop := isNameS z = true ∧ z.length ≤ 8
def RW.words : RW → List Str
  | .one w g => [w, g]
  | .arr g d => ["arrive", g, digS d]
  | .wai g k => ["wait", g, "else", digS k]
  | .ovr g d k => ["over", g, digS d, digS k]
  | .go ks => "go" :: ks.map digS
  | .fin => ["end"]
def RW.goals : RW → List Nat
  | .wai _ k => [k]
  | .ovr _ _ k => [k]
  | .go ks => ks
  | _ => []
/-- a row by the grammar, its values small -/
def RW.Ok : RW → Prop
  | .one w g => w ∈ fourW ∧ Nm g
  | .arr g d => Nm g ∧ d < 4
  | .wai g k => Nm g ∧ k < 10
  | .ovr g d k => Nm g ∧ d < 4 ∧ k < 10
  | .go ks => ks ≠ [] ∧ ks.length ≤ 4 ∧ (∀ k ∈ ks, k < 10) ∧ ks.Pairwise (· < ·)
  | .fin => True
def rwText (r : RW) : Str := Txt.join " " r.words
def rowText : Option Str → RW → Str
  | none, r => rwText r
  | some l, r => l ++ ": " ++ rwText r
/-- only letters and figures -/
def Plain (z : Str) : Prop := ∀ c ∈ z.cps.toList, isSign c = true
theorem nm_plain {z : Str} (h : Nm z) : Plain z := by
  obtain ⟨c, r, e, hc, hr, _⟩ := name_form h.1
  intro d hd
  rw [e] at hd
  rcases List.mem_cons.mp hd with rfl | hd
  · exact letter_sign hc
  · exact List.all_eq_true.mp hr d hd
theorem dig_plain {k : Nat} (h : k < 10) : Plain (digS k) := by
  have a : ∀ k : Fin 10, isSign (48 + k.val) = true := by decide +kernel
  intro c hc
  have e : c = 48 + k := by simpa [digS] using hc
  rw [e]
  exact a ⟨k, h⟩
theorem lit_plain : ∀ z ∈ (["join", "drop", "look", "anew", "arrive", "wait", "else", "over", "go", "end"] : List Str), Plain z := by
  have a : (["join", "drop", "look", "anew", "arrive", "wait", "else", "over", "go", "end"] : List Str).all (fun z => z.cps.toList.all isSign) = true := by decide +kernel
  intro z hz c hc
  exact List.all_eq_true.mp (List.all_eq_true.mp a z hz) c hc
theorem words_plain {r : RW} (h : r.Ok) : ∀ z ∈ r.words, Plain z ∧ z.length ≤ 8 := by
  have short : ∀ z ∈ (["join", "drop", "look", "anew", "arrive", "wait", "else", "over", "go", "end"] : List Str), z.length ≤ 8 := by decide +kernel
  have dl : ∀ k, (digS k).length ≤ 8 := fun k => by show 1 ≤ 8; decide
  have lit : ∀ z ∈ (["join", "drop", "look", "anew", "arrive", "wait", "else", "over", "go", "end"] : List Str), Plain z ∧ z.length ≤ 8 := fun z hz => ⟨lit_plain z hz, short z hz⟩
  have nm : ∀ g, Nm g → Plain g ∧ g.length ≤ 8 := fun g hg => ⟨nm_plain hg, hg.2⟩
  have dg : ∀ k, k < 10 → Plain (digS k) ∧ (digS k).length ≤ 8 := fun k hk => ⟨dig_plain hk, dl k⟩
  intro z hz
  cases r with
  | one w g =>
    obtain ⟨hw, hg⟩ := h
    rcases List.mem_cons.mp hz with rfl | hz
    · exact lit z (by simp only [fourW, List.mem_cons, List.not_mem_nil, or_false] at hw; rcases hw with rfl | rfl | rfl | rfl <;> simp)
    · rw [List.mem_singleton.mp hz]; exact nm g hg
  | arr g d =>
    obtain ⟨hg, hd⟩ := h
    simp only [RW.words, List.mem_cons, List.not_mem_nil, or_false] at hz
    rcases hz with rfl | rfl | rfl
    · exact lit _ (by simp)
    · exact nm _ hg
    · exact dg _ (by omega)
  | wai g k =>
    obtain ⟨hg, hd⟩ := h
    simp only [RW.words, List.mem_cons, List.not_mem_nil, or_false] at hz
    rcases hz with rfl | rfl | rfl | rfl
    · exact lit _ (by simp)
    · exact nm _ hg
    · exact lit _ (by simp)
    · exact dg _ (by omega)
  | ovr g d k =>
    obtain ⟨hg, hd, hk⟩ := h
    simp only [RW.words, List.mem_cons, List.not_mem_nil, or_false] at hz
    rcases hz with rfl | rfl | rfl | rfl
    · exact lit _ (by simp)
    · exact nm _ hg
    · exact dg _ (by omega)
    · exact dg _ (by omega)
  | go ks =>
    obtain ⟨_, _, hk, _⟩ := h
    rcases List.mem_cons.mp hz with rfl | hz
    · exact lit _ (by simp)
    · obtain ⟨k, hm, rfl⟩ := List.mem_map.mp hz
      exact dg k (hk k hm)
  | fin =>
    rw [List.mem_singleton.mp hz]
    exact lit _ (by simp)
theorem words_few {r : RW} (h : r.Ok) : r.words ≠ [] ∧ r.words.length ≤ 5 := by
  cases r with
  | go ks => exact ⟨by simp [RW.words], by show (ks.map digS).length + 1 ≤ 5; rw [List.length_map]; have := h.2.1; omega⟩
  | _ => exact ⟨by simp [RW.words], by simp [RW.words]⟩
theorem joinL_mem {S : List Nat} : ∀ {ps : List (List Nat)} {c : Nat}, c ∈ TL.joinL S ps → c ∈ S ∨ ∃ p ∈ ps, c ∈ p
  | [], c, h => by cases h
  | [p], c, h => .inr ⟨p, List.mem_singleton.mpr rfl, h⟩
  | p :: q :: r, c, h => by
    have h' : c ∈ p ++ (S ++ TL.joinL S (q :: r)) := h
    rcases List.mem_append.mp h' with h | h
    · exact .inr ⟨p, List.mem_cons_self, h⟩
    rcases List.mem_append.mp h with h | h
    · exact .inl h
    rcases joinL_mem h with h | ⟨p', hp, h⟩
    · exact .inl h
    · exact .inr ⟨p', List.mem_cons_of_mem _ hp, h⟩
theorem joinL_len {S : List Nat} (hS : S.length ≤ 1) : ∀ {ps : List (List Nat)}, (∀ p ∈ ps, p.length ≤ 8) → (TL.joinL S ps).length ≤ 9 * ps.length
  | [], _ => Nat.zero_le _
  | [p], h => by have := h p (List.mem_singleton.mpr rfl); show p.length ≤ 9 * 1; omega
  | p :: q :: r, h => by
    have h1 := h p List.mem_cons_self
    have h2 := joinL_len hS (ps := q :: r) fun z hz => h z (List.mem_cons_of_mem _ hz)
    show (p ++ (S ++ TL.joinL S (q :: r))).length ≤ 9 * ((q :: r).length + 1)
    rw [List.length_append, List.length_append]
    omega
theorem rwText_list (r : RW) : (rwText r).cps.toList = TL.joinL [32] (r.words.map TL.tl) := by
  unfold rwText
  rw [TL.join_eq]
  exact TL.tl_join _ _
theorem rwText_len {r : RW} (h : r.Ok) : (rwText r).length ≤ 45 := by
  rw [str_len, rwText_list]
  have h2 := (words_few h).2
  have h1 := joinL_len (S := [32]) (by decide) (ps := r.words.map TL.tl) (by
    intro p hp
    obtain ⟨z, hz, rfl⟩ := List.mem_map.mp hp
    have := (words_plain h z hz).2
    rw [str_len] at this
    exact this)
  rw [List.length_map] at h1
  omega
theorem plain_not {z : Str} (h : Plain z) {c : Nat} (hc : isSign c = false) : c ∉ z.cps.toList := fun hm => by
  rw [h c hm] at hc
  cases hc
theorem rwText_split {r : RW} (h : r.Ok) : Txt.split (rwText r) (Str.ofString " ") = r.words :=
  TL.split_join (y := Str.ofString " ") (s := 32) (S := []) (by decide +kernel) (by decide +kernel) (words_few h).1 fun z hz => plain_not (words_plain h z hz).1 (by decide +kernel)
theorem rwText_colon {r : RW} (h : r.Ok) : 58 ∉ (rwText r).cps.toList := by
  rw [rwText_list]
  intro hm
  rcases joinL_mem hm with h1 | ⟨p, hp, h1⟩
  · exact absurd h1 (by decide)
  · obtain ⟨z, hz, rfl⟩ := List.mem_map.mp hp
    exact plain_not (words_plain h z hz).1 (by decide +kernel) h1
theorem rowText_part0 {r : RW} (h : r.Ok) : Txt.partition (rowText none r) (Str.ofString ": ") = (rwText r, Str.empty, Str.empty) :=
  TL.partition_none (y := Str.ofString ": ") (s := 58) (S := [32]) (by decide +kernel) (rwText_colon h)
theorem rowText_part1 {l : Str} {r : RW} (hl : Nm l) : Txt.partition (rowText (some l) r) (Str.ofString ": ") = (l, Str.ofString ": ", rwText r) :=
  TL.partition_app (y := Str.ofString ": ") (s := 58) (S := [32]) (by decide +kernel) (plain_not (nm_plain hl) (by decide +kernel))
theorem rowText_len {l : Option Str} {r : RW} (h : r.Ok) (hl : ∀ z, l = some z → Nm z) : (rowText l r).length ≤ 55 := by
  have h1 := rwText_len h
  cases l with
  | none => exact Nat.le_trans h1 (by decide)
  | some z =>
    have h2 := (hl z rfl).2
    show (z ++ Str.ofString ": " ++ rwText r).length ≤ 55
    rw [cat_len, cat_len, show (Str.ofString ": ").length = 2 from by decide +kernel]
    omega
end G
namespace G
open PySem PySem.Spec PyProof.Rows L2
section
variable {P : Program} {w : World} {K : PySem.W.Frag} {mg : Str → Option Value} {base : Heap} {CX : CXT}
/-! ### rows as objects -/
abbrev cR (K : PySem.W.Frag) : Addr := He.ga K "Row"
abbrev rowGo (K : PySem.W.Frag) : V := .ref (kwdAt ("Row", some "__init__") "goals" K)
def intV (gs : List Nat) : List V := gs.map fun (k : Nat) => V.int (k : Int)
/-- a tuple of goals: new, or the one that stands for none -/
def GoAt (K : PySem.W.Frag) (H : Hp) (g : Addr) (gs : List Nat) : Prop := H g = some (.tup (intV gs)) ∨ (gs = [] ∧ ∀ H, SqT K H g [])
theorem GoAt.sq {H : Hp} {g : Addr} {gs : List Nat} (h : GoAt K H g gs) : SqT K H g (intV gs) := by
  rcases h with h | ⟨rfl, h⟩
  · exact SqT.of h
  · exact h H
theorem GoAt.same {H H' : Hp} {g : Addr} {gs : List Nat} (h : GoAt K H g gs) (s : Same H H') : GoAt K H' g gs := by
  rcases h with h | h
  · exact .inl (s _ _ h)
  · exact .inr h
theorem GoAt.but {H H' : Hp} {g p C dx : Addr} {fs : List (Str × V)} {gs : List Nat} (h : GoAt K H g gs) (hp : H p = some (.ins C dx fs)) (s : But p H H') : GoAt K H' g gs := by
  rcases h with h | h
  · exact .inl (s _ _ (ne_of h hp (by rintro h; cases h)) h)
  · exact .inr h
def goalV (gs : List Nat) : V := match gs with
  | [] => .non
  | k :: _ => .int (k : Int)
abbrev rowFs (tx la wo ga va : V) (g : Addr) (gs : List Nat) : List (Str × V) := [("text", tx), ("label", la), ("word", wo), ("gate", ga), ("value", va), ("goals", .ref g), ("goal", goalV gs)]
def spRow (K : PySem.W.Frag) : Sp := fun vs H Q _ => ∃ (p dx g : Addr) (tx la wo ga va : V) (gs : List Nat), vs = [.ref p, tx, la, wo, ga, va, .ref g] ∧ H p = some (.ins (cR K) dx []) ∧ GoAt K H g gs ∧
  ∀ H', But p H H' → H' p = some (.ins (cR K) dx (rowFs tx la wo ga va g gs)) → Q .non H'
theorem ok_Row {f : Addr} {fd : FuncData} {dvs : List V} {kws : List (Str × V)} (T : Tx K mg)
    (F : FunD K "__init__" "Row.__init__" (defArgs s_Row___init__) (defBody s_Row___init__) (defScope s_Row___init__) dvs kws f fd) :
    FnOk P w K mg base CX 1 f fd ["self", "text", "label", "word", "gate", "value", "goals"] (spRow K) := by
  refine F.ok sc_Row___init__ (fun vs H Q E h => ?_) (fun cdv A outer s H vs Q E hr h => ?_)
  · obtain ⟨p, dx, g, tx, la, wo, ga, va, gs, rfl, _⟩ := h
    rfl
  · obtain ⟨p, dx, g, tx, la, wo, ga, va, gs, rfl, hp, hg, q⟩ := h
    have cl := T.c_Row
    have n1 := T.na_Row_text
    have n2 := T.na_Row_label
    have n3 := T.na_Row_word
    have n4 := T.na_Row_gate
    have n5 := T.na_Row_value
    have n6 := T.na_Row_goals
    have n7 := T.na_Row_goal
    refine ⟨_, PSs.nox (pss_cons (ps_asg (pe_tup (pa_cons (pv 1) (pa_cons (pv 2) (pa_cons (pv 3) pa_nil)))) (pg_tup rfl (pgs_cons (pg_attr (pv 0)) (pgs_cons (pg_attr (pv 0)) (pgs_cons (pg_attr (pv 0)) pgs_nil)))))
    (pss_cons (ps_asg (pe_tup (pa_cons (pv 4) (pa_cons (pv 5) (pa_cons (pv 6) pa_nil)))) (pg_tup rfl (pgs_cons (pg_attr (pv 0)) (pgs_cons (pg_attr (pv 0)) (pgs_cons (pg_attr (pv 0)) pgs_nil)))))
    (pss_one (ps_fld (pv 0) (pe_ifExp (pt_cmpR op_gt (pe_callB call_len_seq rfl T.f_len (by decide +kernel) (pa_cons (pv 6) pa_nil)) pe_int (nomark _)) (pe_ix ix_tup (pv 6) pe_int (fun _ _ => rfl)) pe_non) rfl)))), ?_⟩
    walk_at "rd"
    intro t nt
    walk_at "rd"
    intro t2 nt2
    walk_at "rd"
    refine ⟨Or.inr (hg.but hp (by walk_at "g but")).sq, ?_⟩
    cases gs with
    | nil =>
      walk_at "rd"
      refine q _ (by walk_at "g but") ?_
      rw [upd_same]
      rfl
    | cons k r =>
      walk_at "rd"
      refine iteD (fun _ => ?_) (fun h => absurd (show (0 : Int) < ((List.length (intV r) + 1 : Nat) : Int) by omega) h)
      walk_at "rd"
      refine ⟨(hg.but hp (by walk_at "g but")).sq, at_any (v := V.int (k : Int)) (j := 0) rfl rfl, ?_⟩
      walk_at "rd"
      refine q _ (by walk_at "g but") ?_
      rw [upd_same]
      rfl
theorem c_Row_3 (T : Tx K mg) : CalC P w K mg base CX 1 "Row" (cR K) [.non, .non, rowGo K] (spRow K) := by
  obtain ⟨fd, F⟩ := T.d_Row___init__
  obtain ⟨ds, rd, hb⟩ := F.binds0 (ps := ["self", "text", "label", "word", "gate", "value", "goals"]) 4 (fun h => absurd (show 3 = 0 from congrArg List.length h) (by decide)) rfl (fun D doc pm an cdv ct us ks l1 l2 => match us, ks, l1, l2 with
    | [_, _, _, _], [_, _, _], _, _ => ⟨_, _, _, _, _, _, rfl, rfl, _, _, _, _, _, _, rfl, rfl, _, _, _, _, _, _, rfl, rfl, rfl⟩)
  obtain ⟨u, hm, ru⟩ := T.g_Row
  obtain rfl : u = Value.ref (cR K) := ru
  exact ⟨_, fd, _, ds, T.mk_Row, ok_Row T F, hm, hb, rd⟩
def gWM {α : Type} (us mv ws : List α) : List α := us ++ (ws ++ mv)
def gMW {α : Type} (us mv ws : List α) : List α := us ++ (mv ++ ws)
def gWMW {α : Type} (us mv ws : List α) : List α := us ++ (ws.take 1 ++ (mv ++ ws.drop 1))
theorem c_Row_3_gate (T : Tx K mg) : CalN P w K mg base CX 1 "Row" (cR K) 3 ["gate"] (fun vs zs => gWM vs [.non, rowGo K] zs) (spRow K) := by
  obtain ⟨fd, F⟩ := T.d_Row___init__
  obtain ⟨mv, hb⟩ := F.kbinds0 (ps := ["self", "text", "label", "word", "gate", "value", "goals"]) 4 ["gate"] [("value", .non), ("goals", rowGo K)] gWM (fun h => absurd (show 3 = 0 from congrArg List.length h) (by decide))
    (fun q hq => (List.mem_cons.mp hq).elim (fun e => e ▸ .tail _ (.head _)) fun hq => List.mem_singleton.mp hq ▸ .tail _ (.tail _ (.head _)))
    (fun r1 r2 r3 => vals_app r1 (vals_app r3 r2)) (fun D doc pm an cdv ct us mv ws l1 l2 l3 => match us, mv, ws, l1, l2, l3 with
    | [_, _, _, _], [_, _], [_], _, _, _ => ⟨_, _, _, _, _, _, rfl, rfl, _, _, _, _, _, _, rfl, rfl, rfl⟩)
  obtain ⟨u, hm, ru⟩ := T.g_Row
  obtain rfl : u = Value.ref (cR K) := ru
  exact ⟨_, fd, _, _, T.mk_Row, ok_Row T F, hm, hb⟩
theorem c_Row_3_gate_value (T : Tx K mg) : CalN P w K mg base CX 1 "Row" (cR K) 3 ["gate", "value"] (fun vs zs => gWM vs [rowGo K] zs) (spRow K) := by
  obtain ⟨fd, F⟩ := T.d_Row___init__
  obtain ⟨mv, hb⟩ := F.kbinds0 (ps := ["self", "text", "label", "word", "gate", "value", "goals"]) 4 ["gate", "value"] [("goals", rowGo K)] gWM (fun h => absurd (show 3 = 0 from congrArg List.length h) (by decide))
    (fun q hq => List.mem_singleton.mp hq ▸ .tail _ (.tail _ (.head _)))
    (fun r1 r2 r3 => vals_app r1 (vals_app r3 r2)) (fun D doc pm an cdv ct us mv ws l1 l2 l3 => match us, mv, ws, l1, l2, l3 with
    | [_, _, _, _], [_], [_, _], _, _, _ => ⟨_, _, _, _, _, _, rfl, rfl, rfl⟩)
  obtain ⟨u, hm, ru⟩ := T.g_Row
  obtain rfl : u = Value.ref (cR K) := ru
  exact ⟨_, fd, _, _, T.mk_Row, ok_Row T F, hm, hb⟩
theorem c_Row_3_gate_goals (T : Tx K mg) : CalN P w K mg base CX 1 "Row" (cR K) 3 ["gate", "goals"] (fun vs zs => gWMW vs [.non] zs) (spRow K) := by
  obtain ⟨fd, F⟩ := T.d_Row___init__
  obtain ⟨mv, hb⟩ := F.kbinds0 (ps := ["self", "text", "label", "word", "gate", "value", "goals"]) 4 ["gate", "goals"] [("value", .non)] gWMW (fun h => absurd (show 3 = 0 from congrArg List.length h) (by decide))
    (fun q hq => List.mem_singleton.mp hq ▸ .tail _ (.head _))
    (fun r1 r2 r3 => vals_app r1 (vals_app (vals_take 1 r3) (vals_app r2 (vals_drop 1 r3)))) (fun D doc pm an cdv ct us mv ws l1 l2 l3 => match us, mv, ws, l1, l2, l3 with
    | [_, _, _, _], [_], [_, _], _, _, _ => ⟨_, _, _, _, _, _, rfl, rfl, rfl⟩)
  obtain ⟨u, hm, ru⟩ := T.g_Row
  obtain rfl : u = Value.ref (cR K) := ru
  exact ⟨_, fd, _, _, T.mk_Row, ok_Row T F, hm, hb⟩
theorem c_Row_3_gate_value_goals (T : Tx K mg) : CalN P w K mg base CX 1 "Row" (cR K) 3 ["gate", "value", "goals"] (fun vs zs => gWM vs [] zs) (spRow K) := by
  obtain ⟨fd, F⟩ := T.d_Row___init__
  obtain ⟨mv, hb⟩ := F.kbinds0 (ps := ["self", "text", "label", "word", "gate", "value", "goals"]) 4 ["gate", "value", "goals"] [] gWM (fun h => absurd (show 3 = 0 from congrArg List.length h) (by decide))
    (fun q hq => nomatch hq)
    (fun r1 r2 r3 => vals_app r1 (vals_app r3 r2)) (fun D doc pm an cdv ct us mv ws l1 l2 l3 => match us, mv, ws, l1, l2, l3 with
    | [_, _, _, _], [], [_, _, _], _, _, _ => rfl)
  obtain ⟨u, hm, ru⟩ := T.g_Row
  obtain rfl : u = Value.ref (cR K) := ru
  exact ⟨_, fd, _, _, T.mk_Row, ok_Row T F, hm, hb⟩
theorem c_Row_3_goals (T : Tx K mg) : CalN P w K mg base CX 1 "Row" (cR K) 3 ["goals"] (fun vs zs => gMW vs [.non, .non] zs) (spRow K) := by
  obtain ⟨fd, F⟩ := T.d_Row___init__
  obtain ⟨mv, hb⟩ := F.kbinds0 (ps := ["self", "text", "label", "word", "gate", "value", "goals"]) 4 ["goals"] [("gate", .non), ("value", .non)] gMW (fun h => absurd (show 3 = 0 from congrArg List.length h) (by decide))
    (fun q hq => (List.mem_cons.mp hq).elim (fun e => e ▸ .head _) fun hq => List.mem_singleton.mp hq ▸ .tail _ (.head _))
    (fun r1 r2 r3 => vals_app r1 (vals_app r2 r3)) (fun D doc pm an cdv ct us mv ws l1 l2 l3 => match us, mv, ws, l1, l2, l3 with
    | [_, _, _, _], [_, _], [_], _, _, _ => ⟨_, _, _, _, _, _, rfl, rfl, _, _, _, _, _, _, rfl, rfl, rfl⟩)
  obtain ⟨u, hm, ru⟩ := T.g_Row
  obtain rfl : u = Value.ref (cR K) := ru
  exact ⟨_, fd, _, _, T.mk_Row, ok_Row T F, hm, hb⟩
theorem dig_in {k : Nat} (h : k < 10) : 48 + k ∈ (Str.ofString "0123456789").cps.toList := by
  have a : ∀ k : Fin 10, 48 + k.val ∈ (Str.ofString "0123456789").cps.toList := by decide +kernel
  exact a ⟨k, h⟩
theorem dig_int {k : Nat} (h : k < 10) : PySem.intText? (digS k) = some (k : Int) := by
  have a : ∀ k : Fin 10, PySem.intText? (digS k.val) = some (k.val : Int) := by decide +kernel
  exact a ⟨k, h⟩
def spDigit : Sp := fun vs H Q _ => ∃ k : Nat, vs = [.str (digS k)] ∧ k < 10 ∧ Q (.int (k : Int)) H
theorem ok_digit_of {f : Addr} {fd : FuncData} {dvs : List V} {kws : List (Str × V)} (T : Tx K mg)
    (F : FunD K "digit_of" "digit_of" (defArgs s_digit_of) (defBody s_digit_of) (defScope s_digit_of) dvs kws f fd) :
    FnOk P w K mg base CX 1 f fd ["word"] spDigit := by
  refine F.ok sc_digit_of (fun vs H Q E h => ?_) (fun cdv A outer s H vs Q E hr h => ?_)
  · obtain ⟨k, rfl, _⟩ := h
    rfl
  · obtain ⟨k, rfl, hk, q⟩ := h
    have hi := dig_int hk
    refine ⟨_, PSs.nox (pss_one (ps_ret (pe_ifExp (PW.pt (pw_and (pt_cmpR op_eq (pe_callB call_len_str rfl T.f_len (by decide +kernel) (pa_cons (pv 0) pa_nil)) pe_int (nomark _)) (pw_and1 (pt_cmpR op_in_sign (pv 0) (pe_gl T.g_DIGITS) rfl)))) (pe_callTy call_int_str rfl T.f_int (by decide +kernel) (pa_cons (pv 0) pa_nil)) pe_non))), ?_⟩
    walk_at "rd"
    refine iteD (fun _ => ?_) (fun h => absurd (dig_in hk) h)
    exact ⟨_, rfl, _, _, rfl, hi, show 1 ≤ 640 by decide, q⟩
theorem c_digit_of (T : Tx K mg) : CalO P w K mg base CX 1 "digit_of" [] spDigit := by
  obtain ⟨fd, F⟩ := T.d_digit_of
  exact .mk F (ok_digit_of T F) T.n_digit_of fun _ _ _ _ _ _ us hl => match us, hl with | [_], _ => rfl
def fDig : V → V
  | .str s => .int (((s.cps.getD 0 0 : Nat) : Int) - 48)
  | _ => .non
theorem fDig_dig (k : Nat) : fDig (.str (digS k)) = .int (k : Int) := by
  show V.int (((48 + k : Nat) : Int) - 48) = _
  congr 1
  omega
theorem fDig_map (ks : List Nat) : ((ks.map digS).map V.str).map fDig = intV ks := by
  rw [List.map_map, List.map_map]
  exact List.map_congr_left fun k _ => fDig_dig k
def RW.wordS : RW → Str
  | .one w _ => w
  | .arr _ _ => "arrive"
  | .wai _ _ => "wait"
  | .ovr _ _ _ => "over"
  | .go _ => "go"
  | .fin => "end"
def RW.gateV : RW → V
  | .one _ g => .str g
  | .arr g _ => .str g
  | .wai g _ => .str g
  | .ovr g _ _ => .str g
  | _ => .non
def RW.valV : RW → V
  | .arr _ d => .int (d : Int)
  | .ovr _ d _ => .int (d : Int)
  | _ => .non
def spRowOf (K : PySem.W.Frag) : Sp := fun vs H Q _ => ∃ (a : Addr) (tx la : V) (R : RW), vs = [tx, la, .ref a] ∧ H a = some (.lst (R.words.map V.str)) ∧ R.Ok ∧
  ∀ H' r dx g, Same H H' → H' r = some (.ins (cR K) dx (rowFs tx la (.str R.wordS) R.gateV R.valV g R.goals)) → GoAt K H' g R.goals → Q (.ref r) H'
theorem ok_row_of_words {f : Addr} {fd : FuncData} {dvs : List V} {kws : List (Str × V)} (T : Tx K mg)
    (F : FunD K "row_of_words" "row_of_words" (defArgs s_row_of_words) (defBody s_row_of_words) (defScope s_row_of_words) dvs kws f fd) :
    FnOk P w K mg base CX0 3 f fd ["text", "label", "words"] (spRowOf K) := by
  have c_Row_3 : CalC P w K mg base CX0 1 "Row" (cR K) [.non, .non, rowGo K] (spRow K) := c_Row_3 T
  have c_Row_3_gate : CalN P w K mg base CX0 1 "Row" (cR K) 3 ["gate"] (fun vs zs => gWM vs [.non, rowGo K] zs) (spRow K) := c_Row_3_gate T
  have c_Row_3_gate_value : CalN P w K mg base CX0 1 "Row" (cR K) 3 ["gate", "value"] (fun vs zs => gWM vs [rowGo K] zs) (spRow K) := c_Row_3_gate_value T
  have c_Row_3_gate_goals : CalN P w K mg base CX0 1 "Row" (cR K) 3 ["gate", "goals"] (fun vs zs => gWMW vs [.non] zs) (spRow K) := c_Row_3_gate_goals T
  have c_Row_3_gate_value_goals : CalN P w K mg base CX0 1 "Row" (cR K) 3 ["gate", "value", "goals"] (fun vs zs => gWM vs [] zs) (spRow K) := c_Row_3_gate_value_goals T
  have c_Row_3_goals : CalN P w K mg base CX0 1 "Row" (cR K) 3 ["goals"] (fun vs zs => gMW vs [.non, .non] zs) (spRow K) := c_Row_3_goals T
  have c_digit_of : CalO P w K mg base CX0 1 "digit_of" [] spDigit := c_digit_of T
  refine F.ok sc_row_of_words (fun vs H Q E h => ?_) (fun cdv A outer s H vs Q E hr h => ?_)
  · obtain ⟨a, tx, la, R, rfl, _⟩ := h
    rfl
  · obtain ⟨a, tx, la, R, rfl, ha, ok, q⟩ := h
    have hu := hr.units
    refine ⟨_, PSs.nox (pss_cons (ps_asg (pv 2) (pg_star (k := 1) rfl (pgs_cons (pg_name (i := 3) sc_row_of_words.nd rfl (Or.inl rfl)) (pgs_star (pg_name (i := 4) sc_row_of_words.nd rfl (Or.inl rfl)) pgs_nil))))
    (pss_cons (ps_if (PW.pt (pw_and (pt_cmpR op_in_seq (pv 3) (pe_tup (pa_cons pe_str (pa_cons pe_str (pa_cons pe_str (pa_cons pe_str pa_nil))))) rfl) (pw_and1 (pt_cmpR op_eq (pe_callB call_len_seq rfl T.f_len (by decide +kernel) (pa_cons (pv 4) pa_nil)) pe_int (nomark _))))) (pss_one (ps_ret (pe_mkn c_Row_3_gate (hr.mono (by decide)) pass0 (pa_cons (pv 0) (pa_cons (pv 1) (pa_cons (pv 3) pa_nil))) (pk_cons (pe_ix ix_list (pv 4) pe_int (fun _ _ => rfl)) pk_nil)))) pss_nil)
    (pss_cons (ps_if (PW.pt (pw_and (pt_cmpR op_eq (pv 3) pe_str (nomark _)) (pw_and1 (pt_cmpR op_eq (pe_callB call_len_seq rfl T.f_len (by decide +kernel) (pa_cons (pv 4) pa_nil)) pe_int (nomark _))))) (pss_one (ps_ret (pe_mkn c_Row_3_gate_value (hr.mono (by decide)) pass0 (pa_cons (pv 0) (pa_cons (pv 1) (pa_cons (pv 3) pa_nil))) (pk_cons (pe_ix ix_list (pv 4) pe_int (fun _ _ => rfl)) (pk_cons (pe_calO c_digit_of (hr.mono (by decide)) pass0 (pa_cons (pe_ix ix_list (pv 4) pe_int (fun _ _ => rfl)) pa_nil)) pk_nil))))) pss_nil)
    (pss_cons (ps_if (PW.pt (pw_and (pt_cmpR op_eq (pv 3) pe_str (nomark _)) (pw_and (pt_cmpR op_eq (pe_callB call_len_seq rfl T.f_len (by decide +kernel) (pa_cons (pv 4) pa_nil)) pe_int (nomark _)) (pw_and1 (pt_cmpR op_eq (pe_ix ix_list (pv 4) pe_int (fun _ _ => rfl)) pe_str (nomark _)))))) (pss_one (ps_ret (pe_mkn c_Row_3_gate_goals (hr.mono (by decide)) pass0 (pa_cons (pv 0) (pa_cons (pv 1) (pa_cons (pv 3) pa_nil))) (pk_cons (pe_ix ix_list (pv 4) pe_int (fun _ _ => rfl)) (pk_cons (pe_tup (pa_cons (pe_calO c_digit_of (hr.mono (by decide)) pass0 (pa_cons (pe_ix ix_list (pv 4) pe_int (fun _ _ => rfl)) pa_nil)) pa_nil)) pk_nil))))) pss_nil)
    (pss_cons (ps_if (PW.pt (pw_and (pt_cmpR op_eq (pv 3) pe_str (nomark _)) (pw_and1 (pt_cmpR op_eq (pe_callB call_len_seq rfl T.f_len (by decide +kernel) (pa_cons (pv 4) pa_nil)) pe_int (nomark _))))) (pss_one (ps_ret (pe_mkn c_Row_3_gate_value_goals (hr.mono (by decide)) pass0 (pa_cons (pv 0) (pa_cons (pv 1) (pa_cons (pv 3) pa_nil))) (pk_cons (pe_ix ix_list (pv 4) pe_int (fun _ _ => rfl)) (pk_cons (pe_calO c_digit_of (hr.mono (by decide)) pass0 (pa_cons (pe_ix ix_list (pv 4) pe_int (fun _ _ => rfl)) pa_nil)) (pk_cons (pe_tup (pa_cons (pe_calO c_digit_of (hr.mono (by decide)) pass0 (pa_cons (pe_ix ix_list (pv 4) pe_int (fun _ _ => rfl)) pa_nil)) pa_nil)) pk_nil)))))) pss_nil)
    (pss_cons (ps_if (PW.pt (pw_and (pt_cmpR op_eq (pv 3) pe_str (nomark _)) (pw_and1 (pt_chain op_le op_le pe_int (pe_callB call_len_seq rfl T.f_len (by decide +kernel) (pa_cons (pv 4) pa_nil)) (pe_gl T.g_MOST_GOALS))))) (pss_one (ps_ret (pe_mkn c_Row_3_goals (hr.mono (by decide)) pass0 (pa_cons (pv 0) (pa_cons (pv 1) (pa_cons (pv 3) pa_nil))) (pk_cons (pe_callTy call_tuple_of rfl T.f_tuple (by decide +kernel) (pa_cons (pe_lc (own := [("goal", 5)]) (g := gName 5) (tt := tYes) rfl sc_row_of_words.nd (pi_list (pv 4)) (blkOk_by (own := [("goal", 5)]) (N := n_row_of_words) (sc := defScope s_row_of_words) (by decide +kernel)) (fun _ _ _ _ _ => (pg_name (i := 5) sc_row_of_words.nd rfl (Or.inl rfl))) (fun _ _ _ _ _ => pts_nil) (fun _ _ _ _ _ => (pe_calO c_digit_of (hr.mono (by decide)) pass0 (pa_cons (pv 5) pa_nil)))) pa_nil)) pk_nil)))) pss_nil)
    (pss_one (ps_ret (pe_ifExp (pt_cmpR (op_eqD hu) (pv 2) (pe_lst (pa_cons pe_str pa_nil)) (nomark _)) (pe_mkc c_Row_3 (hr.mono (by decide)) pass0 (pa_cons (pv 0) (pa_cons (pv 1) (pa_cons (pv 3) pa_nil)))) pe_non))))))))), ?_⟩
    have kt := T.kt_Row___init___goals
    cases R with
    | one w g =>
      obtain ⟨hw, hg⟩ := ok
      simp only [fourW, List.mem_cons, List.not_mem_nil, or_false] at hw
      rcases hw with rfl | rfl | rfl | rfl
      all_goals
        walk_at "rd"
        intro D nD
        walk_at "rd"
        intro p1 np1
        walk_at "rd"
        intro x dx nx nd ne
        refine ⟨x, dx, _, tx, la, _, _, _, [], rfl, upd_same, .inr ⟨rfl, kt⟩, fun H' b e => ⟨rfl, q H' x dx _ (L2.Same.trans ?_ (made_same nx nd b)) e (.inr ⟨rfl, kt⟩)⟩⟩
        walk_at "g but"
    | arr g d =>
      have hd : d < 10 := by have := ok.2; omega
      walk_at "rd"
      intro D nD
      walk_at "rd"
      intro p1 np1
      walk_at "rd"
      intro x dx nx nd ne
      refine ⟨x, dx, _, tx, la, _, _, _, [], rfl, upd_same, .inr ⟨rfl, kt⟩, fun H' b e => ⟨rfl, q H' x dx _ (L2.Same.trans ?_ (made_same nx nd b)) e (.inr ⟨rfl, kt⟩)⟩⟩
      walk_at "g but"
    | wai g k =>
      have hk : k < 10 := ok.2
      walk_at "rd"
      intro D nD
      walk_at "rd"
      intro p1 np1
      walk_at "rd"
      intro t nt
      walk_at "rd"
      intro x dx nx nd ne
      have go : ∀ o, GoAt K (upd (upd (upd _ t (.tup (intV [k]))) dx (.own x)) x o) t [k] := fun o => .inl (upd_get ((upd_ne ne.symm).trans nx) (upd_get nd upd_same))
      refine ⟨x, dx, _, tx, la, _, _, _, [k], rfl, upd_same, go _, fun H' b e => ⟨rfl, q H' x dx _ (L2.Same.trans ?_ (made_same nx nd b)) e ((go _).but upd_same b)⟩⟩
      walk_at "g but"
    | ovr g d k =>
      have hd : d < 10 := by have := ok.2.1; omega
      have hk : k < 10 := ok.2.2
      walk_at "rd"
      intro D nD
      walk_at "rd"
      intro p1 np1
      walk_at "rd"
      intro t nt
      walk_at "rd"
      intro x dx nx nd ne
      have go : ∀ o, GoAt K (upd (upd (upd _ t (.tup (intV [k]))) dx (.own x)) x o) t [k] := fun o => .inl (upd_get ((upd_ne ne.symm).trans nx) (upd_get nd upd_same))
      refine ⟨x, dx, _, tx, la, _, _, _, [k], rfl, upd_same, go _, fun H' b e => ⟨rfl, q H' x dx _ (L2.Same.trans ?_ (made_same nx nd b)) e ((go _).but upd_same b)⟩⟩
      walk_at "g but"
    | go ks =>
      obtain ⟨k0, k4, kd, kp⟩ := ok
      have el : (List.drop 1 (List.map V.str (RW.go ks).words)).length = ks.length := by simp [RW.words]
      have k1 : 0 < ks.length := List.length_pos_iff.mpr k0
      walk_at "rd"
      intro D nD
      walk_at "rd"
      intro p1 np1
      walk_at "rd"
      refine iteD (fun _ => ?_) (fun h => absurd (show (1 : Int) ≤ ((List.length _ : Nat) : Int) by rw [el]; omega) h)
      walk_at "rd"
      refine iteD (fun _ => ?_) (fun h => absurd (show ((List.length _ : Nat) : Int) ≤ 4 by rw [el]; omega) h)
      walk_at "rd"
      refine ⟨⟨(ks.map digS).map V.str, SqL.of (upd_get np1 upd_same)⟩, ?_⟩
      intro D2 nD2
      refine lcP (wk_list ((ks.map digS).map V.str)) fDig (fun acc => SqL.of (upd_get nD2 (upd_get np1 upd_same))) (by rw [List.length_map, List.length_map]; show ks.length < 16777216; omega) ?_ ?_
      · intro i y acc Q' hx hq
        obtain ⟨z, hz, rfl⟩ := List.mem_map.mp (List.mem_of_getElem? hx)
        obtain ⟨k, hm, rfl⟩ := List.mem_map.mp hz
        have hk := kd k hm
        rw [fDig_dig] at hq
        walk_at "rd"
        exact hq
      · rw [fDig_map]
        refine ⟨D2, intV ks, rfl, .inl ⟨SqL.of upd_same, fun t nt => ?_⟩⟩
        walk_at "rd"
        intro x dx nx nd ne
        have go : ∀ o, GoAt K (upd (upd (upd _ t (.tup (intV ks))) dx (.own x)) x o) t ks := fun o => .inl (upd_get ((upd_ne ne.symm).trans nx) (upd_get nd upd_same))
        refine ⟨x, dx, _, tx, la, _, _, _, ks, rfl, upd_same, go _, fun H' b e => ⟨rfl, q H' x dx _ (L2.Same.trans ?_ (made_same nx nd b)) e ((go _).but upd_same b)⟩⟩
        walk_at "g but"
    | fin =>
      walk_at "rd"
      intro D nD
      walk_at "rd"
      intro p1 np1
      walk_at "rd"
      intro p2 np2
      walk_at "rd"
      refine ⟨.list [.str "end"], .list [.str "end"], .lst (.inl (.inl (by walk_at "g hp"))) (.cons (.str _) .nil), .lst (.inl (.inl upd_same)) (.cons (.str _) .nil), by decide +kernel, by decide +kernel, ?_⟩
      walk_at "rd"
      intro x dx nx nd ne
      refine ⟨x, dx, _, tx, la, _, _, _, [], rfl, upd_same, .inr ⟨rfl, kt⟩, fun H' b e => ⟨rfl, q H' x dx _ (L2.Same.trans ?_ (made_same nx nd b)) e (.inr ⟨rfl, kt⟩)⟩⟩
      walk_at "g but"
end
end G
namespace G
open PySem PySem.Spec PyProof.Rows L2
theorem rng_at {lo : Int} {n i : Nat} {x : V} (h : (rngV lo n)[i]? = some x) : x = .int (lo + (i : Int)) ∧ i < n := by
  have lt := (List.getElem?_eq_some_iff.mp h).1
  rw [rngV_len] at lt
  refine ⟨?_, lt⟩
  unfold rngV at h
  rw [List.getElem?_map, List.getElem?_range lt] at h
  exact (Option.some.inj h).symm
/-- a resting place -/
theorem mid1 {t1 t2 : TS} {D : Ends} {σ : L2.St} {H : Hp} (M : L2.St → Hp → Prop) (h2 : ∀ σ' H', M σ' H' → t2 D σ' H')
    (h1 : ∀ u : TS, (∀ σ' H', M σ' H' → u D σ' H') → tSeq t1 u D σ H) : tSeq t1 t2 D σ H := h1 t2 h2
theorem mid3 {t1 t2 t3 t4 : TS} {D : Ends} {σ : L2.St} {H : Hp} (M : L2.St → Hp → Prop) (h2 : ∀ σ' H', M σ' H' → t4 D σ' H')
    (h1 : ∀ u : TS, (∀ σ' H', M σ' H' → u D σ' H') → tSeq t1 (tSeq t2 (tSeq t3 u)) D σ H) : tSeq t1 (tSeq t2 (tSeq t3 t4)) D σ H := h1 t4 h2
theorem mid6 {t1 t2 t3 t4 t5 t6 t7 : TS} {D : Ends} {σ : L2.St} {H : Hp} (M : L2.St → Hp → Prop) (h2 : ∀ σ' H', M σ' H' → t7 D σ' H')
    (h1 : ∀ u : TS, (∀ σ' H', M σ' H' → u D σ' H') → tSeq t1 (tSeq t2 (tSeq t3 (tSeq t4 (tSeq t5 (tSeq t6 u))))) D σ H) :
    tSeq t1 (tSeq t2 (tSeq t3 (tSeq t4 (tSeq t5 (tSeq t6 t7))))) D σ H := h1 t7 h2
section
variable {P : Program} {w : World} {K : PySem.W.Frag} {mg : Str → Option Value} {base : Heap} {CX : CXT}
theorem gate_ok {R : RW} (ok : R.Ok) : R.gateV = .non ∨ ∃ z, R.gateV = .str z ∧ Nm z := by
  cases R with
  | one w g => exact .inr ⟨g, rfl, ok.2⟩
  | arr g d => exact .inr ⟨g, rfl, ok.1⟩
  | wai g k => exact .inr ⟨g, rfl, ok.1⟩
  | ovr g d k => exact .inr ⟨g, rfl, ok.1⟩
  | go ks => exact .inl rfl
  | fin => exact .inl rfl
theorem val_ok {R : RW} (ok : R.Ok) : inV (.str R.wordS) [.str "arrive", .str "over"] = false ∨ ∃ d : Nat, R.valV = .int (d : Int) ∧ d < 4 := by
  cases R with
  | one w g =>
    have h := ok.1
    simp only [fourW, List.mem_cons, List.not_mem_nil, or_false] at h
    rcases h with rfl | rfl | rfl | rfl
    · exact .inl (show inV (.str "join") [.str "arrive", .str "over"] = false by decide +kernel)
    · exact .inl (show inV (.str "drop") [.str "arrive", .str "over"] = false by decide +kernel)
    · exact .inl (show inV (.str "look") [.str "arrive", .str "over"] = false by decide +kernel)
    · exact .inl (show inV (.str "anew") [.str "arrive", .str "over"] = false by decide +kernel)
  | arr g d => exact .inr ⟨d, rfl, ok.2⟩
  | wai g k => exact .inl (show inV (.str "wait") [.str "arrive", .str "over"] = false by decide +kernel)
  | ovr g d k => exact .inr ⟨d, rfl, ok.2.1⟩
  | go ks => exact .inl (show inV (.str "go") [.str "arrive", .str "over"] = false by decide +kernel)
  | fin => exact .inl (show inV (.str "end") [.str "arrive", .str "over"] = false by decide +kernel)
theorem goals_ok {R : RW} (ok : R.Ok) : R.goals.length ≤ 4 ∧ R.goals.Pairwise (· < ·) := by
  cases R with
  | go ks => exact ⟨ok.2.1, ok.2.2.2⟩
  | one w g => exact ⟨Nat.zero_le _, .nil⟩
  | arr g d => exact ⟨Nat.zero_le _, .nil⟩
  | fin => exact ⟨Nat.zero_le _, .nil⟩
  | wai g k => exact ⟨(by decide : 1 ≤ 4), List.pairwise_singleton ..⟩
  | ovr g d k => exact ⟨(by decide : 1 ≤ 4), List.pairwise_singleton ..⟩
theorem none_in (gs : List Nat) : inV .non (intV gs) = false := by
  unfold inV intV
  rw [List.any_eq_false]
  intro x hx
  obtain ⟨k, _, rfl⟩ := List.mem_map.mp hx
  exact fun h => nomatch (show false = true from h)
theorem flat_ints (gs : List Nat) : (intV gs).all flatV = true := by
  rw [List.all_eq_true]
  intro x hx
  obtain ⟨k, _, rfl⟩ := List.mem_map.mp hx
  rfl
def LabOk (la : V) : Prop := la = .non ∨ ∃ z, la = .str z ∧ Nm z
def spHas (K : PySem.W.Frag) : Sp := fun vs H Q _ => ∃ (r dx g : Addr) (tx la : V) (R : RW), vs = [.ref r] ∧
  H r = some (.ins (cR K) dx (rowFs tx la (.str R.wordS) R.gateV R.valV g R.goals)) ∧ GoAt K H g R.goals ∧ R.Ok ∧ LabOk la ∧ ∀ H', Same H H' → Q (.bl true) H'
theorem ok_has_right_parts {f : Addr} {fd : FuncData} {dvs : List V} {kws : List (Str × V)} (T : Tx K mg)
    (F : FunD K "has_right_parts" "has_right_parts" (defArgs s_has_right_parts) (defBody s_has_right_parts) (defScope s_has_right_parts) dvs kws f fd) :
    FnOk P w K mg base CX0 2 f fd ["row"] (spHas K) := by
  have c_is_name : CalO P w K mg base CX0 1 "is_name" [] (spIsName K) := c_is_name T
  refine F.ok sc_has_right_parts (fun vs H Q E h => ?_) (fun cdv A outer s H vs Q E hr h => ?_)
  · obtain ⟨r, dx, g, tx, la, R, rfl, _⟩ := h
    rfl
  · obtain ⟨r, dx, g, tx, la, R, rfl, ha, hg, ok, hla, q⟩ := h
    have hu := hr.units
    have cl := T.c_Row
    have n2 := T.na_Row_label
    have n3 := T.na_Row_word
    have n4 := T.na_Row_gate
    have n5 := T.na_Row_value
    have n6 := T.na_Row_goals
    refine ⟨_, PSs.nox (pss_cons (ps_if (PW.pt (pw_and (pt_cmpR op_notN (pe_fld (pv 0) rfl) pe_non (nomark _)) (pw_and1 (pt_not (pt_val (pe_calO c_is_name (hr.mono (by decide)) pass0 (pa_cons (pe_fld (pv 0) rfl) pa_nil))))))) (pss_one (ps_ret pe_bl)) pss_nil)
    (pss_cons (ps_if (PW.pt (pw_and (pt_cmpR op_notN (pe_fld (pv 0) rfl) pe_non (nomark _)) (pw_and1 (pt_not (pt_val (pe_calO c_is_name (hr.mono (by decide)) pass0 (pa_cons (pe_fld (pv 0) rfl) pa_nil))))))) (pss_one (ps_ret pe_bl)) pss_nil)
    (pss_cons (ps_if (PW.pt (pw_and (pt_cmpR op_in_seq (pe_fld (pv 0) rfl) (pe_tup (pa_cons pe_str (pa_cons pe_str pa_nil))) rfl) (pw_and1 (PW.pt (pw_or (pt_cmpR op_isN (pe_fld (pv 0) rfl) pe_non (nomark _)) (pw_or1 (pt_cmpR op_gt (pe_fld (pv 0) rfl) (pe_gl T.g_MOST_VALUE) (nomark _)))))))) (pss_one (ps_ret pe_bl)) pss_nil)
    (pss_cons (ps_if (pt_cmpR op_in_seq pe_non (pe_fld (pv 0) rfl) rfl) (pss_one (ps_ret pe_bl)) pss_nil)
    (pss_one (ps_ret (pe_callB (cr_all rfl) rfl T.f_all (by decide +kernel) (pa_cons (pe_lc (own := [("at", 1)]) (g := gName 1) (tt := tYes) rfl sc_has_right_parts.nd (pi_range1 rfl T.f_range (pa_cons (pe_op op_sub (pe_callB call_len_seq rfl T.f_len (by decide +kernel) (pa_cons (pe_fld (pv 0) rfl) pa_nil)) pe_int) pa_nil)) (blkOk_by (own := [("at", 1)]) (N := n_has_right_parts) (sc := defScope s_has_right_parts) (by decide +kernel)) (fun _ _ _ _ _ => (pg_name (i := 1) sc_has_right_parts.nd rfl (Or.inl rfl))) (fun _ _ _ _ _ => pts_nil) (fun _ _ _ _ _ => (pe_cmpR op_lt (pe_ix (ixK (K := K) (r := rIxT) rfl ix_tup) (pe_fldK (K := K) rfl (pv 0) rfl) (pv 1) (fun _ _ => rfl)) (pe_ix (ixK (K := K) (r := rIxT) rfl ix_tup) (pe_fldK (K := K) rfl (pv 0) rfl) (pe_op op_add (pv 1) pe_int) (fun _ _ => rfl)) (nomark _)))) pa_nil)))))))), ?_⟩
    refine mid1 (fun σ' H' => σ' = [some (.ref r), none] ∧ Same H H') ?_ (fun u rest => ?_)
    rotate_left
    · rcases hla with rfl | ⟨z, rfl, nz⟩
      · walk_at "rd"
        exact rest _ _ ⟨rfl, by walk_at "g but"⟩
      · have zl : z.length ≤ sizeLine := Nat.le_trans nz.2 (by decide)
        walk_at "rd"
        intro H1 s1
        rw [nz.1]
        walk_at "rd"
        exact rest _ _ ⟨rfl, by walk_at "g but"⟩
    rintro σ1 H1 ⟨rfl, s1⟩
    refine mid1 (fun σ' H' => σ' = [some (.ref r), none] ∧ Same H H') ?_ (fun u rest => ?_)
    rotate_left
    · have ha1 := s1 _ _ ha
      rcases gate_ok ok with e | ⟨z, e, nz⟩
      · rw [e] at ha1
        walk_at "rd"
        exact rest _ _ ⟨rfl, by walk_at "g but"⟩
      · have zl : z.length ≤ sizeLine := Nat.le_trans nz.2 (by decide)
        rw [e] at ha1
        walk_at "rd"
        intro H2 s2
        rw [nz.1]
        walk_at "rd"
        exact rest _ _ ⟨rfl, by walk_at "g but"⟩
    rintro σ2 H2 ⟨rfl, s2⟩
    refine mid1 (fun σ' H' => σ' = [some (.ref r), none] ∧ Same H H') ?_ (fun u rest => ?_)
    rotate_left
    · have ha2 := s2 _ _ ha
      walk_at "rd"
      intro p1 np1
      walk_at "rd"
      rcases val_ok ok with e | ⟨d, e, hd⟩
      · rw [e]
        walk_at "rd"
        exact rest _ _ ⟨rfl, by walk_at "g but"⟩
      · rw [e] at ha2
        refine iteB (fun _ => ?_) (fun _ => ?_)
        · walk_at "rd"
          refine iteD (fun h => absurd h (by omega)) (fun _ => ?_)
          walk_at "rd"
          exact rest _ _ ⟨rfl, by walk_at "g but"⟩
        · walk_at "rd"
          exact rest _ _ ⟨rfl, by walk_at "g but"⟩
    rintro σ3 H3 ⟨rfl, s3⟩
    have ha3 := s3 _ _ ha
    have hg3 := hg.same s3
    obtain ⟨g4, gp⟩ := goals_ok ok
    have il : (intV R.goals).length = R.goals.length := List.length_map ..
    walk_at "rd"
    refine ⟨Or.inr hg3.sq, rfl, flat_ints _, ?_⟩
    rw [none_in]
    walk_at "rd"
    refine ⟨Or.inr hg3.sq, ?_⟩
    walk_at "rd"
    intro D nD
    refine lcP (wk_range 0 _) (fun _ => V.bl true) (fun _ => trivial) (by rw [rngV_len]; show _ < 16777216; omega) ?_ ?_
    · intro i x acc Q' hx hq
      obtain ⟨rfl, hi⟩ := rng_at hx
      rw [il] at hi
      have h1 : i < R.goals.length := by omega
      have h2 : i + 1 < R.goals.length := by omega
      have sq : SqT K (upd H3 D (.lst acc)) g (intV R.goals) := (hg3.same ((Same.refl _).new nD)).sq
      have ha4 : upd H3 D (.lst acc) r = _ := upd_get nD ha3
      have e1 : atI (intV R.goals) (0 + (i : Int)) = some (.int ((R.goals[i] : Nat) : Int)) := at_any (j := i) (by omega) (by simp [intV, h1])
      have e2 : atI (intV R.goals) (0 + (i : Int) + 1) = some (.int ((R.goals[i + 1] : Nat) : Int)) := at_any (j := i + 1) (by omega) (by simp [intV, h2])
      have lt := List.pairwise_iff_getElem.mp gp i (i + 1) h1 h2 (by omega)
      walk_at "rd"
      refine ret_eq hq ?_
      exact congrArg V.bl (decide_eq_true (show ((R.goals[i] : Nat) : Int) < ((R.goals[i + 1] : Nat) : Int) by omega)).symm
    · refine ⟨D, List.replicate (((intV R.goals).length : Int) - 1).toNat true, rfl, SqL.of ?_, ret_eq (q _ (by walk_at "g but")) (by simp)⟩
      rw [upd_same, List.map_replicate, List.map_const', rngV_len]
theorem c_has_right_parts (T : Tx K mg) : CalO P w K mg base CX0 2 "has_right_parts" [] (spHas K) := by
  obtain ⟨fd, F⟩ := T.d_has_right_parts
  exact .mk F (ok_has_right_parts T F) T.n_has_right_parts fun _ _ _ _ _ _ us hl => match us, hl with | [_], _ => rfl
theorem c_row_of_words (T : Tx K mg) : CalO P w K mg base CX0 3 "row_of_words" [] (spRowOf K) := by
  obtain ⟨fd, F⟩ := T.d_row_of_words
  exact .mk F (ok_row_of_words T F) T.n_row_of_words fun _ _ _ _ _ _ us hl => match us, hl with | [_, _, _], _ => rfl
def spLeads (K : PySem.W.Frag) : Sp := fun vs H Q _ => ∃ (r dx g : Addr) (tx la : V) (R : RW) (m : Int), vs = [.ref r, .int m] ∧
  H r = some (.ins (cR K) dx (rowFs tx la (.str R.wordS) R.gateV R.valV g R.goals)) ∧ GoAt K H g R.goals ∧ R.goals.length ≤ 4 ∧ (∀ k ∈ R.goals, (k : Int) < m) ∧ ∀ H', Same H H' → Q (.bl true) H'
theorem ok_leads_within {f : Addr} {fd : FuncData} {dvs : List V} {kws : List (Str × V)} (T : Tx K mg)
    (F : FunD K "leads_within" "leads_within" (defArgs s_leads_within) (defBody s_leads_within) (defScope s_leads_within) dvs kws f fd) :
    FnOk P w K mg base CX 1 f fd ["row", "many"] (spLeads K) := by
  refine F.ok sc_leads_within (fun vs H Q E h => ?_) (fun cdv A outer s H vs Q E hr h => ?_)
  · obtain ⟨r, dx, g, tx, la, R, m, rfl, _⟩ := h
    rfl
  · obtain ⟨r, dx, g, tx, la, R, m, rfl, ha, hg, g4, lt, q⟩ := h
    have hu := hr.units
    have cl := T.c_Row
    have n6 := T.na_Row_goals
    refine ⟨_, PSs.nox (pss_one (ps_ret (pe_callB (cr_all rfl) rfl T.f_all (by decide +kernel) (pa_cons (pe_lc (own := [("goal", 2)]) (g := gName 2) (tt := tYes) rfl sc_leads_within.nd (pi_tup (pe_fld (pv 0) rfl)) (blkOk_by (own := [("goal", 2)]) (N := n_leads_within) (sc := defScope s_leads_within) (by decide +kernel)) (fun _ _ _ _ _ => (pg_name (i := 2) sc_leads_within.nd rfl (Or.inl rfl))) (fun _ _ _ _ _ => pts_nil) (fun _ _ _ _ _ => (pe_cmpR op_lt (pv 2) (pv 1) (nomark _)))) pa_nil)))), ?_⟩
    walk_at "rd"
    refine ⟨⟨_, hg.sq⟩, ?_⟩
    intro D nD
    have il : (intV R.goals).length = R.goals.length := List.length_map ..
    refine lcP (wk_tup (intV R.goals)) (fun _ => V.bl true) (fun acc => (hg.same ((Same.refl _).new nD)).sq) (by rw [il]; show _ < 16777216; omega) ?_ ?_
    · intro i x acc Q' hx hq
      obtain ⟨k, hk, rfl⟩ := List.mem_map.mp (List.mem_of_getElem? hx)
      walk_at "rd"
      exact ret_eq hq (congrArg V.bl (decide_eq_true (lt k hk)).symm)
    · refine ⟨D, List.replicate (intV R.goals).length true, rfl, SqL.of ?_, ret_eq (q _ (by walk_at "g but")) (by simp)⟩
      rw [upd_same, List.map_replicate, List.map_const']
theorem c_leads_within (T : Tx K mg) : CalO P w K mg base CX 1 "leads_within" [] (spLeads K) := by
  obtain ⟨fd, F⟩ := T.d_leads_within
  exact .mk F (ok_leads_within T F) T.n_leads_within fun _ _ _ _ _ _ us hl => match us, hl with | [_, _], _ => rfl
def labV : Option Str → V
  | none => .non
  | some z => .str z
def spParsed (K : PySem.W.Frag) : Sp := fun vs H Q _ => ∃ (l : Option Str) (R : RW), vs = [.str (rowText l R)] ∧ R.Ok ∧ (∀ z, l = some z → Nm z) ∧
  ∀ H' r dx g, Same H H' → H' r = some (.ins (cR K) dx (rowFs (.str (rowText l R)) (labV l) (.str R.wordS) R.gateV R.valV g R.goals)) → GoAt K H' g R.goals → Q (.ref r) H'
theorem ok_parsed_row {f : Addr} {fd : FuncData} {dvs : List V} {kws : List (Str × V)} (T : Tx K mg)
    (F : FunD K "parsed_row" "parsed_row" (defArgs s_parsed_row) (defBody s_parsed_row) (defScope s_parsed_row) dvs kws f fd) :
    FnOk P w K mg base CX0 4 f fd ["text"] (spParsed K) := by
  have c_row_of_words : CalO P w K mg base CX0 3 "row_of_words" [] (spRowOf K) := c_row_of_words T
  have c_has_right_parts : CalO P w K mg base CX0 2 "has_right_parts" [] (spHas K) := c_has_right_parts T
  refine F.ok sc_parsed_row (fun vs H Q E h => ?_) (fun cdv A outer s H vs Q E hr h => ?_)
  · obtain ⟨l, R, rfl, _⟩ := h
    rfl
  · obtain ⟨l, R, rfl, ok, lo, q⟩ := h
    have hu := hr.units
    have l1 : (rowText l R).length ≤ sizeLine := Nat.le_trans (rowText_len ok lo) (by decide)
    have l2 : (rwText R).length + 2 ≤ sizeLine := Nat.le_trans (Nat.add_le_add_right (rwText_len ok) 2) (by decide)
    have e2 := rwText_split ok
    refine ⟨_, PSs.nox (pss_cons (ps_if (pt_not (pt_val (pe_callB call_isi rfl T.f_isinstance (by decide +kernel) (pa_cons (pv 0) (pa_cons (pe_bltn (v := .ty "str") (u := .type "str") rfl T.f_str (by decide +kernel) rfl) pa_nil))))) (pss_one (ps_ret pe_non)) pss_nil)
    (pss_cons (ps_asg (pe_partition (pv 0) pe_str) (pg_tup rfl (pgs_cons (pg_name (i := 1) sc_parsed_row.nd rfl (Or.inl rfl)) (pgs_cons (pg_name (i := 2) sc_parsed_row.nd rfl (Or.inl rfl)) (pgs_cons (pg_name (i := 3) sc_parsed_row.nd rfl (Or.inl rfl)) pgs_nil)))))
    (pss_cons (ps_if (pt_cmpR op_eq (pv 2) pe_str (nomark _)) (pss_one (ps_par (i := 1) (j := 3) rfl sc_parsed_row.nd rfl rfl (by decide) rfl rfl (pa_cons pe_non (pa_cons (pv 0) pa_nil)) (by rfl))) pss_nil)
    (pss_cons (ps_set (i := 4) sc_parsed_row.nd rfl (Or.inl rfl) (pe_calO c_row_of_words (hr.mono (by decide)) pass0 (pa_cons (pv 0) (pa_cons (pv 1) (pa_cons (pe_split (pv 3) pe_str) pa_nil)))))
    (pss_one (ps_ret (pe_ifExp (PW.pt (pw_and (pt_cmpR op_notN (pv 4) pe_non (nomark _)) (pw_and1 (pt_val (pe_calO c_has_right_parts (hr.mono (by decide)) pass0 (pa_cons (pv 4) pa_nil)))))) (pv 4) pe_non))))))), ?_⟩
    cases l with
    | none =>
      have e1 := rowText_part0 ok
      walk_at "rd"
      intro p np
      rw [e1]
      walk_at "rd"
      have e3 : Txt.split (rowText none R) (Str.ofString " ") = R.words := e2
      rw [e3]
      intro p2 np2
      walk_at "rd"
      refine ⟨R, rfl, upd_same, ok, fun H' r dx g s' hr' hg' => ?_⟩
      walk_at "rd"
      refine ⟨R, rfl, hr', hg', ok, .inl rfl, fun H2 s2 => ?_⟩
      walk_at "rd"
      refine q H2 r dx g ?_ (s2 _ _ hr') (hg'.same s2)
      refine L2.Same.trans (L2.Same.trans ?_ s') s2
      walk_at "g but"
    | some z =>
      have e1 := rowText_part1 (r := R) (lo z rfl)
      walk_at "rd"
      intro p np
      rw [e1]
      walk_at "rd"
      have e3 : Txt.split (z, Str.ofString ": ", rwText R).snd.snd (Str.ofString " ") = R.words := e2
      rw [e3]
      intro p2 np2
      walk_at "rd"
      refine ⟨R, rfl, upd_same, ok, fun H' r dx g s' hr' hg' => ?_⟩
      walk_at "rd"
      refine ⟨R, rfl, hr', hg', ok, .inr ⟨z, rfl, lo z rfl⟩, fun H2 s2 => ?_⟩
      walk_at "rd"
      refine q H2 r dx g ?_ (s2 _ _ hr') (hg'.same s2)
      refine L2.Same.trans (L2.Same.trans ?_ s') s2
      walk_at "g but"
end
end G
namespace G
open PySem PySem.Spec PyProof.Rows L2
/-- a row as it is told: the label, the words -/
abbrev RwT := Option Str × RW
def RwT.text (q : RwT) : Str := rowText q.1 q.2
def rowsV (rs : List RwT) : List V := rs.map fun q => V.str q.text
structure RowsOk (rs : List RwT) : Prop where
  one : 1 ≤ rs.length
  ten : rs.length ≤ 10
  ok : ∀ q ∈ rs, q.2.Ok ∧ (∀ z, q.1 = some z → Nm z) ∧ ∀ k ∈ q.2.goals, k < rs.length
section
variable {P : Program} {w : World} {K : PySem.W.Frag} {mg : Str → Option Value} {base : Heap} {CX : CXT}
def RowIn (K : PySem.W.Frag) (H : Hp) (a : Addr) (q : RwT) : Prop := ∃ dx g, H a = some (.ins (cR K) dx (rowFs (.str q.text) (labV q.1) (.str q.2.wordS) q.2.gateV q.2.valV g q.2.goals)) ∧ GoAt K H g q.2.goals
theorem RowIn.same {H H' : Hp} {a : Addr} {q : RwT} (h : RowIn K H a q) (s : Same H H') : RowIn K H' a q := by
  obtain ⟨dx, g, e, o⟩ := h
  exact ⟨dx, g, s _ _ e, o.same s⟩
theorem GoAt.lst {H : Hp} {g D : Addr} {gs : List Nat} {xs : List V} {o : HO} (h : GoAt K H g gs) (hD : H D = some (.lst xs)) : GoAt K (upd H D o) g gs := by
  rcases h with h | h
  · exact .inl (by rw [upd_ne (ne_of h hD (by intro e; cases e))]; exact h)
  · exact .inr h
theorem RowIn.lst {H : Hp} {a D : Addr} {q : RwT} {xs : List V} {o : HO} (h : RowIn K H a q) (hD : H D = some (.lst xs)) : RowIn K (upd H D o) a q := by
  obtain ⟨dx, g, e, go⟩ := h
  exact ⟨dx, g, by rw [upd_ne (ne_of e hD (by intro e; cases e))]; exact e, go.lst hD⟩
/-- the rows as objects, one by one -/
def RowsIn (K : PySem.W.Frag) (H : Hp) (as : List Addr) (rs : List RwT) : Prop := as.length = rs.length ∧ ∀ (i : Nat) (a : Addr) (q : RwT), as[i]? = some a → rs[i]? = some q → RowIn K H a q
theorem RowsIn.same {H H' : Hp} {as : List Addr} {rs : List RwT} (h : RowsIn K H as rs) (s : Same H H') : RowsIn K H' as rs :=
  ⟨h.1, fun i a q h1 h2 => (h.2 i a q h1 h2).same s⟩
theorem RowsIn.lst {H : Hp} {as : List Addr} {rs : List RwT} {D : Addr} {xs : List V} {o : HO} (h : RowsIn K H as rs) (hD : H D = some (.lst xs)) : RowsIn K (upd H D o) as rs :=
  ⟨h.1, fun i a q h1 h2 => (h.2 i a q h1 h2).lst hD⟩
theorem RowsIn.snoc {H : Hp} {as : List Addr} {rs : List RwT} {a : Addr} {q : RwT} (h : RowsIn K H as rs) (r : RowIn K H a q) : RowsIn K H (as ++ [a]) (rs ++ [q]) := by
  refine ⟨by simp [h.1], fun i b u h1 h2 => ?_⟩
  rcases Nat.lt_trichotomy i as.length with lt | rfl | gt
  · rw [List.getElem?_append_left lt] at h1
    rw [List.getElem?_append_left (by rw [← h.1]; exact lt)] at h2
    exact h.2 i b u h1 h2
  · rw [List.getElem?_append_right (Nat.le_refl _), Nat.sub_self] at h1
    rw [List.getElem?_append_right (by rw [h.1]; exact Nat.le_refl _), h.1, Nat.sub_self] at h2
    cases Option.some.inj h1
    cases Option.some.inj h2
    exact r
  · rw [List.getElem?_eq_none (by simp; omega)] at h1
    cases h1
def spRows (K : PySem.W.Frag) : Sp := fun vs H Q _ => ∃ (t : Addr) (rs : List RwT), vs = [.ref t] ∧ H t = some (.tup (rowsV rs)) ∧ RowsOk rs ∧
  ∀ H' p as, Same H H' → H' p = some (.tup (as.map V.ref)) → RowsIn K H' as rs → Q (.ref p) H'
theorem ok_parsed_rows {f : Addr} {fd : FuncData} {dvs : List V} {kws : List (Str × V)} (T : Tx K mg)
    (F : FunD K "parsed_rows" "parsed_rows" (defArgs s_parsed_rows) (defBody s_parsed_rows) (defScope s_parsed_rows) dvs kws f fd) :
    FnOk P w K mg base CX0 5 f fd ["rows"] (spRows K) := by
  have c_parsed_row : CalO P w K mg base CX0 4 "parsed_row" [] (spParsed K) := by
    obtain ⟨fd, F⟩ := T.d_parsed_row
    exact .mk F (ok_parsed_row T F) T.n_parsed_row fun _ _ _ _ _ _ us hl => match us, hl with | [_], _ => rfl
  have c_leads_within : CalO P w K mg base CX0 1 "leads_within" [] (spLeads K) := c_leads_within T
  refine F.ok sc_parsed_rows (fun vs H Q E h => ?_) (fun cdv A outer s H vs Q E hr h => ?_)
  · obtain ⟨t, rs, rfl, _⟩ := h
    rfl
  · obtain ⟨t, rs, rfl, ht, ok, q⟩ := h
    have hu := hr.units
    have ht0 : SqT K H t (rowsV rs) := SqT.of ht
    have rl : (rowsV rs).length = rs.length := List.length_map ..
    have o1 := ok.one
    have o2 := ok.ten
    refine ⟨_, PSs.nox (pss_cons (ps_if (PW.pt (pw_or (pt_not (pt_val (pe_callB call_isi rfl T.f_isinstance (by decide +kernel) (pa_cons (pv 0) (pa_cons (pe_bltn (v := .ty "tuple") (u := .type "tuple") rfl T.f_tuple (by decide +kernel) rfl) pa_nil))))) (pw_or1 (pt_cmpR op_eq (pe_callB call_len_seq rfl T.f_len (by decide +kernel) (pa_cons (pv 0) pa_nil)) pe_int (nomark _))))) (pss_one ps_never) pss_nil)
    (pss_cons (ps_set (i := 1) sc_parsed_rows.nd rfl (Or.inl rfl) (pe_lst pa_nil))
    (pss_cons (ps_for PassesOwn.never rfl (pi_enumT rfl T.f_enumerate (pa_cons (pe_slice sl_tupA (pv 0) po_none (po_some (pe_gl T.g_MOST_ROWS))) pa_nil)) (pg_tup rfl (pgs_cons (pg_name (i := 2) sc_parsed_rows.nd rfl (Or.inl rfl)) (pgs_cons (pg_name (i := 3) sc_parsed_rows.nd rfl (Or.inl rfl)) pgs_nil)))
      (pss_cons (ps_set (i := 4) sc_parsed_rows.nd rfl (Or.inl rfl) (pe_calO c_parsed_row (hr.mono (by decide)) pass0 (pa_cons (pv 3) pa_nil)))
    (pss_cons (ps_if (PW.pt (pw_or (pt_cmpR op_isN (pv 4) pe_non (nomark _)) (pw_or1 (pt_not (pt_val (pe_calO c_leads_within (hr.mono (by decide)) pass0 (pa_cons (pv 4) (pa_cons (pe_callB call_len_seq rfl T.f_len (by decide +kernel) (pa_cons (pv 0) pa_nil)) pa_nil)))))))) (pss_one ps_never) pss_nil)
    (pss_one (ps_expr (pe_bm PySem.F.plainAttrs_list PySem.F.slot_list_append PySem.F.type_list_append mt_append (pv 1) (pa_cons (pv 4) pa_nil)))))))
    (pss_cons (ps_if (pt_cmpR op_gt (pe_callB call_len_seq rfl T.f_len (by decide +kernel) (pa_cons (pv 0) pa_nil)) (pe_gl T.g_MOST_ROWS) (nomark _)) (pss_one ps_never) pss_nil)
    (pss_one (ps_ret (pe_callTy call_tuple_of rfl T.f_tuple (by decide +kernel) (pa_cons (pv 1) pa_nil)))))))), ?_⟩
    walk_at "rd"
    refine iteD (fun h => absurd h (by intro h; have := V.int.inj h; omega)) (fun _ => ?_)
    walk_at "rd"
    intro D nD
    walk_at "rd"
    have ht' : SqT K (upd H D (.lst [])) t (rowsV rs) := SqT.of (upd_get nD ht)
    have wh : HT.sIx (rowsV rs).length 0 none = 0 ∧ HT.sIx (rowsV rs).length (rowsV rs).length (some 10) = (rowsV rs).length :=
      ⟨HT.sIx_none .., by rw [show (10 : Int) = ((10 : Nat) : Int) from rfl, HT.sIx_nat]; omega⟩
    refine ⟨fun _ => ?_, fun h => absurd wh h⟩
    walk_at "rd"
    refine forE (xs := rowsV rs) (fun i σ H' => Same H H' ∧ ∃ (as : List Addr) (a b c : Option V), σ = [some (.ref t), some (.ref D), a, b, c] ∧ H' D = some (.lst (as.map V.ref)) ∧ RowsIn K H' as (rs.take i))
      ⟨by walk_at "g but", [], none, none, none, rfl, upd_same, rfl, fun i a q h _ => by simp at h⟩ (fun i σ H' _ pv => SqT.of (pv.1 _ _ ht)) ?_ ?_
    · rintro i x σ H' T hx ⟨s', as, a, b, c, rfl, hD, hi⟩ nT
      obtain ⟨u, hu2, rfl⟩ : ∃ u, rs[i]? = some u ∧ V.str u.text = x := by
        unfold rowsV at hx
        rw [List.getElem?_map] at hx
        cases e : rs[i]? with
        | none => rw [e] at hx; cases hx
        | some u => rw [e] at hx; exact ⟨u, rfl, Option.some.inj hx⟩
      obtain ⟨k1, k2, k3⟩ := ok.ok u (List.mem_of_getElem? hu2)
      obtain ⟨g4, _⟩ := goals_ok k1
      walk_at "rd"
      have k4 : ∀ k ∈ u.2.goals, (k : Int) < (((rowsV rs).length : Nat) : Int) := fun k hk => by have := k3 k hk; omega
      have al : as.length = i := by
        have lt := (List.getElem?_eq_some_iff.mp hu2).1
        rw [hi.1, List.length_take]
        omega
      refine ⟨u.1, u.2, rfl, k1, k2, fun H2 r dx g s2 hr2 hg2 => ?_⟩
      walk_at "rd"
      refine ⟨u.2, _, rfl, hr2, hg2, g4, k4, fun H3 s3 => ?_⟩
      walk_at "rd"
      have hD3 : H3 D = some (.lst (as.map V.ref)) := s3 _ _ (s2 _ _ (upd_get nT hD))
      have s4 : Same H' H3 := ((((Same.refl H').new nT).trans s2).trans s3)
      have fr : H3 r = _ := s3 _ _ hr2
      refine ⟨.inl ⟨rfl, _, SqL.of hD3⟩, ?_⟩
      refine ⟨_, rfl, ?_⟩
      refine ⟨D, as.map V.ref, .ref r, rfl, rfl, hD3, by rw [List.length_map, al]; show i < 16777216; have := (List.getElem?_eq_some_iff.mp hu2).1; omega, ?_⟩
      have tk : rs.take (i + 1) = rs.take i ++ [u] := by rw [List.take_add_one, hu2]; rfl
      refine ⟨L2.Same.own (s'.trans s4) nD, as ++ [r], _, _, _, rfl, by rw [upd_same, List.map_append]; rfl, ?_⟩
      rw [tk]
      exact ((hi.same s4).lst hD3).snoc (RowIn.lst ⟨dx, g, fr, hg2.same s3⟩ hD3)
    · rintro σ H' ⟨s', as, a, b, c, rfl, hD, hi⟩
      have al : (as.map V.ref).length = rs.length := by
        rw [List.length_map, hi.1, List.take_of_length_le (by omega)]
      walk_at "rd"
      refine iteD (fun h => absurd h (by omega)) (fun _ => ?_)
      walk_at "rd"
      refine .inl ⟨SqL.of hD, fun l nl => q _ l as (by walk_at "g but") upd_same ?_⟩
      rw [rl, List.take_of_length_le (Nat.le_refl _)] at hi
      exact hi.same ((Same.refl _).new nl)
end
end G
namespace G
open PySem PySem.Spec PyProof.Rows L2
section
variable {P : Program} {w : World} {K : PySem.W.Frag} {mg : Str → Option Value} {base : Heap} {CX : CXT}
/-! ### members -/
def MemAt (K : PySem.W.Frag) (H : Hp) (m : Addr) (ms : List Str) : Prop := H m = some (.tup (ms.map V.str)) ∨ (ms = [] ∧ ∀ H, SqT K H m [])
theorem MemAt.sq {H : Hp} {m : Addr} {ms : List Str} (h : MemAt K H m ms) : SqT K H m (ms.map V.str) := by
  rcases h with h | ⟨rfl, h⟩
  · exact SqT.of h
  · exact h H
theorem MemAt.same {H H' : Hp} {m : Addr} {ms : List Str} (h : MemAt K H m ms) (s : Same H H') : MemAt K H' m ms := by
  rcases h with h | h
  · exact .inl (s _ _ h)
  · exact .inr h
theorem MemAt.but {H H' : Hp} {m p C dx : Addr} {fs : List (Str × V)} {ms : List Str} (h : MemAt K H m ms) (hp : H p = some (.ins C dx fs)) (s : But p H H') : MemAt K H' m ms := by
  rcases h with h | h
  · exact .inl (s _ _ (ne_of h hp (by intro e; cases e)) h)
  · exact .inr h
structure MemOk (ms : List Str) : Prop where
  nm : ∀ z ∈ ms, Nm z
  nd : ms.Nodup
  few : ms.length ≤ 1000
theorem flat_strs (ms : List Str) : (ms.map V.str).all flatV = true := by
  rw [List.all_eq_true]
  intro x hx
  obtain ⟨k, _, rfl⟩ := List.mem_map.mp hx
  rfl
theorem inV_strs (z : Str) (ms : List Str) : inV (.str z) (ms.map V.str) = decide (z ∈ ms) := by
  unfold inV
  rw [List.any_map]
  have e : (ms.any ((fun y => eqV y (.str z)) ∘ V.str)) = ms.any fun y => decide (y = z) := List.any_congr rfl fun y => by
    show eqV (.str y) (.str z) = decide (y = z)
    by_cases e : y = z
    · subst e
      simp [eqV]
    · simp [eqV, e]
  rw [e]
  by_cases h : z ∈ ms
  · rw [decide_eq_true h, List.any_eq_true]
    exact ⟨z, h, by simp⟩
  · rw [decide_eq_false h, List.any_eq_false]
    intro y hy
    simp only [decide_eq_true_eq]
    intro e
    exact h (e ▸ hy)
def spMembers (K : PySem.W.Frag) : Sp := fun vs H Q _ => ∃ (m : Addr) (ms : List Str), vs = [.ref m] ∧ MemAt K H m ms ∧ MemOk ms ∧ ∀ H', Same H H' → Q .non H'
theorem ok_check_members {f : Addr} {fd : FuncData} {dvs : List V} {kws : List (Str × V)} (T : Tx K mg)
    (F : FunD K "check_members" "check_members" (defArgs s_check_members) (defBody s_check_members) (defScope s_check_members) dvs kws f fd) :
    FnOk P w K mg base CX0 2 f fd ["members"] (spMembers K) := by
  have c_is_name : CalO P w K mg base CX0 1 "is_name" [] (spIsName K) := c_is_name T
  refine F.ok sc_check_members (fun vs H Q E h => ?_) (fun cdv A outer s H vs Q E hr h => ?_)
  · obtain ⟨m, ms, rfl, _⟩ := h
    rfl
  · obtain ⟨m, ms, rfl, hm, ok, q⟩ := h
    have hu := hr.units
    have sq0 := hm.sq
    refine ⟨_, PSs.nox (pss_cons (ps_if (pt_not (pt_val (pe_callB call_isi rfl T.f_isinstance (by decide +kernel) (pa_cons (pv 0) (pa_cons (pe_bltn (v := .ty "tuple") (u := .type "tuple") rfl T.f_tuple (by decide +kernel) rfl) pa_nil))))) (pss_one ps_never) pss_nil)
    (pss_one (ps_for PassesOwn.never rfl (pi_enumT rfl T.f_enumerate (pa_cons (pv 0) pa_nil)) (pg_tup rfl (pgs_cons (pg_name (i := 1) sc_check_members.nd rfl (Or.inl rfl)) (pgs_cons (pg_name (i := 2) sc_check_members.nd rfl (Or.inl rfl)) pgs_nil)))
      (pss_one (ps_if (PW.pt (pw_or (pt_not (pt_val (pe_calO c_is_name (hr.mono (by decide)) pass0 (pa_cons (pv 2) pa_nil)))) (pw_or1 (pt_cmpR op_in_seq (pv 2) (pe_slice sl_tupA (pv 0) po_none (po_some (pv 1))) rfl)))) (pss_one ps_never) pss_nil))))), ?_⟩
    walk_at "rd"
    refine forE (xs := ms.map V.str) (fun i σ H' => Same H H' ∧ ∃ a b : Option V, σ = [some (.ref m), a, b]) ⟨.refl _, none, none, rfl⟩ (fun i σ H' _ pv => (hm.same pv.1).sq) ?_ (fun σ H' pv => q _ pv.1)
    rintro i x σ H1 T2 hx ⟨s1, a, b, rfl⟩ nT
    have lt := (List.getElem?_eq_some_iff.mp hx).1
    rw [List.length_map] at lt
    rw [List.getElem?_map, List.getElem?_eq_getElem lt] at hx
    obtain rfl := Option.some.inj hx
    have nz := ok.nm _ (List.getElem_mem lt)
    have zl : (ms[i]).length ≤ sizeLine := Nat.le_trans nz.2 (by decide)
    walk_at "rd"
    intro H2 s2
    rw [nz.1]
    have sq2 := (hm.same ((s1.new nT).trans s2)).sq
    walk_at "rd"
    refine ⟨fun h => absurd h.2 ?_, fun _ p np => ?_⟩
    · rw [HT.sIx_nat, List.length_map]
      omega
    have ni : inV (.str ms[i]) (cutV (ms.map V.str) none (some (i : Int))) = false := by
      rw [cut_take, ← List.map_take, inV_strs]
      refine decide_eq_false fun h => ?_
      obtain ⟨j, hj, e⟩ := List.mem_take_iff_getElem.mp h
      exact List.pairwise_iff_getElem.mp ok.nd j i (by omega) lt (by omega) e
    have fl : True → (cutV (ms.map V.str) none (some (i : Int))).all flatV = true := by
      intro _
      rw [cut_take, ← List.map_take]
      exact flat_strs _
    walk_at "rd"
    refine ⟨fl trivial, ?_⟩
    rw [ni]
    walk_at "rd"
    exact ⟨by walk_at "g but", _, _, rfl⟩
theorem c_check_members (T : Tx K mg) : CalO P w K mg base CX0 2 "check_members" [] (spMembers K) := by
  obtain ⟨fd, F⟩ := T.d_check_members
  exact .mk F (ok_check_members T F) T.n_check_members fun _ _ _ _ _ _ us hl => match us, hl with | [_], _ => rfl
end
end G
namespace G
open PySem PySem.Spec PyProof.Rows L2
section
variable {P : Program} {w : World} {K : PySem.W.Frag} {mg : Str → Option Value} {base : Heap} {CX : CXT}
/-! ### kinds -/
abbrev cK (K : PySem.W.Frag) : Addr := He.ga K "Kind"
abbrev kindMe (K : PySem.W.Frag) : V := .ref (kwdAt ("Kind", some "__init__") "members" K)
abbrev kindF (n : Str) (t pr : Addr) (b : Bool) (m : Addr) : List (Str × V) := [("called", .str n), ("texts", .ref t), ("parsed", .ref pr), ("any_number", .bl b), ("begun", .ref m)]
theorem RowIn.but {H H' : Hp} {a p C dx : Addr} {q : RwT} (h : RowIn K H a q) (hp : H p = some (.ins C dx [])) (s : But p H H') : RowIn K H' a q := by
  obtain ⟨d, g, e, go⟩ := h
  exact ⟨d, g, s _ _ (ne_of e hp (by intro e; cases e)) e, go.but hp s⟩
theorem RowsIn.but {H H' : Hp} {as : List Addr} {rs : List RwT} {p C dx : Addr} (h : RowsIn K H as rs) (hp : H p = some (.ins C dx [])) (s : But p H H') : RowsIn K H' as rs :=
  ⟨h.1, fun i a q h1 h2 => (h.2 i a q h1 h2).but hp s⟩
def spKind (K : PySem.W.Frag) : Sp := fun vs H Q _ => ∃ (p dx t m : Addr) (n : Str) (b : Bool) (rs : List RwT) (ms : List Str), vs = [.ref p, .str n, .ref t, .bl b, .ref m] ∧
  H p = some (.ins (cK K) dx []) ∧ Nm n ∧ H t = some (.tup (rowsV rs)) ∧ RowsOk rs ∧ MemAt K H m ms ∧ MemOk ms ∧
  ∀ H' pr as, But p H H' → H' p = some (.ins (cK K) dx (kindF n t pr b m)) → H' pr = some (.tup (as.map V.ref)) → RowsIn K H' as rs → Q .non H'
theorem ok_Kind {f : Addr} {fd : FuncData} {dvs : List V} {kws : List (Str × V)} (T : Tx K mg)
    (F : FunD K "__init__" "Kind.__init__" (defArgs s_Kind___init__) (defBody s_Kind___init__) (defScope s_Kind___init__) dvs kws f fd) :
    FnOk P w K mg base CX0 6 f fd ["self", "name", "rows", "many", "members"] (spKind K) := by
  have c_is_name : CalO P w K mg base CX0 1 "is_name" [] (spIsName K) := c_is_name T
  have c_parsed_rows : CalO P w K mg base CX0 5 "parsed_rows" [] (spRows K) := by
    obtain ⟨fd, F⟩ := T.d_parsed_rows
    exact .mk F (ok_parsed_rows T F) T.n_parsed_rows fun _ _ _ _ _ _ us hl => match us, hl with | [_], _ => rfl
  have c_check_members : CalO P w K mg base CX0 2 "check_members" [] (spMembers K) := c_check_members T
  refine F.ok sc_Kind___init__ (fun vs H Q E h => ?_) (fun cdv A outer s H vs Q E hr h => ?_)
  · obtain ⟨p, dx, t, m, n, b, rs, ms, rfl, _⟩ := h
    rfl
  · obtain ⟨p, dx, t, m, n, b, rs, ms, rfl, hp, nn, ht, ro, hm, mo, q⟩ := h
    have cl := T.c_Kind
    have n1 := T.na_Kind_called
    have n2 := T.na_Kind_texts
    have n3 := T.na_Kind_parsed
    have n4 := T.na_Kind_any_number
    have n5 := T.na_Kind_begun
    have nl : n.length ≤ sizeLine := Nat.le_trans nn.2 (by decide)
    refine ⟨_, PSs.nox (pss_cons (ps_if (pt_not (pt_val (pe_calO c_is_name (hr.mono (by decide)) pass0 (pa_cons (pv 1) pa_nil)))) (pss_one ps_never) pss_nil)
    (pss_cons (ps_asg (pe_tup (pa_cons (pv 1) (pa_cons (pv 2) (pa_cons (pe_calO c_parsed_rows (hr.mono (by decide)) pass0 (pa_cons (pv 2) pa_nil)) pa_nil)))) (pg_tup rfl (pgs_cons (pg_attr (pv 0)) (pgs_cons (pg_attr (pv 0)) (pgs_cons (pg_attr (pv 0)) pgs_nil)))))
    (pss_cons (ps_if (PW.pt (pw_and (pt_cmpR op_notBl (pv 3) pe_bl (nomark _)) (pw_and1 (pt_cmpR op_notBl (pv 3) pe_bl (nomark _))))) (pss_one ps_never) pss_nil)
    (pss_cons (ps_expr (pe_calO c_check_members (hr.mono (by decide)) pass0 (pa_cons (pv 4) pa_nil)))
    (pss_one (ps_asg (pe_tup (pa_cons (pv 3) (pa_cons (pv 4) pa_nil))) (pg_tup rfl (pgs_cons (pg_attr (pv 0)) (pgs_cons (pg_attr (pv 0)) pgs_nil))))))))), ?_⟩
    walk_at "rd"
    intro H1 s1
    rw [nn.1]
    have ht1 := s1 _ _ ht
    walk_at "rd"
    refine ⟨rs, rfl, ht1, ro, fun H2 pr as s2 hpr hrs => ?_⟩
    have hp2 : H2 p = some (.ins (cK K) dx []) := s2 _ _ (s1 _ _ hp)
    have hm2 := hm.same (s1.trans s2)
    walk_at "rd"
    intro t1 nt1
    walk_at "rd"
    have hm3 : ∀ H', But p H2 H' → MemAt K H' m ms := fun H' s => hm2.but hp2 s
    cases b
    all_goals
      walk_at "rd"
      refine ⟨hm3 _ (by walk_at "g but"), mo, fun H3 s3 => ?_⟩
      walk_at "rd"
      intro t2 nt2
      walk_at "rd"
      refine q _ pr as (by walk_at "g but") upd_same ?_ ?_
      · exact (show But p H2 _ by walk_at "g but") _ _ (ne_of hpr hp2 (by intro e; cases e)) hpr
      · exact hrs.but hp2 (by walk_at "g but")
/-! ### constructors of kinds -/
theorem c_Kind_2 (T : Tx K mg) : CalC P w K mg base CX0 6 "Kind" (cK K) [.bl false, kindMe K] (spKind K) := by
  obtain ⟨fd, F⟩ := T.d_Kind___init__
  obtain ⟨ds, rd, hb⟩ := F.binds0 (ps := ["self", "name", "rows", "many", "members"]) 3 (fun h => absurd (show 2 = 0 from congrArg List.length h) (by decide)) rfl (fun D doc pm an cdv ct us ks l1 l2 => match us, ks, l1, l2 with
    | [_, _, _], [_, _], _, _ => ⟨_, _, _, _, _, _, rfl, rfl, _, _, _, _, _, _, rfl, rfl, rfl⟩)
  obtain ⟨u, hm, ru⟩ := T.g_Kind
  obtain rfl : u = Value.ref (cK K) := ru
  exact ⟨_, fd, _, ds, T.mk_Kind, ok_Kind T F, hm, hb, rd⟩
/-- members, many, rows, name: in the parameters' order -/
def gRev {α : Type} (us mv ws : List α) : List α := us ++ (ws.drop 3 ++ ((ws.drop 2).take 1 ++ ((ws.drop 1).take 1 ++ ws.take 1)))
/-- rows, name, members -/
def gRNM {α : Type} (us mv ws : List α) : List α := us ++ ((ws.drop 1).take 1 ++ (ws.take 1 ++ (mv ++ ws.drop 2)))
theorem c_Kind_2_many_members (T : Tx K mg) : CalN P w K mg base CX0 6 "Kind" (cK K) 2 ["many", "members"] (fun vs zs => gWM vs [] zs) (spKind K) := by
  obtain ⟨fd, F⟩ := T.d_Kind___init__
  obtain ⟨mv, hb⟩ := F.kbinds0 (ps := ["self", "name", "rows", "many", "members"]) 3 ["many", "members"] [] gWM (fun h => absurd (show 2 = 0 from congrArg List.length h) (by decide))
    (fun q hq => nomatch hq)
    (fun r1 r2 r3 => vals_app r1 (vals_app r3 r2)) (fun D doc pm an cdv ct us mv ws l1 l2 l3 => match us, mv, ws, l1, l2, l3 with
    | [_, _, _], [], [_, _], _, _, _ => rfl)
  obtain ⟨u, hm, ru⟩ := T.g_Kind
  obtain rfl : u = Value.ref (cK K) := ru
  exact ⟨_, fd, _, _, T.mk_Kind, ok_Kind T F, hm, hb⟩
theorem c_Kind_2_many (T : Tx K mg) : CalN P w K mg base CX0 6 "Kind" (cK K) 2 ["many"] (fun vs zs => gWM vs [kindMe K] zs) (spKind K) := by
  obtain ⟨fd, F⟩ := T.d_Kind___init__
  obtain ⟨mv, hb⟩ := F.kbinds0 (ps := ["self", "name", "rows", "many", "members"]) 3 ["many"] [("members", kindMe K)] gWM (fun h => absurd (show 2 = 0 from congrArg List.length h) (by decide))
    (fun q hq => List.mem_singleton.mp hq ▸ .tail _ (.head _))
    (fun r1 r2 r3 => vals_app r1 (vals_app r3 r2)) (fun D doc pm an cdv ct us mv ws l1 l2 l3 => match us, mv, ws, l1, l2, l3 with
    | [_, _, _], [_], [_], _, _, _ => ⟨_, _, _, _, _, _, rfl, rfl, rfl⟩)
  obtain ⟨u, hm, ru⟩ := T.g_Kind
  obtain rfl : u = Value.ref (cK K) := ru
  exact ⟨_, fd, _, _, T.mk_Kind, ok_Kind T F, hm, hb⟩
theorem c_Kind_0_members_many_rows_name (T : Tx K mg) : CalN P w K mg base CX0 6 "Kind" (cK K) 0 ["members", "many", "rows", "name"] (fun vs zs => gRev vs [] zs) (spKind K) := by
  obtain ⟨fd, F⟩ := T.d_Kind___init__
  obtain ⟨mv, hb⟩ := F.kbinds0 (ps := ["self", "name", "rows", "many", "members"]) 1 ["members", "many", "rows", "name"] [] gRev (fun h => absurd (show 2 = 0 from congrArg List.length h) (by decide))
    (fun q hq => nomatch hq)
    (fun r1 r2 r3 => vals_app r1 (vals_app (vals_drop 3 r3) (vals_app (vals_take 1 (vals_drop 2 r3)) (vals_app (vals_take 1 (vals_drop 1 r3)) (vals_take 1 r3))))) (fun D doc pm an cdv ct us mv ws l1 l2 l3 => match us, mv, ws, l1, l2, l3 with
    | [_], [], [_, _, _, _], _, _, _ => rfl)
  obtain ⟨u, hm, ru⟩ := T.g_Kind
  obtain rfl : u = Value.ref (cK K) := ru
  exact ⟨_, fd, _, _, T.mk_Kind, ok_Kind T F, hm, hb⟩
theorem c_Kind_0_rows_name_members (T : Tx K mg) : CalN P w K mg base CX0 6 "Kind" (cK K) 0 ["rows", "name", "members"] (fun vs zs => gRNM vs [.bl false] zs) (spKind K) := by
  obtain ⟨fd, F⟩ := T.d_Kind___init__
  obtain ⟨mv, hb⟩ := F.kbinds0 (ps := ["self", "name", "rows", "many", "members"]) 1 ["rows", "name", "members"] [("many", .bl false)] gRNM (fun h => absurd (show 2 = 0 from congrArg List.length h) (by decide))
    (fun q hq => List.mem_singleton.mp hq ▸ .head _)
    (fun r1 r2 r3 => vals_app r1 (vals_app (vals_take 1 (vals_drop 1 r3)) (vals_app (vals_take 1 r3) (vals_app r2 (vals_drop 2 r3))))) (fun D doc pm an cdv ct us mv ws l1 l2 l3 => match us, mv, ws, l1, l2, l3 with
    | [_], [_], [_, _, _], _, _, _ => ⟨_, _, _, _, _, _, rfl, rfl, rfl⟩)
  obtain ⟨u, hm, ru⟩ := T.g_Kind
  obtain rfl : u = Value.ref (cK K) := ru
  exact ⟨_, fd, _, _, T.mk_Kind, ok_Kind T F, hm, hb⟩
end
end G
namespace G
open PySem PySem.Spec PyProof.Rows L2
/-! ### texts in a tuple, compared -/
def strsD (l : List Str) : PyData := .tuple (l.map PyData.str)
def strsOk (l : List Str) : Prop := ∀ z ∈ l, PyData.strOk z = true
theorem strs_lay : ∀ l : List Str, strsOk l → PyData.canLayAll0 (l.map PyData.str) = true
  | [], _ => by simp only [List.map_nil, PyData.canLayAll0]
  | z :: l, h => by
    simp only [List.map_cons, PyData.canLayAll0, PyData.canLay0, Bool.and_eq_true]
    exact ⟨h z List.mem_cons_self, strs_lay l fun y hy => h y (List.mem_cons_of_mem _ hy)⟩
theorem strs_depth : ∀ l : List Str, PyData.depthAll (l.map PyData.str) = 0
  | [] => by simp only [List.map_nil, PyData.depthAll]
  | z :: l => by
    simp only [List.map_cons, PyData.depthAll, PyData.depth, strs_depth l]
    rfl
theorem strs_shaped {l : List Str} (h : strsOk l) : SeqAt.shaped (strsD l) = true := by
  unfold SeqAt.shaped strsD
  simp only [PyData.canLay0, PyData.depth, strs_lay l h, strs_depth l, Bool.true_and]
  decide
/-! ### all that a kind holds is plain -/
theorem strOk_of {z : Str} (h : ∀ c ∈ z.cps.toList, c < 128) : PyData.strOk z = true := by
  unfold PyData.strOk
  rw [← Array.all_toList, List.all_eq_true]
  intro c hc
  have := h c hc
  simp only [decide_eq_true_eq]
  omega
theorem sign_128 {c : Nat} (h : isSign c = true) : c < 128 := by
  have a : ∀ c ∈ signsS.cps.toList, c < 128 := by decide +kernel
  exact a c (of_decide_eq_true h)
theorem nm_ok {z : Str} (h : Nm z) : PyData.strOk z = true := strOk_of fun c hc => sign_128 (nm_plain h c hc)
theorem rwText_128 {r : RW} (h : r.Ok) : ∀ c ∈ (rwText r).cps.toList, c < 128 := by
  rw [rwText_list]
  intro c hm
  rcases joinL_mem hm with h1 | ⟨p, hp, h1⟩
  · rw [List.mem_singleton.mp h1]
    decide
  · obtain ⟨z, hz, rfl⟩ := List.mem_map.mp hp
    exact sign_128 ((words_plain h z hz).1 c h1)
theorem rowText_ok {q : RwT} (h : q.2.Ok) (hl : ∀ z, q.1 = some z → Nm z) : PyData.strOk q.text = true := by
  refine strOk_of fun c hc => ?_
  obtain ⟨l, r⟩ := q
  cases l with
  | none => exact rwText_128 h c hc
  | some z =>
    have e : (RwT.text (some z, r)).cps.toList = z.cps.toList ++ (Str.ofString ": ").cps.toList ++ (rwText r).cps.toList := by
      show (z ++ Str.ofString ": " ++ rwText r).cps.toList = _
      rw [cat_list, cat_list]
    rw [e] at hc
    rcases List.mem_append.mp hc with hc | hc
    · rcases List.mem_append.mp hc with hc | hc
      · exact sign_128 (nm_plain (hl z rfl) c hc)
      · have a : ∀ c ∈ (Str.ofString ": ").cps.toList, c < 128 := by decide +kernel
        exact a c hc
    · exact rwText_128 h c hc
theorem strs_eqv : ∀ l m : List Str, PyData.eqv (strsD l) (strsD m) = decide (l = m)
  | [], [] => rfl
  | [], _ :: _ => rfl
  | _ :: _, [] => rfl
  | x :: l, y :: m => by
    have ih := strs_eqv l m
    show (PyData.eqv (.str x) (.str y) && PyData.eqv (strsD l) (strsD m)) = _
    rw [ih]
    have e : PyData.eqv (.str x) (.str y) = decide (x = y) := by
      show (x == y) = decide (x = y)
      by_cases h : x = y
      · subst h; simp
      · simp [h]
    rw [e]
    by_cases h1 : x = y <;> by_cases h2 : l = m <;> simp [h1, h2]
theorem strs_dpAll {K : PySem.W.Frag} {H : Hp} : ∀ l : List Str, DpAll K H (l.map V.str) (l.map PyData.str)
  | [] => .nil
  | z :: l => .cons (.str z) (strs_dpAll l)
theorem strs_dp {K : PySem.W.Frag} {H : Hp} {a : Addr} {l : List Str} (h : SqT K H a (l.map V.str)) : Dp K H (.ref a) (strsD l) := .tup h (strs_dpAll l)
structure KindT where
  n : Str
  rs : List RwT
  b : Bool
  ms : List Str
def texts (rs : List RwT) : List Str := rs.map RwT.text
theorem rowsV_texts (rs : List RwT) : rowsV rs = (texts rs).map V.str := by
  unfold rowsV texts
  rw [List.map_map]
  rfl
structure KindOk (k : KindT) : Prop where
  nm : Nm k.n
  ro : RowsOk k.rs
  mo : MemOk k.ms
theorem texts_ok {rs : List RwT} (h : RowsOk rs) : strsOk (texts rs) := by
  intro z hz
  obtain ⟨q, hq, rfl⟩ := List.mem_map.mp hz
  obtain ⟨h1, h2, _⟩ := h.ok q hq
  exact rowText_ok h1 h2
def kEq (k k' : KindT) : Bool := decide (k.n = k'.n) && decide (texts k.rs = texts k'.rs) && decide (k.b = k'.b) && decide (k.ms = k'.ms)
section
variable {P : Program} {w : World} {K : PySem.W.Frag} {mg : Str → Option Value} {base : Heap} {CX : CXT}
/-- a kind stands at a -/
def KindAt (K : PySem.W.Frag) (H : Hp) (a : Addr) (k : KindT) : Prop := KindOk k ∧ ∃ (dx t pr m : Addr) (as : List Addr), H a = some (.ins (cK K) dx (kindF k.n t pr k.b m)) ∧
  H t = some (.tup (rowsV k.rs)) ∧ MemAt K H m k.ms ∧ H pr = some (.tup (as.map V.ref)) ∧ RowsIn K H as k.rs
theorem KindAt.same {H H' : Hp} {a : Addr} {k : KindT} (h : KindAt K H a k) (s : Same H H') : KindAt K H' a k := by
  obtain ⟨ok, dx, t, pr, m, as, h1, h2, h3, h4, h5⟩ := h
  exact ⟨ok, dx, t, pr, m, as, s _ _ h1, s _ _ h2, h3.same s, s _ _ h4, h5.same s⟩
def spKindEq (K : PySem.W.Frag) : Sp := fun vs H Q _ => ∃ (a : Addr) (k : KindT) (y : V), vs = [.ref a, y] ∧ KindAt K H a k ∧
  ((∃ (b : Addr) (k' : KindT), y = .ref b ∧ KindAt K H b k' ∧ Q (.bl (kEq k k')) H) ∨ (∃ t, TyX K H y t ∧ PySem.W.kitOne K t (.ref (cK K)) = some false ∧ Q (.bl false) H))
theorem ok_Kind_eq {f : Addr} {fd : FuncData} {dvs : List V} {kws : List (Str × V)} (T : Tx K mg)
    (F : FunD K "__eq__" "Kind.__eq__" (defArgs s_Kind___eq__) (defBody s_Kind___eq__) (defScope s_Kind___eq__) dvs kws f fd) :
    FnOk P w K mg base CX 1 f fd ["self", "other"] (spKindEq K) := by
  refine F.ok sc_Kind___eq__ (fun vs H Q E h => ?_) (fun cdv A outer s H vs Q E hr h => ?_)
  · obtain ⟨a, k, y, rfl, _⟩ := h
    rfl
  · obtain ⟨a, k, y, rfl, ⟨ok, dx, t, pr, m, as, h1, h2, h3, _⟩, h⟩ := h
    have hu := hr.units
    have cl := T.c_Kind
    have ci := T.i_Kind
    have n1 := T.na_Kind_called
    have n2 := T.na_Kind_texts
    have n4 := T.na_Kind_any_number
    have n5 := T.na_Kind_begun
    have me := ci.me
    refine ⟨_, PSs.nox (pss_cons (ps_if (PW.pt (pw_or (pt_not (pt_val (pe_callB call_isi rfl T.f_isinstance (by decide +kernel) (pa_cons (pv 1) (pa_cons (pe_gl T.g_Kind) pa_nil))))) (pw_or (pt_cmpR op_ne (pe_fld (pv 0) rfl) (pe_fld (pv 1) rfl) (nomark _)) (pw_or1 (pt_cmpR (op_neD hu) (pe_fld (pv 0) rfl) (pe_fld (pv 1) rfl) (nomark _)))))) (pss_one (ps_ret pe_bl)) pss_nil)
    (pss_one (ps_ret (pe_and (pe_cmpR op_eq (pe_fld (pv 0) rfl) (pe_fld (pv 1) rfl) (nomark _)) (pe_one (pe_cmpR (op_eqD hu) (pe_fld (pv 0) rfl) (pe_fld (pv 1) rfl) (nomark _))))))), ?_⟩
    rcases h with ⟨b, k', rfl, ⟨ok', dx', t', pr', m', as', e1, e2, e3, _⟩, q⟩ | ⟨ty', ty, ek, q⟩
    · have ty : TyX K H (.ref b) (.ref (cK K)) := .base (ci.ty cl e1)
      have d1 : Dp K H (.ref t) (strsD (texts k.rs)) := strs_dp (by rw [← rowsV_texts]; exact SqT.of h2)
      have d2 : Dp K H (.ref t') (strsD (texts k'.rs)) := strs_dp (by rw [← rowsV_texts]; exact SqT.of e2)
      have d3 : Dp K H (.ref m) (strsD k.ms) := strs_dp h3.sq
      have d4 : Dp K H (.ref m') (strsD k'.ms) := strs_dp e3.sq
      walk_at "rd"
      refine iteND (fun g1 => ?_) (fun g1 => ?_)
      · refine ret_eq q ?_
        have e : ¬ k.n = k'.n := fun z => g1 (by rw [z])
        unfold kEq
        rw [decide_eq_false e, Bool.false_and, Bool.false_and, Bool.false_and]
      have f1 : k.n = k'.n := V.str.inj g1
      walk_at "rd"
      refine ⟨_, _, d1, d2, strs_shaped (texts_ok ok.ro), strs_shaped (texts_ok ok'.ro), ?_⟩
      rw [strs_eqv]
      walk_at "rd"
      refine iteND (fun g2 => ?_) (fun g2 => ?_)
      · refine ret_eq q ?_
        unfold kEq
        rw [decide_eq_false g2, Bool.and_false, Bool.false_and, Bool.false_and]
      walk_at "rd"
      refine iteD (fun g3 => ?_) (fun g3 => ?_)
      · have f3 : k.b = k'.b := V.bl.inj g3
        walk_at "rd"
        refine ⟨_, _, d3, d4, strs_shaped (fun z hz => nm_ok (ok.mo.nm z hz)), strs_shaped (fun z hz => nm_ok (ok'.mo.nm z hz)), ?_⟩
        rw [strs_eqv]
        refine ret_eq q ?_
        unfold kEq
        rw [decide_eq_true f1, decide_eq_true g2, decide_eq_true f3, Bool.true_and, Bool.true_and, Bool.true_and]
      · refine ret_eq q ?_
        have e : ¬ k.b = k'.b := fun z => g3 (by rw [z])
        unfold kEq
        rw [decide_eq_false e, Bool.and_false, Bool.false_and]
    · walk_at "rd"
      exact q
def spKindLen (K : PySem.W.Frag) : Sp := fun vs H Q _ => ∃ (a : Addr) (k : KindT), vs = [.ref a] ∧ KindAt K H a k ∧ Q (.int ((k.rs.length : Nat) : Int)) H
theorem ok_Kind_len {f : Addr} {fd : FuncData} {dvs : List V} {kws : List (Str × V)} (T : Tx K mg)
    (F : FunD K "__len__" "Kind.__len__" (defArgs s_Kind___len__) (defBody s_Kind___len__) (defScope s_Kind___len__) dvs kws f fd) :
    FnOk P w K mg base CX 1 f fd ["self"] (spKindLen K) := by
  refine F.ok sc_Kind___len__ (fun vs H Q E h => ?_) (fun cdv A outer s H vs Q E hr h => ?_)
  · obtain ⟨a, k, rfl, _⟩ := h
    rfl
  · obtain ⟨a, k, rfl, ⟨ok, dx, t, pr, m, as, h1, h2, h3, _⟩, q⟩ := h
    have cl := T.c_Kind
    have n2 := T.na_Kind_texts
    refine ⟨_, PSs.nox (pss_one (ps_ret (pe_callB call_len_seq rfl T.f_len (by decide +kernel) (pa_cons (pe_fld (pv 0) rfl) pa_nil)))), ?_⟩
    walk_at "rd"
    refine ret_eq q ?_
    rw [rowsV, List.length_map]
/-- ==, truth and len of kinds: all that they want -/
theorem eqK (T : Tx K mg) : ∃ f fd ps, EqC K (cK K) f ∧ FnOk P w K mg base CX 1 f fd ps (spKindEq K) ∧ Binds K fd ps [] := by
  obtain ⟨fd, F⟩ := T.d_Kind___eq__
  exact ⟨_, fd, _, T.e_Kind, ok_Kind_eq T F, F.bindsN fun _ _ _ _ _ _ us hl => match us, hl with | [_, _], _ => rfl⟩
theorem lenK (T : Tx K mg) : ∃ f fd ps, (PySem.W.findIn K (.ref (cK K)) "__len__" = some (some (.ref f)) ∧ PySem.W.isFn K (.ref f) = true) ∧ FnOk P w K mg base CX 1 f fd ps (spKindLen K) ∧ Binds K fd ps [] := by
  obtain ⟨fd, F⟩ := T.d_Kind___len__
  exact ⟨_, fd, _, T.l_Kind, ok_Kind_len T F, F.bindsN fun _ _ _ _ _ _ us hl => match us, hl with | [_], _ => rfl⟩
end
end G
namespace G
open PySem PySem.Spec PyProof.Rows L2
/-! ### gates: constructors, == -/
theorem nameOr_of {v : V} (h : NameOr8 v) : NameOr v := by
  rcases h with rfl | ⟨z, rfl, l, e⟩
  · exact .inl rfl
  · exact .inr ⟨z, rfl, Nat.le_trans l (by decide), e⟩
section
variable {P : Program} {w : World} {K : PySem.W.Frag} {mg : Str → Option Value} {base : Heap} {CX : CXT}
theorem c_Gate_2 (T : Tx K mg) : CalC P w K mg base CX0 2 "Gate" (cG K) [] (spGate K) := by
  obtain ⟨fd, F⟩ := T.d_Gate___init__
  obtain ⟨ds, rd, hb⟩ := F.binds1 (ps := ["self", "name", "within"]) 3 1 (fun h => absurd (show 1 = 0 from congrArg List.length h) (by decide)) rfl (fun T kV doc pm an cdv ct us its l1 l2 => match us, its, l1, l2 with
    | [_, _, _], [_], _, _ => ⟨_, rfl, rfl⟩)
  obtain ⟨u, hm, ru⟩ := T.g_Gate
  obtain rfl : u = Value.ref (cG K) := ru
  exact ⟨_, fd, _, ds, T.mk_Gate, ok_Gate T F, hm, hb, rd⟩
theorem c_Gate_1 (T : Tx K mg) : CalC P w K mg base CX0 2 "Gate" (cG K) [.non] (spGate K) := by
  obtain ⟨fd, F⟩ := T.d_Gate___init__
  obtain ⟨ds, rd, hb⟩ := F.binds1 (ps := ["self", "name", "within"]) 2 0 (fun h => absurd (show 1 = 0 from congrArg List.length h) (by decide)) rfl (fun T kV doc pm an cdv ct us its l1 l2 => match us, its, l1, l2 with
    | [_, _], [_], _, _ => ⟨_, rfl, rfl⟩)
  obtain ⟨u, hm, ru⟩ := T.g_Gate
  obtain rfl : u = Value.ref (cG K) := ru
  exact ⟨_, fd, _, ds, T.mk_Gate, ok_Gate T F, hm, hb, rd⟩
def gWN {α : Type} (us ds ws : List α) : List α := us ++ (ws.drop 1 ++ ws.take 1)
def gNA {α : Type} (us ds ws : List α) : List α := us ++ (ws ++ ds)
theorem c_Gate_0_within_name (T : Tx K mg) : CalN P w K mg base CX0 2 "Gate" (cG K) 0 ["within", "name"] (fun vs zs => gWN vs [.non] zs) (spGate K) := by
  obtain ⟨fd, F⟩ := T.d_Gate___init__
  obtain ⟨its, hb⟩ := F.kbindsD (ps := ["self", "name", "within"]) 1 ["within", "name"] gWN (fun h => absurd (show 1 = 0 from congrArg List.length h) (by decide))
    (fun r1 r2 r3 => vals_app r1 (vals_app (vals_drop 1 r3) (vals_take 1 r3))) (fun T kV doc pm an cdv ct us its ws l1 l2 l3 => match us, its, ws, l1, l2, l3 with
    | [_], [_], [_, _], _, _, _ => ⟨_, rfl, rfl⟩)
  obtain ⟨u, hm, ru⟩ := T.g_Gate
  obtain rfl : u = Value.ref (cG K) := ru
  exact ⟨_, fd, _, _, T.mk_Gate, ok_Gate T F, hm, hb⟩
theorem c_Gate_0_name (T : Tx K mg) : CalN P w K mg base CX0 2 "Gate" (cG K) 0 ["name"] (fun vs zs => gNA vs [.non] zs) (spGate K) := by
  obtain ⟨fd, F⟩ := T.d_Gate___init__
  obtain ⟨its, hb⟩ := F.kbindsD (ps := ["self", "name", "within"]) 1 ["name"] gNA (fun h => absurd (show 1 = 0 from congrArg List.length h) (by decide))
    (fun r1 r2 r3 => vals_app r1 (vals_app r3 r2)) (fun T kV doc pm an cdv ct us its ws l1 l2 l3 => match us, its, ws, l1, l2, l3 with
    | [_], [_], [_], _, _, _ => ⟨_, rfl, rfl⟩)
  obtain ⟨u, hm, ru⟩ := T.g_Gate
  obtain rfl : u = Value.ref (cG K) := ru
  exact ⟨_, fd, _, _, T.mk_Gate, ok_Gate T F, hm, hb⟩
/-- == of gates: all that it wants -/
theorem eqG (T : Tx K mg) : ∃ f fd ps, EqC K (cG K) f ∧ FnOk P w K mg base CX 1 f fd ps (spGateEq K) ∧ Binds K fd ps [] := by
  obtain ⟨fd, F⟩ := T.d_Gate___eq__
  exact ⟨_, fd, _, T.e_Gate, ok_Gate_eq T F, F.bindsN fun _ _ _ _ _ _ us hl => match us, hl with | [_, _], _ => rfl⟩
theorem eqGG (T : Tx K mg) {H : Hp} {a da b db : Addr} {n n' : Str} {v v' : V} {W : VK} {E : Bool} (ha : H a = some (.ins (cG K) da (gateF (.str n) v)))
    (hb : H b = some (.ins (cG K) db (gateF (.str n') v'))) (hv : NameOr8 v) (hv' : NameOr8 v') (e : E = (decide (n = n') && decide (v = v'))) (q : W (.bl E) H) :
    TyOf K H (.ref b) (.ref (cG K)) ∧ PySem.W.notFirst K (cG K) (.ref (cG K)) = true ∧ spGateEq K [.ref a, .ref b] H W E0 :=
  ⟨T.i_Gate.ty T.c_Gate hb, by simp [PySem.W.notFirst], a, da, n, v, .ref b, rfl, ha, nameOr_of hv, .inl ⟨b, db, n', v', rfl, hb, nameOr_of hv', by rw [← e]; exact q⟩⟩
theorem eqGO {H : Hp} {a da : Addr} {n : Str} {v y : V} {t : Value} {W : VK} (ha : H a = some (.ins (cG K) da (gateF (.str n) v))) (hv : NameOr8 v)
    (ty : TyOf K H y t) (nf : PySem.W.notFirst K (cG K) t = true) (ko : PySem.W.kitOne K t (.ref (cG K)) = some false) (q : W (.bl false) H) :
    TyOf K H y t ∧ PySem.W.notFirst K (cG K) t = true ∧ spGateEq K [.ref a, y] H W E0 :=
  ⟨ty, nf, a, da, n, v, y, rfl, ha, nameOr_of hv, .inr ⟨t, .base ty, ko, q⟩⟩
/-! ### kinds: == -/
theorem eqKK (T : Tx K mg) {H : Hp} {a b : Addr} {k k' : KindT} {W : VK} {E : Bool} (ha : KindAt K H a k) (hb : KindAt K H b k') (e : E = kEq k k') (q : W (.bl E) H) :
    TyOf K H (.ref b) (.ref (cK K)) ∧ PySem.W.notFirst K (cK K) (.ref (cK K)) = true ∧ spKindEq K [.ref a, .ref b] H W E0 := by
  obtain ⟨_, dx, t, pr, m, as, h1, _⟩ := id hb
  exact ⟨T.i_Kind.ty T.c_Kind h1, by simp [PySem.W.notFirst], a, k, .ref b, rfl, ha, .inl ⟨b, k', rfl, hb, by rw [← e]; exact q⟩⟩
theorem eqKO {H : Hp} {a : Addr} {k : KindT} {y : V} {t : Value} {W : VK} (ha : KindAt K H a k)
    (ty : TyOf K H y t) (nf : PySem.W.notFirst K (cK K) t = true) (ko : PySem.W.kitOne K t (.ref (cK K)) = some false) (q : W (.bl false) H) :
    TyOf K H y t ∧ PySem.W.notFirst K (cK K) t = true ∧ spKindEq K [.ref a, y] H W E0 :=
  ⟨ty, nf, a, k, y, rfl, ha, .inr ⟨t, .base ty, ko, q⟩⟩
theorem kEq_comm (k k' : KindT) : kEq k k' = kEq k' k := by
  unfold kEq
  congr 1
  · congr 1
    · congr 1 <;> exact decide_eq_decide.mpr eq_comm
    · exact decide_eq_decide.mpr eq_comm
  · exact decide_eq_decide.mpr eq_comm
end
def fourD (E : Bool) : PyData := .list [.bool E, .bool E, .bool (!E), .bool (!E)]
theorem four_ok (E : Bool) : (fourD E).showable = true ∧ (fourD E).hasDict = false ∧ (fourD E).depth ≤ 60 ∧ (fourD E).shown.length ≤ sizeLine := by
  cases E <;> decide +kernel
theorem four_dp {K : PySem.W.Frag} {H : Hp} {a : Addr} {E : Bool} (h : H a = some (.lst [.bl E, .bl E, .bl (!E), .bl (!E)])) : Dp K H (.ref a) (fourD E) :=
  .lst (SqL.of h) (.cons (.bl _) (.cons (.bl _) (.cons (.bl _) (.cons (.bl _) .nil))))
end G
namespace G
open PySem PySem.Spec PyProof.Rows L2
/-! ### gates of a system -/
abbrev GateT := Str × Option Str
def gWith : Option Str → V
  | none => .non
  | some z => .str z
def gnames (gs : List GateT) : List Str := gs.map Prod.fst
structure GatesOk (gs : List GateT) : Prop where
  one : 1 ≤ gs.length
  few : gs.length ≤ 3
  nm : ∀ g ∈ gs, Nm g.1
  nd : (gnames gs).Nodup
  wi : ∀ (i : Nat) (n z : Str), gs[i]? = some (n, some z) → z ∈ gnames (gs.take i)
theorem gnames_len (gs : List GateT) : (gnames gs).length = gs.length := List.length_map ..
theorem gnames_snoc {gs : List GateT} {i : Nat} {g : GateT} (h : gs[i]? = some g) : gnames (gs.take (i + 1)) = gnames (gs.take i) ++ [g.1] := by
  unfold gnames
  rw [List.take_add_one, h, List.map_append]
  rfl
theorem GatesOk.fresh {gs : List GateT} (ok : GatesOk gs) {i : Nat} {g : GateT} (h : gs[i]? = some g) : g.1 ∉ gnames (gs.take i) := by
  intro hm
  obtain ⟨j, hj, e⟩ := List.mem_iff_getElem.mp hm
  rw [gnames_len, List.length_take] at hj
  have hi := (List.getElem?_eq_some_iff.mp h).1
  have e1 : (gnames gs)[j]? = some g.1 := by
    have : (gnames (gs.take i))[j]? = some g.1 := by rw [List.getElem?_eq_getElem (by rw [gnames_len, List.length_take]; exact hj), e]
    unfold gnames at this ⊢
    rw [List.map_take, List.getElem?_take_of_lt (by omega)] at this
    exact this
  have e2 : (gnames gs)[i]? = some g.1 := by
    unfold gnames
    rw [List.getElem?_map, h]
    rfl
  have lj : j < (gnames gs).length := (List.getElem?_eq_some_iff.mp e1).1
  have li : i < (gnames gs).length := (List.getElem?_eq_some_iff.mp e2).1
  have := List.pairwise_iff_getElem.mp ok.nd j i lj li (by omega)
  rw [List.getElem?_eq_getElem lj] at e1
  rw [List.getElem?_eq_getElem li] at e2
  exact this (Option.some.inj (e1.trans e2.symm))
section
variable {P : Program} {w : World} {K : PySem.W.Frag} {mg : Str → Option Value} {base : Heap} {CX : CXT}
def GateAt (K : PySem.W.Frag) (H : Hp) (a : Addr) (g : GateT) : Prop := ∃ dx, H a = some (.ins (cG K) dx (gateF (.str g.1) (gWith g.2)))
theorem GateAt.same {H H' : Hp} {a : Addr} {g : GateT} (h : GateAt K H a g) (s : Same H H') : GateAt K H' a g := by
  obtain ⟨dx, e⟩ := h
  exact ⟨dx, s _ _ e⟩
/-- a tuple of the instances as, which are the gates gs -/
structure GatesAt (K : PySem.W.Frag) (H : Hp) (t : Addr) (as : List Addr) (gs : List GateT) : Prop where
  tup : H t = some (.tup (as.map V.ref))
  ln : as.length = gs.length
  at_ : ∀ (i : Nat) (a : Addr) (g : GateT), as[i]? = some a → gs[i]? = some g → GateAt K H a g
theorem GatesAt.same {H H' : Hp} {t : Addr} {as : List Addr} {gs : List GateT} (h : GatesAt K H t as gs) (s : Same H H') : GatesAt K H' t as gs :=
  ⟨s _ _ h.tup, h.ln, fun i a g h1 h2 => (h.at_ i a g h1 h2).same s⟩
/-- the item of a walk over such a tuple -/
theorem GatesAt.item {H H' : Hp} {t : Addr} {as : List Addr} {gs : List GateT} {i : Nat} {x : V} (h : GatesAt K H t as gs) (hx : (as.map V.ref)[i]? = some x) :
    ∃ a g, x = .ref a ∧ as[i]? = some a ∧ gs[i]? = some g ∧ GateAt K H a g := by
  have lt := (List.getElem?_eq_some_iff.mp hx).1
  rw [List.length_map] at lt
  rw [List.getElem?_map, List.getElem?_eq_getElem lt] at hx
  have lg : i < gs.length := by rw [← h.ln]; exact lt
  exact ⟨as[i], gs[i], (Option.some.inj hx).symm, List.getElem?_eq_getElem lt, List.getElem?_eq_getElem lg, h.at_ i _ _ (List.getElem?_eq_getElem lt) (List.getElem?_eq_getElem lg)⟩
def spCheckGates (K : PySem.W.Frag) : Sp := fun vs H Q _ => ∃ (t : Addr) (as : List Addr) (gs : List GateT), vs = [.ref t] ∧ GatesAt K H t as gs ∧ GatesOk gs ∧ ∀ H', Same H H' → Q .non H'
theorem ok_check_gates {f : Addr} {fd : FuncData} {dvs : List V} {kws : List (Str × V)} (T : Tx K mg)
    (F : FunD K "check_gates" "check_gates" (defArgs s_check_gates) (defBody s_check_gates) (defScope s_check_gates) dvs kws f fd) :
    FnOk P w K mg base CX0 3 f fd ["gates"] (spCheckGates K) := by
  refine F.ok sc_check_gates (fun vs H Q E h => ?_) (fun cdv A outer s H vs Q E hr h => ?_)
  · obtain ⟨t, as, gs, rfl, _⟩ := h
    rfl
  · obtain ⟨t, as, gs, rfl, ga, ok, q⟩ := h
    have hu := hr.units
    have ht := ga.tup
    have ht0 : SqT K H t (as.map V.ref) := SqT.of ht
    have l1 : (as.map V.ref).length = gs.length := by rw [List.length_map, ga.ln]
    have o1 := ok.one
    have o2 := ok.few
    have ci := T.i_Gate
    have me := ci.me
    refine ⟨_, PSs.nox (pss_cons (ps_if (PW.pt (pw_or (pt_not (pt_val (pe_callB call_isi rfl T.f_isinstance (by decide +kernel) (pa_cons (pv 0) (pa_cons (pe_bltn (v := .ty "tuple") (u := .type "tuple") rfl T.f_tuple (by decide +kernel) rfl) pa_nil))))) (pw_or1 (pt_cmpR op_eq (pe_callB call_len_seq rfl T.f_len (by decide +kernel) (pa_cons (pv 0) pa_nil)) pe_int (nomark _))))) (pss_one ps_never) pss_nil)
    (pss_cons (ps_set (i := 1) sc_check_gates.nd rfl (Or.inl rfl) (pe_lst pa_nil))
    (pss_one (ps_for PassesOwn.never rfl (pi_enumT rfl T.f_enumerate (pa_cons (pv 0) pa_nil)) (pg_tup rfl (pgs_cons (pg_name (i := 2) sc_check_gates.nd rfl (Or.inl rfl)) (pgs_cons (pg_name (i := 3) sc_check_gates.nd rfl (Or.inl rfl)) pgs_nil)))
      (pss_cons (ps_if (PW.pt (pw_or (pt_not (pt_val (pe_callB call_isi rfl T.f_isinstance (by decide +kernel) (pa_cons (pv 3) (pa_cons (pe_gl T.g_Gate) pa_nil))))) (pw_or (pt_cmpR op_in_seq (pe_get (T.p_Gate_name _ _ _) (hr.mono (by decide)) (pv 3)) (pv 1) rfl) (pw_or1 (pt_cmpR op_eq (pv 2) (pe_gl T.g_MOST_GATES) (nomark _)))))) (pss_one ps_never) pss_nil)
    (pss_cons (ps_if (PW.pt (pw_and (pt_cmpR op_notN (pe_get (T.p_Gate_within _ _ _) (hr.mono (by decide)) (pv 3)) pe_non (nomark _)) (pw_and1 (pt_cmpR op_notIn_seq (pe_get (T.p_Gate_within _ _ _) (hr.mono (by decide)) (pv 3)) (pv 1) rfl)))) (pss_one ps_never) pss_nil)
    (pss_one (ps_expr (pe_bm PySem.F.plainAttrs_list PySem.F.slot_list_append PySem.F.type_list_append mt_append (pv 1) (pa_cons (pe_get (T.p_Gate_name _ _ _) (hr.mono (by decide)) (pv 3)) pa_nil)))))))))), ?_⟩
    walk_at "rd"
    refine iteD (fun h => absurd h (by intro h; have := V.int.inj h; omega)) (fun _ => ?_)
    walk_at "rd"
    intro D nD
    walk_at "rd"
    refine forE (xs := as.map V.ref) (fun i σ H' => Same H H' ∧ ∃ (a b : Option V), σ = [some (.ref t), some (.ref D), a, b] ∧ H' D = some (.lst ((gnames (gs.take i)).map V.str)))
      ⟨by walk_at "g but", none, none, rfl, upd_same⟩ (fun i σ H' _ pv => SqT.of (pv.1 _ _ ht)) ?_ ?_
    · rintro i x σ H' T2 hx ⟨s1, a, b, rfl, hD⟩ nT
      obtain ⟨y, g, rfl, hy, hg, ga'⟩ := ga.item (H' := H) hx
      have lt : i < 3 := by have := (List.getElem?_eq_some_iff.mp hg).1; omega
      have nz := ok.nm g (List.mem_of_getElem? hg)
      have fr := ok.fresh hg
      obtain ⟨dx, hy1⟩ := ga'
      have hy2 := s1 _ _ hy1
      have hy3 := upd_get (o := .tup [.int (i : Int), .ref y]) nT hy2
      have ty : TyX K (upd H' T2 (.tup [.int (i : Int), .ref y])) (.ref y) (.ref (cG K)) := .base (ci.ty T.c_Gate hy3)
      have hD2 := upd_get (o := .tup [.int (i : Int), .ref y]) nT hD
      have sD : SqL K (upd H' T2 (.tup [.int (i : Int), .ref y])) D ((gnames (gs.take i)).map V.str) := SqL.of hD2
      have nd3 : ¬ V.int (i : Int) = V.int 3 := by intro h; have := V.int.inj h; omega
      walk_at "rd"
      refine ⟨flat_strs _, ?_⟩
      rw [inV_strs, decide_eq_false fr]
      walk_at "rd"
      refine iteD (fun h => absurd h nd3) (fun _ => ?_)
      have fin : ∀ (Hx : Hp) (a b : Option V), Same H Hx → Hx D = some (.lst (((gnames (gs.take i)).map V.str) ++ [V.str g.1])) →
          Same H Hx ∧ ∃ (a' b' : Option V), ([some (.ref t), some (.ref D), a, b] : L2.St) = [some (.ref t), some (.ref D), a', b'] ∧ Hx D = some (.lst ((gnames (gs.take (i + 1))).map V.str)) := by
        intro Hx a b sx hx
        refine ⟨sx, a, b, rfl, ?_⟩
        rw [hx, gnames_snoc hg, List.map_append]
        rfl
      have s4 : Same H (upd H' T2 (.tup [.int (i : Int), .ref y])) := s1.new nT
      have ln : ((gnames (gs.take i)).map V.str).length < sizeLine := by
        rw [List.length_map, gnames_len, List.length_take, sizeLine_eq]
        omega
      obtain ⟨n, wv⟩ := g
      cases wv with
      | none =>
        walk_at "rd"
        refine ⟨.inl ⟨rfl, _, sD⟩, ?_⟩
        walk_at "rd"
        exact fin _ _ _ (L2.Same.own s4 nD) upd_same
      | some z =>
        have zi := ok.wi i n z hg
        walk_at "rd"
        refine ⟨flat_strs _, ?_⟩
        have e1 : inV (gWith (some z)) ((gnames (gs.take i)).map V.str) = true := by
          show inV (.str z) _ = true
          rw [inV_strs, decide_eq_true zi]
        rw [e1]
        walk_at "rd"
        refine ⟨.inl ⟨rfl, _, sD⟩, ?_⟩
        walk_at "rd"
        exact fin _ _ _ (L2.Same.own s4 nD) upd_same
    · rintro σ H' ⟨s1, a, b, rfl, hD⟩
      exact q _ s1
theorem c_check_gates (T : Tx K mg) : CalO P w K mg base CX0 3 "check_gates" [] (spCheckGates K) := by
  obtain ⟨fd, F⟩ := T.d_check_gates
  exact .mk F (ok_check_gates T F) T.n_check_gates fun _ _ _ _ _ _ us hl => match us, hl with | [_], _ => rfl
/-! ### the gates that a kind names -/
def RW.gate? : RW → Option Str
  | .one _ g => some g
  | .arr g _ => some g
  | .wai g _ => some g
  | .ovr g _ _ => some g
  | _ => none
theorem gateV_eq (r : RW) : r.gateV = gWith r.gate? := by cases r <;> rfl
def named (k : KindT) : List Str := k.ms ++ k.rs.filterMap fun q => q.2.gate?
theorem RowIn.gate {H : Hp} {a : Addr} {q : RwT} (h : RowIn K H a q) : ∃ dx g, H a = some (.ins (cR K) dx (rowFs (.str q.text) (labV q.1) (.str q.2.wordS) (gWith q.2.gate?) q.2.valV g q.2.goals)) := by
  obtain ⟨dx, g, e, _⟩ := h
  rw [gateV_eq] at e
  exact ⟨dx, g, e⟩
def spNamed (K : PySem.W.Frag) : Sp := fun vs H Q _ => ∃ (a : Addr) (k : KindT), vs = [.ref a] ∧ KindAt K H a k ∧ ∀ H' l, Same H H' → H' l = some (.lst ((named k).map V.str)) → Q (.ref l) H'
theorem ok_gates_named {f : Addr} {fd : FuncData} {dvs : List V} {kws : List (Str × V)} (T : Tx K mg)
    (F : FunD K "gates_named" "gates_named" (defArgs s_gates_named) (defBody s_gates_named) (defScope s_gates_named) dvs kws f fd) :
    FnOk P w K mg base CX0 3 f fd ["kind"] (spNamed K) := by
  refine F.ok sc_gates_named (fun vs H Q E h => ?_) (fun cdv A outer s H vs Q E hr h => ?_)
  · obtain ⟨a, k, rfl, _⟩ := h
    rfl
  · obtain ⟨a, k, rfl, ⟨ok, dx, t, pr, m, as, h1, h2, h3, h4, h5⟩, q⟩ := h
    have hu := hr.units
    have cl := T.c_Kind
    have n3 := T.na_Kind_parsed
    have sq3 := h3.sq
    refine ⟨_, PSs.nox (pss_one (ps_ret (pe_lst (StX.pa_star (pe_get (T.p_Kind_members _ _ _) (hr.mono (by decide)) (pv 0)) (StX.pa_star (pe_lc (own := [("row", 1)]) (g := gName 1) rfl sc_gates_named.nd (pi_tup (pe_fld (pv 0) rfl)) (blkOk_by (own := [("row", 1)]) (N := n_gates_named) (sc := defScope s_gates_named) (by decide +kernel)) (fun _ _ _ _ _ => (pg_name (i := 1) sc_gates_named.nd rfl (Or.inl rfl))) (fun _ _ _ _ _ => (pts_one (pt_cmpR op_notN (pe_fldK (K := K) rfl (pv 1) rfl) pe_non (nomark _)))) (fun _ _ _ _ _ => (pe_fldK (K := K) rfl (pv 1) rfl))) pa_nil))))), ?_⟩
    walk_at "rd"
    refine ⟨⟨_, SqT.of h4⟩, ?_⟩
    intro D nD
    have clR := T.c_Row
    have nR := T.na_Row_gate
    have few := ok.ro.ten
    have fm : ∀ j, ((k.rs.take j).filterMap fun q => q.2.gate?).length ≤ 10 := by
      intro j
      have a1 := List.length_filterMap_le (fun q : RwT => q.2.gate?) (k.rs.take j)
      rw [List.length_take] at a1
      omega
    refine lcW (wk_tup (as.map V.ref)) (fun i H' => H' = upd H D (.lst (((k.rs.take i).filterMap fun q => q.2.gate?).map V.str))) rfl (fun i H' _ e => by rw [e]; exact SqT.of (upd_get nD h4)) ?_ ?_
    · rintro i x H' hx rfl
      have lt := (List.getElem?_eq_some_iff.mp hx).1
      rw [List.length_map] at lt
      rw [List.getElem?_map, List.getElem?_eq_getElem lt] at hx
      obtain rfl := Option.some.inj hx
      have lq : i < k.rs.length := by rw [← h5.1]; exact lt
      have hq : k.rs[i]? = some k.rs[i] := List.getElem?_eq_getElem lq
      obtain ⟨dxr, g, hr1⟩ := (h5.2 i _ _ (List.getElem?_eq_getElem lt) hq).gate
      have hr2 := upd_get (o := .lst (((k.rs.take i).filterMap fun q => q.2.gate?).map V.str)) nD hr1
      have tk : ∀ l, (k.rs[i]).2.gate? = l → (k.rs.take (i + 1)).filterMap (fun q => q.2.gate?) = (k.rs.take i).filterMap (fun q => q.2.gate?) ++ l.toList := by
        intro l hl
        rw [List.take_add_one, hq, List.filterMap_append]
        cases l with
        | none => simp [hl]
        | some z => simp [hl]
      cases hg : (k.rs[i]).2.gate? with
      | none =>
        rw [hg] at hr2
        have e := tk _ hg
        walk_at "rd"
        rw [e]
        simp
      | some z =>
        rw [hg] at hr2
        have e := tk _ hg
        walk_at "rd"
        refine ⟨by rw [List.length_map]; have := fm i; show _ < 16777216; omega, ?_⟩
        rw [upd_upd, e]
        simp
        rfl
    · rintro H' rfl
      have al : (as.map V.ref).length = k.rs.length := by rw [List.length_map, h5.1]
      rw [al, List.take_of_length_le (Nat.le_refl _)]
      have mm := ok.mo.few
      have f2 := fm k.rs.length
      rw [List.take_of_length_le (Nat.le_refl _)] at f2
      have hD : upd H D (.lst ((k.rs.filterMap fun q => q.2.gate?).map V.str)) D = some (.lst ((k.rs.filterMap fun q => q.2.gate?).map V.str)) := upd_same
      have sqD : SqL K (upd H D (.lst ((k.rs.filterMap fun q => q.2.gate?).map V.str))) D ((k.rs.filterMap fun q => q.2.gate?).map V.str) := SqL.of hD
      walk_at "rd"
      have e2 : k.ms.map V.str ++ ((k.rs.filterMap fun q => q.2.gate?).map V.str ++ []) = (named k).map V.str := by
        unfold named
        rw [List.append_nil, List.map_append]
      show (k.ms.map V.str ++ ((k.rs.filterMap fun q : RwT => q.2.gate?).map V.str ++ [])).length ≤ sizeLine ∧ ∀ p, _ → Q (.ref p) (upd _ p (.lst (k.ms.map V.str ++ ((k.rs.filterMap fun q : RwT => q.2.gate?).map V.str ++ []))))
      rw [e2]
      refine ⟨by unfold named; rw [List.length_map, List.length_append, sizeLine_eq]; omega, fun l nl => q _ l (((Same.refl H).new nD).new nl) upd_same⟩
theorem c_gates_named (T : Tx K mg) : CalO P w K mg base CX0 3 "gates_named" [] (spNamed K) := by
  obtain ⟨fd, F⟩ := T.d_gates_named
  exact .mk F (ok_gates_named T F) T.n_gates_named fun _ _ _ _ _ _ us hl => match us, hl with | [_], _ => rfl
/-! ### kinds of a system -/
def knames (ks : List KindT) : List Str := ks.map KindT.n
structure KindsOk (gs : List GateT) (ks : List KindT) : Prop where
  one : 1 ≤ ks.length
  few : ks.length ≤ 4
  ok : ∀ k ∈ ks, KindOk k
  nd : (knames ks).Nodup
  na : ∀ k ∈ ks, ∀ z ∈ named k, z ∈ gnames gs
theorem knames_len (ks : List KindT) : (knames ks).length = ks.length := List.length_map ..
theorem knames_snoc {ks : List KindT} {i : Nat} {k : KindT} (h : ks[i]? = some k) : knames (ks.take (i + 1)) = knames (ks.take i) ++ [k.n] := by
  unfold knames
  rw [List.take_add_one, h, List.map_append]
  rfl
theorem KindsOk.fresh {gs : List GateT} {ks : List KindT} (ok : KindsOk gs ks) {i : Nat} {k : KindT} (h : ks[i]? = some k) : k.n ∉ knames (ks.take i) := by
  intro hm
  obtain ⟨j, hj, e⟩ := List.mem_iff_getElem.mp hm
  rw [knames_len, List.length_take] at hj
  have e1 : (knames ks)[j]? = some k.n := by
    have : (knames (ks.take i))[j]? = some k.n := by rw [List.getElem?_eq_getElem (by rw [knames_len, List.length_take]; exact hj), e]
    unfold knames at this ⊢
    rw [List.map_take, List.getElem?_take_of_lt (by omega)] at this
    exact this
  have e2 : (knames ks)[i]? = some k.n := by
    unfold knames
    rw [List.getElem?_map, h]
    rfl
  have lj : j < (knames ks).length := (List.getElem?_eq_some_iff.mp e1).1
  have li : i < (knames ks).length := (List.getElem?_eq_some_iff.mp e2).1
  have := List.pairwise_iff_getElem.mp ok.nd j i lj li (by omega)
  rw [List.getElem?_eq_getElem lj] at e1
  rw [List.getElem?_eq_getElem li] at e2
  exact this (Option.some.inj (e1.trans e2.symm))
structure KindsAt (K : PySem.W.Frag) (H : Hp) (t : Addr) (bs : List Addr) (ks : List KindT) : Prop where
  tup : H t = some (.tup (bs.map V.ref))
  ln : bs.length = ks.length
  at_ : ∀ (i : Nat) (a : Addr) (k : KindT), bs[i]? = some a → ks[i]? = some k → KindAt K H a k
theorem KindsAt.same {H H' : Hp} {t : Addr} {bs : List Addr} {ks : List KindT} (h : KindsAt K H t bs ks) (s : Same H H') : KindsAt K H' t bs ks :=
  ⟨s _ _ h.tup, h.ln, fun i a g h1 h2 => (h.at_ i a g h1 h2).same s⟩
theorem KindsAt.item {H : Hp} {t : Addr} {bs : List Addr} {ks : List KindT} {i : Nat} {x : V} (h : KindsAt K H t bs ks) (hx : (bs.map V.ref)[i]? = some x) :
    ∃ a k, x = .ref a ∧ bs[i]? = some a ∧ ks[i]? = some k ∧ KindAt K H a k := by
  have lt := (List.getElem?_eq_some_iff.mp hx).1
  rw [List.length_map] at lt
  rw [List.getElem?_map, List.getElem?_eq_getElem lt] at hx
  have lg : i < ks.length := by rw [← h.ln]; exact lt
  exact ⟨bs[i], ks[i], (Option.some.inj hx).symm, List.getElem?_eq_getElem lt, List.getElem?_eq_getElem lg, h.at_ i _ _ (List.getElem?_eq_getElem lt) (List.getElem?_eq_getElem lg)⟩
def spCheckKinds (K : PySem.W.Frag) : Sp := fun vs H Q _ => ∃ (t u : Addr) (as bs : List Addr) (gs : List GateT) (ks : List KindT), vs = [.ref t, .ref u] ∧ GatesAt K H t as gs ∧ GatesOk gs ∧ KindsAt K H u bs ks ∧ KindsOk gs ks ∧ ∀ H', Same H H' → Q .non H'
theorem ok_check_kinds {f : Addr} {fd : FuncData} {dvs : List V} {kws : List (Str × V)} (T : Tx K mg)
    (F : FunD K "check_kinds" "check_kinds" (defArgs s_check_kinds) (defBody s_check_kinds) (defScope s_check_kinds) dvs kws f fd) :
    FnOk P w K mg base CX0 4 f fd ["gates", "kinds"] (spCheckKinds K) := by
  have c_gates_named : CalO P w K mg base CX0 3 "gates_named" [] (spNamed K) := c_gates_named T
  refine F.ok sc_check_kinds (fun vs H Q E h => ?_) (fun cdv A outer s H vs Q E hr h => ?_)
  · obtain ⟨t, u, as, bs, gs, ks, rfl, _⟩ := h
    rfl
  · obtain ⟨t, u, as, bs, gs, ks, rfl, ga, go, ka, ok, q⟩ := h
    have hu := hr.units
    have ht := ga.tup
    have hk := ka.tup
    have hk0 : SqT K H u (bs.map V.ref) := SqT.of hk
    have l1 : (bs.map V.ref).length = ks.length := by rw [List.length_map, ka.ln]
    have o1 := ok.one
    have o2 := ok.few
    have ci := T.i_Kind
    have me := ci.me
    refine ⟨_, PSs.nox (pss_cons (ps_if (PW.pt (pw_or (pt_not (pt_val (pe_callB call_isi rfl T.f_isinstance (by decide +kernel) (pa_cons (pv 1) (pa_cons (pe_bltn (v := .ty "tuple") (u := .type "tuple") rfl T.f_tuple (by decide +kernel) rfl) pa_nil))))) (pw_or1 (pt_cmpR op_eq (pe_callB call_len_seq rfl T.f_len (by decide +kernel) (pa_cons (pv 1) pa_nil)) pe_int (nomark _))))) (pss_one ps_never) pss_nil)
    (pss_cons (ps_set (i := 2) sc_check_kinds.nd rfl (Or.inr rfl) (pe_lc (own := [("gate", 3)]) (g := gName 3) (tt := tYes) rfl sc_check_kinds.nd (pi_tup (pv 0)) (blkOk_by (own := [("gate", 3)]) (N := n_check_kinds) (sc := defScope s_check_kinds) (by decide +kernel)) (fun _ _ _ _ _ => (pg_name (i := 3) sc_check_kinds.nd rfl (Or.inl rfl))) (fun _ _ _ _ _ => pts_nil) (fun _ _ _ _ _ => (pe_get (T.p_Gate_name _ _ _) (hr.mono (by decide)) (pv 3)))))
    (pss_cons (ps_set (i := 4) sc_check_kinds.nd rfl (Or.inl rfl) (pe_lst pa_nil))
    (pss_one (ps_for PassesOwn.never rfl (pi_enumT rfl T.f_enumerate (pa_cons (pv 1) pa_nil)) (pg_tup rfl (pgs_cons (pg_name (i := 5) sc_check_kinds.nd rfl (Or.inl rfl)) (pgs_cons (pg_name (i := 6) sc_check_kinds.nd rfl (Or.inl rfl)) pgs_nil)))
      (pss_cons (ps_if (PW.pt (pw_or (pt_not (pt_val (pe_callB call_isi rfl T.f_isinstance (by decide +kernel) (pa_cons (pv 6) (pa_cons (pe_gl T.g_Kind) pa_nil))))) (pw_or (pt_cmpR op_in_seq (pe_get (T.p_Kind_name _ _ _) (hr.mono (by decide)) (pv 6)) (pv 4) rfl) (pw_or1 (pt_cmpR op_eq (pv 5) (pe_gl T.g_MOST_KINDS) (nomark _)))))) (pss_one ps_never) pss_nil)
    (pss_cons (ps_if (pt_not (pt_val (pe_callB (cr_all rfl) rfl T.f_all (by decide +kernel) (pa_cons (pe_lc (own := [("name", 7)]) (g := gName 7) (tt := tYes) rfl sc_check_kinds.nd (pi_list (pe_calO c_gates_named (hr.mono (by decide)) pass0 (pa_cons (pv 6) pa_nil))) (blkOk_by (own := [("name", 7)]) (N := n_check_kinds) (sc := defScope s_check_kinds) (by decide +kernel)) (fun _ _ _ _ _ => (pg_name (i := 7) sc_check_kinds.nd rfl (Or.inl rfl))) (fun _ _ _ _ _ => pts_nil) (fun _ _ _ _ _ => (pe_cmpR (opK (K := K) (r := fun K1 => rIn K1 false) rfl op_in_seq) (pv 7) (pv 2) rfl))) pa_nil)))) (pss_one ps_never) pss_nil)
    (pss_one (ps_expr (pe_bm PySem.F.plainAttrs_list PySem.F.slot_list_append PySem.F.type_list_append mt_append (pv 4) (pa_cons (pe_get (T.p_Kind_name _ _ _) (hr.mono (by decide)) (pv 6)) pa_nil))))))))))), ?_⟩
    walk_at "rd"
    refine iteD (fun h => absurd h (by intro h; have := V.int.inj h; omega)) (fun _ => ?_)
    walk_at "rd"
    refine ⟨⟨_, SqT.of ht⟩, ?_⟩
    intro D nD
    have g3 := go.few
    refine lcW (wk_tup (as.map V.ref)) (fun i H' => H' = upd H D (.lst ((gnames (gs.take i)).map V.str))) rfl (fun i H' _ e => by rw [e]; exact SqT.of (upd_get nD ht)) ?_ ?_
    · rintro i x H' hx rfl
      obtain ⟨y, g, rfl, hy, hg, dxg, hy1⟩ := ga.item (H' := H) hx
      have hy2 := upd_get (o := .lst ((gnames (gs.take i)).map V.str)) nD hy1
      have li := (List.getElem?_eq_some_iff.mp hg).1
      walk_at "rd"
      refine ⟨by rw [List.length_map, gnames_len, List.length_take]; show _ < 16777216; omega, ?_⟩
      rw [upd_upd, gnames_snoc hg, List.map_append]
      rfl
    rintro H' rfl
    have la : (as.map V.ref).length = gs.length := by rw [List.length_map, ga.ln]
    rw [la, List.take_of_length_le (Nat.le_refl _)]
    walk_at "rd"
    intro N nN
    have nDN : N ≠ D := upd_free_ne nN
    have nN0 : H N = none := upd_free nN
    walk_at "rd"
    refine forE (xs := bs.map V.ref) (fun i σ H' => Same H H' ∧ H' D = some (.lst ((gnames gs).map V.str)) ∧ ∃ (a b c e : Option V), σ = [some (.ref t), some (.ref u), some (.ref D), c, some (.ref N), a, b, e] ∧ H' N = some (.lst ((knames (ks.take i)).map V.str)))
      ⟨by walk_at "g but", upd_get nN upd_same, none, none, none, none, rfl, upd_same⟩ (fun i σ H' _ pv => SqT.of (pv.1 _ _ hk)) ?_ ?_
    · rintro i x σ H' T2 hx ⟨s1, hD, a, b, c, e0, rfl, hN⟩ nT
      obtain ⟨y, k, rfl, hy, hkk, kat⟩ := ka.item hx
      have lt : i < 4 := by have := (List.getElem?_eq_some_iff.mp hkk).1; omega
      have kok := ok.ok k (List.mem_of_getElem? hkk)
      have fr := ok.fresh hkk
      have na := ok.na k (List.mem_of_getElem? hkk)
      have s2 : Same H (upd H' T2 (.tup [.int (i : Int), .ref y])) := s1.new nT
      have kat2 := kat.same s2
      obtain ⟨_, dx, tt, pr, m, ras, iy, _⟩ := id kat2
      have ty : TyX K (upd H' T2 (.tup [.int (i : Int), .ref y])) (.ref y) (.ref (cK K)) := .base (ci.ty T.c_Kind iy)
      have hN2 := upd_get (o := .tup [.int (i : Int), .ref y]) nT hN
      have hD2 := upd_get (o := .tup [.int (i : Int), .ref y]) nT hD
      have sN : SqL K (upd H' T2 (.tup [.int (i : Int), .ref y])) N ((knames (ks.take i)).map V.str) := SqL.of hN2
      have nd3 : ¬ V.int (i : Int) = V.int 4 := by intro h; have := V.int.inj h; omega
      walk_at "rd"
      refine ⟨flat_strs _, ?_⟩
      rw [inV_strs, decide_eq_false fr]
      walk_at "rd"
      refine iteD (fun h => absurd h nd3) (fun _ => ?_)
      walk_at "rd"
      refine ⟨k, rfl, kat2, fun H3 l s3 hl => ?_⟩
      have s13 := s2.trans s3
      have hD3 := s3 _ _ hD2
      have hN3 := s3 _ _ hN2
      have iy3 := s3 _ _ iy
      have sN3 : SqL K H3 N ((knames (ks.take i)).map V.str) := SqL.of hN3
      walk_at "rd"
      refine ⟨⟨_, SqL.of hl⟩, ?_⟩
      intro B nB
      have nml : (named k).length ≤ 1010 := by
        unfold named
        rw [List.length_append]
        have a1 := List.length_filterMap_le (fun q : RwT => q.2.gate?) k.rs
        have a2 := kok.ro.ten
        have a3 := kok.mo.few
        omega
      refine lcP (wk_list ((named k).map V.str)) (fun _ => V.bl true) (fun acc => SqL.of (upd_get nB hl)) (by rw [List.length_map, sizeLine_eq]; omega) ?_ ?_
      · intro j z acc Q' hz hq
        have hDc := upd_get (o := .lst acc) nB hD3
        have lz := (List.getElem?_eq_some_iff.mp hz).1
        rw [List.length_map] at lz
        rw [List.getElem?_map, List.getElem?_eq_getElem lz] at hz
        obtain rfl := Option.some.inj hz
        have zi := na _ (List.getElem_mem lz)
        walk_at "rd"
        refine ⟨flat_strs _, ?_⟩
        rw [inV_strs, decide_eq_true zi]
        exact hq
      · have bl : ((named k).map V.str).map (fun _ => V.bl true) = (List.replicate (named k).length true).map V.bl := by
          rw [List.map_map, List.map_replicate]
          have go : ∀ l : List Str, l.map ((fun _ => V.bl true) ∘ V.str) = List.replicate l.length (V.bl true) := by
            intro l
            induction l with
            | nil => rfl
            | cons z l ih => rw [List.map_cons, ih]; rfl
          exact go _
        rw [bl]
        have hNb := upd_get (o := .lst ((List.replicate (named k).length true).map V.bl)) nB hN3
        have hDb := upd_get (o := .lst ((List.replicate (named k).length true).map V.bl)) nB hD3
        have iyb := upd_get (o := .lst ((List.replicate (named k).length true).map V.bl)) nB iy3
        have sNb : SqL K (upd H3 B (.lst ((List.replicate (named k).length true).map V.bl))) N ((knames (ks.take i)).map V.str) := SqL.of hNb
        refine ⟨B, List.replicate (named k).length true, rfl, SqL.of upd_same, ?_⟩
        have al : (List.replicate (named k).length true).all id = true := by
          rw [List.all_eq_true]
          intro b hb
          rw [List.eq_of_mem_replicate hb]
          rfl
        rw [al]
        walk_at "rd"
        refine ⟨.inl ⟨rfl, _, sNb⟩, ?_⟩
        walk_at "rd"
        refine ⟨by rw [List.length_map, knames_len, List.length_take, sizeLine_eq]; omega, ?_⟩
        refine ⟨L2.Same.own (s13.new nB) nN0, ?_, _, _, _, _, rfl, ?_⟩
        · rw [upd_ne nDN.symm]
          exact hDb
        · rw [upd_same, knames_snoc hkk, List.map_append]
          rfl
    · rintro σ H' ⟨s1, hD, a, b, c, e0, rfl, hN⟩
      exact q _ s1
theorem c_check_kinds (T : Tx K mg) : CalO P w K mg base CX0 4 "check_kinds" [] (spCheckKinds K) := by
  obtain ⟨fd, F⟩ := T.d_check_kinds
  exact .mk F (ok_check_kinds T F) T.n_check_kinds fun _ _ _ _ _ _ us hl => match us, hl with | [_, _], _ => rfl
end
end G
namespace G
open PySem PySem.Spec PyProof.Rows L2
/-! ### the text of a system -/
def gateLine : GateT → Str
  | (n, none) => Str.ofString "gate " ++ n
  | (n, some z) => Str.ofString "gate " ++ n ++ Str.ofString " in " ++ z
def ordered (gs : List GateT) (k : KindT) : List Str := (gnames gs).filter fun z => decide (z ∈ k.ms)
def headTwo (k : KindT) : List Str := [if k.b = true then Str.ofString "many" else Str.ofString "one", k.n]
def headWords (gs : List GateT) (k : KindT) : List Str := if 0 < (ordered gs k).length then headTwo k ++ Str.ofString "of" :: ordered gs k else headTwo k
def headLine (gs : List GateT) (k : KindT) : Str := Txt.join (Str.ofString " ") (headWords gs k)
def kindLines (gs : List GateT) (k : KindT) : List Str := headLine gs k :: texts k.rs
def pageLines (gs : List GateT) (ks : List KindT) : List Str := gs.map gateLine ++ ks.flatMap (kindLines gs)
def pageText (gs : List GateT) (ks : List KindT) : Str := Txt.join (Str.ofString "\n") (pageLines gs ks)
theorem len_sum {B : Nat} : ∀ {l : List Str}, (∀ z ∈ l, z.length ≤ B) → (l.map fun z => z.length).sum ≤ B * l.length
  | [], _ => Nat.zero_le _
  | z :: l, h => by
    have h1 := h z List.mem_cons_self
    have h2 := len_sum (l := l) fun y hy => h y (List.mem_cons_of_mem _ hy)
    rw [List.map_cons, List.sum_cons, List.length_cons, Nat.mul_add]
    omega
theorem join_bound {B : Nat} {l : List Str} {c : Str} (hc : c.length = 1) (hB : 1 ≤ B) (h : ∀ z ∈ l, z.length ≤ B) : (Txt.join c l).length ≤ (B + 1) * l.length := by
  have e : (Txt.join c l).cps.toList = TL.joinL c.cps.toList (l.map TL.tl) := by
    rw [TL.join_eq]
    exact TL.tl_join _ _
  rw [str_len, e]
  have go : ∀ ps : List (List Nat), (∀ p ∈ ps, p.length ≤ B) → (TL.joinL c.cps.toList ps).length ≤ (B + 1) * ps.length := by
    intro ps
    induction ps with
    | nil => intro _; exact Nat.zero_le _
    | cons p r ih =>
      intro hp
      have h1 := hp p List.mem_cons_self
      have h2 := ih fun y hy => hp y (List.mem_cons_of_mem _ hy)
      cases r with
      | nil =>
        show p.length ≤ (B + 1) * 1
        omega
      | cons p2 r2 =>
        show (p ++ (c.cps.toList ++ TL.joinL c.cps.toList (p2 :: r2))).length ≤ (B + 1) * ((p2 :: r2).length + 1)
        have hc' : c.cps.toList.length = 1 := by rw [← str_len]; exact hc
        rw [List.length_append, List.length_append, hc', Nat.mul_add]
        omega
  have h3 := go (l.map TL.tl) (by
    intro p hp
    obtain ⟨z, hz, rfl⟩ := List.mem_map.mp hp
    have := h z hz
    rw [str_len] at this
    exact this)
  rw [List.length_map] at h3
  exact h3
theorem empty_cat (x : Str) : Str.empty ++ x = x := TL.ext_tl (by rw [TL.tl_append]; rfl)
theorem gateLine_len {gs : List GateT} (ok : GatesOk gs) : ∀ g ∈ gs, (gateLine g).length ≤ 30 := by
  intro g hg
  have n1 := (ok.nm g hg).2
  obtain ⟨n, wv⟩ := g
  have c1 : (Str.ofString "gate ").length = 5 := by decide +kernel
  have c2 : (Str.ofString " in ").length = 4 := by decide +kernel
  cases wv with
  | none =>
    show (Str.ofString "gate " ++ n).length ≤ 30
    rw [cat_len, c1]
    have : n.length ≤ 8 := n1
    omega
  | some z =>
    obtain ⟨i, hi, e⟩ := List.mem_iff_getElem.mp hg
    have zi := ok.wi i n z (by rw [List.getElem?_eq_getElem hi, e])
    obtain ⟨g', hg', rfl⟩ := List.mem_map.mp zi
    have n2 := (ok.nm g' (List.mem_of_mem_take hg')).2
    show (Str.ofString "gate " ++ n ++ Str.ofString " in " ++ g'.1).length ≤ 30
    rw [cat_len, cat_len, cat_len, c1, c2]
    have : n.length ≤ 8 := n1
    omega
theorem ordered_len (gs : List GateT) (k : KindT) : (ordered gs k).length ≤ gs.length := by
  unfold ordered
  have := List.length_filter_le (fun z => decide (z ∈ k.ms)) (gnames gs)
  rw [gnames_len] at this
  exact this
theorem headWords_8 {gs : List GateT} {k : KindT} (go : GatesOk gs) (ok : KindOk k) : (∀ z ∈ headWords gs k, z.length ≤ 8) ∧ (headWords gs k).length ≤ 6 := by
  have h1 : ∀ z ∈ headTwo k, z.length ≤ 8 := by
    intro z hz
    unfold headTwo at hz
    rcases List.mem_cons.mp hz with rfl | hz
    · cases k.b <;> decide +kernel
    · rw [List.mem_singleton.mp hz]; exact ok.nm.2
  have h2 : ∀ z ∈ ordered gs k, z.length ≤ 8 := by
    intro z hz
    obtain ⟨g, hg, rfl⟩ := List.mem_map.mp (List.mem_filter.mp hz).1
    exact (go.nm g hg).2
  have h3 := ordered_len gs k
  have h4 := go.few
  unfold headWords
  split
  · refine ⟨fun z hz => ?_, ?_⟩
    · rcases List.mem_append.mp hz with hz | hz
      · exact h1 z hz
      · rcases List.mem_cons.mp hz with rfl | hz
        · decide +kernel
        · exact h2 z hz
    · rw [List.length_append, List.length_cons]
      show 2 + _ ≤ 6
      omega
  · exact ⟨h1, (by decide : 2 ≤ 6)⟩
theorem headLine_len {gs : List GateT} {k : KindT} (go : GatesOk gs) (ok : KindOk k) : (headLine gs k).length ≤ 54 := by
  obtain ⟨h1, h2⟩ := headWords_8 go ok
  have := join_bound (B := 8) (c := Str.ofString " ") (by decide +kernel) (by decide) h1
  unfold headLine
  omega
section
variable {P : Program} {w : World} {K : PySem.W.Frag} {mg : Str → Option Value} {base : Heap} {CX : CXT}
def spHead (K : PySem.W.Frag) : Sp := fun vs H Q _ => ∃ (t a : Addr) (as : List Addr) (gs : List GateT) (k : KindT), vs = [.ref t, .ref a] ∧ GatesAt K H t as gs ∧ GatesOk gs ∧ KindAt K H a k ∧
  ∀ H', Same H H' → Q (.str (headLine gs k)) H'
theorem ok_head_of {f : Addr} {fd : FuncData} {dvs : List V} {kws : List (Str × V)} (T : Tx K mg)
    (F : FunD K "head_of" "head_of" (defArgs s_head_of) (defBody s_head_of) (defScope s_head_of) dvs kws f fd) :
    FnOk P w K mg base CX0 3 f fd ["gates", "kind"] (spHead K) := by
  refine F.ok sc_head_of (fun vs H Q E h => ?_) (fun cdv A outer s H vs Q E hr h => ?_)
  · obtain ⟨t, a, as, gs, k, rfl, _⟩ := h
    rfl
  · obtain ⟨t, a, as, gs, k, rfl, ga, go, ⟨ok, dx, tt, pr, m, ras, h1, h2, h3, h4, h5⟩, q⟩ := h
    have hu := hr.units
    have ht := ga.tup
    have g3 := go.few
    have sq3 := h3.sq
    refine ⟨_, PSs.nox (pss_cons (ps_setLc (i := 2) (own := [("gate", 3)]) (g := gName 3) rfl sc_head_of.nd rfl rfl (sw_true rfl rfl rfl (by decide +kernel)) (pi_tup (pv 0)) (blkOk_by (own := [("gate", 3)]) (N := n_head_of) (sc := defScope s_head_of) (by decide +kernel)) (fun _ _ _ _ _ => (pg_name (i := 3) sc_head_of.nd rfl (Or.inl rfl))) (fun _ _ _ _ _ => (pts_one (pt_cmpR (opK (K := K) (r := fun K1 => rIn K1 false) rfl op_in_seq) (pe_get (T.p_Gate_name _ _ _) (hr.mono (by decide)) (pv 3)) (pe_get (T.p_Kind_members _ _ _) (hr.mono (by decide)) (pv 1)) rfl))) (fun _ _ _ _ _ => (pe_get (T.p_Gate_name _ _ _) (hr.mono (by decide)) (pv 3))))
    (pss_cons (ps_set (i := 4) sc_head_of.nd rfl (Or.inl rfl) (pe_lst (pa_cons (pe_ifExp (pt_val (pe_get (T.p_Kind_many _ _ _) (hr.mono (by decide)) (pv 1))) pe_str pe_str) (pa_cons (pe_get (T.p_Kind_name _ _ _) (hr.mono (by decide)) (pv 1)) pa_nil))))
    (pss_one (ps_ret (pe_join pe_str (pe_ifExp (pt_cmpR op_gt (pe_callB call_len_seq rfl T.f_len (by decide +kernel) (pa_cons (pv 2) pa_nil)) pe_int (nomark _)) (pe_lst (StX.pa_star (pv 4) (pa_cons pe_str (StX.pa_star (pv 2) pa_nil)))) (pv 4))))))), ?_⟩
    walk_at "rd"
    refine ⟨⟨_, SqT.of ht⟩, ?_⟩
    intro D nD
    refine lcW (wk_tup (as.map V.ref)) (fun i H' => H' = upd H D (.lst (((gnames (gs.take i)).filter fun z => decide (z ∈ k.ms)).map V.str))) rfl (fun i H' _ e => by rw [e]; exact SqT.of (upd_get nD ht)) ?_ ?_
    · rintro i x H' hx rfl
      obtain ⟨y, g, rfl, hy, hg, dxg, hy1⟩ := ga.item (H' := H) hx
      have hy2 := upd_get (o := .lst (((gnames (gs.take i)).filter fun z => decide (z ∈ k.ms)).map V.str)) nD hy1
      have ia2 := upd_get (o := .lst (((gnames (gs.take i)).filter fun z => decide (z ∈ k.ms)).map V.str)) nD h1
      have sq4 : SqT K (upd H D (.lst (((gnames (gs.take i)).filter fun z => decide (z ∈ k.ms)).map V.str))) m (k.ms.map V.str) := (h3.same ((Same.refl H).new nD)).sq
      have li := (List.getElem?_eq_some_iff.mp hg).1
      walk_at "rd"
      refine ⟨flat_strs _, ?_⟩
      rw [inV_strs]
      have tk : ((gnames (gs.take (i + 1))).filter fun z => decide (z ∈ k.ms)) = ((gnames (gs.take i)).filter fun z => decide (z ∈ k.ms)) ++ (if g.1 ∈ k.ms then [g.1] else []) := by
        rw [gnames_snoc hg, List.filter_append]
        congr 1
        by_cases e : g.1 ∈ k.ms <;> simp [e]
      walk_at "rd"
      refine iteD (fun e => ?_) (fun e => ?_)
      · walk_at "rd"
        refine ⟨?_, ?_⟩
        · have a1 := List.length_filter_le (fun z => decide (z ∈ k.ms)) (gnames (gs.take i))
          rw [gnames_len, List.length_take] at a1
          rw [List.length_map]
          show _ < 16777216
          omega
        · rw [upd_upd, tk, if_pos e, List.map_append]
          rfl
      · rw [tk, if_neg e, List.append_nil]
    · rintro H' rfl
      have la : (as.map V.ref).length = gs.length := by rw [List.length_map, ga.ln]
      rw [la, List.take_of_length_le (Nat.le_refl _)]
      have ia2 := upd_get (o := .lst ((ordered gs k).map V.str)) nD h1
      have hD : upd H D (.lst ((ordered gs k).map V.str)) D = some (.lst ((ordered gs k).map V.str)) := upd_same
      show _
      have e0 : ((gnames gs).filter fun z => decide (z ∈ k.ms)) = ordered gs k := rfl
      rw [e0]
      walk_at "rd"
      obtain ⟨w1, w2⟩ := headWords_8 go ok
      have wsum := len_sum w1
      have c1 : (Str.ofString " ").length = 1 := by decide +kernel
      have ol := ordered_len gs k
      have two : headTwo k = [if k.b = true then Str.ofString "many" else Str.ofString "one", k.n] := rfl
      have olm : ((ordered gs k).map V.str).length = (ordered gs k).length := List.length_map ..
      cases hb : k.b
      · have hw : (if k.b = true then Str.ofString "many" else Str.ofString "one") = Str.ofString "one" := by rw [hb]; rfl
        rw [hw] at two
        walk_at "rd"
        intro l1 nl1
        have hl1 : upd (upd H D (.lst ((ordered gs k).map V.str))) l1 (.lst [.str "one", .str k.n]) l1 = some (.lst ((headTwo k).map V.str)) := by
          rw [upd_same, two]
          rfl
        have hD1 := upd_get (o := .lst [.str "one", .str k.n]) nl1 hD
        have s1 := ((Same.refl H).new nD (o := .lst ((ordered gs k).map V.str))).new nl1 (o := .lst [.str "one", .str k.n])
        walk_at "rd"
        refine iteD (fun h => ?_) (fun h => ?_)
        · have hpos : 0 < (ordered gs k).length := by omega
          have hwd : headWords gs k = headTwo k ++ Str.ofString "of" :: ordered gs k := if_pos hpos
          walk_at "rd"
          refine ⟨.inr (SqL.of hl1), ?_⟩
          walk_at "rd"
          refine ⟨.inr (SqL.of hD1), ?_⟩
          have e : (headTwo k).map V.str ++ V.str "of" :: ((ordered gs k).map V.str ++ []) = (headWords gs k).map V.str := by
            rw [hwd, List.append_nil, List.map_append]
            rfl
          show ((headTwo k).map V.str ++ V.str "of" :: ((ordered gs k).map V.str ++ [])).length ≤ sizeLine ∧ _
          rw [e]
          refine ⟨by rw [List.length_map, sizeLine_eq]; omega, fun l2 nl2 => ?_⟩
          refine ⟨_, l2, headWords gs k, rfl, rfl, .inl (SqL.of upd_same), by rw [c1]; omega, ?_⟩
          exact q _ (s1.new nl2)
        · have hno : ¬ 0 < (ordered gs k).length := by omega
          have hwd : headWords gs k = headTwo k := if_neg hno
          walk_at "rd"
          refine ⟨?_, ?_⟩
          · rw [← hwd, c1]
            omega
          · have := q _ s1
            unfold headLine at this
            rw [hwd] at this
            exact this
      · have hw : (if k.b = true then Str.ofString "many" else Str.ofString "one") = Str.ofString "many" := by rw [hb]; rfl
        rw [hw] at two
        walk_at "rd"
        intro l1 nl1
        have hl1 : upd (upd H D (.lst ((ordered gs k).map V.str))) l1 (.lst [.str "many", .str k.n]) l1 = some (.lst ((headTwo k).map V.str)) := by
          rw [upd_same, two]
          rfl
        have hD1 := upd_get (o := .lst [.str "many", .str k.n]) nl1 hD
        have s1 := ((Same.refl H).new nD (o := .lst ((ordered gs k).map V.str))).new nl1 (o := .lst [.str "many", .str k.n])
        walk_at "rd"
        refine iteD (fun h => ?_) (fun h => ?_)
        · have hpos : 0 < (ordered gs k).length := by omega
          have hwd : headWords gs k = headTwo k ++ Str.ofString "of" :: ordered gs k := if_pos hpos
          walk_at "rd"
          refine ⟨.inr (SqL.of hl1), ?_⟩
          walk_at "rd"
          refine ⟨.inr (SqL.of hD1), ?_⟩
          have e : (headTwo k).map V.str ++ V.str "of" :: ((ordered gs k).map V.str ++ []) = (headWords gs k).map V.str := by
            rw [hwd, List.append_nil, List.map_append]
            rfl
          show ((headTwo k).map V.str ++ V.str "of" :: ((ordered gs k).map V.str ++ [])).length ≤ sizeLine ∧ _
          rw [e]
          refine ⟨by rw [List.length_map, sizeLine_eq]; omega, fun l2 nl2 => ?_⟩
          refine ⟨_, l2, headWords gs k, rfl, rfl, .inl (SqL.of upd_same), by rw [c1]; omega, ?_⟩
          exact q _ (s1.new nl2)
        · have hno : ¬ 0 < (ordered gs k).length := by omega
          have hwd : headWords gs k = headTwo k := if_neg hno
          walk_at "rd"
          refine ⟨?_, ?_⟩
          · rw [← hwd, c1]
            omega
          · have := q _ s1
            unfold headLine at this
            rw [hwd] at this
            exact this
theorem c_head_of (T : Tx K mg) : CalO P w K mg base CX0 3 "head_of" [] (spHead K) := by
  obtain ⟨fd, F⟩ := T.d_head_of
  exact .mk F (ok_head_of T F) T.n_head_of fun _ _ _ _ _ _ us hl => match us, hl with | [_, _], _ => rfl
theorem kindLines_len {gs : List GateT} {k : KindT} (go : GatesOk gs) (ok : KindOk k) : (∀ z ∈ kindLines gs k, z.length ≤ 55) ∧ (kindLines gs k).length ≤ 11 := by
  unfold kindLines
  refine ⟨fun z hz => ?_, ?_⟩
  · rcases List.mem_cons.mp hz with rfl | hz
    · have := headLine_len go ok
      omega
    · obtain ⟨q, hq, rfl⟩ := List.mem_map.mp hz
      obtain ⟨o, l, _⟩ := ok.ro.ok q hq
      exact rowText_len o l
  · rw [List.length_cons]
    unfold texts
    rw [List.length_map]
    have := ok.ro.ten
    omega
theorem flat_len {gs : List GateT} (go : GatesOk gs) : ∀ {ks : List KindT}, (∀ k ∈ ks, KindOk k) → (∀ z ∈ ks.flatMap (kindLines gs), z.length ≤ 55) ∧ (ks.flatMap (kindLines gs)).length ≤ 11 * ks.length
  | [], _ => ⟨fun z hz => by simp at hz, Nat.zero_le _⟩
  | k :: ks, h => by
    obtain ⟨a1, a2⟩ := kindLines_len go (h k List.mem_cons_self)
    obtain ⟨b1, b2⟩ := flat_len go (ks := ks) fun y hy => h y (List.mem_cons_of_mem _ hy)
    refine ⟨fun z hz => ?_, ?_⟩
    · rw [List.flatMap_cons] at hz
      rcases List.mem_append.mp hz with hz | hz
      · exact a1 z hz
      · exact b1 z hz
    · rw [List.flatMap_cons, List.length_append, List.length_cons]
      omega
theorem page_len {gs : List GateT} {ks : List KindT} (go : GatesOk gs) (ok : KindsOk gs ks) (i : Nat) : (∀ z ∈ gs.map gateLine ++ (ks.take i).flatMap (kindLines gs), z.length ≤ 55) ∧
    (gs.map gateLine ++ (ks.take i).flatMap (kindLines gs)).length ≤ 47 := by
  obtain ⟨b1, b2⟩ := flat_len go (ks := ks.take i) fun k hk => ok.ok k (List.mem_of_mem_take hk)
  have g3 := go.few
  have k4 := ok.few
  have l1 : (ks.take i).length ≤ 4 := by rw [List.length_take]; omega
  refine ⟨fun z hz => ?_, ?_⟩
  · rcases List.mem_append.mp hz with hz | hz
    · obtain ⟨g, hg, rfl⟩ := List.mem_map.mp hz
      have := gateLine_len go g hg
      omega
    · exact b1 z hz
  · rw [List.length_append, List.length_map]
    omega
def spText (K : PySem.W.Frag) : Sp := fun vs H Q _ => ∃ (t u : Addr) (as bs : List Addr) (gs : List GateT) (ks : List KindT), vs = [.ref t, .ref u] ∧ GatesAt K H t as gs ∧ GatesOk gs ∧ KindsAt K H u bs ks ∧ KindsOk gs ks ∧
  ∀ H', Same H H' → Q (.str (pageText gs ks)) H'
theorem ok_text_of {f : Addr} {fd : FuncData} {dvs : List V} {kws : List (Str × V)} (T : Tx K mg)
    (F : FunD K "text_of" "text_of" (defArgs s_text_of) (defBody s_text_of) (defScope s_text_of) dvs kws f fd) :
    FnOk P w K mg base CX0 4 f fd ["gates", "kinds"] (spText K) := by
  have c_head_of : CalO P w K mg base CX0 3 "head_of" [] (spHead K) := c_head_of T
  refine F.ok sc_text_of (fun vs H Q E h => ?_) (fun cdv A outer s H vs Q E hr h => ?_)
  · obtain ⟨t, u, as, bs, gs, ks, rfl, _⟩ := h
    rfl
  · obtain ⟨t, u, as, bs, gs, ks, rfl, ga, go, ka, ok, q⟩ := h
    have hu := hr.units
    have ht := ga.tup
    have hk := ka.tup
    have g3 := go.few
    have la : (as.map V.ref).length = gs.length := by rw [List.length_map, ga.ln]
    have lb : (bs.map V.ref).length = ks.length := by rw [List.length_map, ka.ln]
    refine ⟨_, PSs.nox (pss_cons (ps_set (i := 2) sc_text_of.nd rfl (Or.inl rfl) (pe_lst pa_nil))
    (pss_cons (ps_for PassesOwn.never rfl (pi_tup (pv 0)) (pg_name (i := 3) sc_text_of.nd rfl (Or.inl rfl))
      (pss_one (ps_expr (pe_bm PySem.F.plainAttrs_list PySem.F.slot_list_append PySem.F.type_list_append mt_append (pv 2) (pa_cons (pe_ifExp (pt_cmpR op_isN (pe_get (T.p_Gate_within _ _ _) (hr.mono (by decide)) (pv 3)) pe_non (nomark _)) (pe_joined (.cons pe_str (.cons (pe_fmt (pe_get (T.p_Gate_name _ _ _) (hr.mono (by decide)) (pv 3))) .nil))) (pe_joined (.cons pe_str (.cons (pe_fmt (pe_get (T.p_Gate_name _ _ _) (hr.mono (by decide)) (pv 3))) (.cons pe_str (.cons (pe_fmt (pe_get (T.p_Gate_within _ _ _) (hr.mono (by decide)) (pv 3))) .nil)))))) pa_nil)))))
    (pss_cons (ps_for PassesOwn.never rfl (pi_tup (pv 1)) (pg_name (i := 4) sc_text_of.nd rfl (Or.inl rfl))
      (pss_one (ps_aug (i := 2) sc_text_of.nd rfl (Or.inl rfl) (pe_lst (pa_cons (pe_calO c_head_of (hr.mono (by decide)) pass0 (pa_cons (pv 0) (pa_cons (pv 4) pa_nil))) (StX.pa_star (pe_get (T.p_Kind_rows _ _ _) (hr.mono (by decide)) (pv 4)) pa_nil))) iop_ext)))
    (pss_one (ps_ret (pe_join pe_str (pv 2))))))), ?_⟩
    walk_at "rd"
    intro D nD
    walk_at "rd"
    refine ⟨⟨_, SqT.of (upd_get nD ht)⟩, ?_⟩
    refine forW (wk_tup (as.map V.ref)) (fun i σ H' => Same H H' ∧ H' D = some (.lst (((gs.take i).map gateLine).map V.str)) ∧ ∃ a b : Option V, σ = [some (.ref t), some (.ref u), some (.ref D), a, b])
      ⟨by walk_at "g but", upd_same, _, _, rfl⟩ (fun i σ H' _ pv => SqT.of (pv.1 _ _ ht)) ?_ ?_
    · rintro i x σ H1 hx ⟨s1, hD, a, b, rfl⟩
      obtain ⟨y, g, rfl, hy, hg, dxg, hy1⟩ := ga.item (H' := H) hx
      have hy2 := s1 _ _ hy1
      have li := (List.getElem?_eq_some_iff.mp hg).1
      have sD : SqL K H1 D (((gs.take i).map gateLine).map V.str) := SqL.of hD
      have n1 := (go.nm g (List.mem_of_getElem? hg)).2
      have n0 := gateLine_len go g (List.mem_of_getElem? hg)
      have ln : (((gs.take i).map gateLine).map V.str).length < sizeLine := by rw [List.length_map, List.length_map, List.length_take, sizeLine_eq]; omega
      have tk : (gs.take (i + 1)).map gateLine = (gs.take i).map gateLine ++ [gateLine g] := by
        rw [List.take_add_one, hg, List.map_append]
        rfl
      have c1 : (Str.ofString "gate ").length = 5 := by decide +kernel
      have c2 : (Str.ofString " in ").length = 4 := by decide +kernel
      have c0 : Str.empty.length = 0 := by decide +kernel
      have sz : sizeLine = 16777216 := sizeLine_eq
      have fin : ∀ (a' : Option V), Same H (upd H1 D (.lst (((gs.take i).map gateLine).map V.str ++ [V.str (gateLine g)]))) ∧ (upd H1 D (.lst (((gs.take i).map gateLine).map V.str ++ [V.str (gateLine g)]))) D = some (.lst (((gs.take (i + 1)).map gateLine).map V.str)) ∧
          ∃ a b : Option V, ([some (.ref t), some (.ref u), some (.ref D), some (.ref y), a'] : L2.St) = [some (.ref t), some (.ref u), some (.ref D), a, b] := fun a' =>
        ⟨L2.Same.own s1 nD, by rw [upd_same, tk, List.map_append]; rfl, _, _, rfl⟩
      obtain ⟨n, wv⟩ := g
      have n1' : n.length ≤ 8 := n1
      cases wv with
      | none =>
        walk_at "rd"
        refine ⟨.inl ⟨rfl, _, sD⟩, ?_⟩
        walk_at "rd"
        have e : Str.empty ++ Str.ofString "gate " ++ n = gateLine (n, none) := by
          rw [empty_cat]
          rfl
        show Same H (upd H1 D (.lst (((gs.take i).map gateLine).map V.str ++ [V.str (Str.empty ++ Str.ofString "gate " ++ n)]))) ∧ _
        rw [e]
        exact fin _
      | some z =>
        have zi := go.wi i n z hg
        have n2 : z.length ≤ 8 := by
          obtain ⟨g', hg', e⟩ := List.mem_map.mp zi
          rw [← e]
          exact (go.nm g' (List.mem_of_mem_take hg')).2
        walk_at "rd"
        refine ⟨.inl ⟨rfl, _, sD⟩, ?_⟩
        walk_at "rd"
        have e : Str.empty ++ Str.ofString "gate " ++ n ++ Str.ofString " in " ++ z = gateLine (n, some z) := by
          rw [empty_cat]
          rfl
        show Same H (upd H1 D (.lst (((gs.take i).map gateLine).map V.str ++ [V.str (Str.empty ++ Str.ofString "gate " ++ n ++ Str.ofString " in " ++ z)]))) ∧ _
        rw [e]
        exact fin _
    · rintro σ H1 ⟨s1, hD, a, b, rfl⟩
      rw [la, List.take_of_length_le (Nat.le_refl _)] at hD
      walk_at "rd"
      refine ⟨⟨_, SqT.of (s1 _ _ hk)⟩, ?_⟩
      refine forW (wk_tup (bs.map V.ref)) (fun i σ H' => Same H H' ∧ H' D = some (.lst ((gs.map gateLine ++ (ks.take i).flatMap (kindLines gs)).map V.str)) ∧ ∃ a b : Option V, σ = [some (.ref t), some (.ref u), some (.ref D), a, b])
        ⟨s1, by rw [hD, List.take_zero, List.flatMap_nil, List.append_nil], _, _, rfl⟩ (fun i σ H' _ pv => SqT.of (pv.1 _ _ hk)) ?_ ?_
      · rintro i x σ H2 hx ⟨s2, hD2, a2, b2, rfl⟩
        obtain ⟨y, k, rfl, hy, hkk, kat⟩ := ka.item hx
        have kat2 := kat.same s2
        have ga2 := ga.same s2
        have sz : sizeLine = 16777216 := sizeLine_eq
        walk_at "rd"
        refine ⟨gs, k, rfl, ga2, go, kat2, fun H3 s3 => ?_⟩
        have hD3 := s3 _ _ hD2
        obtain ⟨kok, dx, tt, pr, m, ras, i1, i2, _⟩ := kat.same (s2.trans s3)
        have i2' : SqT K H3 tt ((texts k.rs).map V.str) := SqT.of (by rw [← rowsV_texts]; exact i2)
        obtain ⟨w1, w2⟩ := kindLines_len go kok
        walk_at "rd"
        have e3 : V.str (headLine gs k) :: ((texts k.rs).map V.str ++ []) = (kindLines gs k).map V.str := by
          rw [List.append_nil]
          rfl
        show (V.str (headLine gs k) :: ((texts k.rs).map V.str ++ [])).length ≤ sizeLine ∧ ∀ p, _
        obtain ⟨p1, p2⟩ := page_len go ok i
        have lk : ((kindLines gs k).map V.str).length ≤ 11 := by rw [List.length_map]; exact w2
        have tk : gs.map gateLine ++ (ks.take (i + 1)).flatMap (kindLines gs) = (gs.map gateLine ++ (ks.take i).flatMap (kindLines gs)) ++ kindLines gs k := by
          rw [List.take_add_one, hkk, List.flatMap_append, List.append_assoc]
          simp
        rw [e3]
        refine ⟨by rw [sizeLine_eq]; omega, fun l nl => ?_⟩
        refine ⟨D, l, _, _, rfl, rfl, upd_get nl hD3, upd_same, by rw [List.length_map, sizeLine_eq]; omega, ?_⟩
        refine ⟨L2.Same.own ((s2.trans s3).new nl) nD, ?_, _, _, rfl⟩
        rw [upd_same, tk]
        simp only [List.map_append]
      · rintro σ H2 ⟨s2, hD2, a2, b2, rfl⟩
        rw [lb, List.take_of_length_le (Nat.le_refl _)] at hD2
        have e0 : gs.map gateLine ++ ks.flatMap (kindLines gs) = pageLines gs ks := rfl
        rw [e0] at hD2
        obtain ⟨p1, p2⟩ := page_len go ok ks.length
        rw [List.take_of_length_le (Nat.le_refl _), e0] at p1 p2
        have psum := len_sum p1
        have c1 : (Str.ofString "\n").length = 1 := by decide +kernel
        walk_at "rd"
        refine ⟨by rw [c1]; omega, ?_⟩
        exact q _ s2
theorem c_text_of (T : Tx K mg) : CalO P w K mg base CX0 4 "text_of" [] (spText K) := by
  obtain ⟨fd, F⟩ := T.d_text_of
  exact .mk F (ok_text_of T F) T.n_text_of fun _ _ _ _ _ _ us hl => match us, hl with | [_, _], _ => rfl
end
end G
namespace G
open PySem PySem.Spec PyProof.Rows L2
def lastOf (b : List Stmt) : Stmt := b.getLastD (.Pass ⟨0, 0, 0, 0⟩)
def compScope : Stmt → Scope
  | .Assign _ (.DictComp _ _ _ sc _) _ => sc
  | _ => defScope s_System___init__
/-! ### the roots of gates -/
theorem in_keys {l : List Str} {z : Str} : (Sum.inr z : Key) ∈ l.map (Sum.inr : Str → Key) ↔ z ∈ l := by
  constructor
  · intro h
    obtain ⟨y, hy, e⟩ := List.mem_map.mp h
    exact Sum.inr.inj e ▸ hy
  · intro h
    exact List.mem_map.mpr ⟨z, h, rfl⟩
structure RootKv (gs : List GateT) (kvs : List (Key × V)) : Prop where
  ks : kvs.map (·.1) = (gnames gs).map Sum.inr
  vs : ∀ z ∈ gnames gs, ∃ r : Str, valV kvs (.inr z) = some (.str r)
section
variable {P : Program} {w : World} {K : PySem.W.Frag} {mg : Str → Option Value} {base : Heap} {CX : CXT}
def spRoots (K : PySem.W.Frag) : Sp := fun vs H Q _ => ∃ (t : Addr) (as : List Addr) (gs : List GateT), vs = [.ref t] ∧ GatesAt K H t as gs ∧ GatesOk gs ∧ ∀ H' d kvs, Same H H' → H d = none → H' d = some (.dK kvs) → RootKv gs kvs → Q (.ref d) H'
theorem ok_roots_of {f : Addr} {fd : FuncData} {dvs : List V} {kws : List (Str × V)} (T : Tx K mg)
    (F : FunD K "roots_of" "roots_of" (defArgs s_roots_of) (defBody s_roots_of) (defScope s_roots_of) dvs kws f fd) :
    FnOk P w K mg base CX0 3 f fd ["gates"] (spRoots K) := by
  refine F.ok sc_roots_of (fun vs H Q E h => ?_) (fun cdv A outer s H vs Q E hr h => ?_)
  · obtain ⟨t, as, gs, rfl, _⟩ := h
    rfl
  · obtain ⟨t, as, gs, rfl, ga, go, q⟩ := h
    have hu := hr.units
    have ht := ga.tup
    have g3 := go.few
    have la : (as.map V.ref).length = gs.length := by rw [List.length_map, ga.ln]
    refine ⟨_, PSs.nox (pss_cons (ps_set (i := 1) sc_roots_of.nd rfl (Or.inl rfl) pe_dnewK)
    (pss_cons (ps_for PassesOwn.never rfl (pi_tup (pv 0)) (pg_name (i := 2) sc_roots_of.nd rfl (Or.inl rfl))
      (pss_one (ps_asg (pe_ifExp (pt_cmpR op_isN (pe_get (T.p_Gate_within _ _ _) (hr.mono (by decide)) (pv 2)) pe_non (nomark _)) (pe_get (T.p_Gate_name _ _ _) (hr.mono (by decide)) (pv 2)) (pe_dget (lt64 hu) (pv 1) (pe_get (T.p_Gate_within _ _ _) (hr.mono (by decide)) (pv 2)) (fun _ _ => rfl))) (pg_sub (pv 1) (pe_get (T.p_Gate_name _ _ _) (hr.mono (by decide)) (pv 2)) (set_dict (lt64 hu))))))
    (pss_one (ps_ret (pv 1))))), ?_⟩
    walk_at "rd"
    intro D nD
    walk_at "rd"
    refine ⟨⟨_, SqT.of (upd_get nD ht)⟩, ?_⟩
    refine forW (wk_tup (as.map V.ref)) (fun i σ H' => Same H H' ∧ ∃ (kvs : List (Key × V)) (a : Option V), H' D = some (.dK kvs) ∧ RootKv (gs.take i) kvs ∧ σ = [some (.ref t), some (.ref D), a])
      ⟨by walk_at "g but", [], none, upd_same, ⟨rfl, fun z hz => by simp [gnames] at hz⟩, rfl⟩ (fun i σ H' _ pv => SqT.of (pv.1 _ _ ht)) ?_ ?_
    · rintro i x σ H1 hx ⟨s1, kvs, a, hD, rk, rfl⟩
      obtain ⟨y, g, rfl, hy, hg, dxg, hy1⟩ := ga.item (H' := H) hx
      have hy2 := s1 _ _ hy1
      have li := (List.getElem?_eq_some_iff.mp hg).1
      have fr := go.fresh hg
      have lk : kvs.length ≤ 3 := by
        have := congrArg List.length rk.ks
        rw [List.length_map, List.length_map, gnames_len, List.length_take] at this
        omega
      have nk : (Sum.inr g.1 : Key) ∉ kvs.map (·.1) := by
        rw [rk.ks]
        exact fun h => fr (in_keys.mp h)
      have fin : ∀ r : Str, RootKv (gs.take (i + 1)) (putK kvs (.inr g.1) (.str r)) := by
        intro r
        refine ⟨?_, fun z hz => ?_⟩
        · rw [putK_new nk, List.map_append, rk.ks, gnames_snoc hg, List.map_append]
          rfl
        · rw [valV_put]
          by_cases e : (Sum.inr z : Key) = .inr g.1
          · exact ⟨r, by rw [if_pos e]⟩
          · rw [if_neg e]
            rw [gnames_snoc hg] at hz
            rcases List.mem_append.mp hz with hz | hz
            · exact rk.vs z hz
            · exact absurd (congrArg Sum.inr (List.mem_singleton.mp hz)) e
      obtain ⟨n, wv⟩ := g
      cases wv with
      | none =>
        walk_at "rd"
        refine ⟨_, rfl, .inl ⟨kvs, .inr n, hD, rfl, by rw [sizeLine_eq]; omega, rfl⟩, ?_⟩
        exact ⟨L2.Same.own s1 nD, _, _, upd_same, fin n, rfl⟩
      | some z =>
        obtain ⟨r, hr1⟩ := rk.vs z (go.wi i n z hg)
        walk_at "rd"
        refine ⟨.inl ⟨kvs, .inr z, .of hD, rfl, hr1.symm⟩, ?_⟩
        walk_at "rd"
        refine ⟨_, rfl, .inl ⟨kvs, .inr n, hD, rfl, by rw [sizeLine_eq]; omega, rfl⟩, ?_⟩
        exact ⟨L2.Same.own s1 nD, _, _, upd_same, fin r, rfl⟩
    · rintro σ H1 ⟨s1, kvs, a, hD, rk, rfl⟩
      rw [la, List.take_of_length_le (Nat.le_refl _)] at rk
      walk_at "rd"
      exact q _ D kvs s1 nD hD rk
end
end G
namespace G
open PySem PySem.Spec PyProof.Rows L2
/-! ### systems -/
def labelsOf (ks : List KindT) : List Str := ks.flatMap fun k => k.rs.filterMap (·.1)
structure LabelsOk (ks : List KindT) (l : List Str) : Prop where
  so : sortedS l = true
  nd : l.Nodup
  me : ∀ z, z ∈ l ↔ z ∈ labelsOf ks
theorem insS_mem {k z : Str} {l : List Str} : z ∈ insS k l ↔ z = k ∨ z ∈ l := by
  unfold insS
  split
  · exact ⟨.inr, fun h => h.elim (fun e => e ▸ by assumption) id⟩
  · exact List.mem_cons
theorem insS_nd {k : Str} {l : List Str} (h : l.Nodup) : (insS k l).Nodup := by
  unfold insS
  split
  · exact h
  · exact List.nodup_cons.mpr ⟨by assumption, h⟩
theorem insS_len (k : Str) (l : List Str) : (insS k l).length ≤ l.length + 1 := by
  unfold insS
  split
  · exact Nat.le_succ _
  · exact Nat.le_refl _
/-- the labels found so far -/
inductive LabSt (P : Program) (w : World) (D : Addr) (H5 : Hp) (ks : List KindT) (i : Nat) (H' : Hp) : Prop
  | mk (l : List Str) (e : H' = upd H5 D (SetXO P w D l)) (nd : l.Nodup) (ln : l.length ≤ 10 * i) (me : ∀ z, z ∈ l ↔ z ∈ labelsOf (ks.take i))
inductive LabIn (P : Program) (w : World) (D : Addr) (H5 : Hp) (ks : List KindT) (i : Nat) (k : KindT) (j : Nat) (H' : Hp) : Prop
  | mk (l : List Str) (e : H' = upd H5 D (SetXO P w D l)) (nd : l.Nodup) (ln : l.length ≤ 10 * i + j) (me : ∀ z, z ∈ l ↔ z ∈ labelsOf (ks.take i) ∨ z ∈ (k.rs.take j).filterMap (·.1))
section
variable {P : Program} {w : World} {K : PySem.W.Frag} {mg : Str → Option Value} {base : Heap} {CX : CXT}
abbrev cS (K : PySem.W.Frag) : Addr := He.ga K "System"
abbrev sysF (t u : Addr) (x : Str) (pl pg l tr : Addr) : List (Str × V) := [("all_gates", .ref t), ("all_kinds", .ref u), ("written", .str x), ("places", .ref pl), ("programs", .ref pg), ("all_labels", .ref l), ("trees", .ref tr)]
theorem GateAt.but {H H' : Hp} {a p C dx : Addr} {g : GateT} (h : GateAt K H a g) (hp : H p = some (.ins C dx [])) (s : But p H H') : GateAt K H' a g := by
  obtain ⟨d, e⟩ := h
  exact ⟨d, s _ _ (ne_of e hp (by intro e; cases e)) e⟩
theorem GatesAt.but {H H' : Hp} {t p C dx : Addr} {as : List Addr} {gs : List GateT} (h : GatesAt K H t as gs) (hp : H p = some (.ins C dx [])) (s : But p H H') : GatesAt K H' t as gs :=
  ⟨s _ _ (ne_of h.tup hp (by intro e; cases e)) h.tup, h.ln, fun i a g h1 h2 => (h.at_ i a g h1 h2).but hp s⟩
theorem KindAt.but {H H' : Hp} {a p C dx : Addr} {k : KindT} (h : KindAt K H a k) (hp : H p = some (.ins C dx [])) (s : But p H H') : KindAt K H' a k := by
  obtain ⟨ok, d, t, pr, m, as, h1, h2, h3, h4, h5⟩ := h
  exact ⟨ok, d, t, pr, m, as, s _ _ (ne_of h1 hp (by intro e; cases e)) h1, s _ _ (ne_of h2 hp (by intro e; cases e)) h2, h3.but hp s, s _ _ (ne_of h4 hp (by intro e; cases e)) h4, h5.but hp s⟩
theorem KindsAt.but {H H' : Hp} {t p C dx : Addr} {bs : List Addr} {ks : List KindT} (h : KindsAt K H t bs ks) (hp : H p = some (.ins C dx [])) (s : But p H H') : KindsAt K H' t bs ks :=
  ⟨s _ _ (ne_of h.tup hp (by intro e; cases e)) h.tup, h.ln, fun i a g h1 h2 => (h.at_ i a g h1 h2).but hp s⟩
theorem c_roots_of (T : Tx K mg) : CalO P w K mg base CX0 3 "roots_of" [] (spRoots K) := by
  obtain ⟨fd, F⟩ := T.d_roots_of
  exact .mk F (ok_roots_of T F) T.n_roots_of fun _ _ _ _ _ _ us hl => match us, hl with | [_], _ => rfl
/-- what a new system is -/
structure SysIn (K : PySem.W.Frag) (H : Hp) (p dx t u : Addr) (gs : List GateT) (ks : List KindT) : Prop where
  ex : ∃ (pl pg l tr : Addr) (ls : List Str) (kvs : List (Key × V)), H p = some (.ins (cS K) dx (sysF t u (pageText gs ks) pl pg l tr)) ∧ H l = some (.tup (ls.map V.str)) ∧ LabelsOk ks ls ∧
    H pl = some (.dK kvs) ∧ kvs.map (·.1) = (gnames gs).map Sum.inr
structure SysArg (K : PySem.W.Frag) (H : Hp) (t u : Addr) (as bs : List Addr) (gs : List GateT) (ks : List KindT) : Prop where
  ga : GatesAt K H t as gs
  go : GatesOk gs
  ka : KindsAt K H u bs ks
  ko : KindsOk gs ks
def spSystem (K : PySem.W.Frag) : Sp := fun vs H Q _ => ∃ (p dx t u : Addr), vs = [.ref p, .ref t, .ref u] ∧ H p = some (.ins (cS K) dx []) ∧ ∃ (as bs : List Addr) (gs : List GateT) (ks : List KindT), SysArg K H t u as bs gs ks ∧
  ∀ H', But p H H' → SysIn K H' p dx t u gs ks → Q .non H'
theorem ok_System {f : Addr} {fd : FuncData} {dvs : List V} {kws : List (Str × V)} (T : Tx K mg)
    (F : FunD K "__init__" "System.__init__" (defArgs s_System___init__) (defBody s_System___init__) (defScope s_System___init__) dvs kws f fd) :
    FnOk P w K mg base CX0 5 f fd ["self", "gates", "kinds"] (spSystem K) := by
  have c_check_gates : CalO P w K mg base CX0 3 "check_gates" [] (spCheckGates K) := c_check_gates T
  have c_check_kinds : CalO P w K mg base CX0 4 "check_kinds" [] (spCheckKinds K) := c_check_kinds T
  have c_text_of : CalO P w K mg base CX0 4 "text_of" [] (spText K) := c_text_of T
  have c_roots_of : CalO P w K mg base CX0 3 "roots_of" [] (spRoots K) := c_roots_of T
  refine F.ok sc_System___init__ (fun vs H Q E h => ?_) (fun cdv A outer s H vs Q E hr h => ?_)
  · obtain ⟨p, dx, t, u, rfl, _⟩ := h
    rfl
  · obtain ⟨p, dx, t, u, rfl, hp, as, bs, gs, ks, ⟨ga, go, ka, ko⟩, q⟩ := h
    have hu := hr.units
    have cl := T.c_System
    have n1 := T.na_System_all_gates
    have n2 := T.na_System_all_kinds
    have n3 := T.na_System_written
    have n4 := T.na_System_places
    have n5 := T.na_System_programs
    have n6 := T.na_System_all_labels
    have n7 := T.na_System_trees
    refine ⟨_, PSs.nox (pss_cons (ps_expr (pe_calO c_check_gates (hr.mono (by decide)) pass0 (pa_cons (pv 1) pa_nil)))
    (pss_cons (ps_expr (pe_calO c_check_kinds (hr.mono (by decide)) pass0 (pa_cons (pv 1) (pa_cons (pv 2) pa_nil))))
    (pss_cons (ps_asg (pe_tup (pa_cons (pv 1) (pa_cons (pv 2) (pa_cons (pe_calO c_text_of (hr.mono (by decide)) pass0 (pa_cons (pv 1) (pa_cons (pv 2) pa_nil))) pa_nil)))) (pg_tup rfl (pgs_cons (pg_attr (pv 0)) (pgs_cons (pg_attr (pv 0)) (pgs_cons (pg_attr (pv 0)) pgs_nil)))))
    (pss_cons (ps_fld (pv 0) (pe_dc (own := [("place", 3), ("gate", 4)]) (tt := tYes) rfl sc_System___init__.nd (pi_enumT rfl T.f_enumerate (pa_cons (pv 1) pa_nil)) (blkOk_by (own := [("place", 3), ("gate", 4)]) (N := n_System___init__) (sc := defScope s_System___init__) (by decide +kernel)) (fun _ _ _ _ _ => (pg_tupK (K := K) (n := 2) rfl rfl (pgs_cons (pg_name (i := 3) sc_System___init__.nd rfl (Or.inl rfl)) (pgs_cons (pg_name (i := 4) sc_System___init__.nd rfl (Or.inl rfl)) pgs_nil)))) (fun _ _ _ _ _ => pts_nil) (fun _ _ _ _ _ => (pe_get (T.p_Gate_name _ _ _) (hr.mono (by decide)) (pv 4))) (fun _ _ _ _ _ => (pv 3))) rfl)
    (pss_cons (ps_fld (pv 0) (pe_dc (own := [("kind", 5)]) (g := gName 5) (tt := tYes) rfl sc_System___init__.nd (pi_tup (pv 2)) (blkOk_by (own := [("kind", 5)]) (N := n_System___init__) (sc := defScope s_System___init__) (by decide +kernel)) (fun _ _ _ _ _ => (pg_name (i := 5) sc_System___init__.nd rfl (Or.inl rfl))) (fun _ _ _ _ _ => pts_nil) (fun _ _ _ _ _ => (pe_get (T.p_Kind_name _ _ _) (hr.mono (by decide)) (pv 5))) (fun _ _ _ _ _ => (pe_fldK (K := K) rfl (pv 5) rfl))) rfl)
    (pss_cons (ps_setSc2 (i := 6) (own := [("kind", 5), ("row", 7)]) (vs1 := [7]) (g := gName 5) (tt := tYes) (g1 := gName 7) rfl sc_System___init__.nd rfl rfl (swS_true rfl rfl rfl (by decide +kernel)) (pi_tup (pv 2)) (blkOk_by (own := [("kind", 5), ("row", 7)]) (N := n_System___init__) (sc := defScope s_System___init__) (by decide +kernel)) (by decide) (fun _ _ _ _ _ => (pg_name (i := 5) sc_System___init__.nd rfl (Or.inl rfl))) (fun _ _ _ _ _ => pts_nil) (fun _ _ _ _ _ => (pi_tupK (K := K) rfl (pe_fldK (K := K) rfl (pv 5) rfl))) (fun _ _ _ _ _ => (pg_name (i := 7) sc_System___init__.nd rfl (Or.inl rfl))) (fun _ _ _ _ _ => (pts_one (pt_cmpR op_notN (pe_fldK (K := K) rfl (pv 7) rfl) pe_non (nomark _)))) (fun _ _ _ _ _ => (pe_fldK (K := K) rfl (pv 7) rfl)))
    (pss_cons (ps_fld (pv 0) (pe_callTy call_tuple_of rfl T.f_tuple (by decide +kernel) (pa_cons (pe_callB (cr_sortedX rfl) rfl T.f_sorted (by decide +kernel) (pa_cons (pv 6) pa_nil)) pa_nil)) rfl)
    (pss_cons (ps_set (i := 8) sc_System___init__.nd rfl (Or.inr rfl) (pe_calO c_roots_of (hr.mono (by decide)) pass0 (pa_cons (pv 1) pa_nil)))
    (pss_one (ps_lock (ps_fld (pv 0) (pe_dc (own := [("name", 10)]) (g := gName 10) (tt := tYes) rfl sc_System___init__.nd (pi_keys (pv 8)) (blkOk_by (own := [("name", 10)]) (N := n_System___init__) (sc := defScope s_System___init__) (by decide +kernel)) (fun _ _ _ _ _ => (pg_name (i := 10) sc_System___init__.nd rfl (Or.inr rfl))) (fun _ _ _ _ _ => pts_nil) (fun _ _ _ _ _ => (pv 10)) (fun _ _ _ _ _ => (pe_callTy (cr_tupK (K := K) rfl) rfl T.f_tuple (by decide +kernel) (pa_cons (pe_lc (own := [("other", 9)]) (g := gName 9) rfl sc_System___init__.nd (pi_keys (pv 8)) (blkOk_by (own := [("other", 9)]) (N := n_System___init__) (sc := relS (compScope (lastOf (defBody s_System___init__))) (defScope s_System___init__)) (by decide +kernel)) (fun _ _ _ _ _ => (pg_name (i := 9) sc_System___init__.nd rfl (Or.inl rfl))) (fun _ _ _ _ _ => (pts_one (pt_cmpR op_eq (pe_dget (lt64 hu) (pv 8) (pv 9) (fun _ _ => rfl)) (pe_dget (lt64 hu) (pv 8) (pv 10) (fun _ _ => rfl)) (nomark _)))) (fun _ _ _ _ _ => (pv 9))) pa_nil)))) rfl))))))))))), ?_⟩
    let N : Option V := none
    refine mid3 (fun σ' H' => σ' = [some (.ref p), some (.ref t), some (.ref u), none, none, none, none, none, none, none, none] ∧ But p H H' ∧
      H' p = some (.ins (cS K) dx [("all_gates", .ref t), ("all_kinds", .ref u), ("written", .str (pageText gs ks))])) ?_ (fun _ rest => ?_)
    · rintro σ3 H3 ⟨rfl, b3, hp3⟩
      refine mid1 (fun σ' H' => σ' = [some (.ref p), some (.ref t), some (.ref u), none, none, none, none, none, none, none, none] ∧ But p H H' ∧
        ∃ (pl : Addr) (kvs : List (Key × V)), H' p = some (.ins (cS K) dx [("all_gates", .ref t), ("all_kinds", .ref u), ("written", .str (pageText gs ks)), ("places", .ref pl)]) ∧ H' pl = some (.dK kvs) ∧ kvs.map (·.1) = (gnames gs).map Sum.inr) ?_ (fun _ rest => ?_)
      · rintro σ4 H4 ⟨rfl, b4, pl, kvs, hp4, hpl, hks⟩
        refine mid1 (fun σ' H' => σ' = [some (.ref p), some (.ref t), some (.ref u), none, none, none, none, none, none, none, none] ∧ But p H H' ∧ H' pl = some (.dK kvs) ∧
          ∃ pg : Addr, H' p = some (.ins (cS K) dx [("all_gates", .ref t), ("all_kinds", .ref u), ("written", .str (pageText gs ks)), ("places", .ref pl), ("programs", .ref pg)])) ?_ (fun _ rest => ?_)
        · rintro σ5 H5 ⟨rfl, b5, hpl5, pg, hp5⟩
          refine mid1 (fun σ' H' => ∃ (D : Addr) (l : List Str), σ' = [some (.ref p), some (.ref t), some (.ref u), none, none, none, some (.ref D), none, none, none, none] ∧ Same H5 H' ∧
            H' D = some (SetXO P w D l) ∧ l.Nodup ∧ l.length ≤ 40 ∧ ∀ z, z ∈ l ↔ z ∈ labelsOf ks) ?_ (fun _ rest => ?_)
          · rintro σ6 H6 ⟨D, l, rfl, s6, hD, nd, l40, me⟩
            have hp6 := s6 _ _ hp5
            have hpl6 := s6 _ _ hpl5
            have b6 := b5.trans (.of s6)
            refine mid1 (fun σ' H' => ∃ (y : Option V) (lt : Addr) (ls : List Str), σ' = [some (.ref p), some (.ref t), some (.ref u), none, none, none, y, none, none, none, none] ∧ But p H H' ∧ H' pl = some (.dK kvs) ∧
              H' lt = some (.tup (ls.map V.str)) ∧ LabelsOk ks ls ∧ H' p = some (.ins (cS K) dx [("all_gates", .ref t), ("all_kinds", .ref u), ("written", .str (pageText gs ks)), ("places", .ref pl), ("programs", .ref pg), ("all_labels", .ref lt)])) ?_ (fun _ rest => ?_)
            · rintro σ7 H7 ⟨y, lt, ls, rfl, b7, hpl7, hlt, lo, hp7⟩
              have ga7 := ga.but hp b7
              walk_at "rd"
              refine ⟨gs, rfl, ga7, go, fun H8 d rkv s8 nd8 hd8 rk => ?_⟩
              walk_at "rd"
              refine ⟨.dK rkv, hd8, trivial, fun od => ?_⟩
              have hpd : p ≠ d := ne_of_none hp7 nd8
              have hp8 : (upd H8 d (.frz od (.dK rkv))) p = some (.ins (cS K) dx [("all_gates", .ref t), ("all_kinds", .ref u), ("written", .str (pageText gs ks)), ("places", .ref pl), ("programs", .ref pg), ("all_labels", .ref lt)]) := by
                rw [upd_ne hpd]
                exact s8 _ _ hp7
              have fz : (upd H8 d (.frz od (.dK rkv))) d = some (.frz od (.dK rkv)) := upd_same
              have hu1 : (A.deeper (envOfC (Str.ofString "System.__init__") (defScope s_System___init__) s.heap.objs.size f cdv)).units + 1 < cLine := lt64 hu
              have kitems : (rkv.map fun kv => kV kv.1) = (gnames gs).map V.str := by
                have : (rkv.map fun kv => kV kv.1) = (rkv.map (·.1)).map kV := by rw [List.map_map]; rfl
                rw [this, rk.ks, List.map_map]
                rfl
              have lr : (rkv.map fun kv => kV kv.1).length = gs.length := by rw [kitems, List.length_map, gnames_len]
              have g3 := go.few
              walk_at "rd"
              refine ⟨od, rfl, .inl ⟨rkv, fz, ?_⟩⟩
              intro D2 nD2
              have nDd : D2 ≠ d := (ne_of_none fz nD2).symm
              have nDp : D2 ≠ p := (ne_of_none hp8 nD2).symm
              refine dcW (wk_keys d od rkv) (fun i H' => Same (upd H8 d (.frz od (.dK rkv))) H' ∧ ∃ kv2 : List (Key × V), H' D2 = some (.dK kv2) ∧ kv2.length ≤ i)
                ⟨(Same.refl _).new nD2, [], upd_same, Nat.le_refl _⟩ (fun i H' _ pv => pv.1 _ _ fz) ?_ ?_
              · rintro i x H' hx ⟨sf, kv2, hD2, l2⟩
                have li := (List.getElem?_eq_some_iff.mp hx).1
                rw [lr] at li
                rw [kitems, List.getElem?_map, List.getElem?_eq_getElem (by rw [gnames_len]; exact li)] at hx
                obtain rfl := Option.some.inj hx
                have zm : (gnames gs)[i]'(by rw [gnames_len]; exact li) ∈ gnames gs := List.getElem_mem _
                obtain ⟨rz, hrz⟩ := rk.vs _ zm
                have fz2 := sf _ _ fz
                walk_at "rd"
                refine ⟨od, rfl, .inl ⟨rkv, fz2, ?_⟩⟩
                intro L nL
                refine lcW (wk_keys d od rkv) (fun j H'' => ∃ acc : List V, H'' = upd H' L (.lst acc) ∧ acc.length ≤ j) ⟨[], rfl, Nat.le_refl _⟩ (fun j H'' _ e => by obtain ⟨acc, rfl, _⟩ := e; exact upd_get nL fz2) ?_ ?_
                · rintro j y H'' hy ⟨acc, rfl, lacc⟩
                  have lj := (List.getElem?_eq_some_iff.mp hy).1
                  rw [lr] at lj
                  rw [kitems, List.getElem?_map, List.getElem?_eq_getElem (by rw [gnames_len]; exact lj)] at hy
                  obtain rfl := Option.some.inj hy
                  have ym : (gnames gs)[j]'(by rw [gnames_len]; exact lj) ∈ gnames gs := List.getElem_mem _
                  obtain ⟨ry, hry⟩ := rk.vs _ ym
                  have fz3 : (upd H' L (.lst acc)) d = some (.frz od (.dK rkv)) := upd_get nL fz2
                  walk_at "rd"
                  refine ⟨.inl ⟨rkv, .inr _, .inr ⟨od, fz3⟩, rfl, hry.symm⟩, ?_⟩
                  walk_at "rd"
                  refine ⟨.inl ⟨rkv, .inr _, .inr ⟨od, fz3⟩, rfl, hrz.symm⟩, ?_⟩
                  walk_at "rd"
                  refine iteD (fun _ => ?_) (fun _ => ?_)
                  · walk_at "rd"
                    refine ⟨by rw [sizeLine_eq]; omega, _, by rw [upd_upd], ?_⟩
                    rw [List.length_append]
                    exact Nat.succ_le_succ lacc
                  · exact ⟨acc, rfl, Nat.le_succ_of_le lacc⟩
                · rintro H'' ⟨acc, rfl, lacc⟩
                  walk_at "rd"
                  refine .inl ⟨SqL.of upd_same, fun l nl => ?_⟩
                  refine ⟨kv2, .inr _, rfl, upd_get nl (upd_get nL hD2), by rw [sizeLine_eq]; omega, L2.Same.own ((sf.new nL).new nl) nD2, _, upd_same, ?_⟩
                  have := length_putK kv2 (.inr ((gnames gs)[i]'(by rw [gnames_len]; exact li))) (V.ref l)
                  omega
              · rintro H' ⟨sf, kv2, hD2, l2⟩
                have hp9 := sf _ _ hp8
                walk_at "rd"
                refine ⟨by rw [upd_ne hpd.symm]; exact sf _ _ fz, ?_⟩
                have stay : ∀ (b : Addr) (o : HO), b ≠ p → H7 b = some o → ∀ X Y : HO, (upd (upd H' p X) d Y) b = some o := fun b o nb e7 X Y => by
                  have nbd : b ≠ d := ne_of_none e7 nd8
                  rw [upd_ne nbd, upd_ne nb]
                  refine sf _ _ ?_
                  rw [upd_ne nbd]
                  exact s8 _ _ e7
                refine q _ (fun b o nb e => stay b o nb (b7 b o nb e) _ _) ⟨pl, pg, lt, D2, ls, kvs, ?_, ?_, lo, ?_, hks⟩
                · rw [upd_ne hpd, upd_same]
                  rfl
                · exact stay _ _ (ne_of hlt hp7 (by intro e; cases e)) hlt _ _
                · exact stay _ _ (ne_of hpl7 hp7 (by intro e; cases e)) hpl7 _ _
            · walk_at "rd"
              intro ys y0 pm so ny
              have hy0 : (upd H6 y0 (.lst (ys.map V.str))) y0 = some (.lst (ys.map V.str)) := upd_same
              have hp7 := upd_get (o := .lst (ys.map V.str)) ny hp6
              have hpl7 := upd_get (o := .lst (ys.map V.str)) ny hpl6
              have s7 := (Same.refl H6).new ny (o := .lst (ys.map V.str))
              walk_at "rd"
              refine .inl ⟨SqL.of hy0, fun lt nlt => ?_⟩
              have hp8 := upd_get (o := .tup (ys.map V.str)) nlt hp7
              have hpl8 := upd_get (o := .tup (ys.map V.str)) nlt hpl7
              have s8 := s7.new nlt (o := .tup (ys.map V.str))
              have hl8 : (upd (upd H6 y0 (.lst (ys.map V.str))) lt (.tup (ys.map V.str))) lt = some (.tup (ys.map V.str)) := upd_same
              walk_at "rd"
              refine rest _ _ ⟨_, lt, ys, rfl, (b6.trans (.of s8)).at, ?_, ?_, ⟨so, pm.nodup_iff.mpr nd, fun z => (pm.mem_iff).trans (me z)⟩, upd_same⟩
              · rw [upd_ne (ne_of hpl8 hp8 (by intro e; cases e))]
                exact hpl8
              · rw [upd_ne (ne_of hl8 hp8 (by intro e; cases e))]
                exact hl8
          · have ka5 := ka.but hp b5
            have hk5 := ka5.tup
            walk_at "rd"
            refine ⟨⟨_, SqT.of hk5⟩, ?_⟩
            intro D nD
            have k4 := ko.few
            have lb : (bs.map V.ref).length = ks.length := by rw [List.length_map, ka.ln]
            have clK := T.c_Kind
            have nK := T.na_Kind_parsed
            have clR := T.c_Row
            have nR := T.na_Row_label
            refine sc2W (wk_tup (bs.map V.ref)) (fun i H' => LabSt P w D H5 ks i H') (.mk [] rfl List.nodup_nil (Nat.zero_le _) (fun z => by simp [labelsOf])) (fun i H' _ e => by obtain ⟨l, rfl, _⟩ := e; exact SqT.of (upd_get nD hk5)) ?_ ?_
            · rintro i x H' hx ⟨l, rfl, nd, ln, me⟩
              obtain ⟨z, k, rfl, hz, hkk, kat⟩ := ka5.item hx
              obtain ⟨kok, dk, tt, pr, m, ras, iz, _, _, ipr, rin⟩ := id kat
              have iz2 := upd_get (o := SetXO P w D l) nD iz
              have li := (List.getElem?_eq_some_iff.mp hkk).1
              walk_at "rd"
              have sb : 64 < scanBound := by decide
              have k10 := kok.ro.ten
              have lrs : (ras.map V.ref).length = k.rs.length := by rw [List.length_map, rin.1]
              have lab1 : labelsOf (ks.take (i + 1)) = labelsOf (ks.take i) ++ k.rs.filterMap (·.1) := by
                unfold labelsOf
                rw [List.take_add_one, hkk, List.flatMap_append]
                simp
              refine ⟨⟨_, SqT.of (upd_get nD ipr)⟩, ?_⟩
              refine sc2I (D := D) (wk_tup (ras.map V.ref)) (fun j H' => LabIn P w D H5 ks i k j H') (.mk l rfl nd ln (fun z => by rw [me z]; simp)) (fun j H' _ e => by obtain ⟨l2, rfl, _⟩ := e; exact SqT.of (upd_get nD ipr)) ?_ ?_
              · rintro j y H'' hy ⟨l2, rfl, nd2, ln2, me2⟩
                have lt := (List.getElem?_eq_some_iff.mp hy).1
                rw [List.length_map] at lt
                rw [List.getElem?_map, List.getElem?_eq_getElem lt] at hy
                obtain rfl := Option.some.inj hy
                have lq : j < k.rs.length := by rw [← rin.1]; exact lt
                have hq : k.rs[j]? = some k.rs[j] := List.getElem?_eq_getElem lq
                obtain ⟨dr, gr, er, _⟩ := rin.2 j _ _ (List.getElem?_eq_getElem lt) hq
                have er2 := upd_get (o := SetXO P w D l2) nD er
                have tk : ∀ y, (k.rs[j]).1 = y → (k.rs.take (j + 1)).filterMap (·.1) = (k.rs.take j).filterMap (·.1) ++ y.toList := by
                  intro y hy
                  rw [List.take_add_one, hq, List.filterMap_append]
                  cases y with
                  | none => simp [hy]
                  | some c => simp [hy]
                have hD2 : (upd H5 D (SetXO P w D l2)) D = some (SetXO P w D l2) := upd_same
                cases hl : (k.rs[j]).1 with
                | none =>
                  rw [hl] at er2
                  have e := tk _ hl
                  walk_at "rd"
                  exact .mk l2 rfl nd2 (by omega) (fun z => by rw [me2 z, e]; simp)
                | some c =>
                  rw [hl] at er2
                  have e := tk _ hl
                  walk_at "rd"
                  refine .mk (insS c l2) (by rw [upd_upd]; exact rfl) (insS_nd nd2) (by have := insS_len c l2; omega) (fun z => ?_)
                  rw [insS_mem, me2 z, e, List.mem_append]
                  show _ ↔ _ ∨ _ ∨ z ∈ [c]
                  rw [List.mem_singleton]
                  constructor
                  · rintro (h | h | h)
                    · exact .inr (.inr h)
                    · exact .inl h
                    · exact .inr (.inl h)
                  · rintro (h | h | h)
                    · exact .inr (.inl h)
                    · exact .inr (.inr h)
                    · exact .inl h
              · rintro H'' ⟨l2, rfl, nd2, ln2, me2⟩
                rw [lrs] at ln2
                rw [lrs, List.take_of_length_le (Nat.le_refl _)] at me2
                exact .mk l2 rfl nd2 (by omega) (fun z => by rw [me2 z, lab1, List.mem_append])
            · rintro H' ⟨l, rfl, nd, ln, me⟩
              rw [lb, List.take_of_length_le (Nat.le_refl _)] at me
              rw [lb] at ln
              walk_at "rd"
              exact rest _ _ ⟨D, l, rfl, (Same.refl _).new nD, upd_same, nd, by omega, me⟩
        · have ka4 := ka.but hp b4
          have hk4 := ka4.tup
          walk_at "rd"
          refine ⟨⟨_, SqT.of hk4⟩, ?_⟩
          intro D nD
          have nDp : D ≠ p := (ne_of_none hp4 nD).symm
          have nDl : D ≠ pl := (ne_of_none hpl nD).symm
          have k4 := ko.few
          have lb : (bs.map V.ref).length = ks.length := by rw [List.length_map, ka.ln]
          have npp : pl ≠ p := ne_of hpl hp4 (by intro e; cases e)
          refine dcW (wk_tup (bs.map V.ref)) (fun i H' => ∃ kv2 : List (Key × V), H' = upd H4 D (.dK kv2) ∧ kv2.length ≤ i) ⟨[], rfl, Nat.le_refl _⟩ (fun i H' _ e => by obtain ⟨kv2, rfl, _⟩ := e; exact SqT.of (upd_get nD hk4)) ?_ ?_
          · rintro i x H' hx ⟨kv2, rfl, l2⟩
            obtain ⟨z, k, rfl, hz, hkk, kat⟩ := ka4.item hx
            obtain ⟨_, dk, tt, pr, m, ras, iz, _⟩ := id kat
            have iz2 := upd_get (o := .dK kv2) nD iz
            have li := (List.getElem?_eq_some_iff.mp hkk).1
            have clK := T.c_Kind
            have nK := T.na_Kind_parsed
            walk_at "rd"
            refine ⟨kv2, .inr k.n, rfl, upd_same, by rw [sizeLine_eq]; omega, putK kv2 (.inr k.n) (.ref pr), by rw [upd_upd], ?_⟩
            have := length_putK kv2 (.inr k.n) (V.ref pr)
            omega
          · rintro H' ⟨kv2, rfl, l2⟩
            have hp5 := upd_get (o := .dK kv2) nD hp4
            have hpl5 := upd_get (o := .dK kv2) nD hpl
            walk_at "rd"
            exact rest _ _ ⟨rfl, (b4.trans (.of ((Same.refl _).new nD))).at, by rw [upd_ne npp]; exact hpl5, D, upd_same⟩
      · have ga3 := ga.but hp b3
        have ka3 := ka.but hp b3
        have ht3 := ga3.tup
        have sq3 : SqT K H3 t (as.map V.ref) := SqT.of ht3
        walk_at "rd"
        intro D nD
        have la : (as.map V.ref).length = gs.length := by rw [List.length_map, ga.ln]
        have g3 := go.few
        have nDp : D ≠ p := (ne_of_none hp3 nD).symm
        refine dcE (xs := as.map V.ref) (fun i H' => Same H3 H' ∧ ∃ kvs : List (Key × V), H' D = some (.dK kvs) ∧ kvs.map (·.1) = (gnames (gs.take i)).map Sum.inr)
          ⟨(Same.refl _).new nD, [], upd_same, rfl⟩ (fun i H' _ pv => SqT.of (pv.1 _ _ ht3)) ?_ ?_
        · rintro i x H' T2 hx ⟨s4, kvs, hD, hks⟩ nT
          obtain ⟨y, g, rfl, hy, hg, dxg, hy1⟩ := ga3.item (H' := H3) hx
          have hy2 := upd_get (o := .tup [.int (i : Int), .ref y]) nT (s4 _ _ hy1)
          have hD2 := upd_get (o := .tup [.int (i : Int), .ref y]) nT hD
          have fr := go.fresh hg
          have li := (List.getElem?_eq_some_iff.mp hg).1
          have lk : kvs.length ≤ 3 := by
            have := congrArg List.length hks
            rw [List.length_map, List.length_map, gnames_len, List.length_take] at this
            omega
          have nk : (Sum.inr g.1 : Key) ∉ kvs.map (·.1) := by
            rw [hks]
            exact fun h => fr (in_keys.mp h)
          walk_at "rd"
          refine ⟨kvs, .inr g.1, rfl, hD2, by rw [sizeLine_eq]; omega, L2.Same.own (s4.new nT) nD, _, upd_same, ?_⟩
          rw [putK_new nk, List.map_append, hks, gnames_snoc hg, List.map_append]
          rfl
        · rintro H' ⟨s4, kvs, hD, hks⟩
          rw [la, List.take_of_length_le (Nat.le_refl _)] at hks
          have hp4 := s4 _ _ hp3
          walk_at "rd"
          exact rest _ _ ⟨rfl, (b3.trans (.of s4)).at, D, kvs, upd_same, by rw [upd_ne nDp]; exact hD, hks⟩
    · walk_at "rd"
      refine ⟨gs, rfl, ga, go, fun H1 s1 => ?_⟩
      have ga1 := ga.same s1
      have ka1 := ka.same s1
      walk_at "rd"
      refine ⟨gs, ks, rfl, ga1, go, ka1, ko, fun H2 s2 => ?_⟩
      have ga2 := ga1.same s2
      have ka2 := ka1.same s2
      walk_at "rd"
      refine ⟨gs, ks, rfl, ga2, go, ka2, ko, fun H3 s3 => ?_⟩
      have hp3 : H3 p = some (.ins (cS K) dx []) := s3 _ _ (s2 _ _ (s1 _ _ hp))
      have s03 := (s1.trans s2).trans s3
      walk_at "rd"
      intro T1 nT1
      walk_at "rd"
      exact rest _ _ ⟨rfl, ((But.of s03).new nT1).at.at.at, upd_same⟩
end
end G
namespace G
open PySem PySem.Spec PyProof.Rows L2
section
variable {K : PySem.W.Frag} {x qual : Str} {params : Arguments} {body : List Stmt} {scope : Scope} {kws : List (Str × V)} {f : Addr} {fd : FuncData} {ps : List Str}
/-- all parameters are written, some by keywords -/
theorem kbindsN (F : FunD K x qual params body scope [] kws f fd) (n : Nat) (ks : List Str) (g : {α : Type} → List α → List α → List α)
    (hrel : ∀ {vs zs : List V} {us ws : List Value}, Vals vs us → Vals zs ws → Vals (g vs zs) (g us ws))
    (h : ∀ (kV doc pm : Value) (an : Option Addr) (cdv ct : Value) (us ws : List Value), us.length = n → ws.length = ks.length →
      bindArgs (PySem.W.fnOf x qual params body scope .none kV doc pm an cdv ct) ⟨us, ks.zip ws⟩ = pure (ps.zip (g us ws))) : KBn K fd ps n ks (fun us ws => g us ws) (fun vs zs => g vs zs) := by
  obtain ⟨oc, od, dV, kV, doc, pm, an, cdv, ct, osl, rfl, lk, hcd, hD, hK⟩ := F.ex
  rcases hD with ⟨_, rfl⟩ | ⟨e, _⟩
  · exact ⟨fun s us ws X l1 l2 => .of_eq (h kV doc pm an cdv ct us ws l1 l2), fun r1 r2 => hrel r1 r2⟩
  · exact absurd rfl e
end
section
variable {P : Program} {w : World} {K : PySem.W.Frag} {mg : Str → Option Value} {base : Heap} {CX : CXT}
theorem c_System_2 (T : Tx K mg) : CalC P w K mg base CX0 5 "System" (cS K) [] (spSystem K) := by
  obtain ⟨fd, F⟩ := T.d_System___init__
  have b : Binds K fd ["self", "gates", "kinds"] [] := F.bindsN fun _ _ _ _ _ _ us hl => match us, hl with | [_, _, _], _ => rfl
  obtain ⟨u, hm, ru⟩ := T.g_System
  obtain rfl : u = Value.ref (cS K) := ru
  exact ⟨_, fd, _, [], T.mk_System, ok_System T F, hm, b, .nil⟩
def gKG {α : Type} (us ws : List α) : List α := us ++ (ws.drop 1 ++ ws.take 1)
theorem c_System_0_kinds_gates (T : Tx K mg) : CalN P w K mg base CX0 5 "System" (cS K) 0 ["kinds", "gates"] (fun vs zs => gKG vs zs) (spSystem K) := by
  obtain ⟨fd, F⟩ := T.d_System___init__
  have hb := kbindsN (ps := ["self", "gates", "kinds"]) F 1 ["kinds", "gates"] gKG (fun r1 r2 => vals_app r1 (vals_app (vals_drop 1 r2) (vals_take 1 r2)))
    (fun kV doc pm an cdv ct us ws l1 l2 => match us, ws, l1, l2 with
    | [_], [_, _], _, _ => rfl)
  obtain ⟨u, hm, ru⟩ := T.g_System
  obtain rfl : u = Value.ref (cS K) := ru
  exact ⟨_, fd, _, _, T.mk_System, ok_System T F, hm, hb⟩
/-! ### a system stands at a -/
def SysAt (K : PySem.W.Frag) (H : Hp) (a t u : Addr) (as bs : List Addr) (gs : List GateT) (ks : List KindT) : Prop := SysArg K H t u as bs gs ks ∧ ∃ dx, SysIn K H a dx t u gs ks
theorem SysIn.same {H H' : Hp} {p dx t u : Addr} {gs : List GateT} {ks : List KindT} (h : SysIn K H p dx t u gs ks) (s : Same H H') : SysIn K H' p dx t u gs ks := by
  obtain ⟨pl, pg, l, tr, ls, kvs, h1, h2, h3, h4, h5⟩ := h
  exact ⟨pl, pg, l, tr, ls, kvs, s _ _ h1, s _ _ h2, h3, s _ _ h4, h5⟩
theorem SysArg.same {H H' : Hp} {t u : Addr} {as bs : List Addr} {gs : List GateT} {ks : List KindT} (h : SysArg K H t u as bs gs ks) (s : Same H H') : SysArg K H' t u as bs gs ks :=
  ⟨h.ga.same s, h.go, h.ka.same s, h.ko⟩
theorem SysAt.same {H H' : Hp} {a t u : Addr} {as bs : List Addr} {gs : List GateT} {ks : List KindT} (h : SysAt K H a t u as bs gs ks) (s : Same H H') : SysAt K H' a t u as bs gs ks :=
  ⟨h.1.same s, h.2.elim fun dx h => ⟨dx, h.same s⟩⟩
/-- a system with this text stands at a -/
def SysW (K : PySem.W.Frag) (H : Hp) (a : Addr) (x : Str) : Prop := ∃ (dx t u pl pg l tr : Addr), H a = some (.ins (cS K) dx (sysF t u x pl pg l tr))
theorem SysW.same {H H' : Hp} {a : Addr} {x : Str} (h : SysW K H a x) (s : Same H H') : SysW K H' a x := by
  obtain ⟨dx, t, u, pl, pg, l, tr, e⟩ := h
  exact ⟨dx, t, u, pl, pg, l, tr, s _ _ e⟩
theorem SysIn.wr {H : Hp} {p dx t u : Addr} {gs : List GateT} {ks : List KindT} (h : SysIn K H p dx t u gs ks) : SysW K H p (pageText gs ks) := by
  obtain ⟨pl, pg, l, tr, ls, kvs, h1, _⟩ := h
  exact ⟨dx, t, u, pl, pg, l, tr, h1⟩
def spSysEq (K : PySem.W.Frag) : Sp := fun vs H Q _ => ∃ (a : Addr) (y : V), vs = [.ref a, y] ∧ ∃ x : Str, SysW K H a x ∧
  ((∃ (b : Addr) (x' : Str), y = .ref b ∧ SysW K H b x' ∧ Q (.bl (decide (x = x'))) H) ∨ (∃ t, TyX K H y t ∧ PySem.W.kitOne K t (.ref (cS K)) = some false ∧ Q (.bl false) H))
theorem ok_System_eq {f : Addr} {fd : FuncData} {dvs : List V} {kws : List (Str × V)} (T : Tx K mg)
    (F : FunD K "__eq__" "System.__eq__" (defArgs s_System___eq__) (defBody s_System___eq__) (defScope s_System___eq__) dvs kws f fd) :
    FnOk P w K mg base CX 1 f fd ["self", "other"] (spSysEq K) := by
  refine F.ok sc_System___eq__ (fun vs H Q E h => ?_) (fun cdv A outer s H vs Q E hr h => ?_)
  · obtain ⟨a, y, rfl, _⟩ := h
    rfl
  · obtain ⟨a, y, rfl, x, ⟨dx, t, u, pl, pg, l, tr, ha⟩, h⟩ := h
    have cl := T.c_System
    have ci := T.i_System
    have me := ci.me
    have n3 := T.na_System_written
    refine ⟨_, PSs.nox (pss_one (ps_ret (pe_and (pe_callB call_isi rfl T.f_isinstance (by decide +kernel) (pa_cons (pv 1) (pa_cons (pe_gl T.g_System) pa_nil))) (pe_one (pe_cmpR op_eq (pe_fld (pv 0) rfl) (pe_fld (pv 1) rfl) (nomark _)))))), ?_⟩
    rcases h with ⟨b, x', rfl, ⟨dx', t', u', pl', pg', l', tr', hb⟩, q⟩ | ⟨t2, ty, ek, q⟩
    · have ty : TyX K H (.ref b) (.ref (cS K)) := .base (ci.ty cl hb)
      walk_at "rd"
      refine ret_eq q ?_
      congr 1
      by_cases e : x = x' <;> simp [e]
    · walk_at "rd"
      exact q
theorem eqS (T : Tx K mg) : ∃ f fd ps, EqC K (cS K) f ∧ FnOk P w K mg base CX 1 f fd ps (spSysEq K) ∧ Binds K fd ps [] := by
  obtain ⟨fd, F⟩ := T.d_System___eq__
  exact ⟨_, fd, _, T.e_System, ok_System_eq T F, F.bindsN fun _ _ _ _ _ _ us hl => match us, hl with | [_, _], _ => rfl⟩
theorem eqSS (T : Tx K mg) {H : Hp} {a b : Addr} {x x' : Str} {W : VK} (ha : SysW K H a x) (hb : SysW K H b x') (q : W (.bl (decide (x = x'))) H) :
    TyOf K H (.ref b) (.ref (cS K)) ∧ PySem.W.notFirst K (cS K) (.ref (cS K)) = true ∧ spSysEq K [.ref a, .ref b] H W E0 := by
  obtain ⟨dx, t, u, pl, pg, l, tr, e⟩ := id hb
  exact ⟨T.i_System.ty T.c_System e, by simp [PySem.W.notFirst], a, .ref b, rfl, x, ha, .inl ⟨b, x', rfl, hb, q⟩⟩
def spSysLen (K : PySem.W.Frag) : Sp := fun vs H Q _ => ∃ (a dx t u : Addr), vs = [.ref a] ∧ ∃ (gs : List GateT) (ks : List KindT) (bs : List Addr), SysIn K H a dx t u gs ks ∧ KindsAt K H u bs ks ∧ Q (.int ((ks.length : Nat) : Int)) H
theorem ok_System_len {f : Addr} {fd : FuncData} {dvs : List V} {kws : List (Str × V)} (T : Tx K mg)
    (F : FunD K "__len__" "System.__len__" (defArgs s_System___len__) (defBody s_System___len__) (defScope s_System___len__) dvs kws f fd) :
    FnOk P w K mg base CX 1 f fd ["self"] (spSysLen K) := by
  refine F.ok sc_System___len__ (fun vs H Q E h => ?_) (fun cdv A outer s H vs Q E hr h => ?_)
  · obtain ⟨a, dx, t, u, rfl, _⟩ := h
    rfl
  · obtain ⟨a, dx, t, u, rfl, gs, ks, bs, ⟨pl, pg, l, tr, ls, kvs, h1, _⟩, ka, q⟩ := h
    have cl := T.c_System
    have n2 := T.na_System_all_kinds
    have hk := ka.tup
    refine ⟨_, PSs.nox (pss_one (ps_ret (pe_callB call_len_seq rfl T.f_len (by decide +kernel) (pa_cons (pe_fld (pv 0) rfl) pa_nil)))), ?_⟩
    walk_at "rd"
    refine ret_eq q ?_
    rw [List.length_map, ka.ln]
theorem lenS (T : Tx K mg) : ∃ f fd ps, (PySem.W.findIn K (.ref (cS K)) "__len__" = some (some (.ref f)) ∧ PySem.W.isFn K (.ref f) = true) ∧ FnOk P w K mg base CX 1 f fd ps (spSysLen K) ∧ Binds K fd ps [] := by
  obtain ⟨fd, F⟩ := T.d_System___len__
  exact ⟨_, fd, _, T.l_System, ok_System_len T F, F.bindsN fun _ _ _ _ _ _ us hl => match us, hl with | [_], _ => rfl⟩
end
end G
namespace G
open PySem PySem.Spec PyProof.Rows L2
/-! ### a name that is not taken -/
def spareS : List Str := ["a", "b", "c", "d", "e", "f", "g", "h", "i", "j", "k"]
theorem pigeon {α : Type} [DecidableEq α] : ∀ {l m : List α}, l.Nodup → (∀ x ∈ l, x ∈ m) → l.length ≤ m.length
  | [], _, _, _ => Nat.zero_le _
  | x :: l, m, nd, h => by
    have hx := h x List.mem_cons_self
    have nd' := List.nodup_cons.mp nd
    have ih := pigeon (l := l) (m := m.erase x) nd'.2 fun y hy => (List.mem_erase_of_ne (by rintro rfl; exact nd'.1 hy)).mpr (h y (List.mem_cons_of_mem _ hy))
    rw [List.length_erase_of_mem hx] at ih
    have := List.length_pos_of_mem hx
    rw [List.length_cons]
    omega
theorem spare_nm : ∀ z ∈ spareS, Nm z := by
  have a : spareS.all (fun z => isNameS z && decide (z.length ≤ 8)) = true := by decide +kernel
  intro z hz
  obtain ⟨h1, h2⟩ := Bool.and_eq_true_iff.mp (List.all_eq_true.mp a z hz)
  exact ⟨h1, of_decide_eq_true h2⟩
theorem spare_some {ms : List Str} (h : ms.length ≤ 10) : ∃ z r, spareS.filter (fun y => !decide (y ∈ ms)) = z :: r ∧ z ∈ spareS ∧ z ∉ ms := by
  cases e : spareS.filter (fun y => !decide (y ∈ ms)) with
  | nil =>
    have a := List.filter_eq_nil_iff.mp e
    have : spareS.length ≤ ms.length := pigeon (by decide +kernel) fun x hx => by
      have := a x hx
      simpa using this
    have : spareS.length = 11 := rfl
    omega
  | cons z r =>
    have hz : z ∈ spareS.filter (fun y => !decide (y ∈ ms)) := by rw [e]; exact List.mem_cons_self
    obtain ⟨h1, h2⟩ := List.mem_filter.mp hz
    exact ⟨z, r, rfl, h1, by simpa using h2⟩
/-! ### lines as they are put together -/
def mkS : Option Str → Str
  | none => Str.ofString ""
  | some z => z ++ Str.ofString ": "
theorem rowText_list (l : Option Str) (r : RW) : TL.tl (rowText l r) = TL.tl (mkS l) ++ TL.tl (rwText r) := by
  cases l with
  | none => rfl
  | some z =>
    show TL.tl (z ++ Str.ofString ": " ++ rwText r) = _
    rw [TL.tl_append]
    rfl
theorem rw_list (r : RW) : TL.tl (rwText r) = TL.joinL [32] (r.words.map TL.tl) := rwText_list r
theorem line_one (l : Option Str) {w w' g : Str} (e : TL.tl w' = TL.tl w ++ [32]) : mkS l ++ w' ++ g = rowText l (.one w g) := by
  refine TL.ext_tl ?_
  rw [rowText_list, rw_list, TL.tl_append, TL.tl_append, e]
  show _ = _ ++ (TL.tl w ++ ([32] ++ TL.tl g))
  simp only [List.append_assoc]
theorem line_arr (l : Option Str) (g : Str) (d : Nat) : mkS l ++ Str.ofString "arrive " ++ g ++ Str.ofString " " ++ digS d = rowText l (.arr g d) := by
  refine TL.ext_tl ?_
  rw [rowText_list, rw_list, TL.tl_append, TL.tl_append, TL.tl_append, TL.tl_append, show TL.tl (Str.ofString "arrive ") = TL.tl (Str.ofString "arrive") ++ [32] from by decide +kernel,
    show TL.tl (Str.ofString " ") = [32] from by decide +kernel]
  show _ = _ ++ (TL.tl (Str.ofString "arrive") ++ ([32] ++ (TL.tl g ++ ([32] ++ TL.tl (digS d)))))
  simp only [List.append_assoc]
theorem line_wai (l : Option Str) (g : Str) (k : Nat) : mkS l ++ Str.ofString "wait " ++ g ++ Str.ofString " else " ++ digS k = rowText l (.wai g k) := by
  refine TL.ext_tl ?_
  rw [rowText_list, rw_list, TL.tl_append, TL.tl_append, TL.tl_append, TL.tl_append, show TL.tl (Str.ofString "wait ") = TL.tl (Str.ofString "wait") ++ [32] from by decide +kernel,
    show TL.tl (Str.ofString " else ") = [32] ++ (TL.tl (Str.ofString "else") ++ [32]) from by decide +kernel]
  show _ = _ ++ (TL.tl (Str.ofString "wait") ++ ([32] ++ (TL.tl g ++ ([32] ++ (TL.tl (Str.ofString "else") ++ ([32] ++ TL.tl (digS k)))))))
  simp only [List.append_assoc]
theorem line_ovr (l : Option Str) (g : Str) (d k : Nat) : mkS l ++ Str.ofString "over " ++ g ++ Str.ofString " " ++ digS d ++ Str.ofString " " ++ digS k = rowText l (.ovr g d k) := by
  refine TL.ext_tl ?_
  rw [rowText_list, rw_list, TL.tl_append, TL.tl_append, TL.tl_append, TL.tl_append, TL.tl_append, TL.tl_append, show TL.tl (Str.ofString "over ") = TL.tl (Str.ofString "over") ++ [32] from by decide +kernel,
    show TL.tl (Str.ofString " ") = [32] from by decide +kernel]
  show _ = _ ++ (TL.tl (Str.ofString "over") ++ ([32] ++ (TL.tl g ++ ([32] ++ (TL.tl (digS d) ++ ([32] ++ TL.tl (digS k)))))))
  simp only [List.append_assoc]
theorem line_go (l : Option Str) {ks : List Nat} (h : ks ≠ []) : mkS l ++ Str.ofString "go " ++ Txt.join (Str.ofString " ") (ks.map digS) = rowText l (.go ks) := by
  refine TL.ext_tl ?_
  rw [rowText_list, rw_list, TL.tl_append, TL.tl_append, show TL.tl (Str.ofString "go ") = TL.tl (Str.ofString "go") ++ [32] from by decide +kernel, TL.join_eq, TL.tl_join]
  cases ks with
  | nil => exact absurd rfl h
  | cons k r =>
    show _ = _ ++ (TL.tl (Str.ofString "go") ++ ([32] ++ TL.joinL [32] (((k :: r).map digS).map TL.tl)))
    simp only [List.append_assoc]
    rfl
theorem line_fin (l : Option Str) : mkS l ++ Str.ofString "end" = rowText l .fin := by
  refine TL.ext_tl ?_
  rw [rowText_list, rw_list, TL.tl_append]
  rfl
theorem dig_str : ∀ k : Nat, k < 10 → (toString (k : Int) : Str) = digS k := by
  have a : ∀ k : Fin 10, (toString ((k.val : Nat) : Int) : Str) = digS k.val := by decide +kernel
  intro k hk
  exact a ⟨k, hk⟩
section
variable {P : Program} {w : World} {K : PySem.W.Frag} {mg : Str → Option Value} {base : Heap} {CX : CXT}
def spNew : Sp := fun vs H Q _ => ∃ (p l : Addr) (ms : List Str), vs = [.ref p, .ref l] ∧ PoolAt H p ∧ H l = some (.lst (ms.map V.str)) ∧ l ≠ p ∧ ms.length ≤ 10 ∧
  ∀ H' z, Pl p H H' → Nm z → z ∉ ms → Q (.str z) H'
theorem ok_new {f : Addr} {fd : FuncData} {dvs : List V} {kws : List (Str × V)} (T : Tx K mg)
    (F : FunD K "_law_new" "_law_new" (defArgs s__law_new) (defBody s__law_new) (defScope s__law_new) dvs kws f fd) :
    FnG P w K mg base CX0 3 f fd ["_law_pool_here", "_law_taken"] spNew := by
  have c__law_tag : Cal P w K mg base CX0 2 "_law_tag" [] spTag := c_tag T
  refine okG F sc__law_new (fun vs H Q E h => ?_) (fun cdv A outer s H vs Q E hr hgd h => ?_)
  · obtain ⟨p, l, ms, rfl, _⟩ := h
    rfl
  · obtain ⟨p, l, ms, rfl, hp, hl, nlp, few, q⟩ := h
    have hu := hr.units
    refine ⟨_, PSs.nox (pss_cons (ps_set (i := 2) sc__law_new.nd rfl (Or.inl rfl) (pe_cal c__law_tag (hr.mono (by decide)) hgd pass0 (pa_cons (pv 0) pa_nil)))
    (pss_cons (ps_setLc (i := 3) (own := [("_law_other", 4)]) (g := gName 4) rfl sc__law_new.nd rfl rfl (sw_true rfl rfl rfl (by decide +kernel)) (pi_list (pe_lst (pa_cons pe_str (pa_cons pe_str (pa_cons pe_str (pa_cons pe_str (pa_cons pe_str (pa_cons pe_str (pa_cons pe_str (pa_cons pe_str (pa_cons pe_str (pa_cons pe_str (pa_cons pe_str pa_nil))))))))))))) (blkOk_by (own := [("_law_other", 4)]) (N := n__law_new) (sc := defScope s__law_new) (by decide +kernel)) (fun _ _ _ _ _ => (pg_name (i := 4) sc__law_new.nd rfl (Or.inl rfl))) (fun _ _ _ _ _ => (pts_one (pt_cmpR (opK (K := K) (r := fun K1 => rIn K1 true) rfl op_notIn_seq) (pv 4) (pv 1) rfl))) (fun _ _ _ _ _ => (pv 4)))
    (pss_one (ps_ret (pe_ifExp (pt_cmpR op_in_seq (pv 2) (pv 1) rfl) (pe_ix ix_list (pv 3) pe_int (fun _ _ => rfl)) (pv 2)))))), ?_⟩
    walk_at "rd"
    intro H1 z p1 vz lz
    have hl1 := p1.get hl nlp
    have hl2 : SqL K H1 l (ms.map V.str) := SqL.of hl1
    walk_at "rd"
    intro la nla
    walk_at "rd"
    refine ⟨⟨_, SqL.of upd_same⟩, ?_⟩
    intro D nD
    have hlD : ∀ o, SqL K (upd (upd H1 la (.lst (spareS.map V.str))) D o) l (ms.map V.str) := fun o => SqL.of (upd_get nD (upd_get nla hl1))
    refine lcW (wk_list (spareS.map V.str)) (fun i H' => H' = upd (upd H1 la (.lst (spareS.map V.str))) D (.lst (((spareS.take i).filter fun y => !decide (y ∈ ms)).map V.str)))
      rfl (fun i H' _ e => by rw [e]; exact SqL.of (upd_get nD upd_same)) ?_ ?_
    · rintro i x H' hx rfl
      have lt := (List.getElem?_eq_some_iff.mp hx).1
      rw [List.length_map] at lt
      rw [List.getElem?_map, List.getElem?_eq_getElem lt] at hx
      obtain rfl := Option.some.inj hx
      have hl3 := hlD (.lst (((spareS.take i).filter fun y => !decide (y ∈ ms)).map V.str))
      have tk : spareS.take (i + 1) = spareS.take i ++ [spareS[i]] := by rw [List.take_add_one, List.getElem?_eq_getElem lt]; rfl
      have l11 : spareS.length = 11 := rfl
      walk_at "rd"
      refine ⟨flat_strs ms, ?_⟩
      rw [inV_strs]
      walk_at "rd"
      rw [if_pos rfl]
      refine iteND (fun hn => ?_) (fun hy => ?_)
      · walk_at "rd"
        refine ⟨?_, ?_⟩
        · rw [List.length_map]
          have h1 := List.length_filter_le (fun y => !decide (y ∈ ms)) (spareS.take i)
          rw [List.length_take] at h1
          show _ < 16777216
          omega
        · rw [upd_upd, tk, List.filter_append, List.map_append]
          simp [hn]
      · rw [tk, List.filter_append]
        simp [hy]
    · rintro H' rfl
      rw [List.length_map, List.take_of_length_le (Nat.le_refl _)]
      have hl3 := hlD (.lst ((spareS.filter fun y => !decide (y ∈ ms)).map V.str))
      obtain ⟨y, r, e, hy, ny⟩ := spare_some few
      have e1 : atI ((spareS.filter fun y => !decide (y ∈ ms)).map V.str) 0 = some (.str y) := by
        rw [e]
        exact at_any (j := 0) rfl rfl
      walk_at "rd"
      refine ⟨flat_strs ms, ?_⟩
      rw [inV_strs, if_neg Bool.false_ne_true]
      walk_at "rd"
      refine iteD (fun hz => ?_) (fun hz => ?_)
      · walk_at "rd"
        exact q _ y (by walk_at "g but") (spare_nm y hy) ny
      · walk_at "rd"
        exact q _ z (by walk_at "g but") ⟨vz, lz⟩ hz
theorem c_new (T : Tx K mg) : Cal P w K mg base CX0 3 "_law_new" [] spNew := by
  obtain ⟨fd, F⟩ := T.d__law_new
  exact .mk F (ok_new T F) T.n__law_new fun _ _ _ _ _ _ us hl => match us, hl with | [_, _], _ => rfl
end
end G
namespace G
open PySem PySem.Spec PyProof.Rows L2
theorem small_log {i : Int} (h0 : 0 ≤ i) (h1 : i < 10) : i.natAbs.log2 < 1920 := by
  have a : ∀ k : Fin 10, k.val.log2 < 1920 := by decide +kernel
  have b := a ⟨i.natAbs, by omega⟩
  exact b
theorem dig_of {i : Int} (h0 : 0 ≤ i) (h1 : i < 10) : (toString i : Str) = digS i.toNat := by
  have e : i = ((i.toNat : Nat) : Int) := by omega
  have h := dig_str i.toNat (by omega)
  rw [← e] at h
  exact h
section
variable {P : Program} {w : World} {K : PySem.W.Frag} {mg : Str → Option Value} {base : Heap} {CX : CXT}
/-- a good row whose goals lie below m -/
structure LineOk (ms : List Str) (q : RwT) (m : Nat) : Prop where
  ok : q.2.Ok
  lab : ∀ z, q.1 = some z → Nm z
  lt : ∀ k ∈ q.2.goals, k < m
  gin : ∀ z, q.2.gateV = .str z → z ∈ ms
def spLine : Sp := fun vs H Q _ => ∃ (p l : Addr) (ms : List Str) (m : Nat), vs = [.ref p, .ref l, .int (m : Int)] ∧ PoolAt H p ∧ H l = some (.lst (ms.map V.str)) ∧ l ≠ p ∧ ms ≠ [] ∧ ms.length ≤ 10 ∧
  (∀ z ∈ ms, Nm z) ∧ 1 ≤ m ∧ m ≤ 10 ∧ ∀ H' q, Pl p H H' → LineOk ms q m → Q (.str q.text) H'
theorem strsL_shaped {l : List Str} (h : strsOk l) : SeqAt.shaped (.list (l.map PyData.str)) = true := by
  unfold SeqAt.shaped
  simp only [PyData.canLay0, PyData.depth, strs_lay l h, strs_depth l, Bool.true_and]
  decide
theorem strsL_nil (l : List Str) : PyData.eqv (.list (l.map PyData.str)) (.list []) = decide (l = []) := by cases l <;> rfl
theorem dig_sum : ∀ ks : List Nat, ((ks.map digS).map fun z => z.length).sum = ks.length
  | [] => rfl
  | k :: r => by
    rw [List.map_cons, List.map_cons, List.sum_cons, dig_sum r, List.length_cons]
    show 1 + _ = _
    omega
theorem dig_join (ks : List Nat) : (Txt.join (Str.ofString " ") (ks.map digS)).length ≤ 9 * ks.length := by
  have e : (Txt.join (Str.ofString " ") (ks.map digS)).cps.toList = TL.joinL [32] ((ks.map digS).map TL.tl) := by
    rw [TL.join_eq]
    exact TL.tl_join _ _
  rw [str_len, e]
  have h := joinL_len (S := [32]) (by decide) (ps := (ks.map digS).map TL.tl) (by
    intro z hz
    obtain ⟨y, hy, rfl⟩ := List.mem_map.mp hz
    obtain ⟨k, _, rfl⟩ := List.mem_map.mp hy
    show 1 ≤ 8
    decide)
  rw [List.length_map, List.length_map] at h
  exact h
/-- the goals drawn so far -/
inductive GoSt (p D : Addr) (H2 : Hp) (i : Nat) (H' : Hp) : Prop
  | mk (ks : List Nat) (pl : Pl p H2 H') (hD : H' D = some (.lst ((ks.map digS).map V.str))) (lt : ∀ k ∈ ks, k < i) (pw : ks.Pairwise (· < ·)) (ln : ks.length ≤ i)
theorem mkS_len {lab : Option Str} (h : ∀ z, lab = some z → Nm z) : (mkS lab).length ≤ 10 := by
  cases lab with
  | none => show (Str.ofString "").length ≤ 10; decide +kernel
  | some z =>
    have := (h z rfl).2
    show (z ++ Str.ofString ": ").length ≤ 10
    rw [cat_len, show (Str.ofString ": ").length = 2 from by decide +kernel]
    omega
theorem ok_line {f : Addr} {fd : FuncData} {dvs : List V} {kws : List (Str × V)} (T : Tx K mg)
    (F : FunD K "_law_line" "_law_line" (defArgs s__law_line) (defBody s__law_line) (defScope s__law_line) dvs kws f fd) :
    FnG P w K mg base CX0 3 f fd ["_law_pool_here", "_law_tags", "_law_most"] spLine := by
  have c__law_draw : Cal P w K mg base CX0 1 "_law_draw" [] spDraw := c_draw T
  have c__law_tag : Cal P w K mg base CX0 2 "_law_tag" [] spTag := c_tag T
  refine okG F sc__law_line (fun vs H Q E h => ?_) (fun cdv A outer s H vs Q E hr hgd h => ?_)
  · obtain ⟨p, l, ms, m, rfl, _⟩ := h
    rfl
  · obtain ⟨p, l, ms, m, rfl, hp, hl, nlp, m0, few, nm, m1, m10, q⟩ := h
    have hu := hr.units
    have ml : 0 < ms.length := List.length_pos_iff.mpr m0
    have hlen : (ms.map V.str).length = ms.length := List.length_map ..
    refine ⟨_, PSs.nox (pss_cons (ps_par (i := 3) (j := 4) rfl sc__law_line.nd rfl rfl (by decide) rfl rfl (pa_cons (pe_cal c__law_draw (hr.mono (by decide)) hgd pass0 (pa_cons (pv 0) (pa_cons pe_int pa_nil))) (pa_cons (pe_ix ix_list (pv 1) (pe_cal c__law_draw (hr.mono (by decide)) hgd pass0 (pa_cons (pv 0) (pa_cons (pe_callB call_len_seq rfl T.f_len (by decide +kernel) (pa_cons (pv 1) pa_nil)) pa_nil))) (fun _ _ => rfl)) pa_nil)) (by rfl))
    (pss_cons (ps_par (i := 5) (j := 6) rfl sc__law_line.nd rfl rfl (by decide) rfl rfl (pa_cons (pe_callTy call_str_int rfl T.f_str (by decide +kernel) (pa_cons (pe_cal c__law_draw (hr.mono (by decide)) hgd pass0 (pa_cons (pv 0) (pa_cons pe_int pa_nil))) pa_nil)) (pa_cons (pe_callTy call_str_int rfl T.f_str (by decide +kernel) (pa_cons (pe_cal c__law_draw (hr.mono (by decide)) hgd pass0 (pa_cons (pv 0) (pa_cons (pv 2) pa_nil))) pa_nil)) pa_nil)) (by rfl))
    (pss_cons (ps_set (i := 7) sc__law_line.nd rfl (Or.inl rfl) (pe_ifExp (pt_cmpR op_eq (pe_cal c__law_draw (hr.mono (by decide)) hgd pass0 (pa_cons (pv 0) (pa_cons pe_int pa_nil))) pe_int (nomark _)) (pe_op op_add_str (pe_cal c__law_tag (hr.mono (by decide)) hgd pass0 (pa_cons (pv 0) pa_nil)) pe_str) pe_str))
    (pss_cons (ps_if (pt_cmpR op_lt (pv 3) pe_int (nomark _)) (pss_one (ps_ret (pe_op op_add_str (pe_op op_add_str (pv 7) (pe_ix ix_list (pe_lst (pa_cons pe_str (pa_cons pe_str (pa_cons pe_str (pa_cons pe_str pa_nil))))) (pv 3) (fun _ _ => rfl))) (pv 4)))) pss_nil)
    (pss_cons (ps_if (pt_cmpR op_eq (pv 3) pe_int (nomark _)) (pss_one (ps_ret (pe_op op_add_str (pe_op op_add_str (pe_op op_add_str (pe_op op_add_str (pv 7) pe_str) (pv 4)) pe_str) (pv 5)))) pss_nil)
    (pss_cons (ps_if (pt_cmpR op_eq (pv 3) pe_int (nomark _)) (pss_one (ps_ret (pe_op op_add_str (pe_op op_add_str (pe_op op_add_str (pe_op op_add_str (pv 7) pe_str) (pv 4)) pe_str) (pv 6)))) pss_nil)
    (pss_cons (ps_if (pt_cmpR op_eq (pv 3) pe_int (nomark _)) (pss_one (ps_ret (pe_op op_add_str (pe_op op_add_str (pe_op op_add_str (pe_op op_add_str (pe_op op_add_str (pe_op op_add_str (pv 7) pe_str) (pv 4)) pe_str) (pv 5)) pe_str) (pv 6)))) pss_nil)
    (pss_cons (ps_if (pt_cmpR op_eq (pv 3) pe_int (nomark _)) (pss_cons (ps_set (i := 8) sc__law_line.nd rfl (Or.inl rfl) (pe_slice sl_list (pe_lc (own := [("_law_k", 9)]) (g := gName 9) rfl sc__law_line.nd (pi_range1 rfl T.f_range (pa_cons (pv 2) pa_nil)) (blkOk_by (own := [("_law_k", 9)]) (N := n__law_line) (sc := defScope s__law_line) (by decide +kernel)) (fun _ _ _ _ _ => (pg_name (i := 9) sc__law_line.nd rfl (Or.inl rfl))) (fun _ _ _ _ _ => (pts_one (pt_cmpR op_eq (pe_cal c__law_draw (hr.mono (by decide)) hgd pass0 (pa_cons (pv 0) (pa_cons pe_int pa_nil))) pe_int (nomark _)))) (fun _ _ _ _ _ => (pe_callTy call_str_int rfl T.f_str (by decide +kernel) (pa_cons (pv 9) pa_nil)))) po_none (po_some pe_int)))
    (pss_one (ps_ret (pe_op op_add_str (pe_op op_add_str (pv 7) pe_str) (pe_join pe_str (pe_ifExp (pt_cmpR (op_neD hu) (pv 8) (pe_lst pa_nil) (nomark _)) (pv 8) (pe_lst (pa_cons (pv 6) pa_nil)))))))) pss_nil)
    (pss_one (ps_ret (pe_op op_add_str (pv 7) pe_str))))))))))), ?_⟩
    refine mid3 (fun σ' H' => ∃ (way : Int) (g : Str) (d k : Nat) (lab : Option Str), σ' = [some (.ref p), some (.ref l), some (.int (m : Int)), some (.int way), some (.str g), some (.str (digS d)), some (.str (digS k)), some (.str (mkS lab)), none, none] ∧
      Pl p H H' ∧ 0 ≤ way ∧ way < 9 ∧ (Nm g ∧ g ∈ ms) ∧ d < 4 ∧ k < m ∧ (∀ z, lab = some z → Nm z)) ?_ (fun u rest => ?_)
    · rintro σ1 H1 ⟨way, g, d, k, lab, rfl, p1, w0, w9, ⟨ng, gm⟩, d4, km, hlab⟩
      have sz : sizeLine = 16777216 := sizeLine_eq
      have b1 := mkS_len hlab
      have gi : ∀ z, V.str g = .str z → z ∈ ms := fun z hz => V.str.inj hz ▸ gm
      have b2 := ng.2
      have b3 : (digS d).length = 1 := rfl
      have b4 : (digS k).length = 1 := rfl
      have c1 : (Str.ofString "join ").length = 5 := by decide +kernel
      have c2 : (Str.ofString "drop ").length = 5 := by decide +kernel
      have c3 : (Str.ofString "look ").length = 5 := by decide +kernel
      have c4 : (Str.ofString "anew ").length = 5 := by decide +kernel
      have c5 : (Str.ofString "arrive ").length = 7 := by decide +kernel
      have c6 : (Str.ofString "wait ").length = 5 := by decide +kernel
      have c7 : (Str.ofString " else ").length = 6 := by decide +kernel
      have c8 : (Str.ofString "over ").length = 5 := by decide +kernel
      have c9 : (Str.ofString "go ").length = 3 := by decide +kernel
      have c10 : (Str.ofString "end").length = 3 := by decide +kernel
      have c11 : (Str.ofString " ").length = 1 := by decide +kernel
      refine mid1 (fun σ' H' => σ' = [some (.ref p), some (.ref l), some (.int (m : Int)), some (.int way), some (.str g), some (.str (digS d)), some (.str (digS k)), some (.str (mkS lab)), none, none] ∧ Pl p H H' ∧ 4 ≤ way) ?_ (fun u rest => ?_)
      · rintro σ2 H2 ⟨rfl, p2, w4⟩
        walk_at "rd"
        refine iteD (fun h4 => ?_) (fun h4 => ?_)
        · walk_at "rd"
          exact ret_eq (q _ (lab, .arr g d) (by walk_at "g but") ⟨⟨ng, d4⟩, hlab, (fun k hk => nomatch hk), gi⟩) (congrArg V.str (line_arr lab g d).symm)
        walk_at "rd"
        refine iteD (fun h5 => ?_) (fun h5 => ?_)
        · walk_at "rd"
          exact ret_eq (q _ (lab, .wai g k) (by walk_at "g but") ⟨⟨ng, by omega⟩, hlab, fun j hj => List.mem_singleton.mp hj ▸ km, gi⟩) (congrArg V.str (line_wai lab g k).symm)
        walk_at "rd"
        refine iteD (fun h6 => ?_) (fun h6 => ?_)
        · walk_at "rd"
          exact ret_eq (q _ (lab, .ovr g d k) (by walk_at "g but") ⟨⟨ng, d4, by omega⟩, hlab, fun j hj => List.mem_singleton.mp hj ▸ km, gi⟩) (congrArg V.str (line_ovr lab g d k).symm)
        walk_at "rd"
        refine iteD (fun h7 => ?_) (fun h7 => ?_)
        · have hp2 := p2.pool
          walk_at "rd"
          intro D nD
          have nDp : D ≠ p := PoolAt.ne_new hp2 nD
          refine lcW (wk_range 0 _) (fun i H' => GoSt p D H2 i H') (.mk [] (by walk_at "g but") upd_same (fun k hk => by cases hk) .nil (Nat.le_refl _)) (fun _ _ _ _ => trivial) ?_ ?_
          · rintro i x H3 hx ⟨ks, p3, hD, lt, pw, ln⟩
            obtain ⟨rfl, hi⟩ := rng_at hx
            have im : i < m := by omega
            have hp3 := p3.pool
            walk_at "rd"
            intro H4 r p4 r0 rm
            have hD4 := p4.get hD nDp
            have sl := small_log (i := 0 + (i : Int)) (by omega) (by omega)
            have ed : (toString (0 + (i : Int)) : Str) = digS i := by
              have := dig_of (i := 0 + (i : Int)) (by omega) (by omega)
              rw [this]
              congr 1
              omega
            walk_at "rd"
            refine iteD (fun hr => ?_) (fun hr => ?_)
            · walk_at "rd"
              refine ⟨by rw [List.length_map, List.length_map]; omega, .mk (ks ++ [i]) (Pl.own (p3.trans p4) nD nDp) ?_ ?_ ?_ ?_⟩
              · rw [upd_same, List.map_append, List.map_append, ed]
                rfl
              · intro k hk
                rcases List.mem_append.mp hk with hk | hk
                · have := lt k hk; omega
                · rw [List.mem_singleton.mp hk]; omega
              · rw [List.pairwise_append]
                refine ⟨pw, List.pairwise_singleton .., fun a ha b hb => ?_⟩
                rw [List.mem_singleton.mp hb]
                exact lt a ha
              · rw [List.length_append]
                exact Nat.succ_le_succ ln
            · walk_at "rd"
              exact .mk ks (p3.trans p4) hD4 (fun k hk => Nat.lt_succ_of_lt (lt k hk)) pw (Nat.le_succ_of_le ln)
          · rintro H3 ⟨ks, p3, hD, lt, pw, ln⟩
            rw [rngV_len] at lt ln
            have hp3 := p3.pool
            walk_at "rd"
            intro l4 nl4
            have ct : cutV ((ks.map digS).map V.str) none (some 4) = ((ks.take 4).map digS).map V.str := by
              rw [show (4 : Int) = ((4 : Nat) : Int) from rfl, cut_take, List.map_take, List.map_take]
            rw [ct]
            have k4 : (ks.take 4).length ≤ 4 := by rw [List.length_take]; omega
            have kl : ∀ j ∈ ks.take 4, j < m := fun j hj => by have := lt j (List.mem_of_mem_take hj); omega
            have so : strsOk ((ks.take 4).map digS) := fun z hz => by
              obtain ⟨j, hj, rfl⟩ := List.mem_map.mp hz
              exact strOk_of fun c hc => sign_128 (dig_plain (by have := kl j hj; omega) c hc)
            have j1 := dig_join (ks.take 4)
            have j2 : (Txt.join (Str.ofString " ") [digS k]).length ≤ 9 := dig_join [k]
            walk_at "rd"
            intro le nle
            refine ⟨.list (((ks.take 4).map digS).map PyData.str), .list [], .lst (SqL.of (upd_get nle upd_same)) (strs_dpAll _), .lst (SqL.of upd_same) .nil, strsL_shaped so, by decide +kernel, ?_⟩
            rw [strsL_nil]
            walk_at "rd"
            refine iteND (fun hne => ?_) (fun he => ?_)
            · walk_at "rd"
              refine ⟨by rw [dig_sum, List.length_map, c11]; omega, ?_⟩
              walk_at "rd"
              refine ret_eq (q _ (lab, .go (ks.take 4)) (by walk_at "g but") ⟨⟨fun e => hne (by rw [e]; rfl), k4, fun j hj => by have := kl j hj; omega, pw.sublist (List.take_sublist 4 ks)⟩, hlab, kl, fun z hz => nomatch hz⟩) (congrArg V.str (line_go lab (fun e => hne (by rw [e]; rfl))).symm)
            · walk_at "rd"
              intro lg nlg
              walk_at "rd"
              refine ⟨.inl (show SqL _ _ _ (List.map V.str [digS k]) from SqL.of upd_same), ?_, ?_⟩
              · show (digS k).length + 0 + 1 * (Str.ofString " ").length ≤ 16777216
                rw [c11, b4]
                decide
              walk_at "rd"
              exact ret_eq (q _ (lab, .go [k]) (by walk_at "g but") ⟨⟨by simp, by simp, fun j hj => by rw [List.mem_singleton.mp hj]; omega, List.pairwise_singleton ..⟩, hlab, fun j hj => List.mem_singleton.mp hj ▸ km, fun z hz => nomatch hz⟩)
                (congrArg V.str (line_go lab (ks := [k]) (by simp)).symm)
        · walk_at "rd"
          exact ret_eq (q _ (lab, .fin) (by walk_at "g but") ⟨trivial, hlab, (fun k hk => nomatch hk), (fun z hz => nomatch hz)⟩) (congrArg V.str (line_fin lab).symm)
      · walk_at "rd"
        refine iteD (fun w4 => ?_) (fun w4 => ?_)
        · have w4c : way = 0 ∨ way = 1 ∨ way = 2 ∨ way = 3 := by omega
          rcases w4c with rfl | rfl | rfl | rfl
          · walk_at "rd"
            intro t nt
            walk_at "rd"
            exact ret_eq (q _ (lab, .one "join" g) (by walk_at "g but") ⟨⟨by simp [fourW], ng⟩, hlab, (fun k hk => nomatch hk), gi⟩) (congrArg V.str (line_one lab (by decide +kernel)).symm)
          · walk_at "rd"
            intro t nt
            walk_at "rd"
            exact ret_eq (q _ (lab, .one "drop" g) (by walk_at "g but") ⟨⟨by simp [fourW], ng⟩, hlab, (fun k hk => nomatch hk), gi⟩) (congrArg V.str (line_one lab (by decide +kernel)).symm)
          · walk_at "rd"
            intro t nt
            walk_at "rd"
            exact ret_eq (q _ (lab, .one "look" g) (by walk_at "g but") ⟨⟨by simp [fourW], ng⟩, hlab, (fun k hk => nomatch hk), gi⟩) (congrArg V.str (line_one lab (by decide +kernel)).symm)
          · walk_at "rd"
            intro t nt
            walk_at "rd"
            exact ret_eq (q _ (lab, .one "anew" g) (by walk_at "g but") ⟨⟨by simp [fourW], ng⟩, hlab, (fun k hk => nomatch hk), gi⟩) (congrArg V.str (line_one lab (by decide +kernel)).symm)
        · walk_at "rd"
          exact rest _ _ ⟨rfl, p1, by omega⟩
    · walk_at "rd"
      intro H1 way p1 w0 wm
      have hl1 := p1.get hl nlp
      walk_at "rd"
      intro H2 ti p2 t0 tm
      rw [hlen] at tm
      have hl2 := p2.get hl1 nlp
      have tlt : ti.toNat < ms.length := by omega
      have et : atI (ms.map V.str) ti = some (.str ms[ti.toNat]) := at_any (j := ti.toNat) (by omega) (by rw [List.getElem?_map, List.getElem?_eq_getElem tlt]; rfl)
      have ng := nm _ (List.getElem_mem tlt)
      have gmem : ms[ti.toNat] ∈ ms := List.getElem_mem tlt
      walk_at "rd"
      intro H3 d p3 d0 dm
      have sl1 := small_log d0 (by omega)
      walk_at "rd"
      intro H4 k p4 k0 km
      have sl2 := small_log k0 (by omega)
      walk_at "rd"
      intro H5 r p5 r0 rm
      have e1 := dig_of d0 (by omega)
      have e2 := dig_of k0 (by omega)
      walk_at "rd"
      refine iteD (fun _ => ?_) (fun _ => ?_)
      · walk_at "rd"
        intro H6 z p6 vz lz
        walk_at "rd"
        refine ⟨Nat.le_trans (Nat.add_le_add_right lz _) (by decide +kernel), ?_⟩
        walk_at "rd"
        exact rest _ _ ⟨way, ms[ti.toNat], d.toNat, k.toNat, some z, by rw [← e1, ← e2]; rfl, by walk_at "g but", w0, wm, ⟨ng, gmem⟩, by omega, by omega, fun y hy => Option.some.inj hy ▸ ⟨vz, lz⟩⟩
      · walk_at "rd"
        exact rest _ _ ⟨way, ms[ti.toNat], d.toNat, k.toNat, none, by rw [← e1, ← e2]; rfl, by walk_at "g but", w0, wm, ⟨ng, gmem⟩, by omega, by omega, fun y hy => nomatch hy⟩
end
end G
namespace G
open PySem PySem.Spec PyProof.Rows L2
/-- the lines drawn so far -/
inductive LnSt (ms : List Str) (p D : Addr) (H2 : Hp) (m i : Nat) (H' : Hp) : Prop
  | mk (rs : List RwT) (pl : Pl p H2 H') (hD : H' D = some (.lst (rowsV rs))) (ok : ∀ q ∈ rs, LineOk ms q m) (ln : rs.length = i)
section
variable {P : Program} {w : World} {K : PySem.W.Frag} {mg : Str → Option Value} {base : Heap} {CX : CXT}
theorem c_line (T : Tx K mg) : Cal P w K mg base CX0 3 "_law_line" [] spLine := by
  obtain ⟨fd, F⟩ := T.d__law_line
  exact .mk F (ok_line T F) T.n__law_line fun _ _ _ _ _ _ us hl => match us, hl with | [_, _, _], _ => rfl
def spLines : Sp := fun vs H Q _ => ∃ (p l : Addr) (ms : List Str), vs = [.ref p, .ref l] ∧ PoolAt H p ∧ H l = some (.lst (ms.map V.str)) ∧ l ≠ p ∧ ms ≠ [] ∧ ms.length ≤ 10 ∧ (∀ z ∈ ms, Nm z) ∧
  ∀ H' t rs, Pl p H H' → H t = none → H' t = some (.tup (rowsV rs)) → RowsOk rs → (∀ q ∈ rs, ∀ z, q.2.gateV = .str z → z ∈ ms) → Q (.ref t) H'
theorem ok_lines {f : Addr} {fd : FuncData} {dvs : List V} {kws : List (Str × V)} (T : Tx K mg)
    (F : FunD K "_law_lines" "_law_lines" (defArgs s__law_lines) (defBody s__law_lines) (defScope s__law_lines) dvs kws f fd) :
    FnG P w K mg base CX0 4 f fd ["_law_pool_here", "_law_tags"] spLines := by
  have c__law_draw : Cal P w K mg base CX0 1 "_law_draw" [] spDraw := c_draw T
  have c__law_line : Cal P w K mg base CX0 3 "_law_line" [] spLine := c_line T
  refine okG F sc__law_lines (fun vs H Q E h => ?_) (fun cdv A outer s H vs Q E hr hgd h => ?_)
  · obtain ⟨p, l, ms, rfl, _⟩ := h
    rfl
  · obtain ⟨p, l, ms, rfl, hp, hl, nlp, m0, few, nm, q⟩ := h
    have hu := hr.units
    refine ⟨_, PSs.nox (pss_cons (ps_set (i := 2) sc__law_lines.nd rfl (Or.inr rfl) (pe_op op_add pe_int (pe_cal c__law_draw (hr.mono (by decide)) hgd pass0 (pa_cons (pv 0) (pa_cons pe_int pa_nil)))))
    (pss_one (ps_ret (pe_callTy call_tuple_of rfl T.f_tuple (by decide +kernel) (pa_cons (pe_lc (own := [("_law_k", 3)]) (g := gName 3) (tt := tYes) rfl sc__law_lines.nd (pi_range1 rfl T.f_range (pa_cons (pv 2) pa_nil)) (blkOk_by (own := [("_law_k", 3)]) (N := n__law_lines) (sc := defScope s__law_lines) (by decide +kernel)) (fun _ _ _ _ _ => (pg_name (i := 3) sc__law_lines.nd rfl (Or.inl rfl))) (fun _ _ _ _ _ => pts_nil) (fun _ _ _ _ _ => (pe_cal c__law_line (hr.mono (by decide)) hgd pass0 (pa_cons (pv 0) (pa_cons (pv 1) (pa_cons (pv 2) pa_nil)))))) pa_nil))))), ?_⟩
    walk_at "rd"
    intro H1 r p1 r0 rm
    have hl1 := p1.get hl nlp
    have hp1 := p1.pool
    walk_at "rd"
    obtain ⟨m, hm⟩ : ∃ m : Nat, 1 + r = (m : Int) := ⟨(1 + r).toNat, by omega⟩
    rw [hm]
    intro D nD
    have nDp : D ≠ p := PoolAt.ne_new hp1 nD
    have nDl : l ≠ D := ne_of_none hl1 nD
    refine lcW (wk_range 0 _) (fun i H' => LnSt ms p D H1 m i H') (.mk [] (by walk_at "g but") upd_same (fun _ h => by cases h) rfl) (fun _ _ _ _ => trivial) ?_ ?_
    · rintro i x H3 hx ⟨rs, p3, hD, ok, ln⟩
      obtain ⟨rfl, hi⟩ := rng_at hx
      have hp3 := p3.pool
      have hl3 := p3.get hl1 nlp
      walk_at "rd"
      refine ⟨(show [V.ref p, V.ref l, V.int (1 + r)] = [V.ref p, V.ref l, V.int (m : Int)] by rw [hm]), hp3, hl3, nlp, m0, few, nm, by omega, by omega, fun H4 u p4 lo => ?_⟩
      have hD4 := p4.get hD nDp
      refine ⟨_, hD4, by rw [rowsV, List.length_map, ln]; show i < 16777216; omega, .mk (rs ++ [u]) (Pl.own (p3.trans p4) nD nDp) ?_ ?_ ?_⟩
      · rw [upd_same, rowsV, rowsV, List.map_append]
        rfl
      · intro y hy
        rcases List.mem_append.mp hy with hy | hy
        · exact ok y hy
        · rw [List.mem_singleton.mp hy]; exact lo
      · rw [List.length_append, ln]
        rfl
    · rintro H3 ⟨rs, p3, hD, ok, ln⟩
      rw [rngV_len] at ln
      have hp3 := p3.pool
      refine ⟨D, rowsV rs, rfl, .inl ⟨SqL.of hD, fun t nt => q _ t rs (by walk_at "g but") ?_ upd_same ?_ fun u hu2 => (ok u hu2).gin⟩⟩
      · exact (p1.trans p3).free nt
      · exact ⟨by omega, by omega, fun u hu2 => ⟨(ok u hu2).ok, (ok u hu2).lab, fun k hk => by have := (ok u hu2).lt k hk; omega⟩⟩
end
end G
namespace G
open PySem PySem.Spec PyProof.Rows L2
theorem cut_drop (xs : List V) (k : Nat) : cutV xs (some (k : Int)) none = xs.drop k := by
  unfold cutV
  rw [HT.sIx_none, HT.sIx_nat]
  rcases Nat.le_total k xs.length with h | h
  · rw [Nat.min_eq_left h]
    exact List.take_of_length_le (by rw [List.length_drop]; exact Nat.le_refl _)
  · rw [Nat.min_eq_right h, List.drop_of_length_le (Nat.le_refl _), List.drop_of_length_le h, List.take_nil]
/-! ### what is due -/
/-- a tuple (name, rows, many, members) stands at d -/
def DueAt (H : Hp) (d : Addr) (k : KindT) : Prop := ∃ t m, H d = some (.tup [.str k.n, .ref t, .bl k.b, .ref m]) ∧ H t = some (.tup (rowsV k.rs)) ∧ H m = some (.tup (k.ms.map V.str))
theorem DueAt.same {H H' : Hp} {d : Addr} {k : KindT} (h : DueAt H d k) (s : Same H H') : DueAt H' d k := by
  obtain ⟨t, m, h1, h2, h3⟩ := h
  exact ⟨t, m, s _ _ h1, s _ _ h2, s _ _ h3⟩
theorem DueAt.pl {H H' : Hp} {d p : Addr} {k : KindT} (h : DueAt H d k) (hp : PoolAt H p) (s : Pl p H H') : DueAt H' d k := by
  obtain ⟨t, m, h1, h2, h3⟩ := h
  exact ⟨t, m, s.obj hp h1 rfl, s.obj hp h2 rfl, s.obj hp h3 rfl⟩
structure KindOk4 (k : KindT) : Prop where
  ok : KindOk k
  few : k.ms.length ≤ 4
/-! ### what a text of texts measures -/
theorem join_le {B : Nat} : ∀ ts : List Str, (∀ t ∈ ts, t.length ≤ B) → (Str.join (Str.ofString ", ") ts).length ≤ (B + 2) * ts.length
  | [], _ => Nat.zero_le _
  | [t], h => by
    have := h t List.mem_cons_self
    show t.length ≤ (B + 2) * 1
    omega
  | t :: u :: r, h => by
    have h1 := h t List.mem_cons_self
    have h2 := join_le (B := B) (u :: r) fun y hy => h y (List.mem_cons_of_mem _ hy)
    show (t ++ Str.ofString ", " ++ Str.join (Str.ofString ", ") (u :: r)).length ≤ (B + 2) * ((u :: r).length + 1)
    rw [cat_len, cat_len, show (Str.ofString ", ").length = 2 from by decide +kernel, Nat.mul_add]
    omega
theorem tupleText_le {B : Nat} {ts : List Str} (h : ∀ t ∈ ts, t.length ≤ B) : (tupleText ts).length ≤ (B + 2) * ts.length + 3 := by
  have h1 := join_le ts h
  unfold tupleText
  have e1 : (Str.ofString "(").length = 1 := by decide +kernel
  have e2 : (Str.ofString ",)").length = 2 := by decide +kernel
  have e3 : (Str.ofString ")").length = 1 := by decide +kernel
  split
  · show (Str.ofString "(" ++ Str.join (Str.ofString ", ") ts ++ Str.ofString ",)").length ≤ _
    rw [cat_len, cat_len]
    omega
  · show (Str.ofString "(" ++ Str.join (Str.ofString ", ") ts ++ Str.ofString ")").length ≤ _
    rw [cat_len, cat_len]
    omega
theorem repr_128 {z : Str} (h : ∀ c ∈ z.cps.toList, c < 128) : (reprText z).length ≤ 10 * z.length + 2 := by
  have k := PySem.StrLaws.reprText_len z (fun c hc => Nat.lt_trans (h c hc) (by decide))
  omega
theorem strsD_shown {l : List Str} {B : Nat} (h : ∀ z ∈ l, (reprText z).length ≤ B) : (strsD l).shown.length ≤ (B + 2) * l.length + 3 := by
  have e : ∀ l : List Str, PyData.shownAll (l.map PyData.str) = l.map reprText := by
    intro l
    induction l with
    | nil => rfl
    | cons z l ih => rw [List.map_cons, List.map_cons, ← ih]; rfl
  show (tupleText (PyData.shownAll (l.map PyData.str))).length ≤ _
  rw [e]
  have k := tupleText_le (B := B) (ts := l.map reprText) (by
    intro t ht
    obtain ⟨z, hz, rfl⟩ := List.mem_map.mp ht
    exact h z hz)
  rw [List.length_map] at k
  exact k
theorem strs_show : ∀ l : List Str, PyData.showableAll (l.map PyData.str) = true
  | [] => rfl
  | z :: l => strs_show l
theorem strs_noDict : ∀ l : List Str, PyData.hasDictAll (l.map PyData.str) = false
  | [] => rfl
  | z :: l => strs_noDict l
theorem rowText_128 {q : RwT} (h : q.2.Ok) (hl : ∀ z, q.1 = some z → Nm z) : ∀ c ∈ q.text.cps.toList, c < 128 := by
  intro c hc
  obtain ⟨l, r⟩ := q
  cases l with
  | none => exact rwText_128 h c hc
  | some z =>
    have e : (RwT.text (some z, r)).cps.toList = z.cps.toList ++ (Str.ofString ": ").cps.toList ++ (rwText r).cps.toList := by
      show (z ++ Str.ofString ": " ++ rwText r).cps.toList = _
      rw [cat_list, cat_list]
    rw [e] at hc
    rcases List.mem_append.mp hc with hc | hc
    · rcases List.mem_append.mp hc with hc | hc
      · exact sign_128 (nm_plain (hl z rfl) c hc)
      · have a : ∀ c ∈ (Str.ofString ": ").cps.toList, c < 128 := by decide +kernel
        exact a c hc
    · exact rwText_128 h c hc
/-! ### (name, rows, many, members) as data -/
def dueD (k : KindT) : PyData := .tuple [.str k.n, strsD (texts k.rs), .bool k.b, strsD k.ms]
theorem due_show (k : KindT) : (dueD k).showable = true ∧ (dueD k).hasDict = false ∧ (dueD k).depth ≤ 60 := by
  refine ⟨?_, ?_, ?_⟩
  · show (true && ((PyData.showableAll _) && (true && ((PyData.showableAll _) && true)))) = true
    rw [strs_show, strs_show]
    rfl
  · show (false || ((PyData.hasDictAll _) || (false || ((PyData.hasDictAll _) || false)))) = false
    rw [strs_noDict, strs_noDict]
    rfl
  · simp only [dueD, strsD, PyData.depth, PyData.depthAll, strs_depth]
    decide
theorem due_len_n {k : KindT} (h : KindOk4 k) : (dueD k).shown.length ≤ 24011 := by
  have h1 : (reprText k.n).length ≤ 82 := by
    have a := repr_128 (z := k.n) fun c hc => sign_128 (nm_plain h.ok.nm c hc)
    have b := h.ok.nm.2
    omega
  have h2 : (strsD (texts k.rs)).shown.length ≤ 554 * 10 + 3 := by
    have a := strsD_shown (l := texts k.rs) (B := 552) (by
      intro z hz
      obtain ⟨q, hq, rfl⟩ := List.mem_map.mp hz
      obtain ⟨o, l, _⟩ := h.ok.ro.ok q hq
      have b := rowText_len (l := q.1) o l
      have c := repr_128 (z := q.text) (rowText_128 o l)
      have d : q.text.length ≤ 55 := b
      omega)
    have e : (texts k.rs).length = k.rs.length := List.length_map ..
    have t := h.ok.ro.ten
    rw [e] at a
    omega
  have h3 : (strsD k.ms).shown.length ≤ 84 * 4 + 3 := by
    have a := strsD_shown (l := k.ms) (B := 82) (by
      intro z hz
      have nz := h.ok.mo.nm z hz
      have b := repr_128 (z := z) fun c hc => sign_128 (nm_plain nz c hc)
      have c := nz.2
      omega)
    have t := h.few
    omega
  have h4 : (PyData.bool k.b).shown.length ≤ 5 := by
    cases k.b <;> decide +kernel
  have a := tupleText_le (B := 6000) (ts := [reprText k.n, (strsD (texts k.rs)).shown, (PyData.bool k.b).shown, (strsD k.ms).shown]) (by
    intro t ht
    simp only [List.mem_cons, List.not_mem_nil, or_false] at ht
    rcases ht with rfl | rfl | rfl | rfl
    · omega
    · omega
    · omega
    · omega)
  show (tupleText [reprText k.n, (strsD (texts k.rs)).shown, (PyData.bool k.b).shown, (strsD k.ms).shown]).length ≤ 24011
  exact Nat.le_trans a (show (6000 + 2) * 4 + 3 ≤ 24011 by decide)
theorem due_len {k : KindT} (h : KindOk4 k) : (dueD k).shown.length ≤ sizeLine := by
  rw [sizeLine_eq]
  exact Nat.le_trans (due_len_n h) (by decide)
theorem due_dp' {K : PySem.W.Frag} {H : Hp} {d t m : Addr} {k : KindT} (h1 : H d = some (.tup [.str k.n, .ref t, .bl k.b, .ref m])) (h2 : H t = some (.tup (rowsV k.rs))) (h3 : MemAt K H m k.ms) : Dp K H (.ref d) (dueD k) :=
  .tup (SqT.of h1) (.cons (.str _) (.cons (strs_dp (by rw [← rowsV_texts]; exact SqT.of h2)) (.cons (.bl _) (.cons (strs_dp h3.sq) .nil))))
theorem due_dp {K : PySem.W.Frag} {H : Hp} {d : Addr} {k : KindT} (h : DueAt H d k) : Dp K H (.ref d) (dueD k) := by
  obtain ⟨t, m, h1, h2, h3⟩ := h
  exact due_dp' h1 h2 (.inl h3)
theorem due_shaped {k : KindT} (h : KindOk4 k) : SeqAt.shaped (dueD k) = true := by
  unfold SeqAt.shaped dueD strsD
  simp only [PyData.canLay0, PyData.canLayAll0, PyData.depth, PyData.depthAll, strs_lay _ (texts_ok h.ok.ro), strs_lay _ (show strsOk k.ms from fun z hz => nm_ok (h.ok.mo.nm z hz)), strs_depth, nm_ok h.ok.nm, Bool.true_and]
  decide
theorem due_eqv (k k' : KindT) : PyData.eqv (dueD k) (dueD k') = kEq k k' := by
  show (PyData.eqv (.str k.n) (.str k'.n) && (PyData.eqv (strsD (texts k.rs)) (strsD (texts k'.rs)) && (PyData.eqv (.bool k.b) (.bool k'.b) && (PyData.eqv (strsD k.ms) (strsD k'.ms) && true)))) = _
  rw [strs_eqv, strs_eqv]
  have e1 : PyData.eqv (.str k.n) (.str k'.n) = decide (k.n = k'.n) := by
    show (k.n == k'.n) = decide (k.n = k'.n)
    by_cases h : k.n = k'.n
    · rw [h]; simp
    · simp [h]
  have e2 : PyData.eqv (.bool k.b) (.bool k'.b) = decide (k.b = k'.b) := by
    cases k.b <;> cases k'.b <;> rfl
  rw [e1, e2]
  unfold kEq
  rw [Bool.and_true, Bool.and_assoc, Bool.and_assoc]
theorem small_ok : ∀ n : Nat, n ≤ 10 → (PyData.int (n : Int)).showable = true ∧ (PyData.int (n : Int)).hasDict = false ∧ (PyData.int (n : Int)).depth ≤ 60 ∧ (PyData.int (n : Int)).shown.length ≤ sizeLine := by
  have a : ∀ n : Fin 11, (PyData.int ((n.val : Nat) : Int)).showable = true ∧ (PyData.int ((n.val : Nat) : Int)).hasDict = false ∧ (PyData.int ((n.val : Nat) : Int)).depth ≤ 60 ∧ (PyData.int ((n.val : Nat) : Int)).shown.length ≤ sizeLine := by decide +kernel
  intro n h
  exact a ⟨n, by omega⟩
end G
namespace G
open PySem PySem.Spec PyProof.Rows L2
/-! ### gates drawn -/
/-- a list of pairs (name, within) -/
structure PairsAt (H : Hp) (l : Addr) (ps : List Addr) (gs : List GateT) : Prop where
  lst : H l = some (.lst (ps.map V.ref))
  ln : ps.length = gs.length
  at_ : ∀ (i : Nat) (a : Addr) (g : GateT), ps[i]? = some a → gs[i]? = some g → H a = some (.tup [.str g.1, gWith g.2])
theorem PairsAt.item {H : Hp} {l : Addr} {ps : List Addr} {gs : List GateT} {i : Nat} {x : V} (h : PairsAt H l ps gs) (hx : (ps.map V.ref)[i]? = some x) :
    ∃ a g, x = .ref a ∧ ps[i]? = some a ∧ gs[i]? = some g ∧ H a = some (.tup [.str g.1, gWith g.2]) := by
  have lt := (List.getElem?_eq_some_iff.mp hx).1
  rw [List.length_map] at lt
  rw [List.getElem?_map, List.getElem?_eq_getElem lt] at hx
  have lg : i < gs.length := by rw [← h.ln]; exact lt
  exact ⟨ps[i], gs[i], (Option.some.inj hx).symm, List.getElem?_eq_getElem lt, List.getElem?_eq_getElem lg, h.at_ i _ _ (List.getElem?_eq_getElem lt) (List.getElem?_eq_getElem lg)⟩
theorem PairsAt.same {H H' : Hp} {l : Addr} {ps : List Addr} {gs : List GateT} (h : PairsAt H l ps gs) (s : Same H H') : PairsAt H' l ps gs :=
  ⟨s _ _ h.lst, h.ln, fun i a g h1 h2 => s _ _ (h.at_ i a g h1 h2)⟩
theorem PairsAt.pl {H H' : Hp} {l p : Addr} {ps : List Addr} {gs : List GateT} (h : PairsAt H l ps gs) (hp : PoolAt H p) (n : l ≠ p) (s : Pl p H H') : PairsAt H' l ps gs :=
  ⟨s.get h.lst n, h.ln, fun i a g h1 h2 => s.obj hp (h.at_ i a g h1 h2) rfl⟩
theorem PairsAt.snoc {H : Hp} {l T : Addr} {ps : List Addr} {gs : List GateT} {n : Str} {o : Option Str} (h : PairsAt H l ps gs) (nT : H T = none) :
    PairsAt (upd (upd H T (.tup [.str n, gWith o])) l (.lst (ps.map V.ref ++ [.ref T]))) l (ps ++ [T]) (gs ++ [(n, o)]) := by
  refine ⟨by rw [upd_same, List.map_append]; rfl, by rw [List.length_append, List.length_append, h.ln]; rfl, fun i a g h1 h2 => ?_⟩
  have nTl : T ≠ l := (ne_of_none h.lst nT).symm
  rcases Nat.lt_or_ge i ps.length with lt | ge
  · rw [List.getElem?_append_left lt] at h1
    rw [List.getElem?_append_left (by rw [← h.ln]; exact lt)] at h2
    have e := h.at_ i a g h1 h2
    rw [upd_ne (ne_of e h.lst (by intro e; cases e))]
    exact upd_get nT e
  · have li := (List.getElem?_eq_some_iff.mp h1).1
    rw [List.length_append] at li
    have e : i = ps.length := by
      have : [T].length = 1 := rfl
      omega
    subst e
    rw [List.getElem?_append_right (Nat.le_refl _), Nat.sub_self] at h1
    rw [h.ln, List.getElem?_append_right (Nat.le_refl _), Nat.sub_self] at h2
    obtain rfl := Option.some.inj h1
    obtain rfl := Option.some.inj h2
    rw [upd_ne nTl, upd_same]
/-- gates so far -/
structure GatesPre (gs : List GateT) : Prop where
  nm : ∀ g ∈ gs, Nm g.1
  nd : (gnames gs).Nodup
  wi : ∀ (i : Nat) (n z : Str), gs[i]? = some (n, some z) → z ∈ gnames (gs.take i)
theorem GatesPre.snoc {gs : List GateT} (h : GatesPre gs) {n : Str} {o : Option Str} (nn : Nm n) (nf : n ∉ gnames gs) (ho : ∀ z, o = some z → z ∈ gnames gs) : GatesPre (gs ++ [(n, o)]) := by
  refine ⟨fun g hg => ?_, ?_, fun i m z hi => ?_⟩
  · rcases List.mem_append.mp hg with hg | hg
    · exact h.nm g hg
    · rw [List.mem_singleton.mp hg]; exact nn
  · unfold gnames
    rw [List.map_append, List.nodup_append]
    refine ⟨h.nd, List.nodup_cons.mpr ⟨by simp, List.nodup_nil⟩, fun a ha b hb => ?_⟩
    rw [List.mem_singleton.mp hb]
    rintro rfl
    exact nf ha
  · rcases Nat.lt_or_ge i gs.length with lt | ge
    · rw [List.getElem?_append_left lt] at hi
      have := h.wi i m z hi
      rw [List.take_append_of_le_length (Nat.le_of_lt lt)]
      exact this
    · have li := (List.getElem?_eq_some_iff.mp hi).1
      rw [List.length_append] at li
      have e : i = gs.length := by
        have : [(n, o)].length = 1 := rfl
        omega
      subst e
      rw [List.getElem?_append_right (Nat.le_refl _), Nat.sub_self] at hi
      have e2 := Option.some.inj hi
      rw [List.take_append_of_le_length (Nat.le_refl _), List.take_length]
      exact ho z (congrArg Prod.snd e2)
inductive ForSt (p l : Addr) (H0 : Hp) (i : Nat) (σ : L2.St) (H' : Hp) : Prop
  | mk (ps : List Addr) (gs : List GateT) (a b c : Option V) (eσ : σ = [some (.ref p), some (.ref l), a, b, c]) (pl : Pl p H0 H') (at_ : PairsAt H' l ps gs) (ok : GatesPre gs) (ln : gs.length = i)
section
variable {P : Program} {w : World} {K : PySem.W.Frag} {mg : Str → Option Value} {base : Heap} {CX : CXT}
def spForest : Sp := fun vs H Q _ => ∃ p : Addr, vs = [.ref p] ∧ PoolAt H p ∧ ∀ H' l ps gs, Pl p H H' → H l = none → l ≠ p → PairsAt H' l ps gs → GatesOk gs → Q (.ref l) H'
theorem ok_forest {f : Addr} {fd : FuncData} {dvs : List V} {kws : List (Str × V)} (T : Tx K mg)
    (F : FunD K "_law_forest" "_law_forest" (defArgs s__law_forest) (defBody s__law_forest) (defScope s__law_forest) dvs kws f fd) :
    FnG P w K mg base CX0 4 f fd ["_law_pool_here"] spForest := by
  have c__law_draw : Cal P w K mg base CX0 1 "_law_draw" [] spDraw := c_draw T
  have c__law_new : Cal P w K mg base CX0 3 "_law_new" [] spNew := c_new T
  refine okG F sc__law_forest (fun vs H Q E h => ?_) (fun cdv A outer s H vs Q E hr hgd h => ?_)
  · obtain ⟨p, rfl, _⟩ := h
    rfl
  · obtain ⟨p, rfl, hp, q⟩ := h
    have hu := hr.units
    refine ⟨_, PSs.nox (pss_cons (ps_set (i := 1) sc__law_forest.nd rfl (Or.inl rfl) (pe_lst pa_nil))
    (pss_cons (ps_for PassesOwn.never rfl (pi_range1 rfl T.f_range (pa_cons (pe_op op_add pe_int (pe_cal c__law_draw (hr.mono (by decide)) hgd pass0 (pa_cons (pv 0) (pa_cons pe_int pa_nil)))) pa_nil)) (pg_name (i := 2) sc__law_forest.nd rfl (Or.inl rfl))
      (pss_cons (ps_set (i := 3) sc__law_forest.nd rfl (Or.inl rfl) (pe_ifExp (PW.pt (pw_or (pt_cmpR op_eq (pv 2) pe_int (nomark _)) (pw_or1 (pt_cmpR op_eq (pe_cal c__law_draw (hr.mono (by decide)) hgd pass0 (pa_cons (pv 0) (pa_cons pe_int pa_nil))) pe_int (nomark _))))) pe_non (pe_ix ix_tup (pe_ix ix_list (pv 1) (pe_cal c__law_draw (hr.mono (by decide)) hgd pass0 (pa_cons (pv 0) (pa_cons (pv 2) pa_nil))) (fun _ _ => rfl)) pe_int (fun _ _ => rfl))))
    (pss_one (ps_expr (pe_bm PySem.F.plainAttrs_list PySem.F.slot_list_append PySem.F.type_list_append mt_append (pv 1) (pa_cons (pe_tup (pa_cons (pe_cal c__law_new (hr.mono (by decide)) hgd pass0 (pa_cons (pv 0) (pa_cons (pe_lc (own := [("_law_pair", 4)]) (g := gName 4) (tt := tYes) rfl sc__law_forest.nd (pi_list (pv 1)) (blkOk_by (own := [("_law_pair", 4)]) (N := n__law_forest) (sc := defScope s__law_forest) (by decide +kernel)) (fun _ _ _ _ _ => (pg_name (i := 4) sc__law_forest.nd rfl (Or.inl rfl))) (fun _ _ _ _ _ => pts_nil) (fun _ _ _ _ _ => (pe_ix (ixK (K := K) (r := rIxT) rfl ix_tup) (pv 4) pe_int (fun _ _ => rfl)))) pa_nil))) (pa_cons (pv 3) pa_nil))) pa_nil))))))
    (pss_one (ps_ret (pv 1))))), ?_⟩
    walk_at "rd"
    intro l nl
    have nlp : l ≠ p := PoolAt.ne_new hp nl
    walk_at "rd"
    intro H1 r p1 r0 rm
    have hl1 := p1.get (upd_same : upd H l (.lst []) l = some (.lst [])) nlp
    walk_at "rd"
    refine forW (wk_range 0 _) (fun i σ H' => ForSt p l H i σ H') ?_ (fun _ _ _ _ _ => trivial) ?_ ?_
    · exact .mk [] [] _ _ _ rfl (Pl.trans ⟨(But.refl _ _).new nl, hp.new nl⟩ p1) ⟨hl1, rfl, fun i a g h _ => by simp at h⟩ ⟨fun g hg => by simp at hg, List.nodup_nil, fun i n z h => by simp at h⟩ rfl
    · rintro i x σ H2 hx ⟨ps, gs, a, b, c, rfl, p2, pa, gp, ln⟩
      obtain ⟨rfl, hi⟩ := rng_at hx
      have hp2 := p2.pool
      have hll := pa.lst
      refine mid1 (fun σ' H' => ∃ (o : Option Str) (e : Option V), σ' = [some (.ref p), some (.ref l), some (.int (0 + (i : Int))), some (gWith o), e] ∧ Pl p H H' ∧ PairsAt H' l ps gs ∧ (∀ z, o = some z → z ∈ gnames gs)) ?_ (fun u rest => ?_)
      · rintro σ3 H3 ⟨o, e, rfl, p3, pa3, ho⟩
        have hl3 := pa3.lst
        have hp3 := p3.pool
        walk_at "rd"
        refine ⟨.inl ⟨rfl, _, SqL.of hl3⟩, ?_⟩
        walk_at "rd"
        refine ⟨⟨_, SqL.of hl3⟩, ?_⟩
        intro D nD
        have nDp : D ≠ p := PoolAt.ne_new hp3 nD
        have g3 : gs.length ≤ 2 := by omega
        refine lcW (wk_list (ps.map V.ref)) (fun j H' => H' = upd H3 D (.lst ((gnames (gs.take j)).map V.str))) rfl (fun j H' _ e => by rw [e]; exact SqL.of (upd_get nD hl3)) ?_ ?_
        · rintro j x H' hx rfl
          obtain ⟨y, g, rfl, hy, hg, et⟩ := pa3.item hx
          have et2 := upd_get (o := .lst ((gnames (gs.take j)).map V.str)) nD et
          have lj := (List.getElem?_eq_some_iff.mp hg).1
          walk_at "rd"
          refine ⟨by rw [List.length_map, gnames_len, List.length_take]; show _ < 16777216; omega, ?_⟩
          rw [upd_upd, gnames_snoc hg, List.map_append]
          rfl
        · rintro H' rfl
          have la : (ps.map V.ref).length = gs.length := by rw [List.length_map, pa3.ln]
          rw [la, List.take_of_length_le (Nat.le_refl _)]
          have hpD := hp3.new (o := .lst ((gnames gs).map V.str)) nD
          have hD : (upd H3 D (.lst ((gnames gs).map V.str))) D = some (.lst ((gnames gs).map V.str)) := upd_same
          have nl10 : (gnames gs).length ≤ 10 := by rw [gnames_len]; omega
          have pa4 := pa3.same ((Same.refl H3).new nD (o := .lst ((gnames gs).map V.str)))
          walk_at "rd"
          intro H5 z p5 nz ni
          have pa5 := pa4.pl hpD nlp p5
          have hl5 := pa5.lst
          walk_at "rd"
          intro T nT
          have hl6 := upd_get (o := .tup [.str z, gWith o]) nT hl5
          have lps : (ps.map V.ref).length < sizeLine := by rw [la, sizeLine_eq]; omega
          walk_at "rd"
          refine .mk (ps ++ [T]) (gs ++ [(z, o)]) _ _ _ rfl ?_ (pa5.snoc nT) (gp.snoc nz ni ho) (by rw [List.length_append, ln]; rfl)
          exact Pl.own (((p3.new nD).trans p5).new nT) nl nlp
      · walk_at "rd"
        refine iteD (fun h0 => ?_) (fun h0 => ?_)
        · walk_at "rd"
          exact rest _ _ ⟨none, _, rfl, p2, pa, fun z hz => nomatch hz⟩
        · have i0 : 0 < i := by
            rcases Nat.eq_zero_or_pos i with e | e
            · subst e; exact absurd rfl h0
            · exact e
          walk_at "rd"
          intro H3 r3 p3 r30 r3m
          have hp3 := p3.pool
          have pa3 := pa.pl hp2 nlp p3
          have hl3 := pa3.lst
          walk_at "rd"
          refine iteD (fun h1 => ?_) (fun h1 => ?_)
          · walk_at "rd"
            exact rest _ _ ⟨none, _, rfl, p2.trans p3, pa3, fun z hz => nomatch hz⟩
          · walk_at "rd"
            intro H4 j p4 j0 jm
            have pa4 := pa3.pl hp3 nlp p4
            have hl4 := pa4.lst
            have lj : j.toNat < ps.length := by rw [pa.ln]; omega
            have lg : j.toNat < gs.length := by omega
            have ea : atI (ps.map V.ref) j = some (.ref ps[j.toNat]) := at_any (j := j.toNat) (by omega) (by rw [List.getElem?_map, List.getElem?_eq_getElem lj]; rfl)
            have et := pa4.at_ j.toNat _ _ (List.getElem?_eq_getElem lj) (List.getElem?_eq_getElem lg)
            walk_at "rd"
            exact rest _ _ ⟨some gs[j.toNat].1, _, rfl, (p2.trans p3).trans p4, pa4, fun z hz => Option.some.inj hz ▸ List.mem_map.mpr ⟨_, List.getElem_mem lg, rfl⟩⟩
    · rintro σ H2 ⟨ps, gs, a, b, c, rfl, p2, pa, gp, ln⟩
      rw [rngV_len] at ln
      walk_at "rd"
      exact q H2 l ps gs p2 nl nlp pa ⟨by omega, by omega, gp.nm, gp.nd, gp.wi⟩
theorem c_forest (T : Tx K mg) : Cal P w K mg base CX0 4 "_law_forest" [] spForest := by
  obtain ⟨fd, F⟩ := T.d__law_forest
  exact .mk F (ok_forest T F) T.n__law_forest fun _ _ _ _ _ _ us hl => match us, hl with | [_], _ => rfl
end
end G
namespace G
open PySem PySem.Spec PyProof.Rows L2
/-! ### kinds drawn -/
structure SortsAt (H : Hp) (l : Addr) (qs : List Addr) (ks : List KindT) : Prop where
  lst : H l = some (.lst (qs.map V.ref))
  ln : qs.length = ks.length
  at_ : ∀ (i : Nat) (a : Addr) (k : KindT), qs[i]? = some a → ks[i]? = some k → DueAt H a k
theorem SortsAt.item {H : Hp} {l : Addr} {qs : List Addr} {ks : List KindT} {i : Nat} {x : V} (h : SortsAt H l qs ks) (hx : (qs.map V.ref)[i]? = some x) :
    ∃ a k, x = .ref a ∧ qs[i]? = some a ∧ ks[i]? = some k ∧ DueAt H a k := by
  have lt := (List.getElem?_eq_some_iff.mp hx).1
  rw [List.length_map] at lt
  rw [List.getElem?_map, List.getElem?_eq_getElem lt] at hx
  have lg : i < ks.length := by rw [← h.ln]; exact lt
  exact ⟨qs[i], ks[i], (Option.some.inj hx).symm, List.getElem?_eq_getElem lt, List.getElem?_eq_getElem lg, h.at_ i _ _ (List.getElem?_eq_getElem lt) (List.getElem?_eq_getElem lg)⟩
theorem SortsAt.same {H H' : Hp} {l : Addr} {qs : List Addr} {ks : List KindT} (h : SortsAt H l qs ks) (s : Same H H') : SortsAt H' l qs ks :=
  ⟨s _ _ h.lst, h.ln, fun i a g h1 h2 => (h.at_ i a g h1 h2).same s⟩
theorem SortsAt.pl {H H' : Hp} {l p : Addr} {qs : List Addr} {ks : List KindT} (h : SortsAt H l qs ks) (hp : PoolAt H p) (n : l ≠ p) (s : Pl p H H') : SortsAt H' l qs ks :=
  ⟨s.get h.lst n, h.ln, fun i a g h1 h2 => (h.at_ i a g h1 h2).pl hp s⟩
/-- a list is written: what is due stays -/
theorem DueAt.lst {H : Hp} {l d : Addr} {xs ys : List V} {k : KindT} (h : DueAt H d k) (hl : H l = some (.lst xs)) : DueAt (upd H l (.lst ys)) d k := by
  obtain ⟨t, m, h1, h2, h3⟩ := h
  exact ⟨t, m, by rw [upd_ne (ne_of h1 hl (by intro e; cases e))]; exact h1, by rw [upd_ne (ne_of h2 hl (by intro e; cases e))]; exact h2, by rw [upd_ne (ne_of h3 hl (by intro e; cases e))]; exact h3⟩
theorem SortsAt.snoc {H : Hp} {l d : Addr} {qs : List Addr} {ks : List KindT} {k : KindT} (h : SortsAt H l qs ks) (hd : DueAt H d k) :
    SortsAt (upd H l (.lst (qs.map V.ref ++ [.ref d]))) l (qs ++ [d]) (ks ++ [k]) := by
  refine ⟨by rw [upd_same, List.map_append]; rfl, by rw [List.length_append, List.length_append, h.ln]; rfl, fun i a g h1 h2 => ?_⟩
  rcases Nat.lt_or_ge i qs.length with lt | ge
  · rw [List.getElem?_append_left lt] at h1
    rw [List.getElem?_append_left (by rw [← h.ln]; exact lt)] at h2
    exact (h.at_ i a g h1 h2).lst h.lst
  · have li := (List.getElem?_eq_some_iff.mp h1).1
    rw [List.length_append] at li
    have e : i = qs.length := by
      have : [d].length = 1 := rfl
      omega
    subst e
    rw [List.getElem?_append_right (Nat.le_refl _), Nat.sub_self] at h1
    rw [h.ln, List.getElem?_append_right (Nat.le_refl _), Nat.sub_self] at h2
    obtain rfl := Option.some.inj h1
    obtain rfl := Option.some.inj h2
    exact hd.lst h.lst
structure KindsPre (tags : List Str) (ks : List KindT) : Prop where
  ok : ∀ k ∈ ks, KindOk4 k
  nd : (knames ks).Nodup
  na : ∀ k ∈ ks, ∀ z ∈ named k, z ∈ tags
theorem KindsPre.snoc {tags : List Str} {ks : List KindT} {k : KindT} (h : KindsPre tags ks) (ok : KindOk4 k) (nf : k.n ∉ knames ks) (na : ∀ z ∈ named k, z ∈ tags) : KindsPre tags (ks ++ [k]) := by
  refine ⟨fun g hg => ?_, ?_, fun g hg => ?_⟩
  · rcases List.mem_append.mp hg with hg | hg
    · exact h.ok g hg
    · rw [List.mem_singleton.mp hg]; exact ok
  · unfold knames
    rw [List.map_append, List.nodup_append]
    refine ⟨h.nd, List.nodup_cons.mpr ⟨by simp, List.nodup_nil⟩, fun a ha b hb => ?_⟩
    rw [List.mem_singleton.mp hb]
    rintro rfl
    exact nf ha
  · rcases List.mem_append.mp hg with hg | hg
    · exact h.na g hg
    · rw [List.mem_singleton.mp hg]; exact na
inductive BgSt (tags : List Str) (p D : Addr) (H0 : Hp) (j : Nat) (H' : Hp) : Prop
  | mk (acc : List Str) (pl : Pl p H0 H') (hD : H' D = some (.lst (acc.map V.str))) (sub : acc.Sublist (tags.take j))
inductive SoSt (tags : List Str) (p l0 l : Addr) (H0 : Hp) (i : Nat) (σ : L2.St) (H' : Hp) : Prop
  | mk (qs : List Addr) (ks : List KindT) (a : List (Option V)) (eσ : σ = some (.ref p) :: some (.ref l0) :: some (.ref l) :: a) (al : a.length = 8) (pl : Pl p H0 H') (at_ : SortsAt H' l qs ks) (ok : KindsPre tags ks) (ln : ks.length = i)
section
variable {P : Program} {w : World} {K : PySem.W.Frag} {mg : Str → Option Value} {base : Heap} {CX : CXT}
def spSorts : Sp := fun vs H Q _ => ∃ (p l0 : Addr), vs = [.ref p, .ref l0] ∧ PoolAt H p ∧ l0 ≠ p ∧ ∃ tags : List Str, H l0 = some (.lst (tags.map V.str)) ∧ tags ≠ [] ∧ tags.length ≤ 3 ∧ (∀ z ∈ tags, Nm z) ∧ tags.Nodup ∧
  ∀ H' l qs ks, Pl p H H' → H l = none → l ≠ p → SortsAt H' l qs ks → KindsPre tags ks → 1 ≤ ks.length → ks.length ≤ 4 → Q (.ref l) H'
theorem ok_sorts {f : Addr} {fd : FuncData} {dvs : List V} {kws : List (Str × V)} (T : Tx K mg)
    (F : FunD K "_law_sorts" "_law_sorts" (defArgs s__law_sorts) (defBody s__law_sorts) (defScope s__law_sorts) dvs kws f fd) :
    FnG P w K mg base CX0 5 f fd ["_law_pool_here", "_law_tags"] spSorts := by
  have c__law_draw : Cal P w K mg base CX0 1 "_law_draw" [] spDraw := c_draw T
  have c__law_new : Cal P w K mg base CX0 3 "_law_new" [] spNew := c_new T
  have c__law_lines : Cal P w K mg base CX0 4 "_law_lines" [] spLines := by
    obtain ⟨fd, F⟩ := T.d__law_lines
    exact .mk F (ok_lines T F) T.n__law_lines fun _ _ _ _ _ _ us hl => match us, hl with | [_, _], _ => rfl
  refine okG F sc__law_sorts (fun vs H Q E h => ?_) (fun cdv A outer s H vs Q E hr hgd h => ?_)
  · obtain ⟨p, l0, rfl, _⟩ := h
    rfl
  · obtain ⟨p, l0, rfl, hp, nlp0, tags, hl0, t0, t3, tn, td, q⟩ := h
    have hu := hr.units
    refine ⟨_, PSs.nox (pss_cons (ps_set (i := 2) sc__law_sorts.nd rfl (Or.inl rfl) (pe_lst pa_nil))
    (pss_cons (ps_for PassesOwn.never rfl (pi_range1 rfl T.f_range (pa_cons (pe_op op_add pe_int (pe_cal c__law_draw (hr.mono (by decide)) hgd pass0 (pa_cons (pv 0) (pa_cons pe_int pa_nil)))) pa_nil)) (pg_name (i := 3) sc__law_sorts.nd rfl (Or.inl rfl))
      (pss_cons (ps_par (i := 4) (j := 5) rfl sc__law_sorts.nd rfl rfl (by decide) rfl rfl (pa_cons (pe_cmpR op_eq (pe_cal c__law_draw (hr.mono (by decide)) hgd pass0 (pa_cons (pv 0) (pa_cons pe_int pa_nil))) pe_int (nomark _)) (pa_cons (pe_cmpR op_eq (pe_cal c__law_draw (hr.mono (by decide)) hgd pass0 (pa_cons (pv 0) (pa_cons pe_int pa_nil))) pe_int (nomark _)) pa_nil)) (by rfl))
    (pss_cons (ps_setLc (i := 6) (own := [("_law_tag_here", 7)]) (g := gName 7) rfl sc__law_sorts.nd rfl rfl (sw_true rfl rfl rfl (by decide +kernel)) (pi_list (pv 1)) (blkOk_by (own := [("_law_tag_here", 7)]) (N := n__law_sorts) (sc := defScope s__law_sorts) (by decide +kernel)) (fun _ _ _ _ _ => (pg_name (i := 7) sc__law_sorts.nd rfl (Or.inl rfl))) (fun _ _ _ _ _ => (pts_one (pt_cmpR op_eq (pe_cal c__law_draw (hr.mono (by decide)) hgd pass0 (pa_cons (pv 0) (pa_cons pe_int pa_nil))) pe_int (nomark _)))) (fun _ _ _ _ _ => (pv 7)))
    (pss_cons (ps_set (i := 8) sc__law_sorts.nd rfl (Or.inl rfl) (pe_cal c__law_lines (hr.mono (by decide)) hgd pass0 (pa_cons (pv 0) (pa_cons (pv 1) pa_nil))))
    (pss_cons (ps_set (i := 9) sc__law_sorts.nd rfl (Or.inl rfl) (pe_cal c__law_new (hr.mono (by decide)) hgd pass0 (pa_cons (pv 0) (pa_cons (pe_lc (own := [("_law_part", 10)]) (g := gName 10) (tt := tYes) rfl sc__law_sorts.nd (pi_list (pv 2)) (blkOk_by (own := [("_law_part", 10)]) (N := n__law_sorts) (sc := defScope s__law_sorts) (by decide +kernel)) (fun _ _ _ _ _ => (pg_name (i := 10) sc__law_sorts.nd rfl (Or.inl rfl))) (fun _ _ _ _ _ => pts_nil) (fun _ _ _ _ _ => (pe_ix (ixK (K := K) (r := rIxT) rfl ix_tup) (pv 10) pe_int (fun _ _ => rfl)))) pa_nil))))
    (pss_one (ps_expr (pe_bm PySem.F.plainAttrs_list PySem.F.slot_list_append PySem.F.type_list_append mt_append (pv 2) (pa_cons (pe_tup (pa_cons (pv 9) (pa_cons (pv 8) (pa_cons (pv 4) (pa_cons (pe_callTy call_tuple_of rfl T.f_tuple (by decide +kernel) (pa_cons (pe_ifExp (pt_val (pv 5)) (pe_revL (pv 6)) (pv 6)) pa_nil)) pa_nil))))) pa_nil)))))))))
    (pss_one (ps_ret (pv 2))))), ?_⟩
    walk_at "rd"
    intro l nl
    have nlp : l ≠ p := PoolAt.ne_new hp nl
    have nll : l0 ≠ l := ne_of_none hl0 nl
    walk_at "rd"
    intro H1 r p1 r0 rm
    have hl1 := p1.get (upd_same : upd H l (.lst []) l = some (.lst [])) nlp
    have pl1 : Pl p H H1 := Pl.trans ⟨(But.refl _ _).new nl, hp.new nl⟩ p1
    walk_at "rd"
    refine forW (wk_range 0 _) (fun i σ H' => SoSt tags p l0 l H i σ H') ?_ (fun _ _ _ _ _ => trivial) ?_ ?_
    · exact .mk [] [] _ rfl rfl pl1 ⟨hl1, rfl, fun i a g h _ => by simp at h⟩ ⟨fun g hg => by simp at hg, List.nodup_nil, fun g hg => by simp at hg⟩ rfl
    · rintro i x σ H2 hx ⟨qs, ks, a, rfl, al, p2, sa, kp, ln⟩
      obtain ⟨rfl, hi⟩ := rng_at hx
      have hp2 := p2.pool
      have hl02 := p2.get hl0 nlp0
      match a, al with
      | [a1, a2, a3, a4, a5, a6, a7, a8], _ =>
        walk_at "rd"
        intro H3 r3 p3 r30 r3m
        have hp3 := p3.pool
        have hl03 := p3.get hl02 nlp0
        have sa3 := sa.pl hp2 nlp p3
        walk_at "rd"
        intro H4 r4 p4 r40 r4m
        have hp4 := p4.pool
        have hl04 := p4.get hl03 nlp0
        have sa4 := sa3.pl hp3 nlp p4
        have p24 := (p2.trans p3).trans p4
        walk_at "rd"
        refine ⟨⟨_, SqL.of hl04⟩, ?_⟩
        intro D nD
        have nDp : D ≠ p := PoolAt.ne_new hp4 nD
        have nDl0 : D ≠ l0 := (ne_of_none hl04 nD).symm
        refine lcW (wk_list (tags.map V.str)) (fun j H' => BgSt tags p D H4 j H') (.mk [] (by walk_at "g but") upd_same (by simp)) (fun j H' _ e => by obtain ⟨acc, plx, _, _⟩ := e; exact SqL.of (plx.get hl04 nlp0)) ?_ ?_
        · rintro j x H' hx ⟨acc, plx, hD, sub⟩
          have lj := (List.getElem?_eq_some_iff.mp hx).1
          rw [List.length_map] at lj
          rw [List.getElem?_map, List.getElem?_eq_getElem lj] at hx
          obtain rfl := Option.some.inj hx
          have hpx := plx.pool
          have tk : tags.take (j + 1) = tags.take j ++ [tags[j]] := by rw [List.take_add_one, List.getElem?_eq_getElem lj]; rfl
          have la : acc.length ≤ 3 := by
            have := sub.length_le
            rw [List.length_take] at this
            omega
          walk_at "rd"
          intro H'' rr pp rr0 rrm
          have hD2 := pp.get hD nDp
          walk_at "rd"
          refine iteD (fun _ => ?_) (fun _ => ?_)
          · walk_at "rd"
            refine ⟨by rw [List.length_map]; show _ < 16777216; omega, .mk (acc ++ [tags[j]]) (Pl.own (plx.trans pp) nD nDp) ?_ ?_⟩
            · rw [upd_same, List.map_append]
              rfl
            · rw [tk]
              exact sub.append (List.Sublist.refl _)
          · refine .mk acc (plx.trans pp) hD2 ?_
            rw [tk]
            exact sub.trans (List.sublist_append_left _ _)
        · rintro H5 ⟨acc, p5, hD, sub⟩
          rw [List.length_map, List.take_of_length_le (Nat.le_refl _)] at sub
          have hp5 := p5.pool
          have hl05 := p5.get hl04 nlp0
          have sa5 := sa4.pl hp4 nlp p5
          have t10 : tags.length ≤ 10 := by omega
          walk_at "rd"
          intro H6 t rs p6 nt ht ro gi
          have hp6 := p6.pool
          have hD6 := p6.get hD nDp
          have sa6 := sa5.pl hp5 nlp p6
          have hl6 := sa6.lst
          walk_at "rd"
          refine ⟨⟨_, SqL.of hl6⟩, ?_⟩
          intro N nN
          have nNp : N ≠ p := PoolAt.ne_new hp6 nN
          have k3 : ks.length ≤ 3 := by omega
          refine lcW (wk_list (qs.map V.ref)) (fun j H' => H' = upd H6 N (.lst ((knames (ks.take j)).map V.str))) rfl (fun j H' _ e => by rw [e]; exact SqL.of (upd_get nN hl6)) ?_ ?_
          · rintro j x H' hx rfl
            obtain ⟨y, k, rfl, hy, hkk, tt, mm, et, _⟩ := sa6.item hx
            have et2 := upd_get (o := .lst ((knames (ks.take j)).map V.str)) nN et
            have lj := (List.getElem?_eq_some_iff.mp hkk).1
            walk_at "rd"
            refine ⟨by rw [List.length_map, knames_len, List.length_take]; show _ < 16777216; omega, ?_⟩
            rw [upd_upd, knames_snoc hkk, List.map_append]
            rfl
          · rintro H' rfl
            have la : (qs.map V.ref).length = ks.length := by rw [List.length_map, sa6.ln]
            rw [la, List.take_of_length_le (Nat.le_refl _)]
            have hpN := hp6.new (o := .lst ((knames ks).map V.str)) nN
            have hN : (upd H6 N (.lst ((knames ks).map V.str))) N = some (.lst ((knames ks).map V.str)) := upd_same
            have nl10 : (knames ks).length ≤ 10 := by rw [knames_len]; omega
            have sa7 := sa6.same ((Same.refl H6).new nN (o := .lst ((knames ks).map V.str)))
            have hD7 := upd_get (o := .lst ((knames ks).map V.str)) nN hD6
            have ht7 := upd_get (o := .lst ((knames ks).map V.str)) nN ht
            walk_at "rd"
            intro H8 z p8 nz ni
            have hp8 := p8.pool
            have sa8 := sa7.pl hpN nlp p8
            have hD8 := p8.get hD7 nDp
            have ht8 := p8.obj hpN ht7 rfl
            have hl8 := sa8.lst
            have p28 := ((((p24.trans p5).trans p6).new nN).trans p8)
            have acc3 : acc.length ≤ 3 := Nat.le_trans sub.length_le t3
            have mok : MemOk acc := ⟨fun y hy => tn y (sub.subset hy), td.sublist sub, by omega⟩
            have rok : MemOk acc.reverse := ⟨fun y hy => tn y (sub.subset (List.mem_reverse.mp hy)), List.pairwise_reverse.mpr ((td.sublist sub).imp Ne.symm), by rw [List.length_reverse]; omega⟩
            have gin : ∀ y ∈ rs.filterMap (fun q => q.2.gate?), y ∈ tags := by
              intro y hy
              obtain ⟨q0, hq0, e0⟩ := List.mem_filterMap.mp hy
              refine gi q0 hq0 y ?_
              rw [gateV_eq, e0]
              rfl
            have k3' : qs.length ≤ 3 := by rw [sa8.ln]; exact k3
            have fin : ∀ (ms : List Str) (H9 : Hp) (m d : Addr), Same H8 H9 → H9 m = some (.tup (ms.map V.str)) → MemOk ms → ms.length ≤ 4 → (∀ y ∈ ms, y ∈ tags) → H9 d = none →
                SoSt tags p l0 l H (i + 1) [some (.ref p), some (.ref l0), some (.ref l), some (.int (0 + (i : Int))), some (.bl (decide (V.int r3 = V.int 0))), some (.bl (decide (V.int r4 = V.int 0))), some (.ref D), a5, some (.ref t), some (.str z), a8]
                  (upd (upd H9 d (.tup [.str z, .ref t, .bl (decide (V.int r3 = V.int 0)), .ref m])) l (.lst (qs.map V.ref ++ [.ref d]))) := by
              intro ms H9 m d s9 hm mo m4 mt nd9
              have sa9 := (sa8.same s9).same ((Same.refl H9).new nd9 (o := .tup [.str z, .ref t, .bl (decide (V.int r3 = V.int 0)), .ref m]))
              refine .mk (qs ++ [d]) (ks ++ [⟨z, rs, decide (V.int r3 = V.int 0), ms⟩]) _ rfl rfl (Pl.own ((p28.same s9).new nd9) nl nlp) (sa9.snoc ⟨t, m, upd_same, upd_get nd9 (s9 _ _ ht8), upd_get nd9 hm⟩)
                (kp.snoc ⟨⟨nz, ro, mo⟩, m4⟩ ni fun y hy => ?_) (by rw [List.length_append, ln]; rfl)
              rcases List.mem_append.mp hy with hy | hy
              · exact mt y hy
              · exact gin y hy
            walk_at "rd"
            refine ⟨.inl ⟨rfl, _, SqL.of hl8⟩, ?_⟩
            walk_at "rd"
            refine iteD (fun _ => ?_) (fun _ => ?_)
            · walk_at "rd"
              intro L nL
              have hL : (upd H8 L (.lst (acc.map V.str).reverse)) L = some (.lst (acc.map V.str).reverse) := upd_same
              have hlL := upd_get (o := .lst (acc.map V.str).reverse) nL hl8
              walk_at "rd"
              refine .inl ⟨SqL.of hL, fun m nm => ?_⟩
              have hlm := upd_get (o := .tup (acc.map V.str).reverse) nm hlL
              walk_at "rd"
              intro d nd9
              have hld := upd_get (o := .tup [.str z, .ref t, .bl (decide (V.int r3 = V.int 0)), .ref m]) nd9 hlm
              walk_at "rd"
              refine ⟨by rw [List.length_map, sizeLine_eq]; omega, ?_⟩
              exact fin acc.reverse _ m d (((Same.refl H8).new nL).new nm) (by rw [upd_same, List.map_reverse]) rok (by rw [List.length_reverse]; omega) (fun y hy => sub.subset (List.mem_reverse.mp hy)) nd9
            · walk_at "rd"
              refine .inl ⟨SqL.of hD8, fun m nm => ?_⟩
              have hlm := upd_get (o := .tup (acc.map V.str)) nm hl8
              walk_at "rd"
              intro d nd9
              have hld := upd_get (o := .tup [.str z, .ref t, .bl (decide (V.int r3 = V.int 0)), .ref m]) nd9 hlm
              walk_at "rd"
              refine ⟨by rw [List.length_map, sizeLine_eq]; omega, ?_⟩
              exact fin acc _ m d ((Same.refl H8).new nm) upd_same mok (by omega) (fun y hy => sub.subset hy) nd9
    · rintro σ H2 ⟨qs, ks, a, rfl, al, p2, sa, kp, ln⟩
      rw [rngV_len] at ln
      match a, al with
      | [a1, a2, a3, a4, a5, a6, a7, a8], _ =>
        walk_at "rd"
        exact q H2 l qs ks p2 nl nlp sa kp (by omega) (by omega)
theorem c_sorts (T : Tx K mg) : Cal P w K mg base CX0 5 "_law_sorts" [] spSorts := by
  obtain ⟨fd, F⟩ := T.d__law_sorts
  exact .mk F (ok_sorts T F) T.n__law_sorts fun _ _ _ _ _ _ us hl => match us, hl with | [_, _], _ => rfl
end
end G
namespace G
open PySem PySem.Spec PyProof.Rows L2
/-! ### the rest of a list, one more -/
theorem cutV_tail {xs : List V} (h : 1 ≤ xs.length) : cutV xs (some 1) none = xs.drop 1 := by
  unfold cutV
  have e : HT.sIx xs.length 0 (some 1) = 1 := by
    rw [show (some (1 : Int)) = some ((1 : Nat) : Int) from rfl, HT.sIx_nat]
    exact Nat.min_eq_left h
  rw [HT.sIx_none, e]
  exact List.take_of_length_le (by rw [List.length_drop]; exact Nat.le_refl _)
theorem KindsOk.tail {gs : List GateT} {ks : List KindT} (h : KindsOk gs ks) (l : 1 < ks.length) : KindsOk gs (ks.drop 1) := by
  have f := h.few
  refine ⟨by rw [List.length_drop]; omega, by rw [List.length_drop]; omega, fun k hk => h.ok k (List.mem_of_mem_drop hk), ?_, fun k hk => h.na k (List.mem_of_mem_drop hk)⟩
  have n := h.nd
  unfold knames at n ⊢
  rw [List.map_drop]
  exact n.sublist (List.drop_sublist 1 _)
theorem KindsOk.snoc {gs : List GateT} {ks : List KindT} {k : KindT} (h : KindsOk gs ks) (f : ks.length < 4) (ok : KindOk k) (nf : k.n ∉ knames ks) (na : named k = []) : KindsOk gs (ks ++ [k]) := by
  have o := h.one
  refine ⟨by rw [List.length_append]; omega, by rw [List.length_append]; show _ + 1 ≤ 4; omega, fun g hg => ?_, ?_, fun g hg => ?_⟩
  · rcases List.mem_append.mp hg with hg | hg
    · exact h.ok g hg
    · rw [List.mem_singleton.mp hg]; exact ok
  · have n := h.nd
    unfold knames at n nf ⊢
    rw [List.map_append, List.nodup_append]
    refine ⟨n, List.nodup_cons.mpr ⟨by simp, List.nodup_nil⟩, fun a ha b hb => ?_⟩
    rw [List.mem_singleton.mp hb]
    rintro rfl
    exact nf ha
  · rcases List.mem_append.mp hg with hg | hg
    · exact h.na g hg
    · rw [List.mem_singleton.mp hg, na]
      intro z hz
      cases hz
theorem snoc_at {α β : Type} {R : α → β → Prop} {as : List α} {bs : List β} {a : α} {b : β} (l : as.length = bs.length) (h : ∀ (i : Nat) (x : α) (y : β), as[i]? = some x → bs[i]? = some y → R x y) (r : R a b) :
    ∀ (i : Nat) (x : α) (y : β), (as ++ [a])[i]? = some x → (bs ++ [b])[i]? = some y → R x y := by
  intro i x y h1 h2
  rcases Nat.lt_or_ge i as.length with lt | ge
  · rw [List.getElem?_append_left lt] at h1
    rw [List.getElem?_append_left (by rw [← l]; exact lt)] at h2
    exact h i x y h1 h2
  · have li := (List.getElem?_eq_some_iff.mp h1).1
    rw [List.length_append] at li
    have e : i = as.length := by
      have : [a].length = 1 := rfl
      omega
    subst e
    rw [List.getElem?_append_right (Nat.le_refl _), Nat.sub_self] at h1
    rw [l, List.getElem?_append_right (Nat.le_refl _), Nat.sub_self] at h2
    obtain rfl := Option.some.inj h1
    obtain rfl := Option.some.inj h2
    exact r
theorem SortsAt.tail {H H' : Hp} {l v : Addr} {qs : List Addr} {ks : List KindT} (h : SortsAt H l qs ks) (s : Same H H') (hv : H' v = some (.lst (cutV (qs.map V.ref) (some 1) none))) (o : 1 ≤ ks.length) : SortsAt H' v (qs.drop 1) (ks.drop 1) := by
  refine ⟨by rw [hv, cutV_tail (by rw [List.length_map, h.ln]; exact o), List.map_drop], by rw [List.length_drop, List.length_drop, h.ln], fun i a k h1 h2 => ?_⟩
  rw [List.getElem?_drop] at h1 h2
  exact (h.at_ (1 + i) a k h1 h2).same s
theorem SortsAt.app {H : Hp} {l v d : Addr} {qs : List Addr} {ks : List KindT} {k : KindT} (h : SortsAt H l qs ks) (hv : H v = some (.lst (qs.map V.ref ++ [.ref d]))) (hd : DueAt H d k) : SortsAt H v (qs ++ [d]) (ks ++ [k]) :=
  ⟨by rw [hv, List.map_append]; rfl, by rw [List.length_append, List.length_append, h.ln]; rfl, snoc_at h.ln h.at_ hd⟩
/-- the kind ("end",) -/
def endK (z : Str) : KindT := ⟨z, [(none, .fin)], false, []⟩
theorem endK_rows : rowsV [((none : Option Str), RW.fin)] = [V.str (Str.ofString "end")] := rfl
theorem endRows_ok : RowsOk [((none : Option Str), RW.fin)] := by
  refine ⟨by decide, by decide, fun q hq => ?_⟩
  obtain rfl := List.mem_singleton.mp hq
  exact ⟨trivial, fun z e => (by cases e), fun k hk => (by cases hk)⟩
theorem noMem_ok : MemOk [] := ⟨fun z hz => (by cases hz), List.nodup_nil, Nat.zero_le _⟩
theorem endK_ok {z : Str} (n : Nm z) : KindOk (endK z) := ⟨n, endRows_ok, noMem_ok⟩
theorem endK_named (z : Str) : named (endK z) = [] := rfl
theorem refs_ne {H : Hp} {p l : Addr} {ps : List Addr} (hp : PoolAt H p) (h : H l = some (.lst (ps.map V.ref))) : l ≠ p := by
  obtain ⟨a, b, d, e, _⟩ := hp
  refine ne_of h e ?_
  intro x
  cases ps with
  | nil => cases x
  | cons q r => cases x
section
variable {P : Program} {w : World} {K : PySem.W.Frag} {mg : Str → Option Value} {base : Heap} {CX : CXT}
theorem KindsAt.tail {H H' : Hp} {u v : Addr} {bs : List Addr} {ks : List KindT} (h : KindsAt K H u bs ks) (s : Same H H') (hv : H' v = some (.tup (cutV (bs.map V.ref) (some 1) none))) (o : 1 ≤ ks.length) : KindsAt K H' v (bs.drop 1) (ks.drop 1) := by
  refine ⟨by rw [hv, cutV_tail (by rw [List.length_map, h.ln]; exact o), List.map_drop], by rw [List.length_drop, List.length_drop, h.ln], fun i a k h1 h2 => ?_⟩
  rw [List.getElem?_drop] at h1 h2
  exact (h.at_ (1 + i) a k h1 h2).same s
theorem KindsAt.app {H : Hp} {u v x : Addr} {bs : List Addr} {ks : List KindT} {k : KindT} (h : KindsAt K H u bs ks) (hv : H v = some (.tup (bs.map V.ref ++ [.ref x]))) (kx : KindAt K H x k) : KindsAt K H v (bs ++ [x]) (ks ++ [k]) :=
  ⟨by rw [hv, List.map_append]; rfl, by rw [List.length_append, List.length_append, h.ln]; rfl, snoc_at h.ln h.at_ kx⟩
/-! ### a pool is drawn from: gates, kinds, systems stay -/
theorem GatesAt.pl {H H' : Hp} {t p : Addr} {as : List Addr} {gs : List GateT} (h : GatesAt K H t as gs) (hp : PoolAt H p) (s : Pl p H H') : GatesAt K H' t as gs :=
  ⟨s.obj hp h.tup rfl, h.ln, fun i a g h1 h2 => by
    obtain ⟨d, e⟩ := h.at_ i a g h1 h2
    exact ⟨d, s.obj hp e rfl⟩⟩
theorem MemAt.pl {H H' : Hp} {m p : Addr} {ms : List Str} (h : MemAt K H m ms) (hp : PoolAt H p) (s : Pl p H H') : MemAt K H' m ms := by
  rcases h with h | h
  · exact .inl (s.obj hp h rfl)
  · exact .inr h
theorem RowsIn.pl {H H' : Hp} {p : Addr} {as : List Addr} {rs : List RwT} (h : RowsIn K H as rs) (hp : PoolAt H p) (s : Pl p H H') : RowsIn K H' as rs :=
  ⟨h.1, fun i a q h1 h2 => by
    obtain ⟨d, g, e, go⟩ := h.2 i a q h1 h2
    refine ⟨d, g, s.obj hp e rfl, ?_⟩
    rcases go with go | go
    · exact .inl (s.obj hp go rfl)
    · exact .inr go⟩
theorem KindAt.pl {H H' : Hp} {a p : Addr} {k : KindT} (h : KindAt K H a k) (hp : PoolAt H p) (s : Pl p H H') : KindAt K H' a k := by
  obtain ⟨ok, d, t, pr, m, as, h1, h2, h3, h4, h5⟩ := h
  exact ⟨ok, d, t, pr, m, as, s.obj hp h1 rfl, s.obj hp h2 rfl, h3.pl hp s, s.obj hp h4 rfl, h5.pl hp s⟩
theorem KindsAt.pl {H H' : Hp} {t p : Addr} {bs : List Addr} {ks : List KindT} (h : KindsAt K H t bs ks) (hp : PoolAt H p) (s : Pl p H H') : KindsAt K H' t bs ks :=
  ⟨s.obj hp h.tup rfl, h.ln, fun i a k h1 h2 => (h.at_ i a k h1 h2).pl hp s⟩
theorem SysArg.pl {H H' : Hp} {t u p : Addr} {as bs : List Addr} {gs : List GateT} {ks : List KindT} (h : SysArg K H t u as bs gs ks) (hp : PoolAt H p) (s : Pl p H H') : SysArg K H' t u as bs gs ks :=
  ⟨h.ga.pl hp s, h.go, h.ka.pl hp s, h.ko⟩
theorem SysAt.pl {H H' : Hp} {a t u p : Addr} {as bs : List Addr} {gs : List GateT} {ks : List KindT} (h : SysAt K H a t u as bs gs ks) (hp : PoolAt H p) (s : Pl p H H') : SysAt K H' a t u as bs gs ks := by
  obtain ⟨ar, dx, si⟩ := h
  refine ⟨ar.pl hp s, dx, ?_⟩
  obtain ⟨pl, pg, l, tr, ls, kvs, h1, h2, h3, h4, h5⟩ := si
  exact ⟨pl, pg, l, tr, ls, kvs, s.obj hp h1 rfl, s.obj hp h2 rfl, h3, s.obj hp h4 rfl, h5⟩
end
end G
namespace G
open PySem PySem.Spec PyProof.Rows L2
/-! ### one row of one kind otherwise -/
def putRow (r : Nat) (q : RwT) (k : KindT) : KindT := ⟨k.n, k.rs.set r q, k.b, k.ms⟩
def rowK : List KindT → Nat → Nat → RwT → List KindT
  | [], _, _, _ => []
  | k :: ks, 0, r, q => putRow r q k :: ks
  | k :: ks, i + 1, r, q => k :: rowK ks i r q
theorem rowK_len : ∀ (ks : List KindT) (i r : Nat) (q : RwT), (rowK ks i r q).length = ks.length
  | [], _, _, _ => rfl
  | _ :: _, 0, _, _ => rfl
  | k :: ks, i + 1, r, q => by
    show (rowK ks i r q).length + 1 = ks.length + 1
    rw [rowK_len ks i r q]
theorem rowK_at : ∀ (ks : List KindT) (i r : Nat) (q : RwT) (j : Nat), (rowK ks i r q)[j]? = if j = i then ks[j]?.map (putRow r q) else ks[j]?
  | [], i, r, q, j => by simp [rowK]
  | k :: ks, 0, r, q, 0 => by simp [rowK]
  | k :: ks, 0, r, q, j + 1 => by simp [rowK]
  | k :: ks, i + 1, r, q, 0 => by simp [rowK]
  | k :: ks, i + 1, r, q, j + 1 => by simp [rowK, rowK_at ks i r q j]
theorem rowK_names : ∀ (ks : List KindT) (i r : Nat) (q : RwT), knames (rowK ks i r q) = knames ks
  | [], _, _, _ => rfl
  | _ :: _, 0, _, _ => rfl
  | k :: ks, i + 1, r, q => by
    show k.n :: knames (rowK ks i r q) = k.n :: knames ks
    rw [rowK_names ks i r q]
theorem rowK_mem : ∀ {ks : List KindT} {i r : Nat} {q : RwT} {x : KindT}, x ∈ rowK ks i r q → x ∈ ks ∨ ∃ k, ks[i]? = some k ∧ x = putRow r q k
  | [], _, _, _, _, h => absurd h (by simp [rowK])
  | k :: ks, 0, r, q, x, h => by
    rcases List.mem_cons.mp h with h | h
    · exact .inr ⟨k, rfl, h⟩
    · exact .inl (List.mem_cons_of_mem _ h)
  | k :: ks, i + 1, r, q, x, h => by
    rcases List.mem_cons.mp h with h | h
    · exact .inl (h ▸ List.mem_cons_self)
    · rcases rowK_mem h with h | ⟨k', e, h⟩
      · exact .inl (List.mem_cons_of_mem _ h)
      · exact .inr ⟨k', e, h⟩
theorem rowK_same : ∀ (ks : List KindT) (i r : Nat) (q q' : RwT), rowK (rowK ks i r q) i r q' = rowK ks i r q'
  | [], _, _, _, _ => rfl
  | k :: ks, 0, r, q, q' => by
    show putRow r q' (putRow r q k) :: ks = putRow r q' k :: ks
    unfold putRow
    simp only [List.set_set]
  | k :: ks, i + 1, r, q, q' => by
    show k :: rowK (rowK ks i r q) i r q' = k :: rowK ks i r q'
    rw [rowK_same ks i r q q']
theorem set_own {α : Type} {l : List α} {i : Nat} {x : α} (h : l[i]? = some x) : l.set i x = l := by
  refine List.ext_getElem? fun n => ?_
  rw [List.getElem?_set]
  have lt := (List.getElem?_eq_some_iff.mp h).1
  by_cases e : i = n
  · subst e
    rw [if_pos rfl, if_pos lt, h]
  · rw [if_neg e]
theorem rowK_self : ∀ {ks : List KindT} {i r : Nat} {q : RwT} {k : KindT}, ks[i]? = some k → k.rs[r]? = some q → rowK ks i r q = ks
  | [], _, _, _, _, h, _ => by simp at h
  | k :: ks, 0, r, q, k', h, hq => by
    obtain rfl : k = k' := Option.some.inj h
    show putRow r q k :: ks = k :: ks
    unfold putRow
    rw [set_own hq]
  | k :: ks, i + 1, r, q, k', h, hq => by
    show k :: rowK ks i r q = k :: ks
    rw [rowK_self (ks := ks) (i := i) h hq]
theorem rowK_comm : ∀ (ks : List KindT) (i r j s : Nat) (q q' : RwT), ¬ (j = i ∧ s = r) → rowK (rowK ks i r q) j s q' = rowK (rowK ks j s q') i r q
  | [], _, _, _, _, _, _, _ => rfl
  | k :: ks, 0, r, 0, s, q, q', h => by
    show putRow s q' (putRow r q k) :: ks = putRow r q (putRow s q' k) :: ks
    unfold putRow
    simp only
    rw [List.set_comm _ _ fun e => h ⟨rfl, e.symm⟩]
  | k :: ks, 0, r, j + 1, s, q, q', h => rfl
  | k :: ks, i + 1, r, 0, s, q, q', h => rfl
  | k :: ks, i + 1, r, j + 1, s, q, q', h => by
    show k :: rowK (rowK ks i r q) j s q' = k :: rowK (rowK ks j s q') i r q
    rw [rowK_comm ks i r j s q q' fun e => h ⟨by rw [e.1], e.2⟩]
theorem RowsOk.put {rs : List RwT} {r : Nat} {q : RwT} {tags : List Str} (h : RowsOk rs) (lo : LineOk tags q rs.length) : RowsOk (rs.set r q) := by
  refine ⟨by rw [List.length_set]; exact h.one, by rw [List.length_set]; exact h.ten, fun x hx => ?_⟩
  rw [List.length_set]
  rcases List.mem_or_eq_of_mem_set hx with hx | rfl
  · exact h.ok x hx
  · exact ⟨lo.ok, lo.lab, lo.lt⟩
theorem KindOk.put {k : KindT} {r : Nat} {q : RwT} {tags : List Str} (h : KindOk k) (lo : LineOk tags q k.rs.length) : KindOk (putRow r q k) := ⟨h.nm, h.ro.put lo, h.mo⟩
theorem named_put {k : KindT} {r : Nat} {q : RwT} {tags : List Str} (h : ∀ z ∈ named k, z ∈ tags) (lo : LineOk tags q k.rs.length) : ∀ z ∈ named (putRow r q k), z ∈ tags := by
  intro z hz
  rcases List.mem_append.mp hz with hz | hz
  · exact h z (List.mem_append_left _ hz)
  · obtain ⟨x, hx, e⟩ := List.mem_filterMap.mp hz
    rcases List.mem_or_eq_of_mem_set hx with hx | rfl
    · exact h z (List.mem_append_right _ (List.mem_filterMap.mpr ⟨x, hx, e⟩))
    · refine lo.gin z ?_
      rw [gateV_eq, e]
      rfl
theorem KindsOk.put {gs : List GateT} {ks : List KindT} {i r : Nat} {k : KindT} {q : RwT} (h : KindsOk gs ks) (e : ks[i]? = some k) (lo : LineOk (gnames gs) q k.rs.length) : KindsOk gs (rowK ks i r q) := by
  have hk := List.mem_of_getElem? e
  refine ⟨by rw [rowK_len]; exact h.one, by rw [rowK_len]; exact h.few, fun x hx => ?_, by rw [rowK_names]; exact h.nd, fun x hx => ?_⟩
  · rcases rowK_mem hx with hx | ⟨k', e', rfl⟩
    · exact h.ok x hx
    · rw [e] at e'
      obtain rfl := Option.some.inj e'
      exact (h.ok k hk).put lo
  · rcases rowK_mem hx with hx | ⟨k', e', rfl⟩
    · exact h.na x hx
    · rw [e] at e'
      obtain rfl := Option.some.inj e'
      exact named_put (h.na k hk) lo
theorem KindsPre.put {tags : List Str} {ks : List KindT} {i r : Nat} {k : KindT} {q : RwT} (h : KindsPre tags ks) (e : ks[i]? = some k) (lo : LineOk tags q k.rs.length) : KindsPre tags (rowK ks i r q) := by
  have hk := List.mem_of_getElem? e
  refine ⟨fun x hx => ?_, by rw [rowK_names]; exact h.nd, fun x hx => ?_⟩
  · rcases rowK_mem hx with hx | ⟨k', e', rfl⟩
    · exact h.ok x hx
    · rw [e] at e'
      obtain rfl := Option.some.inj e'
      exact ⟨(h.ok k hk).ok.put lo, (h.ok k hk).few⟩
  · rcases rowK_mem hx with hx | ⟨k', e', rfl⟩
    · exact h.na x hx
    · rw [e] at e'
      obtain rfl := Option.some.inj e'
      exact named_put (h.na k hk) lo
/-- a row that stands in a kind is one for it -/
theorem KindsPre.line {tags : List Str} {ks : List KindT} {i r : Nat} {k : KindT} {q : RwT} (h : KindsPre tags ks) (e : ks[i]? = some k) (hq : k.rs[r]? = some q) : LineOk tags q k.rs.length := by
  have hk := List.mem_of_getElem? e
  have hm := List.mem_of_getElem? hq
  obtain ⟨a, b, c⟩ := (h.ok k hk).ok.ro.ok q hm
  refine ⟨a, b, c, fun z hz => h.na k hk z (List.mem_append_right _ (List.mem_filterMap.mpr ⟨q, hm, ?_⟩))⟩
  rw [gateV_eq] at hz
  cases hg : q.2.gate? with
  | none => rw [hg] at hz; cases hz
  | some y => rw [hg] at hz; cases hz; rfl
/-! ### where they stand -/
theorem set_at2 {α β : Type} {R : α → β → Prop} {as : List α} {bs bs' : List β} {i : Nat} {a : α} {f : β → β} {b : β} (l : as.length = bs.length) (h : ∀ (j : Nat) (x : α) (y : β), as[j]? = some x → bs[j]? = some y → R x y)
    (eb : ∀ j, bs'[j]? = if j = i then bs[j]?.map f else bs[j]?) (e : bs[i]? = some b) (r : R a (f b)) : ∀ (j : Nat) (x : α) (y : β), (as.set i a)[j]? = some x → bs'[j]? = some y → R x y := by
  intro j x y h1 h2
  rw [eb] at h2
  rw [List.getElem?_set] at h1
  by_cases c : i = j
  · subst c
    rw [if_pos rfl, e] at h2
    have li : i < as.length := by rw [l]; exact (List.getElem?_eq_some_iff.mp e).1
    rw [if_pos rfl, if_pos li] at h1
    obtain rfl := Option.some.inj h1
    obtain rfl := Option.some.inj h2
    exact r
  · rw [if_neg c] at h1
    rw [if_neg fun z => c z.symm] at h2
    exact h j x y h1 h2
theorem SortsAt.put {H H' : Hp} {l v d : Addr} {qs : List Addr} {ks : List KindT} {i r : Nat} {k : KindT} {q : RwT} (h : SortsAt H l qs ks) (s : Same H H') (e : ks[i]? = some k)
    (hv : H' v = some (.lst ((qs.map V.ref).set i (.ref d)))) (hd : DueAt H' d (putRow r q k)) : SortsAt H' v (qs.set i d) (rowK ks i r q) := by
  refine ⟨by rw [hv, List.map_set], by rw [List.length_set, rowK_len, h.ln], ?_⟩
  exact set_at2 (R := fun a k => DueAt H' a k) h.ln (fun j a k h1 h2 => (h.at_ j a k h1 h2).same s) (rowK_at ks i r q) e hd
theorem KindsAt.put {K : PySem.W.Frag} {H H' : Hp} {u v x : Addr} {bs : List Addr} {ks : List KindT} {i r : Nat} {k : KindT} {q : RwT} (h : KindsAt K H u bs ks) (s : Same H H') (e : ks[i]? = some k)
    (hv : H' v = some (.tup ((bs.map V.ref).set i (.ref x)))) (hx : KindAt K H' x (putRow r q k)) : KindsAt K H' v (bs.set i x) (rowK ks i r q) := by
  refine ⟨by rw [hv, List.map_set], by rw [List.length_set, rowK_len, h.ln], ?_⟩
  exact set_at2 (R := fun a k => KindAt K H' a k) h.ln (fun j a k h1 h2 => (h.at_ j a k h1 h2).same s) (rowK_at ks i r q) e hx
/-! ### slices around a place -/
theorem cutV_to {xs : List V} {i : Nat} (h : i ≤ xs.length) : cutV xs none (some (i : Int)) = xs.take i := by
  unfold cutV
  rw [HT.sIx_none, HT.sIx_nat, Nat.min_eq_left h, Nat.sub_zero, List.drop_zero]
theorem cutV_from {xs : List V} {i : Nat} (h : i < xs.length) : cutV xs (some ((i : Int) + 1)) none = xs.drop (i + 1) := by
  unfold cutV
  rw [HT.sIx_none, show (some ((i : Int) + 1)) = some ((i + 1 : Nat) : Int) from rfl, HT.sIx_nat, Nat.min_eq_left h]
  exact List.take_of_length_le (by rw [List.length_drop]; exact Nat.le_refl _)
theorem cut_set {xs : List V} {i : Nat} {x : V} (h : i < xs.length) : cutV xs none (some (i : Int)) ++ [x] ++ cutV xs (some ((i : Int) + 1)) none = xs.set i x := by
  rw [cutV_to (Nat.le_of_lt h), cutV_from h, List.set_eq_take_append_cons_drop, if_pos h, List.append_assoc]
  rfl
theorem rowsV_set (rs : List RwT) (r : Nat) (q : RwT) : (rowsV rs).set r (.str q.text) = rowsV (rs.set r q) := by
  unfold rowsV
  rw [List.map_set]
/-! ### the text, where one row is otherwise -/
theorem joinL_mid (s : List Nat) : ∀ (P S : List (List Nat)), ∃ A B, ∀ x, TL.joinL s (P ++ x :: S) = A ++ (x ++ B)
  | [], [] => ⟨[], [], fun x => by simp [TL.joinL]⟩
  | [], y :: S => ⟨[], s ++ TL.joinL s (y :: S), fun x => rfl⟩
  | p :: P, S => by
    obtain ⟨A, B, h⟩ := joinL_mid s P S
    refine ⟨p ++ (s ++ A), B, fun x => ?_⟩
    have e : ∃ y R, P ++ x :: S = y :: R := by
      cases P with
      | nil => exact ⟨x, S, rfl⟩
      | cons y R => exact ⟨y, R ++ x :: S, rfl⟩
    obtain ⟨y, R, e⟩ := e
    show TL.joinL s (p :: (P ++ x :: S)) = _
    have e2 : TL.joinL s (p :: (P ++ x :: S)) = p ++ (s ++ TL.joinL s (P ++ x :: S)) := by rw [e]; rfl
    rw [e2, h x]
    simp only [List.append_assoc]
theorem texts_put {rs : List RwT} {r : Nat} (h : r < rs.length) (q : RwT) : texts (rs.set r q) = (texts rs).take r ++ q.text :: (texts rs).drop (r + 1) := by
  unfold texts
  rw [List.map_set, List.set_eq_take_append_cons_drop, if_pos (by rw [List.length_map]; exact h)]
theorem lines_put (gs : List GateT) : ∀ {ks : List KindT} {i r : Nat} {k : KindT}, ks[i]? = some k → r < k.rs.length → ∃ P S, ∀ q : RwT, (rowK ks i r q).flatMap (kindLines gs) = P ++ q.text :: S
  | [], _, _, _, h, _ => by simp at h
  | k :: ks, 0, r, k', h, hr => by
    obtain rfl : k = k' := Option.some.inj h
    refine ⟨headLine gs k :: (texts k.rs).take r, (texts k.rs).drop (r + 1) ++ ks.flatMap (kindLines gs), fun q => ?_⟩
    show (headLine gs k :: texts (k.rs.set r q)) ++ ks.flatMap (kindLines gs) = _
    rw [texts_put hr]
    simp only [List.cons_append, List.append_assoc]
  | k :: ks, i + 1, r, k', h, hr => by
    obtain ⟨P, S, e⟩ := lines_put gs (ks := ks) (i := i) h hr
    refine ⟨kindLines gs k ++ P, S, fun q => ?_⟩
    show kindLines gs k ++ (rowK ks i r q).flatMap (kindLines gs) = _
    rw [e q, List.append_assoc]
theorem page_put (gs : List GateT) {ks : List KindT} {i r : Nat} {k : KindT} {q0 : RwT} (e : ks[i]? = some k) (hq : k.rs[r]? = some q0) (q : RwT) : pageText gs (rowK ks i r q) = pageText gs ks ↔ q.text = q0.text := by
  obtain ⟨P, S, h⟩ := lines_put gs e (List.getElem?_eq_some_iff.mp hq).1
  have h0 := h q0
  rw [rowK_self e hq] at h0
  obtain ⟨A, B, j⟩ := joinL_mid (TL.tl (Str.ofString "\n")) ((gs.map gateLine ++ P).map TL.tl) (S.map TL.tl)
  have key : ∀ (ls : List KindT) (x : RwT), ls.flatMap (kindLines gs) = P ++ x.text :: S → TL.tl (pageText gs ls) = A ++ (TL.tl x.text ++ B) := by
    intro ls x hx
    unfold pageText pageLines
    rw [hx, TL.join_eq, TL.tl_join, ← List.append_assoc, List.map_append]
    exact j (TL.tl x.text)
  constructor
  · intro he
    have a := key _ _ (h q)
    rw [he, key _ _ h0] at a
    have b := List.append_cancel_right (List.append_cancel_left a)
    exact (TL.ext_tl b).symm
  · intro he
    refine TL.ext_tl ?_
    rw [key _ _ (h q), key _ _ h0, he]
theorem kEq_self (k : KindT) : kEq k k = true := by simp [kEq]
theorem dues_self : ∀ ks : List KindT, PyData.eqvAll (ks.map dueD) (ks.map dueD) = true
  | [] => by simp [PyData.eqvAll]
  | k :: ks => by
    show PyData.eqvAll (dueD k :: ks.map dueD) (dueD k :: ks.map dueD) = true
    rw [PyData.eqvAll, due_eqv, kEq_self, dues_self ks]
    rfl
theorem texts_eq {rs : List RwT} {r : Nat} {q0 : RwT} (hq : rs[r]? = some q0) (q : RwT) : texts rs = texts (rs.set r q) ↔ q.text = q0.text := by
  have lt := (List.getElem?_eq_some_iff.mp hq).1
  constructor
  · intro h
    have a : (texts rs)[r]? = (texts (rs.set r q))[r]? := by rw [← h]
    unfold texts at a
    rw [List.getElem?_map, hq, List.map_set, List.getElem?_set, if_pos rfl, if_pos (by rw [List.length_map]; exact lt)] at a
    exact (Option.some.inj a).symm
  · intro h
    unfold texts
    rw [List.map_set, h]
    refine (set_own ?_).symm
    rw [List.getElem?_map, hq]
    rfl
theorem dues_put : ∀ {ks : List KindT} {i r : Nat} {k : KindT} {q0 : RwT}, ks[i]? = some k → k.rs[r]? = some q0 → ∀ q : RwT, PyData.eqvAll (ks.map dueD) ((rowK ks i r q).map dueD) = decide (q.text = q0.text)
  | [], _, _, _, _, h, _, _ => by simp at h
  | k :: ks, 0, r, k', q0, h, hq, q => by
    obtain rfl : k = k' := Option.some.inj h
    show PyData.eqvAll (dueD k :: ks.map dueD) (dueD (putRow r q k) :: ks.map dueD) = _
    rw [PyData.eqvAll, due_eqv, dues_self, Bool.and_true]
    have e := texts_eq hq q
    unfold kEq putRow
    simp only [decide_true, Bool.true_and, Bool.and_true]
    exact decide_eq_decide.mpr e
  | k :: ks, i + 1, r, k', q0, h, hq, q => by
    show PyData.eqvAll (dueD k :: ks.map dueD) (dueD k :: (rowK ks i r q).map dueD) = _
    rw [PyData.eqvAll, due_eqv, kEq_self, Bool.true_and]
    exact dues_put (ks := ks) (i := i) h hq q
end G
namespace G
open PySem PySem.Spec PyProof.Rows L2
theorem KindsPre.all {gs : List GateT} {ks : List KindT} (h : KindsPre (gnames gs) ks) (h1 : 1 ≤ ks.length) (h4 : ks.length ≤ 4) : KindsOk gs ks :=
  ⟨h1, h4, fun k hk => (h.ok k hk).ok, h.nd, h.na⟩
/-- a resting place behind a target -/
theorem thenG {g : TG} {x : V} {σ : L2.St} {H : Hp} {u : L2.St → Hp → Prop} (M : L2.St → Hp → Prop) (h2 : ∀ σ' H', M σ' H' → u σ' H') (h1 : ∀ u' : L2.St → Hp → Prop, (∀ σ' H', M σ' H' → u' σ' H') → g x σ H u') : g x σ H u := h1 u h2
theorem mid2 {t1 t2 t3 : TS} {D : Ends} {σ : L2.St} {H : Hp} (M : L2.St → Hp → Prop) (h2 : ∀ σ' H', M σ' H' → t3 D σ' H')
    (h1 : ∀ u : TS, (∀ σ' H', M σ' H' → u D σ' H') → tSeq t1 (tSeq t2 u) D σ H) : tSeq t1 (tSeq t2 t3) D σ H := h1 t3 h2
section
variable {P : Program} {w : World} {K : PySem.W.Frag} {mg : Str → Option Value} {base : Heap} {CX : CXT}
def spPage : Sp := fun vs H Q _ => ∃ (l1 l2 : Addr), vs = [.ref l1, .ref l2] ∧ ∃ (ps qs : List Addr) (gs : List GateT) (ks : List KindT), PairsAt H l1 ps gs ∧ GatesOk gs ∧ SortsAt H l2 qs ks ∧ KindsOk gs ks ∧
  ∀ H', Same H H' → Q (.str (pageText gs ks)) H'
theorem ok_page {f : Addr} {fd : FuncData} {dvs : List V} {kws : List (Str × V)} (T : Tx K mg)
    (F : FunD K "_law_page" "_law_page" (defArgs s__law_page) (defBody s__law_page) (defScope s__law_page) dvs kws f fd) :
    FnG P w K mg base CX0 1 f fd ["_law_pairs", "_law_sorts_here"] spPage := by
  refine okG F sc__law_page (fun vs H Q E h => ?_) (fun cdv A outer s H vs Q E hr hgd h => ?_)
  · obtain ⟨l1, l2, rfl, _⟩ := h
    rfl
  · obtain ⟨l1, l2, rfl, ps, qs, gs, ks, pa, go, sa, ok, q⟩ := h
    have hu := hr.units
    have hl1 := pa.lst
    have hl2 := sa.lst
    have g3 := go.few
    have la : (ps.map V.ref).length = gs.length := by rw [List.length_map, pa.ln]
    have lb : (qs.map V.ref).length = ks.length := by rw [List.length_map, sa.ln]
    refine ⟨_, PSs.nox (pss_cons (ps_set (i := 2) sc__law_page.nd rfl (Or.inl rfl) (pe_lst pa_nil))
    (pss_cons (ps_for PassesOwn.never rfl (pi_list (pv 0)) (pg_tup rfl (pgs_cons (pg_name (i := 3) sc__law_page.nd rfl (Or.inl rfl)) (pgs_cons (pg_name (i := 4) sc__law_page.nd rfl (Or.inl rfl)) pgs_nil)))
      (pss_one (ps_expr (pe_bm PySem.F.plainAttrs_list PySem.F.slot_list_append PySem.F.type_list_append mt_append (pv 2) (pa_cons (pe_ifExp (pt_cmpR op_isN (pv 4) pe_non (nomark _)) (pe_op op_add_str pe_str (pv 3)) (pe_op op_add_str (pe_op op_add_str (pe_op op_add_str pe_str (pv 3)) pe_str) (pv 4))) pa_nil)))))
    (pss_cons (ps_for PassesOwn.never rfl (pi_list (pv 1)) (pg_tup rfl (pgs_cons (pg_name (i := 5) sc__law_page.nd rfl (Or.inl rfl)) (pgs_cons (pg_name (i := 6) sc__law_page.nd rfl (Or.inl rfl)) (pgs_cons (pg_name (i := 7) sc__law_page.nd rfl (Or.inl rfl)) (pgs_cons (pg_name (i := 8) sc__law_page.nd rfl (Or.inr rfl)) pgs_nil)))))
      (pss_cons (ps_setLc (i := 9) (own := [("_law_pair", 10)]) (g := gName 10) rfl sc__law_page.nd rfl rfl (sw_true rfl rfl rfl (by decide +kernel)) (pi_list (pv 0)) (blkOk_by (own := [("_law_pair", 10)]) (N := n__law_page) (sc := defScope s__law_page) (by decide +kernel)) (fun _ _ _ _ _ => (pg_name (i := 10) sc__law_page.nd rfl (Or.inl rfl))) (fun _ _ _ _ _ => (pts_one (pt_cmpR (opK (K := K) (r := fun K1 => rIn K1 false) rfl op_in_seq) (pe_ix (ixK (K := K) (r := rIxT) rfl ix_tup) (pv 10) pe_int (fun _ _ => rfl)) (pv 8) rfl))) (fun _ _ _ _ _ => (pe_ix (ixK (K := K) (r := rIxT) rfl ix_tup) (pv 10) pe_int (fun _ _ => rfl))))
    (pss_cons (ps_set (i := 11) sc__law_page.nd rfl (Or.inl rfl) (pe_op op_cat (pe_lst (pa_cons (pe_ifExp (pt_val (pv 7)) pe_str pe_str) (pa_cons (pv 5) pa_nil))) (pe_ifExp (pt_cmpR (op_neD hu) (pv 9) (pe_lst pa_nil) (nomark _)) (pe_op op_cat (pe_lst (pa_cons pe_str pa_nil)) (pv 9)) (pe_lst pa_nil))))
    (pss_one (ps_set (i := 2) sc__law_page.nd rfl (Or.inl rfl) (pe_op op_cat (pe_op op_cat (pv 2) (pe_lst (pa_cons (pe_join pe_str (pv 11)) pa_nil))) (pe_callTy call_list_of rfl T.f_list (by decide +kernel) (pa_cons (pv 6) pa_nil))))))))
    (pss_one (ps_ret (pe_join pe_str (pv 2))))))), ?_⟩
    walk_at "rd"
    intro D nD
    walk_at "rd"
    refine ⟨⟨_, SqL.of (upd_get nD hl1)⟩, ?_⟩
    refine forW (wk_list (ps.map V.ref)) (fun i σ H' => Same H H' ∧ H' D = some (.lst (((gs.take i).map gateLine).map V.str)) ∧ ∃ a : List (Option V), σ = some (.ref l1) :: some (.ref l2) :: some (.ref D) :: a ∧ a.length = 9)
      ⟨by walk_at "g but", upd_same, _, rfl, rfl⟩ (fun i σ H' _ pv => SqL.of (pv.1 _ _ hl1)) ?_ ?_
    · rintro i x σ H1 hx ⟨s1, hD, a, rfl, al⟩
      match a, al with
      | [a1, a2, a3, a4, a5, a6, a7, a8, a9], _ =>
        obtain ⟨y, g, rfl, hy, hg, et⟩ := pa.item hx
        have et1 := s1 _ _ et
        have li := (List.getElem?_eq_some_iff.mp hg).1
        have sD : SqL K H1 D (((gs.take i).map gateLine).map V.str) := SqL.of hD
        have n1 := (go.nm g (List.mem_of_getElem? hg)).2
        have ln : (((gs.take i).map gateLine).map V.str).length < sizeLine := by rw [List.length_map, List.length_map, List.length_take, sizeLine_eq]; omega
        have tk : (gs.take (i + 1)).map gateLine = (gs.take i).map gateLine ++ [gateLine g] := by
          rw [List.take_add_one, hg, List.map_append]
          rfl
        have c1 : (Str.ofString "gate ").length = 5 := by decide +kernel
        have c2 : (Str.ofString " in ").length = 4 := by decide +kernel
        have sz : sizeLine = 16777216 := sizeLine_eq
        obtain ⟨n, wv⟩ := g
        have n1' : n.length ≤ 8 := n1
        cases wv with
        | none =>
          walk_at "rd"
          refine ⟨.inl ⟨rfl, _, sD⟩, ?_⟩
          walk_at "rd"
          exact ⟨L2.Same.own s1 nD, by rw [upd_same, tk, List.map_append]; rfl, _, rfl, rfl⟩
        | some z =>
          have zi := go.wi i n z hg
          have n2 : z.length ≤ 8 := by
            obtain ⟨g', hg', e⟩ := List.mem_map.mp zi
            rw [← e]
            exact (go.nm g' (List.mem_of_mem_take hg')).2
          walk_at "rd"
          refine ⟨.inl ⟨rfl, _, sD⟩, ?_⟩
          walk_at "rd"
          exact ⟨L2.Same.own s1 nD, by rw [upd_same, tk, List.map_append]; rfl, _, rfl, rfl⟩
    · rintro σ H1 ⟨s1, hD, a, rfl, al⟩
      match a, al with
      | [a1, a2, a3, a4, a5, a6, a7, a8, a9], _ =>
        rw [la, List.take_of_length_le (Nat.le_refl _)] at hD
        have hl21 := s1 _ _ hl2
        walk_at "rd"
        refine ⟨⟨_, SqL.of hl21⟩, ?_⟩
        refine forW (wk_list (qs.map V.ref)) (fun i σ H' => Same H H' ∧ ∃ (B : Addr) (a : List (Option V)), H' B = some (.lst ((gs.map gateLine ++ (ks.take i).flatMap (kindLines gs)).map V.str)) ∧ σ = some (.ref l1) :: some (.ref l2) :: some (.ref B) :: a ∧ a.length = 9)
          ⟨s1, D, _, by rw [hD, List.take_zero, List.flatMap_nil, List.append_nil], rfl, rfl⟩ (fun i σ H' _ pv => SqL.of (pv.1 _ _ hl2)) ?_ ?_
        · rintro i x σ H2 hx ⟨s2, B, a, hB, rfl, al⟩
          match a, al with
          | [a1, a2, a3, a4, a5, a6, a7, a8, a9], _ =>
            obtain ⟨y, k, rfl, hy, hkk, tt, mm, h1, h2, h3⟩ := sa.item hx
            have h1' := s2 _ _ h1
            have h2' := s2 _ _ h2
            have h3' := s2 _ _ h3
            have hl12 := s2 _ _ hl1
            have kok := ok.ok k (List.mem_of_getElem? hkk)
            refine thenG (fun σ' H' => σ' = [some (.ref l1), some (.ref l2), some (.ref B), a1, a2, some (.str k.n), some (.ref tt), some (.bl k.b), some (.ref mm), a7, a8, a9] ∧ H2 = H') ?_ (fun u rest => ?_)
            · rintro σ' H' ⟨rfl, rfl⟩
              refine mid2 (fun σ' H' => ∃ (hd N : Addr), Same H2 H' ∧ H' hd = some (.lst ((headWords gs k).map V.str)) ∧ σ' = [some (.ref l1), some (.ref l2), some (.ref B), a1, a2, some (.str k.n), some (.ref tt), some (.bl k.b), some (.ref mm), some (.ref N), a8, some (.ref hd)]) ?_ (fun u rest => ?_)
              · rintro σ4 H4 ⟨hd, N, s4, hhd, rfl⟩
                have hB4 := s4 _ _ hB
                have h24 := s4 _ _ h2'
                obtain ⟨w1, w2⟩ := headWords_8 go kok
                have wsum := len_sum w1
                have c1 : (Str.ofString " ").length = 1 := by decide +kernel
                obtain ⟨p1, p2⟩ := page_len go ok i
                have rl : (rowsV k.rs).length ≤ 10 := by unfold rowsV; rw [List.length_map]; exact kok.ro.ten
                walk_at "rd"
                refine ⟨by rw [c1]; omega, ?_⟩
                walk_at "rd"
                intro A1 nA1
                have eh : Txt.join (Str.ofString " ") (headWords gs k) = headLine gs k := rfl
                rw [eh]
                have hB5 := upd_get (o := .lst [.str (headLine gs k)]) nA1 hB4
                have h25 := upd_get (o := .lst [.str (headLine gs k)]) nA1 h24
                have hA1 : (upd H4 A1 (.lst [.str (headLine gs k)])) A1 = some (.lst [.str (headLine gs k)]) := upd_same
                walk_at "rd"
                refine ⟨by rw [List.length_map, sizeLine_eq]; show _ + 1 ≤ _; omega, ?_⟩
                intro A2 nA2
                have h26 := upd_get (o := .lst ((gs.map gateLine ++ (ks.take i).flatMap (kindLines gs)).map V.str ++ [.str (headLine gs k)])) nA2 h25
                have hA2 : (upd (upd H4 A1 (.lst [.str (headLine gs k)])) A2 (.lst ((gs.map gateLine ++ (ks.take i).flatMap (kindLines gs)).map V.str ++ [.str (headLine gs k)]))) A2 = some (.lst ((gs.map gateLine ++ (ks.take i).flatMap (kindLines gs)).map V.str ++ [.str (headLine gs k)])) := upd_same
                walk_at "rd"
                intro A3 nA3
                have hA3 := upd_get (o := .lst (rowsV k.rs)) nA3 hA2
                walk_at "rd"
                refine ⟨by rw [List.length_append, List.length_map, sizeLine_eq]; show _ + 1 + _ ≤ _; omega, ?_⟩
                intro A4 nA4
                refine ⟨((((s2.trans s4).new nA1).new nA2).new nA3).new nA4, A4, _, ?_, rfl, rfl⟩
                have tk : gs.map gateLine ++ (ks.take (i + 1)).flatMap (kindLines gs) = (gs.map gateLine ++ (ks.take i).flatMap (kindLines gs)) ++ kindLines gs k := by
                  rw [List.take_add_one, hkk, List.flatMap_append, List.append_assoc]
                  simp
                rw [upd_same, tk, rowsV_texts]
                simp only [List.map_append, List.append_assoc]
                rfl
              · walk_at "rd"
                refine ⟨⟨_, SqL.of hl12⟩, ?_⟩
                intro N nN
                refine lcW (wk_list (ps.map V.ref)) (fun j H' => H' = upd H2 N (.lst (((gnames (gs.take j)).filter fun z => decide (z ∈ k.ms)).map V.str))) rfl (fun j H' _ e => by rw [e]; exact SqL.of (upd_get nN hl12)) ?_ ?_
                · rintro j x H' hx rfl
                  obtain ⟨y, g, rfl, hy, hg, et⟩ := pa.item hx
                  have et2 := upd_get (o := .lst (((gnames (gs.take j)).filter fun z => decide (z ∈ k.ms)).map V.str)) nN (s2 _ _ et)
                  have h32 := upd_get (o := .lst (((gnames (gs.take j)).filter fun z => decide (z ∈ k.ms)).map V.str)) nN h3'
                  have sq4 : SqT K (upd H2 N (.lst (((gnames (gs.take j)).filter fun z => decide (z ∈ k.ms)).map V.str))) mm (k.ms.map V.str) := SqT.of h32
                  have li := (List.getElem?_eq_some_iff.mp hg).1
                  walk_at "rd"
                  refine ⟨flat_strs _, ?_⟩
                  rw [inV_strs]
                  have tk : ((gnames (gs.take (j + 1))).filter fun z => decide (z ∈ k.ms)) = ((gnames (gs.take j)).filter fun z => decide (z ∈ k.ms)) ++ (if g.1 ∈ k.ms then [g.1] else []) := by
                    rw [gnames_snoc hg, List.filter_append]
                    congr 1
                    by_cases e : g.1 ∈ k.ms <;> simp [e]
                  walk_at "rd"
                  refine iteD (fun e => ?_) (fun e => ?_)
                  · walk_at "rd"
                    refine ⟨?_, ?_⟩
                    · have a1 := List.length_filter_le (fun z => decide (z ∈ k.ms)) (gnames (gs.take j))
                      rw [gnames_len, List.length_take] at a1
                      rw [List.length_map]
                      show _ < 16777216
                      omega
                    · rw [upd_upd, tk, if_pos e, List.map_append]
                      rfl
                  · rw [tk, if_neg e, List.append_nil]
                · rintro H' rfl
                  rw [la, List.take_of_length_le (Nat.le_refl _)]
                  have e0 : ((gnames gs).filter fun z => decide (z ∈ k.ms)) = ordered gs k := rfl
                  rw [e0]
                  have hN : (upd H2 N (.lst ((ordered gs k).map V.str))) N = some (.lst ((ordered gs k).map V.str)) := upd_same
                  have hB3 := upd_get (o := .lst ((ordered gs k).map V.str)) nN hB
                  have h23 := upd_get (o := .lst ((ordered gs k).map V.str)) nN h2'
                  have s3 := s2.new nN (o := .lst ((ordered gs k).map V.str))
                  obtain ⟨w1, w2⟩ := headWords_8 go kok
                  have wsum := len_sum w1
                  have c1 : (Str.ofString " ").length = 1 := by decide +kernel
                  have ol := ordered_len gs k
                  have two : headTwo k = [if k.b = true then Str.ofString "many" else Str.ofString "one", k.n] := rfl
                  have so : strsOk (ordered gs k) := fun z hz => by
                    obtain ⟨g, hg, rfl⟩ := List.mem_map.mp (List.mem_filter.mp hz).1
                    exact nm_ok (go.nm g hg)
                  have s23 := (Same.refl H2).new nN (o := .lst ((ordered gs k).map V.str))
                  generalize hH : (upd H2 N (.lst ((ordered gs k).map V.str))) = H3 at hN hB3 h23 s3 s23 ⊢
                  cases hb : k.b
                  · have hw : (if k.b = true then Str.ofString "many" else Str.ofString "one") = Str.ofString "one" := by rw [hb]; rfl
                    rw [hw] at two
                    walk_at "rd"
                    intro A1 nA1
                    have hA1 : (upd H3 A1 (.lst [.str "one", .str k.n])) A1 = some (.lst [.str "one", .str k.n]) := upd_same
                    have hN1 := upd_get (o := .lst [.str "one", .str k.n]) nA1 hN
                    have s1 := (Same.refl H3).new nA1 (o := .lst [.str "one", .str k.n])
                    walk_at "rd"
                    intro A2 nA2
                    have hA12 := upd_get (o := .lst []) nA2 hA1
                    have hN2 := upd_get (o := .lst []) nA2 hN1
                    have s2' := s1.new nA2 (o := .lst [])
                    refine ⟨.list ((ordered gs k).map PyData.str), .list [], .lst (SqL.of hN2) (strs_dpAll _), .lst (SqL.of upd_same) .nil, strsL_shaped so, by decide +kernel, ?_⟩
                    rw [strsL_nil]
                    walk_at "rd"
                    refine iteND (fun hne => ?_) (fun he => ?_)
                    · have hpos : 0 < (ordered gs k).length := List.length_pos_iff.mpr hne
                      have hwd : headWords gs k = headTwo k ++ Str.ofString "of" :: ordered gs k := if_pos hpos
                      walk_at "rd"
                      intro A3 nA3
                      have hA13 := upd_get (o := .lst [.str "of"]) nA3 hA12
                      have hN3 := upd_get (o := .lst [.str "of"]) nA3 hN2
                      walk_at "rd"
                      refine ⟨by rw [List.length_map, sizeLine_eq]; show 1 + _ ≤ _; omega, ?_⟩
                      intro A4 nA4
                      have hA14 := upd_get (o := .lst ([.str "of"] ++ (ordered gs k).map V.str)) nA4 hA13
                      walk_at "rd"
                      refine ⟨by rw [List.length_append, List.length_map, sizeLine_eq]; show 2 + (1 + _) ≤ _; omega, ?_⟩
                      intro A5 nA5
                      refine rest _ _ ⟨A5, N, (((s23.trans s2').new nA3).new nA4).new nA5, ?_, by rw [hb]; rfl⟩
                      rw [upd_same, hwd, List.map_append, two]
                      rfl
                    · have hno : ¬ 0 < (ordered gs k).length := by rw [he]; decide
                      have hwd : headWords gs k = headTwo k := if_neg hno
                      walk_at "rd"
                      intro A3 nA3
                      have hA13 := upd_get (o := .lst []) nA3 hA12
                      walk_at "rd"
                      intro A4 nA4
                      refine rest _ _ ⟨A4, N, ((s23.trans s2').new nA3).new nA4, ?_, by rw [hb]; rfl⟩
                      rw [upd_same, hwd, two]
                      rfl
                  · have hw : (if k.b = true then Str.ofString "many" else Str.ofString "one") = Str.ofString "many" := by rw [hb]; rfl
                    rw [hw] at two
                    walk_at "rd"
                    intro A1 nA1
                    have hA1 : (upd H3 A1 (.lst [.str "many", .str k.n])) A1 = some (.lst [.str "many", .str k.n]) := upd_same
                    have hN1 := upd_get (o := .lst [.str "many", .str k.n]) nA1 hN
                    have s1 := (Same.refl H3).new nA1 (o := .lst [.str "many", .str k.n])
                    walk_at "rd"
                    intro A2 nA2
                    have hA12 := upd_get (o := .lst []) nA2 hA1
                    have hN2 := upd_get (o := .lst []) nA2 hN1
                    have s2' := s1.new nA2 (o := .lst [])
                    refine ⟨.list ((ordered gs k).map PyData.str), .list [], .lst (SqL.of hN2) (strs_dpAll _), .lst (SqL.of upd_same) .nil, strsL_shaped so, by decide +kernel, ?_⟩
                    rw [strsL_nil]
                    walk_at "rd"
                    refine iteND (fun hne => ?_) (fun he => ?_)
                    · have hpos : 0 < (ordered gs k).length := List.length_pos_iff.mpr hne
                      have hwd : headWords gs k = headTwo k ++ Str.ofString "of" :: ordered gs k := if_pos hpos
                      walk_at "rd"
                      intro A3 nA3
                      have hA13 := upd_get (o := .lst [.str "of"]) nA3 hA12
                      have hN3 := upd_get (o := .lst [.str "of"]) nA3 hN2
                      walk_at "rd"
                      refine ⟨by rw [List.length_map, sizeLine_eq]; show 1 + _ ≤ _; omega, ?_⟩
                      intro A4 nA4
                      have hA14 := upd_get (o := .lst ([.str "of"] ++ (ordered gs k).map V.str)) nA4 hA13
                      walk_at "rd"
                      refine ⟨by rw [List.length_append, List.length_map, sizeLine_eq]; show 2 + (1 + _) ≤ _; omega, ?_⟩
                      intro A5 nA5
                      refine rest _ _ ⟨A5, N, (((s23.trans s2').new nA3).new nA4).new nA5, ?_, by rw [hb]; rfl⟩
                      rw [upd_same, hwd, List.map_append, two]
                      rfl
                    · have hno : ¬ 0 < (ordered gs k).length := by rw [he]; decide
                      have hwd : headWords gs k = headTwo k := if_neg hno
                      walk_at "rd"
                      intro A3 nA3
                      have hA13 := upd_get (o := .lst []) nA3 hA12
                      walk_at "rd"
                      intro A4 nA4
                      refine rest _ _ ⟨A4, N, ((s23.trans s2').new nA3).new nA4, ?_, by rw [hb]; rfl⟩
                      rw [upd_same, hwd, two]
                      rfl
            · walk_at "rd"
              exact rest _ _ ⟨rfl, rfl⟩
        · rintro σ H2 ⟨s2, B, a, hB, rfl, al⟩
          match a, al with
          | [a1, a2, a3, a4, a5, a6, a7, a8, a9], _ =>
            rw [lb, List.take_of_length_le (Nat.le_refl _)] at hB
            have e0 : gs.map gateLine ++ ks.flatMap (kindLines gs) = pageLines gs ks := rfl
            rw [e0] at hB
            obtain ⟨p1, p2⟩ := page_len go ok ks.length
            rw [List.take_of_length_le (Nat.le_refl _), e0] at p1 p2
            have psum := len_sum p1
            have c1 : (Str.ofString "\n").length = 1 := by decide +kernel
            walk_at "rd"
            refine ⟨by rw [c1]; omega, ?_⟩
            exact q _ s2
end
end G
namespace G
open PySem PySem.Spec PyProof.Rows L2
theorem few_dig : ∀ n : Nat, n ≤ 10 → (n : Int).natAbs.log2 < 1920 ∧ (toString (n : Int) : Str).length ≤ 2 := by
  have a : ∀ n : Fin 11, ((n.val : Nat) : Int).natAbs.log2 < 1920 ∧ (toString ((n.val : Nat) : Int) : Str).length ≤ 2 := by decide +kernel
  intro n h
  exact a ⟨n, by omega⟩
/-- what repr tells -/
def sysRepr (a b : Nat) : Str := Str.ofString "System of " ++ toString (a : Int) ++ Str.ofString " gates, " ++ toString (b : Int) ++ Str.ofString " kinds"
section
variable {P : Program} {w : World} {K : PySem.W.Frag} {mg : Str → Option Value} {base : Heap} {CX : CXT}
def spSysStr (K : PySem.W.Frag) : Sp := fun vs H Q _ => ∃ (a : Addr), vs = [.ref a] ∧ ∃ x : Str, SysW K H a x ∧ Q (.str x) H
theorem ok_System_str {f : Addr} {fd : FuncData} {dvs : List V} {kws : List (Str × V)} (T : Tx K mg)
    (F : FunD K "__str__" "System.__str__" (defArgs s_System___str__) (defBody s_System___str__) (defScope s_System___str__) dvs kws f fd) :
    FnOk P w K mg base CX 1 f fd ["self"] (spSysStr K) := by
  refine F.ok sc_System___str__ (fun vs H Q E h => ?_) (fun cdv A outer s H vs Q E hr h => ?_)
  · obtain ⟨a, rfl, _⟩ := h
    rfl
  · obtain ⟨a, rfl, x, ⟨dx, t, u, pl, pg, l, tr, ha⟩, q⟩ := h
    have cl := T.c_System
    have n3 := T.na_System_written
    refine ⟨_, PSs.nox (pss_one (ps_ret (pe_callTy SkE.call_str_str rfl T.f_str (by decide +kernel) (pa_cons (pe_fld (pv 0) rfl) pa_nil)))), ?_⟩
    walk_at "rd"
    exact q
theorem strS (T : Tx K mg) : ∃ f fd ps, (PySem.W.findIn K (.ref (cS K)) "__str__" = some (some (.ref f)) ∧ PySem.W.isFn K (.ref f) = true) ∧ FnOk P w K mg base CX 1 f fd ps (spSysStr K) ∧ Binds K fd ps [] := by
  obtain ⟨fd, F⟩ := T.d_System___str__
  exact ⟨_, fd, _, T.st_System, ok_System_str T F, F.bindsN fun _ _ _ _ _ _ us hl => match us, hl with | [_], _ => rfl⟩
def spSysRepr (K : PySem.W.Frag) : Sp := fun vs H Q _ => ∃ (a dx t u : Addr), vs = [.ref a] ∧ ∃ (gs : List GateT) (ks : List KindT) (as bs : List Addr), SysIn K H a dx t u gs ks ∧ SysArg K H t u as bs gs ks ∧ Q (.str (sysRepr gs.length ks.length)) H
theorem ok_System_repr {f : Addr} {fd : FuncData} {dvs : List V} {kws : List (Str × V)} (T : Tx K mg)
    (F : FunD K "__repr__" "System.__repr__" (defArgs s_System___repr__) (defBody s_System___repr__) (defScope s_System___repr__) dvs kws f fd) :
    FnOk P w K mg base CX 1 f fd ["self"] (spSysRepr K) := by
  refine F.ok sc_System___repr__ (fun vs H Q E h => ?_) (fun cdv A outer s H vs Q E hr h => ?_)
  · obtain ⟨a, dx, t, u, rfl, _⟩ := h
    rfl
  · obtain ⟨a, dx, t, u, rfl, gs, ks, as, bs, ⟨pl, pg, l, tr, ls, kvs, h1, _⟩, ⟨ga, go, ka, ko⟩, q⟩ := h
    have cl := T.c_System
    have n1 := T.na_System_all_gates
    have n2 := T.na_System_all_kinds
    have ht := ga.tup
    have hk := ka.tup
    have la : (as.map V.ref).length = gs.length := by rw [List.length_map, ga.ln]
    have lb : (bs.map V.ref).length = ks.length := by rw [List.length_map, ka.ln]
    have g3 := go.few
    have k4 := ko.few
    obtain ⟨e1, e2⟩ := few_dig gs.length (by omega)
    obtain ⟨e3, e4⟩ := few_dig ks.length (by omega)
    have c1 : (Str.ofString "System of ").length = 10 := by decide +kernel
    have c2 : (Str.ofString " gates, ").length = 8 := by decide +kernel
    have c3 : (Str.ofString " kinds").length = 6 := by decide +kernel
    have sz : sizeLine = 16777216 := sizeLine_eq
    refine ⟨_, PSs.nox (pss_one (ps_ret (pe_joined (.cons pe_str (.cons (pe_fmt (pe_callB call_len_seq rfl T.f_len (by decide +kernel) (pa_cons (pe_fld (pv 0) rfl) pa_nil))) (.cons pe_str (.cons (pe_fmt (pe_callB call_len_seq rfl T.f_len (by decide +kernel) (pa_cons (pe_fld (pv 0) rfl) pa_nil))) (.cons pe_str .nil)))))))), ?_⟩
    walk_at "rd"
    have d1 : (((as.map V.ref).length : Nat) : Int).natAbs.log2 < 1920 := by rw [la]; exact e1
    have d2 : (((bs.map V.ref).length : Nat) : Int).natAbs.log2 < 1920 := by rw [lb]; exact e3
    have n1' : (toString (((as.map V.ref).length : Nat) : Int) : Str).length ≤ 2 := by rw [la]; exact e2
    have n2' : (toString (((bs.map V.ref).length : Nat) : Int) : Str).length ≤ 2 := by rw [lb]; exact e4
    refine ⟨d1, _, rfl, by rw [cat_len, empty_cat, c1, sz]; omega, ?_⟩
    refine ⟨_, rfl, by rw [cat_len, cat_len, empty_cat, c1, c2, sz]; omega, ?_⟩
    walk_at "rd"
    refine ⟨by rw [cat_len, cat_len, cat_len, empty_cat, c1, c2, sz]; omega, ?_⟩
    refine ⟨_, rfl, by rw [cat_len, cat_len, cat_len, cat_len, empty_cat, c1, c2, c3, sz]; omega, ?_⟩
    rw [empty_cat, la, lb]
    exact q
theorem reprS (T : Tx K mg) : ∃ f fd ps, (PySem.W.findIn K (.ref (cS K)) "__repr__" = some (some (.ref f)) ∧ PySem.W.isFn K (.ref f) = true) ∧ FnOk P w K mg base CX 1 f fd ps (spSysRepr K) ∧ Binds K fd ps [] := by
  obtain ⟨fd, F⟩ := T.d_System___repr__
  exact ⟨_, fd, _, T.re_System, ok_System_repr T F, F.bindsN fun _ _ _ _ _ _ us hl => match us, hl with | [_], _ => rfl⟩
end
end G
namespace G
open PySem PySem.Spec PyProof.Rows L2
/-! ### sorted lists of texts -/
theorem sorted_unique {α : Type} {R : α → α → Prop} (anti : ∀ a b, R a b → R b a → a = b) : ∀ {l m : List α}, l.Pairwise R → m.Pairwise R → l.Perm m → l = m
  | [], m, _, _, p => (List.nil_perm.mp p).symm
  | x :: l, [], _, _, p => absurd (List.perm_nil.mp p) (by simp)
  | x :: l, y :: m, h1, h2, p => by
    obtain ⟨a1, a2⟩ := List.pairwise_cons.mp h1
    obtain ⟨b1, b2⟩ := List.pairwise_cons.mp h2
    have e : x = y := by
      have hx : x ∈ y :: m := p.mem_iff.mp List.mem_cons_self
      have hy : y ∈ x :: l := p.mem_iff.mpr List.mem_cons_self
      rcases List.mem_cons.mp hx with e | hx
      · exact e
      rcases List.mem_cons.mp hy with e | hy
      · exact e.symm
      exact anti x y (a1 y hy) (b1 x hx)
    subst e
    rw [sorted_unique anti a2 b2 (List.Perm.cons_inv p)]
def leS (a b : Str) : Prop := a.cps.toList ≤ b.cps.toList
theorem rising_pw : ∀ (p : Str) (l : List Str), risingS p l = true → (p :: l).Pairwise leS
  | p, [], _ => List.pairwise_singleton ..
  | p, x :: r, h => by
    have h' : (!ltCps x.cps.toList p.cps.toList && risingS x r) = true := h
    obtain ⟨h1, h2⟩ := Bool.and_eq_true_iff.mp h'
    have ih := rising_pw x r h2
    have px : leS p x := by
      rw [ltCps_eq] at h1
      exact List.not_lt.mp fun hc => by rw [decide_eq_true hc] at h1; cases h1
    refine List.pairwise_cons.mpr ⟨fun y hy => ?_, ih⟩
    rcases List.mem_cons.mp hy with rfl | hy
    · exact px
    · exact List.le_trans px ((List.pairwise_cons.mp ih).1 y hy)
theorem sorted_pw : ∀ (l : List Str), sortedS l = true → l.Pairwise leS
  | [], _ => .nil
  | x :: r, h => rising_pw x r h
theorem LabelsOk.unique {ks : List KindT} {l m : List Str} (h : LabelsOk ks l) (h' : LabelsOk ks m) : l = m := by
  have hlm : l.length = m.length := Nat.le_antisymm (pigeon h.nd fun x hx => (h'.me x).mpr ((h.me x).mp hx)) (pigeon h'.nd fun x hx => (h.me x).mpr ((h'.me x).mp hx))
  have p : l.Perm m := perm_of h'.nd (fun x hx => (h.me x).mpr ((h'.me x).mp hx)) hlm
  exact sorted_unique (fun a b h1 h2 => TL.ext_tl (List.le_antisymm h1 h2)) (sorted_pw l h.so) (sorted_pw m h'.so) p
/-! ### the first word of a row -/
def wordsQ (q : RwT) : List Str := match q.1 with
  | none => q.2.words
  | some z => (z ++ Str.ofString ":") :: q.2.words
theorem text_split {q : RwT} (h : q.2.Ok) (hl : ∀ z, q.1 = some z → Nm z) : Txt.split q.text (Str.ofString " ") = wordsQ q := by
  obtain ⟨l, r⟩ := q
  cases l with
  | none => exact rwText_split h
  | some z =>
    have e : RwT.text (some z, r) = Txt.join (Str.ofString " ") ((z ++ Str.ofString ":") :: r.words) := by
      refine TL.ext_tl ?_
      show TL.tl (z ++ Str.ofString ": " ++ rwText r) = _
      rw [TL.join_eq, TL.tl_join, TL.tl_append, TL.tl_append, show TL.tl (rwText r) = TL.joinL [32] (r.words.map TL.tl) from rwText_list r]
      have w0 := (words_few h).1
      cases hw : r.words with
      | nil => exact absurd hw w0
      | cons a b =>
        show TL.tl z ++ TL.tl (Str.ofString ": ") ++ _ = TL.tl (z ++ Str.ofString ":") ++ (TL.tl (Str.ofString " ") ++ TL.joinL (TL.tl (Str.ofString " ")) ((a :: b).map TL.tl))
        rw [TL.tl_append, show TL.tl (Str.ofString ": ") = TL.tl (Str.ofString ":") ++ TL.tl (Str.ofString " ") from by decide +kernel, show TL.tl (Str.ofString " ") = [32] from by decide +kernel]
        simp only [List.append_assoc]
    rw [e]
    refine TL.split_join (y := Str.ofString " ") (s := 32) (S := []) (by decide +kernel) (by decide +kernel) (by simp) fun p hp => ?_
    rcases List.mem_cons.mp hp with rfl | hp
    · rw [TL.tl_append]
      intro hm
      rcases List.mem_append.mp hm with hm | hm
      · exact plain_not (nm_plain (hl z rfl)) (by decide +kernel) hm
      · have : ¬ (32 ∈ TL.tl (Str.ofString ":")) := by decide +kernel
        exact this hm
    · exact plain_not (words_plain h p hp).1 (by decide +kernel)
theorem cut_last {w : Str} {a : List Nat} {c : Nat} (e : w.cps.toList = a ++ [c]) : cutS w (some (-1)) none = ⟨#[c]⟩ ∧ cutS w none (some (-1)) = ⟨a.toArray⟩ := by
  have hl : w.length = a.length + 1 := by rw [str_len, e, List.length_append]; rfl
  have i1 : HT.sIx w.length 0 (some (-1)) = a.length := by
    show (if (-1 : Int) < 0 then ((-1 : Int) + ((w.length : Nat) : Int)).toNat else min (-1 : Int).toNat w.length) = a.length
    rw [if_pos (by decide), hl]
    omega
  have i2 : HT.sIx w.length w.length (some (-1)) = a.length := by
    show (if (-1 : Int) < 0 then ((-1 : Int) + ((w.length : Nat) : Int)).toNat else min (-1 : Int).toNat w.length) = a.length
    rw [if_pos (by decide), hl]
    omega
  constructor
  · unfold cutS
    rw [i1, HT.sIx_none, e, hl, List.drop_append_of_le_length (Nat.le_refl _), List.drop_length]
    have : a.length + 1 - a.length = 1 := by omega
    rw [this]
    rfl
  · unfold cutS
    rw [i2, HT.sIx_none, e, List.drop_zero, Nat.sub_zero, List.take_append_of_le_length (Nat.le_refl _), List.take_length]
theorem lab_cut (z : Str) : cutS (z ++ Str.ofString ":") (some (-1)) none = Str.ofString ":" ∧ cutS (z ++ Str.ofString ":") none (some (-1)) = z := by
  have e : (z ++ Str.ofString ":").cps.toList = z.cps.toList ++ [58] := by
    rw [cat_list]
    rfl
  obtain ⟨h1, h2⟩ := cut_last e
  refine ⟨h1, ?_⟩
  rw [h2]
theorem word_cut {w : Str} (h : Plain w) (h0 : w.cps.toList ≠ []) : cutS w (some (-1)) none ≠ Str.ofString ":" := by
  obtain ⟨a, c, e⟩ : ∃ a c, w.cps.toList = a ++ [c] := ⟨w.cps.toList.dropLast, w.cps.toList.getLast h0, (List.dropLast_concat_getLast h0).symm⟩
  rw [(cut_last e).1]
  intro he
  have hc : isSign c = true := h c (by rw [e]; simp)
  have e2 : (⟨#[c]⟩ : Str).cps.toList = (Str.ofString ":").cps.toList := by rw [he]
  have e3 : [c] = [58] := e2
  have : c = 58 := by injection e3
  rw [this] at hc
  exact absurd hc (by decide +kernel)
theorem words_ne {r : RW} (h : r.Ok) : ∀ z ∈ r.words, z.cps.toList ≠ [] := by
  have lit : ∀ z ∈ (["join", "drop", "look", "anew", "arrive", "wait", "else", "over", "go", "end"] : List Str), z.cps.toList ≠ [] := by decide +kernel
  have nm : ∀ g, Nm g → g.cps.toList ≠ [] := fun g hg => by
    obtain ⟨c, r, e, _⟩ := name_form hg.1
    rw [e]
    simp
  have dg : ∀ k, (digS k).cps.toList ≠ [] := fun k => by simp [digS]
  intro z hz
  cases r with
  | one w g =>
    obtain ⟨hw, hg⟩ := h
    rcases List.mem_cons.mp hz with rfl | hz
    · exact lit z (by simp only [fourW, List.mem_cons, List.not_mem_nil, or_false] at hw; rcases hw with rfl | rfl | rfl | rfl <;> simp)
    · rw [List.mem_singleton.mp hz]; exact nm g hg
  | arr g d =>
    simp only [RW.words, List.mem_cons, List.not_mem_nil, or_false] at hz
    rcases hz with rfl | rfl | rfl
    · exact lit _ (by simp)
    · exact nm _ h.1
    · exact dg _
  | wai g k =>
    simp only [RW.words, List.mem_cons, List.not_mem_nil, or_false] at hz
    rcases hz with rfl | rfl | rfl | rfl
    · exact lit _ (by simp)
    · exact nm _ h.1
    · exact lit _ (by simp)
    · exact dg _
  | ovr g d k =>
    simp only [RW.words, List.mem_cons, List.not_mem_nil, or_false] at hz
    rcases hz with rfl | rfl | rfl | rfl
    · exact lit _ (by simp)
    · exact nm _ h.1
    · exact dg _
    · exact dg _
  | go ks =>
    rcases List.mem_cons.mp hz with rfl | hz
    · exact lit _ (by simp)
    · obtain ⟨k, hm, rfl⟩ := List.mem_map.mp hz
      exact dg k
  | fin =>
    rw [List.mem_singleton.mp hz]
    exact lit _ (by simp)
/-- the first word -/
theorem first_word {q : RwT} (h : q.2.Ok) (hl : ∀ z, q.1 = some z → Nm z) : ∃ w r, wordsQ q = w :: r ∧ w.length ≤ 9 ∧
    (q.1 = none → cutS w (some (-1)) none ≠ Str.ofString ":") ∧ (∀ z, q.1 = some z → w = z ++ Str.ofString ":") := by
  obtain ⟨l, r⟩ := q
  cases l with
  | none =>
    have w0 := (words_few h).1
    cases hw : r.words with
    | nil => exact absurd hw w0
    | cons a b =>
      have ha := words_plain h a (by rw [hw]; exact List.mem_cons_self)
      refine ⟨a, b, hw, by have := ha.2; omega, ⟨fun _ => ?_, fun z hz => (by cases hz)⟩⟩
      refine word_cut ha.1 ?_
      have ne : ∀ z ∈ r.words, z.cps.toList ≠ [] := words_ne h
      exact ne a (by rw [hw]; exact List.mem_cons_self)
  | some z =>
    refine ⟨z ++ Str.ofString ":", r.words, rfl, ?_, ⟨fun hz => (by cases hz), fun y hy => (by rw [Option.some.inj hy])⟩⟩
    rw [cat_len, show (Str.ofString ":").length = 1 from by decide +kernel]
    have := (hl z rfl).2
    omega
section
variable {P : Program} {w : World} {K : PySem.W.Frag} {mg : Str → Option Value} {base : Heap} {CX : CXT}
theorem c_page (T : Tx K mg) : Cal P w K mg base CX0 1 "_law_page" [] spPage := by
  obtain ⟨fd, F⟩ := T.d__law_page
  exact .mk F (ok_page T F) T.n__law_page fun _ _ _ _ _ _ us hl => match us, hl with | [_, _], _ => rfl
/-- the labels found so far, in the list at D -/
inductive MkSt (H0 : Hp) (l2 D : Addr) (ks : List KindT) (i : Nat) (σ : L2.St) (H' : Hp) : Prop
  | mk (fs : List Str) (a b c : Option V) (eσ : σ = [some (.ref l2), some (.ref D), a, b, c]) (sm : Same H0 H') (hD : H' D = some (.lst (fs.map V.str))) (nd : fs.Nodup) (ln : fs.length ≤ 10 * i) (me : ∀ z, z ∈ fs ↔ z ∈ labelsOf (ks.take i))
inductive MkIn (H0 : Hp) (l2 D : Addr) (ks : List KindT) (i : Nat) (k : KindT) (y : V) (j : Nat) (σ : L2.St) (H' : Hp) : Prop
  | mk (fs : List Str) (b c : Option V) (eσ : σ = [some (.ref l2), some (.ref D), some y, b, c]) (sm : Same H0 H') (hD : H' D = some (.lst (fs.map V.str))) (nd : fs.Nodup) (ln : fs.length ≤ 10 * i + j)
    (me : ∀ z, z ∈ fs ↔ z ∈ labelsOf (ks.take i) ∨ z ∈ (k.rs.take j).filterMap (·.1))
def spMarks : Sp := fun vs H Q _ => ∃ (l2 : Addr), vs = [.ref l2] ∧ ∃ (qs : List Addr) (ks : List KindT), SortsAt H l2 qs ks ∧ ks.length ≤ 4 ∧ (∀ k ∈ ks, KindOk k) ∧
  ∀ H' t ls, Same H H' → H' t = some (.tup (ls.map V.str)) → LabelsOk ks ls → Q (.ref t) H'
theorem ok_marks {f : Addr} {fd : FuncData} {dvs : List V} {kws : List (Str × V)} (T : Tx K mg)
    (F : FunD K "_law_marks" "_law_marks" (defArgs s__law_marks) (defBody s__law_marks) (defScope s__law_marks) dvs kws f fd) :
    FnG P w K mg base CX0 1 f fd ["_law_sorts_here"] spMarks := by
  refine okG F sc__law_marks (fun vs H Q E h => ?_) (fun cdv A outer s H vs Q E hr hgd h => ?_)
  · obtain ⟨l2, rfl, _⟩ := h
    rfl
  · obtain ⟨l2, rfl, qs, ks, sa, k4, kok, q⟩ := h
    have hu := hr.units
    have hl2 := sa.lst
    have lb : (qs.map V.ref).length = ks.length := by rw [List.length_map, sa.ln]
    refine ⟨_, PSs.nox (pss_cons (ps_set (i := 1) sc__law_marks.nd rfl (Or.inl rfl) (pe_lst pa_nil))
    (pss_cons (ps_for PassesOwn.never rfl (pi_list (pv 0)) (pg_name (i := 2) sc__law_marks.nd rfl (Or.inl rfl))
      (pss_one (ps_for PassesOwn.never rfl (pi_tup (pe_ix ix_tup (pv 2) pe_int (fun _ _ => rfl))) (pg_name (i := 3) sc__law_marks.nd rfl (Or.inl rfl))
      (pss_cons (ps_set (i := 4) sc__law_marks.nd rfl (Or.inl rfl) (pe_ix ix_list (pe_split (pv 3) pe_str) pe_int (fun _ _ => rfl)))
    (pss_one (ps_if (PW.pt (pw_and (pt_cmpR op_eq (pe_slice sl_str (pv 4) (po_some (pe_un un_neg pe_int)) po_none) pe_str (nomark _)) (pw_and1 (pt_cmpR op_notIn_seq (pe_slice sl_str (pv 4) po_none (po_some (pe_un un_neg pe_int))) (pv 1) rfl)))) (pss_one (ps_expr (pe_bm PySem.F.plainAttrs_list PySem.F.slot_list_append PySem.F.type_list_append mt_append (pv 1) (pa_cons (pe_slice sl_str (pv 4) po_none (po_some (pe_un un_neg pe_int))) pa_nil)))) pss_nil))))))
    (pss_one (ps_ret (pe_callTy call_tuple_of rfl T.f_tuple (by decide +kernel) (pa_cons (pe_callB cr_sortedS rfl T.f_sorted (by decide +kernel) (pa_cons (pv 1) pa_nil)) pa_nil)))))), ?_⟩
    walk_at "rd"
    intro D nD
    walk_at "rd"
    refine ⟨⟨_, SqL.of (upd_get nD hl2)⟩, ?_⟩
    refine forW (wk_list (qs.map V.ref)) (fun i σ H' => MkSt H l2 D ks i σ H') (.mk [] _ _ _ rfl (by walk_at "g but") upd_same List.nodup_nil (Nat.zero_le _) (fun z => by simp [labelsOf])) (fun i σ H' _ e => by obtain ⟨fs, a, b, c, _, sm, _⟩ := e; exact SqL.of (sm _ _ hl2)) ?_ ?_
    · rintro i x σ H1 hx ⟨fs, a, b, c, rfl, s1, hD, nd, ln, me⟩
      obtain ⟨y, k, rfl, hy, hkk, tt, mm, h1, h2, h3⟩ := sa.item hx
      have h11 := s1 _ _ h1
      have h21 := s1 _ _ h2
      have ok := kok k (List.mem_of_getElem? hkk)
      have li := (List.getElem?_eq_some_iff.mp hkk).1
      have k10 := ok.ro.ten
      have rl : (rowsV k.rs).length = k.rs.length := List.length_map ..
      have lab1 : labelsOf (ks.take (i + 1)) = labelsOf (ks.take i) ++ k.rs.filterMap (·.1) := by
        unfold labelsOf
        rw [List.take_add_one, hkk, List.flatMap_append]
        simp
      walk_at "rd"
      refine ⟨⟨_, SqT.of h21⟩, ?_⟩
      refine forW (wk_tup (rowsV k.rs)) (fun j σ H' => MkIn H l2 D ks i k (.ref y) j σ H') (.mk fs _ _ rfl s1 hD nd ln (fun z => by rw [me z]; simp)) (fun j σ H' _ e => by obtain ⟨fs, b, c, _, sm, _⟩ := e; exact SqT.of (sm _ _ h2)) ?_ ?_
      · rintro j x σ H2 hx2 ⟨fs2, b2, c2, rfl, s2, hD2, nd2, ln2, me2⟩
        obtain ⟨u, hu2, rfl⟩ : ∃ u, k.rs[j]? = some u ∧ V.str u.text = x := by
          unfold rowsV at hx2
          rw [List.getElem?_map] at hx2
          cases e : k.rs[j]? with
          | none => rw [e] at hx2; cases hx2
          | some u => rw [e] at hx2; exact ⟨u, rfl, Option.some.inj hx2⟩
        have lj := (List.getElem?_eq_some_iff.mp hu2).1
        obtain ⟨o1, o2, _⟩ := ok.ro.ok u (List.mem_of_getElem? hu2)
        have ts := text_split o1 o2
        obtain ⟨wd, wr, ew, wl, wn, wz⟩ := first_word o1 o2
        have tl : u.text.length ≤ 55 := rowText_len o1 o2
        have tk : ∀ y, u.1 = y → (k.rs.take (j + 1)).filterMap (·.1) = (k.rs.take j).filterMap (·.1) ++ y.toList := by
          intro y hy
          rw [List.take_add_one, hu2, List.filterMap_append]
          cases y with
          | none => simp [hy]
          | some c => simp [hy]
        walk_at "rd"
        rw [ts, ew]
        refine ⟨by rw [sizeLine_eq]; omega, ?_⟩
        intro W nW
        walk_at "rd"
        refine ⟨at_any (j := 0) rfl rfl, ?_⟩
        have wsz : wd.length ≤ sizeLine := by rw [sizeLine_eq]; omega
        have hDW : upd H2 W (.lst ((wd :: wr).map V.str)) D = some (.lst (fs2.map V.str)) := upd_get nW hD2
        walk_at "rd"
        cases hy1 : u.1 with
        | none =>
          refine iteD (fun hc => absurd hc (by intro hc; first | exact wn hy1 (V.str.inj hc) | exact wn hy1 hc)) (fun _ => ?_)
          walk_at "rd"
          have ek := tk none hy1
          exact .mk fs2 _ _ rfl (by walk_at "g but") hDW nd2 (by omega) (fun z => by rw [me2 z, ek]; simp)
        | some z =>
          obtain rfl := wz z hy1
          obtain ⟨z1, z2⟩ := lab_cut z
          have ek := tk (some z) hy1
          refine iteD (fun _ => ?_) (fun hc => absurd (by first | exact z1 | rw [z1]) hc)
          walk_at "rd"
          refine ⟨flat_strs fs2, ?_⟩
          walk_at "rd"
          refine iteB (fun hb => ?_) (fun hb => ?_)
          · have ni : z ∉ fs2 := by
              have hb' : (!inV (.str (cutS (z ++ Str.ofString ":") none (some (-1)))) (fs2.map V.str)) = true := hb
              rw [z2, inV_strs] at hb'
              intro hm
              rw [decide_eq_true hm] at hb'
              cases hb'
            have lf : (fs2.map V.str).length < sizeLine := by rw [List.length_map, sizeLine_eq]; omega
            walk_at "rd"
            refine ⟨.inl ⟨rfl, _, SqL.of hDW⟩, ?_⟩
            walk_at "rd"
            rw [z2]
            exact .mk (fs2 ++ [z]) _ _ rfl (L2.Same.own (s2.new nW) nD) (by rw [upd_same, List.map_append]; rfl) (List.nodup_append.mpr ⟨nd2, by simp, fun a ha b hb e => by
              rw [List.mem_singleton.mp hb] at e; exact ni (e ▸ ha)⟩) (by rw [List.length_append]; show fs2.length + 1 ≤ _; omega) (fun y => by
              rw [ek, List.mem_append, me2 y]; simp only [List.mem_append, Option.toList_some, List.mem_singleton, or_assoc])
          · have ii : z ∈ fs2 := by
              have hb' : (!inV (.str (cutS (z ++ Str.ofString ":") none (some (-1)))) (fs2.map V.str)) = false := hb
              rw [z2, inV_strs] at hb'
              by_cases hm : z ∈ fs2
              · exact hm
              · rw [decide_eq_false hm] at hb'
                cases hb'
            walk_at "rd"
            exact .mk fs2 _ _ rfl (by walk_at "g but") hDW nd2 (by omega) (fun y => by
              rw [ek, List.mem_append, Option.toList_some, List.mem_singleton]
              constructor
              · intro hy
                rcases (me2 y).mp hy with h | h
                · exact .inl h
                · exact .inr (.inl h)
              · rintro (h | h | rfl)
                · exact (me2 y).mpr (.inl h)
                · exact (me2 y).mpr (.inr h)
                · exact ii)
      · rintro σ H2 ⟨fs2, b2, c2, rfl, s2, hD2, nd2, ln2, me2⟩
        rw [rl] at ln2
        rw [rl, List.take_of_length_le (Nat.le_refl _)] at me2
        exact .mk fs2 _ _ _ rfl s2 hD2 nd2 (by omega) (fun z => by rw [me2 z, lab1, List.mem_append])
    · rintro σ H1 ⟨fs, a, b, c, rfl, s1, hD, nd, ln, me⟩
      rw [lb] at ln
      rw [lb, List.take_of_length_le (Nat.le_refl _)] at me
      walk_at "rd"
      intro ys p hp hs np
      walk_at "rd"
      refine .inl ⟨SqL.of upd_same, ?_⟩
      intro t nt
      exact q _ t ys (by walk_at "g but") upd_same ⟨hs, hp.nodup_iff.mpr nd, fun z => by rw [hp.mem_iff, me z]⟩
end
end G
namespace G
open PySem PySem.Spec PyProof.Rows L2
/-! ### lists of data, what they measure -/
theorem textFrom_le {B : Nat} : ∀ (ts : List Str) (k : Nat) (acc : Str), (∀ t ∈ ts, t.length ≤ B) → (textFrom k acc ts).length ≤ acc.length + (B + 2) * ts.length
  | [], k, acc, _ => Nat.le_add_right _ _
  | t :: ts, k, acc, h => by
    have h1 := h t List.mem_cons_self
    have h2 := textFrom_le ts (k + 1) (acc ++ (if k > 0 then ", " else "" : String) ++ t) fun y hy => h y (List.mem_cons_of_mem _ hy)
    have h3 : (acc ++ ((if k > 0 then ", " else "" : String) : Str) ++ t).length ≤ acc.length + 2 + t.length := by
      rw [cat_len, cat_len]
      have : (((if k > 0 then ", " else "" : String) : Str)).length ≤ 2 := by
        split
        · decide +kernel
        · decide +kernel
      omega
    show (textFrom (k + 1) (acc ++ (if k > 0 then ", " else "" : String) ++ t) ts).length ≤ _
    rw [List.length_cons, Nat.mul_add]
    omega
theorem listText_le {B : Nat} {ts : List Str} (h : ∀ t ∈ ts, t.length ≤ B) : (listText ts).length ≤ (B + 2) * ts.length + 2 := by
  have h1 := textFrom_le ts 0 (Str.ofString "[") h
  unfold listText
  have e1 : (Str.ofString "[").length = 1 := by decide +kernel
  have e2 : (Str.ofString "]").length = 1 := by decide +kernel
  show (textFrom 0 (Str.ofString "[") ts ++ Str.ofString "]").length ≤ _
  rw [cat_len]
  omega
/-! ### what the text of a system measures, shown -/
def As (z : Str) : Prop := ∀ c ∈ z.cps.toList, c < 128
theorem As.cat {x y : Str} (h : As x) (h' : As y) : As (x ++ y) := by
  intro c hc
  rw [cat_list] at hc
  rcases List.mem_append.mp hc with hc | hc
  · exact h c hc
  · exact h' c hc
theorem nm_as {z : Str} (h : Nm z) : As z := fun c hc => sign_128 (nm_plain h c hc)
theorem join_as {l : List Str} {y : Str} (hy : As y) (h : ∀ z ∈ l, As z) : As (Txt.join y l) := by
  have e : (Txt.join y l).cps.toList = TL.joinL y.cps.toList (l.map TL.tl) := by
    rw [TL.join_eq]
    exact TL.tl_join _ _
  have go : ∀ ps : List (List Nat), (∀ p ∈ ps, ∀ c ∈ p, c < 128) → ∀ c ∈ TL.joinL y.cps.toList ps, c < 128 := by
    intro ps
    induction ps with
    | nil => intro _ c hc; cases hc
    | cons p r ih =>
      intro hp c hc
      have h1 := hp p List.mem_cons_self
      have h2 := ih fun q hq => hp q (List.mem_cons_of_mem _ hq)
      cases r with
      | nil => exact h1 c hc
      | cons p2 r2 =>
        have hc' : c ∈ p ++ (y.cps.toList ++ TL.joinL y.cps.toList (p2 :: r2)) := hc
        rcases List.mem_append.mp hc' with hc' | hc'
        · exact h1 c hc'
        rcases List.mem_append.mp hc' with hc' | hc'
        · exact hy c hc'
        · exact h2 c hc'
  intro c hc
  rw [e] at hc
  refine go (l.map TL.tl) (fun p hp => ?_) c hc
  obtain ⟨z, hz, rfl⟩ := List.mem_map.mp hp
  exact h z hz
theorem gateLine_as {g : GateT} (h1 : Nm g.1) (h2 : ∀ z, g.2 = some z → Nm z) : As (gateLine g) := by
  obtain ⟨n, o⟩ := g
  have a1 : As (Str.ofString "gate ") := by unfold As; decide +kernel
  have a2 : As (Str.ofString " in ") := by unfold As; decide +kernel
  cases o with
  | none => exact a1.cat (nm_as h1)
  | some z => exact ((a1.cat (nm_as h1)).cat a2).cat (nm_as (h2 z rfl))
theorem headLine_as {gs : List GateT} {k : KindT} (go : GatesOk gs) (h : KindOk k) : As (headLine gs k) := by
  have a1 : As (Str.ofString "many") := by unfold As; decide +kernel
  have a2 : As (Str.ofString "one") := by unfold As; decide +kernel
  have a3 : As (Str.ofString "of") := by unfold As; decide +kernel
  have a4 : As (Str.ofString " ") := by unfold As; decide +kernel
  have t : ∀ z ∈ headTwo k, As z := by
    intro z hz
    unfold headTwo at hz
    rcases List.mem_cons.mp hz with rfl | hz
    · split
      · exact a1
      · exact a2
    · rw [List.mem_singleton.mp hz]
      exact nm_as h.nm
  unfold headLine
  refine join_as a4 fun z hz => ?_
  unfold headWords at hz
  split at hz
  · rcases List.mem_append.mp hz with hz | hz
    · exact t z hz
    rcases List.mem_cons.mp hz with rfl | hz
    · exact a3
    · obtain ⟨g, hg, rfl⟩ := List.mem_map.mp (List.mem_filter.mp hz).1
      exact nm_as (go.nm g hg)
  · exact t z hz
theorem gateWith {gs : List GateT} (go : GatesOk gs) {g : GateT} (hg : g ∈ gs) : ∀ z, g.2 = some z → Nm z := by
  intro z hz
  obtain ⟨i, hi, e⟩ := List.mem_iff_getElem.mp hg
  obtain ⟨n, wv⟩ := g
  have hz' : wv = some z := hz
  subst hz'
  have zi := go.wi i n z (by rw [List.getElem?_eq_getElem hi, e])
  obtain ⟨g', hg', rfl⟩ := List.mem_map.mp zi
  exact go.nm g' (List.mem_of_mem_take hg')
theorem page_as {gs : List GateT} {ks : List KindT} (go : GatesOk gs) (ok : KindsOk gs ks) : As (pageText gs ks) := by
  have a1 : As (Str.ofString "\n") := by unfold As; decide +kernel
  refine join_as a1 fun z hz => ?_
  rcases List.mem_append.mp hz with hz | hz
  · obtain ⟨g, hg, rfl⟩ := List.mem_map.mp hz
    exact gateLine_as (go.nm g hg) (gateWith go hg)
  · obtain ⟨k, hk, hz⟩ := List.mem_flatMap.mp hz
    rcases List.mem_cons.mp hz with rfl | hz
    · exact headLine_as go (ok.ok k hk)
    · obtain ⟨q, hq, rfl⟩ := List.mem_map.mp hz
      obtain ⟨o1, o2, _⟩ := (ok.ok k hk).ro.ok q hq
      exact rowText_128 o1 o2
theorem page_short {gs : List GateT} {ks : List KindT} (go : GatesOk gs) (ok : KindsOk gs ks) : (pageText gs ks).length ≤ 2632 := by
  obtain ⟨b1, b2⟩ := page_len go ok ks.length
  rw [List.take_length] at b1 b2
  have := join_bound (B := 55) (c := Str.ofString "\n") (by decide +kernel) (by omega) b1
  show (Txt.join (Str.ofString "\n") (gs.map gateLine ++ ks.flatMap (kindLines gs))).length ≤ 2632
  omega
/-! ### labels, text and length as data -/
def toldD (ls : List Str) (x : Str) (n : Nat) : PyData := .list [strsD ls, .str x, .int (n : Int)]
theorem labels_few {ks : List KindT} {ls : List Str} (h : LabelsOk ks ls) (ok : ∀ k ∈ ks, KindOk k) (k4 : ks.length ≤ 4) : ls.length ≤ 40 ∧ ∀ z ∈ ls, Nm z := by
  constructor
  · have p := pigeon h.nd fun x hx => (h.me x).mp hx
    have q : ∀ l : List KindT, (∀ k ∈ l, KindOk k) → (labelsOf l).length ≤ 10 * l.length := by
      intro l
      induction l with
      | nil => intro _; exact Nat.zero_le _
      | cons k l ih =>
        intro hl
        have h1 := ih fun y hy => hl y (List.mem_cons_of_mem _ hy)
        have h2 := (hl k List.mem_cons_self).ro.ten
        have h3 := List.length_filterMap_le (fun q : RwT => q.1) k.rs
        have e : labelsOf (k :: l) = k.rs.filterMap (·.1) ++ labelsOf l := rfl
        rw [e, List.length_append, List.length_cons]
        omega
    have := q ks ok
    omega
  · intro z hz
    obtain ⟨k, hk, hz⟩ := List.mem_flatMap.mp ((h.me z).mp hz)
    obtain ⟨q, hq, e⟩ := List.mem_filterMap.mp hz
    exact ((ok k hk).ro.ok q hq).2.1 z e
theorem tup_showable (l : List Str) : (strsD l).showable = true ∧ (strsD l).hasDict = false ∧ (strsD l).depth ≤ 10 := by
  refine ⟨strs_show l, strs_noDict l, ?_⟩
  simp only [strsD, PyData.depth, strs_depth]
  decide
theorem int_short : ∀ n : Nat, n ≤ 10 → (PyData.int (n : Int)).shown.length ≤ 2 := by
  have a : ∀ n : Fin 11, (PyData.int ((n.val : Nat) : Int)).shown.length ≤ 2 := by decide +kernel
  intro n h
  exact a ⟨n, by omega⟩
theorem told_ok {gs : List GateT} {ks : List KindT} {ls : List Str} {n : Nat} (go : GatesOk gs) (ok : KindsOk gs ks) (h : LabelsOk ks ls) (hn : n ≤ 10) :
    (toldD ls (pageText gs ks) n).showable = true ∧ (toldD ls (pageText gs ks) n).hasDict = false ∧ (toldD ls (pageText gs ks) n).depth ≤ 60 ∧ (toldD ls (pageText gs ks) n).shown.length ≤ sizeLine := by
  obtain ⟨l1, l2⟩ := labels_few h ok.ok ok.few
  obtain ⟨t1, t2, t3⟩ := tup_showable ls
  obtain ⟨s1, s2, s3, _⟩ := small_ok n hn
  have e1 : (strsD ls).shown.length ≤ 30000 := by
    have := strsD_shown (l := ls) (B := 82) fun z hz => by
      have a := repr_128 (z := z) (nm_as (l2 z hz))
      have b := (l2 z hz).2
      omega
    omega
  have e2 : (PyData.str (pageText gs ks)).shown.length ≤ 30000 := by
    have a := repr_128 (z := pageText gs ks) (page_as go ok)
    have b := page_short go ok
    show (reprText (pageText gs ks)).length ≤ 30000
    omega
  have e3 := int_short n hn
  refine ⟨?_, ?_, ?_, ?_⟩
  · show ((strsD ls).showable && ((PyData.str (pageText gs ks)).showable && ((PyData.int (n : Int)).showable && true))) = true
    rw [t1, s1]
    rfl
  · show ((strsD ls).hasDict || ((PyData.str (pageText gs ks)).hasDict || ((PyData.int (n : Int)).hasDict || false))) = false
    rw [t2, s2]
    rfl
  · unfold toldD
    simp only [PyData.depth, PyData.depthAll]
    omega
  · have k := listText_le (B := 30000) (ts := [(strsD ls).shown, (PyData.str (pageText gs ks)).shown, (PyData.int (n : Int)).shown]) (by
      intro t ht
      simp only [List.mem_cons, List.not_mem_nil, or_false] at ht
      rcases ht with rfl | rfl | rfl
      · exact e1
      · exact e2
      · omega)
    rw [sizeLine_eq]
    exact Nat.le_trans k (show (30000 + 2) * 3 + 2 ≤ 16777216 by decide)
theorem told_dp {K : PySem.W.Frag} {H : Hp} {l lt : Addr} {ls : List Str} {x : Str} {n : Nat} (h : H l = some (.lst [.ref lt, .str x, .int (n : Int)])) (h1 : H lt = some (.tup (ls.map V.str))) : Dp K H (.ref l) (toldD ls x n) :=
  .lst (SqL.of h) (.cons (strs_dp (SqT.of h1)) (.cons (.str _) (.cons (.int _) .nil)))
theorem map_true (xs : List V) : (xs.map fun _ => V.bl true) = (List.replicate xs.length true).map V.bl := by
  rw [List.map_const', List.map_replicate]
end G
namespace G
open PySem PySem.Spec PyProof.Rows L2
/-! ### lists of data -/
theorem shownAll_map {α : Type} (f : α → PyData) : ∀ l : List α, PyData.shownAll (l.map f) = l.map fun a => (f a).shown
  | [] => rfl
  | a :: l => by
    show (f a).shown :: PyData.shownAll (l.map f) = _
    rw [shownAll_map f l]
    rfl
theorem listD_shown {α : Type} {f : α → PyData} {l : List α} {B : Nat} (h : ∀ a ∈ l, (f a).shown.length ≤ B) : (PyData.list (l.map f)).shown.length ≤ (B + 2) * l.length + 2 := by
  show (listText (PyData.shownAll (l.map f))).length ≤ _
  rw [shownAll_map]
  have k := listText_le (B := B) (ts := l.map fun a => (f a).shown) (by
    intro t ht
    obtain ⟨a, ha, rfl⟩ := List.mem_map.mp ht
    exact h a ha)
  rw [List.length_map] at k
  exact k
theorem listD_ok {α : Type} {f : α → PyData} {d : Nat} : ∀ {l : List α}, (∀ a ∈ l, (f a).showable = true ∧ (f a).hasDict = false ∧ (f a).depth ≤ d) →
    PyData.showableAll (l.map f) = true ∧ PyData.hasDictAll (l.map f) = false ∧ PyData.depthAll (l.map f) ≤ d
  | [], _ => ⟨rfl, rfl, by simp only [List.map_nil, PyData.depthAll]; exact Nat.zero_le _⟩
  | a :: l, h => by
    obtain ⟨a1, a2, a3⟩ := h a List.mem_cons_self
    obtain ⟨b1, b2, b3⟩ := listD_ok (l := l) fun y hy => h y (List.mem_cons_of_mem _ hy)
    refine ⟨?_, ?_, ?_⟩
    · show ((f a).showable && PyData.showableAll (l.map f)) = true
      rw [a1, b1]
      rfl
    · show ((f a).hasDict || PyData.hasDictAll (l.map f)) = false
      rw [a2, b2]
      rfl
    · simp only [List.map_cons, PyData.depthAll]
      omega
theorem dpAll_of {K : PySem.W.Frag} {H : Hp} {α : Type} {f : α → PyData} : ∀ {as : List Addr} {l : List α}, as.length = l.length → (∀ (i : Nat) (a : Addr) (x : α), as[i]? = some a → l[i]? = some x → Dp K H (.ref a) (f x)) →
    DpAll K H (as.map V.ref) (l.map f)
  | [], [], _, _ => .nil
  | [], _ :: _, e, _ => by simp at e
  | _ :: _, [], e, _ => by simp at e
  | a :: as, x :: l, e, h => .cons (h 0 a x rfl rfl) (dpAll_of (by simpa using e) fun i b y h1 h2 => h (i + 1) b y h1 h2)
/-! ### gates and kinds as data -/
def withD : Option Str → PyData
  | none => .none
  | some z => .str z
def gateD (g : GateT) : PyData := .tuple [.str g.1, withD g.2]
def pairsD (gs : List GateT) : PyData := .list (gs.map gateD)
def sortsD (ks : List KindT) : PyData := .list (ks.map dueD)
theorem with_nm {gs : List GateT} (go : GatesOk gs) {g : GateT} (hg : g ∈ gs) : ∀ z, g.2 = some z → Nm z := by
  intro z hz
  obtain ⟨i, hi, e⟩ := List.mem_iff_getElem.mp hg
  obtain ⟨n, wv⟩ := g
  have hz' : wv = some z := hz
  subst hz'
  have zi := go.wi i n z (by rw [List.getElem?_eq_getElem hi, e])
  obtain ⟨g', hg', rfl⟩ := List.mem_map.mp zi
  exact go.nm g' (List.mem_of_mem_take hg')
theorem name_82 {z : Str} (h : Nm z) : (reprText z).length ≤ 82 := by
  have a := repr_128 (z := z) fun c hc => sign_128 (nm_plain h c hc)
  have b := h.2
  omega
theorem gateD_ok {gs : List GateT} (go : GatesOk gs) : ∀ g ∈ gs, ((gateD g).showable = true ∧ (gateD g).hasDict = false ∧ (gateD g).depth ≤ 3) ∧ (gateD g).shown.length ≤ 171 := by
  intro g hg
  have n1 := go.nm g hg
  have n2 := with_nm go hg
  obtain ⟨n, wv⟩ := g
  have h1 := name_82 n1
  have h2 : (withD wv).shown.length ≤ 82 := by
    cases wv with
    | none => show (Str.ofString "None").length ≤ 82; decide +kernel
    | some z => exact name_82 (n2 z rfl)
  have h3 := tupleText_le (B := 82) (ts := [reprText n, (withD wv).shown]) (by
    intro t ht
    rcases List.mem_cons.mp ht with rfl | ht
    · exact h1
    · rw [List.mem_singleton.mp ht]; exact h2)
  refine ⟨?_, h3⟩
  cases wv with
  | none => exact ⟨rfl, rfl, by simp only [gateD, withD, PyData.depth, PyData.depthAll]; decide⟩
  | some z => exact ⟨rfl, rfl, by simp only [gateD, withD, PyData.depth, PyData.depthAll]; decide⟩
theorem pairsD_ok {gs : List GateT} (go : GatesOk gs) : (pairsD gs).showable = true ∧ (pairsD gs).hasDict = false ∧ (pairsD gs).depth ≤ 60 ∧ (pairsD gs).shown.length ≤ sizeLine := by
  obtain ⟨a1, a2, a3⟩ := listD_ok (f := gateD) (l := gs) fun g hg => (gateD_ok go g hg).1
  have a4 := listD_shown (f := gateD) (l := gs) fun g hg => (gateD_ok go g hg).2
  have g3 := go.few
  refine ⟨a1, a2, ?_, ?_⟩
  · unfold pairsD
    simp only [PyData.depth]
    omega
  · unfold pairsD
    rw [sizeLine_eq]
    omega
theorem sortsD_ok {ks : List KindT} (h : ∀ k ∈ ks, KindOk4 k) (k4 : ks.length ≤ 5) : (sortsD ks).showable = true ∧ (sortsD ks).hasDict = false ∧ (sortsD ks).depth ≤ 60 ∧ (sortsD ks).shown.length ≤ sizeLine := by
  have dd : ∀ k : KindT, (dueD k).depth ≤ 10 := by
    intro k
    simp only [dueD, strsD, PyData.depth, PyData.depthAll, strs_depth]
    decide
  obtain ⟨a1, a2, a3⟩ := listD_ok (f := dueD) (d := 10) (l := ks) fun k _ => ⟨(due_show k).1, (due_show k).2.1, dd k⟩
  have a4 := listD_shown (f := dueD) (l := ks) fun k hk => due_len_n (h k hk)
  refine ⟨a1, a2, ?_, ?_⟩
  · unfold sortsD
    simp only [PyData.depth]
    omega
  · unfold sortsD
    rw [sizeLine_eq]
    omega
theorem pairs_dp {K : PySem.W.Frag} {H : Hp} {l : Addr} {ps : List Addr} {gs : List GateT} (h : PairsAt H l ps gs) : Dp K H (.ref l) (pairsD gs) :=
  .lst (SqL.of h.lst) (dpAll_of h.ln fun i a g h1 h2 => .tup (SqT.of (h.at_ i a g h1 h2)) (.cons (.str _) (.cons (by obtain ⟨n, wv⟩ := g; cases wv with
    | none => exact .non
    | some z => exact .str z) .nil)))
/-- (name, rows, many, members) at d; the members may be the default -/
def DueM (K : PySem.W.Frag) (H : Hp) (d : Addr) (k : KindT) : Prop := ∃ t m, H d = some (.tup [.str k.n, .ref t, .bl k.b, .ref m]) ∧ H t = some (.tup (rowsV k.rs)) ∧ MemAt K H m k.ms
structure DuesAt (K : PySem.W.Frag) (H : Hp) (l : Addr) (qs : List Addr) (ks : List KindT) : Prop where
  lst : H l = some (.lst (qs.map V.ref))
  ln : qs.length = ks.length
  at_ : ∀ (i : Nat) (a : Addr) (k : KindT), qs[i]? = some a → ks[i]? = some k → DueM K H a k
theorem SortsAt.dues {K : PySem.W.Frag} {H : Hp} {l : Addr} {qs : List Addr} {ks : List KindT} (h : SortsAt H l qs ks) : DuesAt K H l qs ks :=
  ⟨h.lst, h.ln, fun i a k h1 h2 => by
    obtain ⟨t, m, e1, e2, e3⟩ := h.at_ i a k h1 h2
    exact ⟨t, m, e1, e2, .inl e3⟩⟩
theorem dues_dp {K : PySem.W.Frag} {H : Hp} {l : Addr} {qs : List Addr} {ks : List KindT} (h : DuesAt K H l qs ks) : Dp K H (.ref l) (sortsD ks) :=
  .lst (SqL.of h.lst) (dpAll_of h.ln fun i a k h1 h2 => by
    obtain ⟨t, m, e1, e2, e3⟩ := h.at_ i a k h1 h2
    exact due_dp' e1 e2 e3)
theorem DueM.same {K : PySem.W.Frag} {H H' : Hp} {d : Addr} {k : KindT} (h : DueM K H d k) (s : Same H H') : DueM K H' d k := by
  obtain ⟨t, m, h1, h2, h3⟩ := h
  exact ⟨t, m, s _ _ h1, s _ _ h2, h3.same s⟩
theorem DueM.lst {K : PySem.W.Frag} {H : Hp} {l d : Addr} {xs ys : List V} {k : KindT} (h : DueM K H d k) (hl : H l = some (.lst xs)) : DueM K (upd H l (.lst ys)) d k := by
  obtain ⟨t, m, h1, h2, h3⟩ := h
  refine ⟨t, m, by rw [upd_ne (ne_of h1 hl (by intro e; cases e))]; exact h1, by rw [upd_ne (ne_of h2 hl (by intro e; cases e))]; exact h2, ?_⟩
  rcases h3 with h3 | h3
  · exact .inl (by rw [upd_ne (ne_of h3 hl (by intro e; cases e))]; exact h3)
  · exact .inr h3
theorem DuesAt.snoc {K : PySem.W.Frag} {H : Hp} {l d : Addr} {qs : List Addr} {ks : List KindT} {k : KindT} (h : DuesAt K H l qs ks) (hd : DueM K H d k) :
    DuesAt K (upd H l (.lst (qs.map V.ref ++ [.ref d]))) l (qs ++ [d]) (ks ++ [k]) := by
  refine ⟨by rw [upd_same, List.map_append]; rfl, by rw [List.length_append, List.length_append, h.ln]; rfl, fun i a g h1 h2 => ?_⟩
  rcases Nat.lt_or_ge i qs.length with lt | ge
  · rw [List.getElem?_append_left lt] at h1
    rw [List.getElem?_append_left (by rw [← h.ln]; exact lt)] at h2
    exact (h.at_ i a g h1 h2).lst h.lst
  · have li := (List.getElem?_eq_some_iff.mp h1).1
    rw [List.length_append] at li
    have e : i = qs.length := by
      have : [d].length = 1 := rfl
      omega
    subst e
    rw [List.getElem?_append_right (Nat.le_refl _), Nat.sub_self] at h1
    rw [h.ln, List.getElem?_append_right (Nat.le_refl _), Nat.sub_self] at h2
    obtain rfl := Option.some.inj h1
    obtain rfl := Option.some.inj h2
    exact hd.lst h.lst
theorem DuesAt.same {K : PySem.W.Frag} {H H' : Hp} {l : Addr} {qs : List Addr} {ks : List KindT} (h : DuesAt K H l qs ks) (s : Same H H') : DuesAt K H' l qs ks :=
  ⟨s _ _ h.lst, h.ln, fun i a g h1 h2 => (h.at_ i a g h1 h2).same s⟩
inductive GaSt (H0 : Hp) (D : Addr) (gs : List GateT) (i : Nat) (H' : Hp) : Prop
  | mk (Ts : List Addr) (sm : Same H0 H') (pa : PairsAt H' D Ts (gs.take i))
inductive KiSt (K : PySem.W.Frag) (H0 : Hp) (D : Addr) (ks : List KindT) (i : Nat) (H' : Hp) : Prop
  | mk (Ts : List Addr) (sm : Same H0 H') (da : DuesAt K H' D Ts (ks.take i))
section
variable {P : Program} {w : World} {K : PySem.W.Frag} {mg : Str → Option Value} {base : Heap} {CX : CXT}
theorem c_marks (T : Tx K mg) : Cal P w K mg base CX0 1 "_law_marks" [] spMarks := by
  obtain ⟨fd, F⟩ := T.d__law_marks
  exact .mk F (ok_marks T F) T.n__law_marks fun _ _ _ _ _ _ us hl => match us, hl with | [_], _ => rfl
def spIs (K : PySem.W.Frag) : Sp := fun vs H Q _ => ∃ (a l1 l2 : Addr), vs = [.ref a, .ref l1, .ref l2] ∧ ∃ (t u : Addr) (as bs ps qs : List Addr) (gs : List GateT) (ks : List KindT),
  SysAt K H a t u as bs gs ks ∧ PairsAt H l1 ps gs ∧ SortsAt H l2 qs ks ∧ (∀ k ∈ ks, k.ms.length ≤ 4) ∧ ∀ H', Same H H' → Q (.bl true) H'
theorem ok_is {f : Addr} {fd : FuncData} {dvs : List V} {kws : List (Str × V)} (T : Tx K mg)
    (F : FunD K "_law_is" "_law_is" (defArgs s__law_is) (defBody s__law_is) (defScope s__law_is) dvs kws f fd) :
    FnG P w K mg base CX0 4 f fd ["_law_mine", "_law_pairs", "_law_sorts_here"] (spIs K) := by
  have c__law_marks : Cal P w K mg base CX0 1 "_law_marks" [] spMarks := c_marks T
  have c__law_page : Cal P w K mg base CX0 1 "_law_page" [] spPage := c_page T
  obtain ⟨fl, fdl, psl, ⟨l1, l2⟩, fnl, bl⟩ := lenS (P := P) (w := w) (base := base) (CX := CX0) T
  obtain ⟨fs, fds, pss, ⟨s1, s2⟩, fns, bs⟩ := strS (P := P) (w := w) (base := base) (CX := CX0) T
  obtain ⟨fr, fdr, psr, ⟨r1, r2⟩, fnr, br⟩ := reprS (P := P) (w := w) (base := base) (CX := CX0) T
  refine okG F sc__law_is (fun vs H Q E h => ?_) (fun cdv A outer s H vs Q E hr hgd h => ?_)
  · obtain ⟨a, l1, l2, rfl, _⟩ := h
    rfl
  · obtain ⟨a, j1, j2, rfl, t, u, as, hs, ps, qs, gs, ks, ⟨⟨ga, go, ka, ko⟩, dx, si⟩, pa, sa, few, q⟩ := h
    have si0 := si
    obtain ⟨pl, pg, lt, tr, ls, kvs, i1, i2, i3, _⟩ := si0
    have hu := hr.units
    have cl := T.c_System
    have ci := T.i_System
    have me := ci.me
    have ht := ga.tup
    have hk := ka.tup
    have sqt : SqT K H t (as.map V.ref) := SqT.of ht
    have sqk : SqT K H u (hs.map V.ref) := SqT.of hk
    have g3 := go.few
    have k1 := ko.one
    have k4 := ko.few
    have la : (as.map V.ref).length = gs.length := by rw [List.length_map, ga.ln]
    have lb : (hs.map V.ref).length = ks.length := by rw [List.length_map, ka.ln]
    have ty : TyX K H (.ref a) (.ref (cS K)) := .base (ci.ty cl i1)
    have nz : (((ks.length : Nat) : Int) != 0) = true := by
      rw [bne_iff_ne]
      omega
    refine ⟨_, PSs.nox (pss_cons (ps_if (PW.pt (pw_or (pt_not (pt_val (pe_callB call_isi rfl T.f_isinstance (by decide +kernel) (pa_cons (pv 0) (pa_cons (pe_gl T.g_System) pa_nil))))) (pw_or (pt_not (pt_val (pe_callB call_isi rfl T.f_isinstance (by decide +kernel) (pa_cons (pe_get (T.p_System_gates _ _ _) (hr.mono (by decide)) (pv 0)) (pa_cons (pe_bltn (v := .ty "tuple") (u := .type "tuple") rfl T.f_tuple (by decide +kernel) rfl) pa_nil))))) (pw_or1 (pt_not (pt_val (pe_callB call_isi rfl T.f_isinstance (by decide +kernel) (pa_cons (pe_get (T.p_System_kinds _ _ _) (hr.mono (by decide)) (pv 0)) (pa_cons (pe_bltn (v := .ty "tuple") (u := .type "tuple") rfl T.f_tuple (by decide +kernel) rfl) pa_nil))))))))) (pss_one (ps_ret pe_bl)) pss_nil)
    (pss_cons (ps_if (PW.pt (pw_or (pt_not (pt_truthR (pv 0) (tru_len T.nb_System l1 l2 fnl (hr.mono (by decide)) bl pass0) (by intro _; rfl))) (pw_or1 (pt_cmpR op_ne (pe_callB (call_repr hgd hu) rfl T.f_repr (by decide +kernel) (pa_cons (pe_lc (own := [("_law_door", 3)]) (g := gName 3) (tt := tYes) rfl sc__law_is.nd (pi_tup (pe_get (T.p_System_gates _ _ _) (hr.mono (by decide)) (pv 0))) (blkOk_by (own := [("_law_door", 3)]) (N := n__law_is) (sc := defScope s__law_is) (by decide +kernel)) (fun _ _ _ _ _ => (pg_name (i := 3) sc__law_is.nd rfl (Or.inl rfl))) (fun _ _ _ _ _ => pts_nil) (fun _ _ _ _ _ => (pe_tup (pa_cons (pe_get (T.p_Gate_name _ _ _) (hr.mono (by decide)) (pv 3)) (pa_cons (pe_get (T.p_Gate_within _ _ _) (hr.mono (by decide)) (pv 3)) pa_nil))))) pa_nil)) (pe_callB (call_repr hgd hu) rfl T.f_repr (by decide +kernel) (pa_cons (pv 1) pa_nil)) (nomark _))))) (pss_one (ps_ret pe_bl)) pss_nil)
    (pss_cons (ps_if (pt_cmpR op_ne (pe_callB (call_repr hgd hu) rfl T.f_repr (by decide +kernel) (pa_cons (pe_lc (own := [("_law_part", 4)]) (g := gName 4) (tt := tYes) rfl sc__law_is.nd (pi_tup (pe_get (T.p_System_kinds _ _ _) (hr.mono (by decide)) (pv 0))) (blkOk_by (own := [("_law_part", 4)]) (N := n__law_is) (sc := defScope s__law_is) (by decide +kernel)) (fun _ _ _ _ _ => (pg_name (i := 4) sc__law_is.nd rfl (Or.inl rfl))) (fun _ _ _ _ _ => pts_nil) (fun _ _ _ _ _ => (pe_tup (pa_cons (pe_get (T.p_Kind_name _ _ _) (hr.mono (by decide)) (pv 4)) (pa_cons (pe_get (T.p_Kind_rows _ _ _) (hr.mono (by decide)) (pv 4)) (pa_cons (pe_get (T.p_Kind_many _ _ _) (hr.mono (by decide)) (pv 4)) (pa_cons (pe_get (T.p_Kind_members _ _ _) (hr.mono (by decide)) (pv 4)) pa_nil))))))) pa_nil)) (pe_callB (call_repr hgd hu) rfl T.f_repr (by decide +kernel) (pa_cons (pv 2) pa_nil)) (nomark _)) (pss_one (ps_ret pe_bl)) pss_nil)
    (pss_cons (ps_if (pt_not (pt_val (pe_callB (cr_all rfl) rfl T.f_all (by decide +kernel) (pa_cons (pe_lc (own := [("_law_door", 3)]) (g := gName 3) (tt := tYes) rfl sc__law_is.nd (pi_tup (pe_get (T.p_System_gates _ _ _) (hr.mono (by decide)) (pv 0))) (blkOk_by (own := [("_law_door", 3)]) (N := n__law_is) (sc := defScope s__law_is) (by decide +kernel)) (fun _ _ _ _ _ => (pg_name (i := 3) sc__law_is.nd rfl (Or.inl rfl))) (fun _ _ _ _ _ => pts_nil) (fun _ _ _ _ _ => (pe_callB (crK (K := K) (r := rIsi) rfl call_isi) rfl T.f_isinstance (by decide +kernel) (pa_cons (pv 3) (pa_cons (pe_gl T.g_Gate) pa_nil))))) pa_nil)))) (pss_one (ps_ret pe_bl)) pss_nil)
    (pss_cons (ps_if (pt_not (pt_val (pe_callB (cr_all rfl) rfl T.f_all (by decide +kernel) (pa_cons (pe_lc (own := [("_law_part", 4)]) (g := gName 4) (tt := tYes) rfl sc__law_is.nd (pi_tup (pe_get (T.p_System_kinds _ _ _) (hr.mono (by decide)) (pv 0))) (blkOk_by (own := [("_law_part", 4)]) (N := n__law_is) (sc := defScope s__law_is) (by decide +kernel)) (fun _ _ _ _ _ => (pg_name (i := 4) sc__law_is.nd rfl (Or.inl rfl))) (fun _ _ _ _ _ => pts_nil) (fun _ _ _ _ _ => (pe_callB (crK (K := K) (r := rIsi) rfl call_isi) rfl T.f_isinstance (by decide +kernel) (pa_cons (pv 4) (pa_cons (pe_gl T.g_Kind) pa_nil))))) pa_nil)))) (pss_one (ps_ret pe_bl)) pss_nil)
    (pss_cons (ps_set (i := 5) sc__law_is.nd rfl (Or.inl rfl) (pe_lst (pa_cons (pe_get (T.p_System_labels _ _ _) (hr.mono (by decide)) (pv 0)) (pa_cons (pe_callTy (call_str_inst s1 s2 fns (hr.mono (by decide)) bs pass0) rfl T.f_str (by decide +kernel) (pa_cons (pv 0) pa_nil)) (pa_cons (pe_callB (call_len_inst l1 l2 fnl (hr.mono (by decide)) bl pass0) rfl T.f_len (by decide +kernel) (pa_cons (pv 0) pa_nil)) pa_nil)))))
    (pss_cons (ps_if (pt_cmpR op_ne (pe_callB (call_repr hgd hu) rfl T.f_repr (by decide +kernel) (pa_cons (pv 5) pa_nil)) (pe_callB (call_repr hgd hu) rfl T.f_repr (by decide +kernel) (pa_cons (pe_lst (pa_cons (pe_cal c__law_marks (hr.mono (by decide)) hgd pass0 (pa_cons (pv 2) pa_nil)) (pa_cons (pe_cal c__law_page (hr.mono (by decide)) hgd pass0 (pa_cons (pv 1) (pa_cons (pv 2) pa_nil))) (pa_cons (pe_callB call_len_seq rfl T.f_len (by decide +kernel) (pa_cons (pv 2) pa_nil)) pa_nil)))) pa_nil)) (nomark _)) (pss_one (ps_ret pe_bl)) pss_nil)
    (pss_one (ps_ret (pe_cmpR op_eq (pe_callB (call_repr_inst r1 r2 fnr (hr.mono (by decide)) br pass0) rfl T.f_repr (by decide +kernel) (pa_cons (pv 0) pa_nil)) (pe_op op_add_str (pe_op op_add_str (pe_op op_add_str (pe_op op_add_str pe_str (pe_callTy call_str_int rfl T.f_str (by decide +kernel) (pa_cons (pe_callB call_len_seq rfl T.f_len (by decide +kernel) (pa_cons (pv 1) pa_nil)) pa_nil))) pe_str) (pe_callTy call_str_int rfl T.f_str (by decide +kernel) (pa_cons (pe_callB call_len_seq rfl T.f_len (by decide +kernel) (pa_cons (pv 2) pa_nil)) pa_nil))) pe_str) (nomark _))))))))))), ?_⟩
    walk_at "rd"
    refine ⟨gs, ks, hs, si, ka, ?_⟩
    refine ⟨_, rfl, by omega, by omega, ?_⟩
    rw [nz]
    walk_at "rd"
    refine ⟨⟨_, sqt⟩, ?_⟩
    intro D nD
    refine lcW (wk_tup (as.map V.ref)) (fun i H' => GaSt H D gs i H') (.mk [] (by walk_at "g but") ⟨upd_same, rfl, fun i a g h _ => by simp at h⟩) (fun i H' _ e => by obtain ⟨_, sm, _⟩ := e; exact SqT.of (sm _ _ ht)) ?_ ?_
    · rintro i x H1 hx ⟨Ts, sm, pa1⟩
      obtain ⟨b, ⟨gn, gw⟩, rfl, hb, hg, dg, eg⟩ := ga.item (H' := H) hx
      have eg1 := sm _ _ eg
      have li : Ts.length ≤ 3 := by rw [pa1.ln, List.length_take]; omega
      have tk : gs.take (i + 1) = gs.take i ++ [(gn, gw)] := by rw [List.take_add_one, hg]; rfl
      walk_at "rd"
      intro N nN
      walk_at "rd"
      have pn := pa1.snoc (n := gn) (o := gw) nN
      rw [← tk] at pn
      have sn : Same H (upd (upd H1 N (.tup [.str gn, gWith gw])) D (.lst (Ts.map V.ref ++ [.ref N]))) := L2.Same.own (sm.new nN) nD
      have ll : (Ts.map V.ref).length < sizeLine := by rw [List.length_map, sizeLine_eq]; omega
      have hDn := upd_get (o := .tup [.str gn, gWith gw]) nN pa1.lst
      exact ⟨hDn, ll, .mk (Ts ++ [N]) sn pn⟩
    · rintro H1 ⟨Ts, sm, pa1⟩
      rw [la, List.take_of_length_le (Nat.le_refl _)] at pa1
      obtain ⟨p1, p2, p3, p4⟩ := pairsD_ok go
      walk_at "rd"
      refine ⟨pairsD gs, rfl, pairs_dp pa1, p1, p2, p3, p4, ?_⟩
      walk_at "rd"
      refine ⟨pairsD gs, rfl, pairs_dp (pa.same sm), p1, p2, p3, p4, ?_⟩
      walk_at "rd"
      refine iteKF (by simp) ?_
      have kok : ∀ k ∈ ks, KindOk4 k := by
        intro k hk
        obtain ⟨i, hi, rfl⟩ := List.mem_iff_getElem.mp hk
        have hj : i < hs.length := by rw [ka.ln]; exact hi
        exact ⟨(ka.at_ i hs[i] ks[i] (List.getElem?_eq_getElem hj) (List.getElem?_eq_getElem hi)).1, few _ hk⟩
      obtain ⟨r1, r2, r3, r4⟩ := sortsD_ok kok (by omega)
      have i11 := sm _ _ i1
      have hk1 := sm _ _ hk
      have sqk1 : SqT K H1 u (hs.map V.ref) := SqT.of hk1
      walk_at "rd"
      refine ⟨⟨_, sqk1⟩, ?_⟩
      intro D2 nD2
      refine lcW (wk_tup (hs.map V.ref)) (fun i H' => KiSt K H1 D2 ks i H') (.mk [] (by walk_at "g but") ⟨upd_same, rfl, fun i a g h _ => by simp at h⟩) (fun i H' _ e => by obtain ⟨_, s2, _⟩ := e; exact SqT.of (s2 _ _ hk1)) ?_ ?_
      · rintro i x H2 hx ⟨Us, s2, da⟩
        obtain ⟨b, k, rfl, hb, hkk, ok, dk, t', pr, m, as', e1, e2, e3, e4, e5⟩ := ka.item hx
        have s02 := sm.trans s2
        have x1 := s02 _ _ e1
        have x2 := s02 _ _ e2
        have x3 := e3.same s02
        have li : Us.length ≤ 4 := by rw [da.ln, List.length_take]; omega
        have tk : ks.take (i + 1) = ks.take i ++ [k] := by rw [List.take_add_one, hkk]; rfl
        walk_at "rd"
        intro N nN
        walk_at "rd"
        have sN : Same H2 (upd H2 N (.tup [.str k.n, .ref t', .bl k.b, .ref m])) := (Same.refl _).new nN
        have dn := (da.same sN).snoc ⟨t', m, upd_same, sN _ _ x2, x3.same sN⟩
        rw [← tk] at dn
        have sn : Same H1 (upd (upd H2 N (.tup [.str k.n, .ref t', .bl k.b, .ref m])) D2 (.lst (Us.map V.ref ++ [.ref N]))) := L2.Same.own (s2.new nN) nD2
        have ll : (Us.map V.ref).length < sizeLine := by rw [List.length_map, sizeLine_eq]; omega
        have hDn := upd_get (o := .tup [.str k.n, .ref t', .bl k.b, .ref m]) nN da.lst
        exact ⟨hDn, ll, .mk (Us ++ [N]) sn dn⟩
      · rintro H2 ⟨Us, s2, da⟩
        rw [lb, List.take_of_length_le (Nat.le_refl _)] at da
        have s02 := sm.trans s2
        walk_at "rd"
        refine ⟨sortsD ks, rfl, dues_dp da, r1, r2, r3, r4, ?_⟩
        walk_at "rd"
        refine ⟨sortsD ks, rfl, dues_dp (sa.dues.same s02), r1, r2, r3, r4, ?_⟩
        walk_at "rd"
        refine iteKF (by simp) ?_
        have i12 := s02 _ _ i1
        have ht2 := s02 _ _ ht
        have sqt2 : SqT K H2 t (as.map V.ref) := SqT.of ht2
        have clG := T.c_Gate
        have ciG := T.i_Gate
        have meG := ciG.me
        walk_at "rd"
        refine ⟨⟨_, sqt2⟩, ?_⟩
        intro D3 nD3
        refine lcP (wk_tup (as.map V.ref)) (fun _ => V.bl true) (fun acc => SqT.of (upd_get nD3 ht2)) (by rw [la, sizeLine_eq]; omega) ?_ ?_
        · intro i x acc Q' hx hq
          obtain ⟨b, g, rfl, hb, hg, dg, eg⟩ := ga.item (H' := H) hx
          have eg1 := upd_get (o := .lst acc) nD3 (s02 _ _ eg)
          have tyb := TyX.base (ciG.ty clG eg1)
          walk_at "rd"
          exact hq
        · have eD3 : upd H2 D3 (.lst ((as.map V.ref).map fun _ => V.bl true)) D3 = some (.lst ((List.replicate gs.length true).map V.bl)) := by
            rw [upd_same, map_true, la]
          have s3 : Same H (upd H2 D3 (.lst ((as.map V.ref).map fun _ => V.bl true))) := s02.new nD3
          refine ⟨D3, List.replicate gs.length true, rfl, SqL.of eD3, ?_⟩
          generalize upd H2 D3 (.lst ((as.map V.ref).map fun _ => V.bl true)) = H3 at s3 ⊢
          clear eD3
          walk_at "rd"
          refine iteKF (by simp) ?_
          have i13 := s3 _ _ i1
          have hk3 := s3 _ _ hk
          have sqk3 : SqT K H3 u (hs.map V.ref) := SqT.of hk3
          have clK := T.c_Kind
          have ciK := T.i_Kind
          have meK := ciK.me
          walk_at "rd"
          refine ⟨⟨_, sqk3⟩, ?_⟩
          intro D4 nD4
          refine lcP (wk_tup (hs.map V.ref)) (fun _ => V.bl true) (fun acc => SqT.of (upd_get nD4 hk3)) (by rw [lb, sizeLine_eq]; omega) ?_ ?_
          · intro i x acc Q' hx hq
            obtain ⟨b, k, rfl, hb, hkk, ok, dk, t', pr, m, as', e1, e2, e3, e4, e5⟩ := ka.item hx
            have eg1 := upd_get (o := .lst acc) nD4 (s3 _ _ e1)
            have tyb := TyX.base (ciK.ty clK eg1)
            walk_at "rd"
            exact hq
          have eD4 : upd H3 D4 (.lst ((hs.map V.ref).map fun _ => V.bl true)) D4 = some (.lst ((List.replicate ks.length true).map V.bl)) := by
            rw [upd_same, map_true, lb]
          have s4 : Same H (upd H3 D4 (.lst ((hs.map V.ref).map fun _ => V.bl true))) := s3.new nD4
          refine ⟨D4, List.replicate ks.length true, rfl, SqL.of eD4, ?_⟩
          generalize upd H3 D4 (.lst ((hs.map V.ref).map fun _ => V.bl true)) = H4 at s4 ⊢
          clear eD4 hk3 sqk3 nD4 nD3
          walk_at "rd"
          refine iteKF (by simp) ?_
          have i14 := s4 _ _ i1
          have i24 := s4 _ _ i2
          have si4 := si.same s4
          have ka4 := ka.same s4
          walk_at "rd"
          refine ⟨si4.wr, ?_⟩
          refine ⟨_, rfl, ?_⟩
          walk_at "rd"
          refine ⟨gs, ks, hs, si4, ka4, ?_⟩
          refine ⟨_, rfl, by omega, by omega, ?_⟩
          walk_at "rd"
          intro D5 nD5
          have s5 : Same H (upd H4 D5 (.lst [.ref lt, .str (pageText gs ks), .int ((ks.length : Nat) : Int)])) := s4.new nD5
          have iD5 : upd H4 D5 (.lst [.ref lt, .str (pageText gs ks), .int ((ks.length : Nat) : Int)]) D5 = some (.lst [.ref lt, .str (pageText gs ks), .int ((ks.length : Nat) : Int)]) := upd_same
          generalize upd H4 D5 (.lst [.ref lt, .str (pageText gs ks), .int ((ks.length : Nat) : Int)]) = H5 at s5 iD5 ⊢
          obtain ⟨o1, o2, o3, o4⟩ := told_ok go ko i3 (n := ks.length) (by omega)
          have lq : (qs.map V.ref).length = ks.length := by rw [List.length_map, sa.ln]
          have lp : (ps.map V.ref).length = gs.length := by rw [List.length_map, pa.ln]
          clear i14 i24 si4 ka4 nD5 sqt sqk ty p1 p2 p3 p4 r1 r2 r3 r4 i11 hk1 sqk1 ht2 sqt2 i12 i13
          walk_at "rd"
          refine ⟨toldD ls (pageText gs ks) ks.length, rfl, told_dp iD5 (s5 _ _ i2), o1, o2, o3, o4, ?_⟩
          walk_at "rd"
          refine ⟨ks, sa.same s5, ko.few, ko.ok, ?_⟩
          intro H6 mt ls2 s6 hm ok2
          obtain rfl := i3.unique ok2
          have s06 := s5.trans s6
          walk_at "rd"
          refine ⟨gs, ks, pa.same s06, go, sa.same s06, ko, fun H7 s7 => ?_⟩
          have s07 := s06.trans s7
          have sql7 : SqL K H7 j2 (qs.map V.ref) := SqL.of (sa.same s07).lst
          have hm7 := s7 _ _ hm
          clear iD5 s5 s6 s06 hm
          walk_at "rd"
          intro D6 nD6
          have s8 : Same H (upd H7 D6 (.lst [.ref mt, .str (pageText gs ks), .int (((qs.map V.ref).length : Nat) : Int)])) := s07.new nD6
          have iD6 : upd H7 D6 (.lst [.ref mt, .str (pageText gs ks), .int (((qs.map V.ref).length : Nat) : Int)]) D6 = some (.lst [.ref mt, .str (pageText gs ks), .int ((ks.length : Nat) : Int)]) := by rw [upd_same, lq]
          have hm8 := upd_get (o := .lst [.ref mt, .str (pageText gs ks), .int (((qs.map V.ref).length : Nat) : Int)]) nD6 hm7
          generalize upd H7 D6 (.lst [.ref mt, .str (pageText gs ks), .int (((qs.map V.ref).length : Nat) : Int)]) = H8 at s8 iD6 hm8 ⊢
          clear sql7 nD6 hm7
          walk_at "rd"
          refine ⟨toldD ls (pageText gs ks) ks.length, rfl, told_dp iD6 hm8, o1, o2, o3, o4, ?_⟩
          walk_at "rd"
          refine iteKF (by simp) ?_
          have i18 := s8 _ _ i1
          have si8 := si.same s8
          have ga8 := ga.same s8
          have ka8 := ka.same s8
          have sp8 : SqL K H8 j1 (ps.map V.ref) := SqL.of (pa.same s8).lst
          have sq8 : SqL K H8 j2 (qs.map V.ref) := SqL.of (sa.same s8).lst
          clear iD6 hm8
          walk_at "rd"
          refine ⟨gs, ks, as, hs, si8, ⟨ga8, go, ka8, ko⟩, ?_⟩
          refine ⟨_, rfl, ?_⟩
          walk_at "rd"
          have f1 := few_dig gs.length (by omega)
          have f2 := few_dig ks.length (by omega)
          obtain ⟨f11, f12⟩ := f1
          obtain ⟨f21, f22⟩ := f2
          have c1 : (Str.ofString "System of ").length = 10 := by decide +kernel
          have c2 : (Str.ofString " gates, ").length = 8 := by decide +kernel
          have c3 : (Str.ofString " kinds").length = 6 := by decide +kernel
          have sz : sizeLine = 16777216 := sizeLine_eq
          rw [lp]
          refine ⟨f11, ?_⟩
          refine ⟨_, _, rfl, rfl, by rw [c1, sz]; omega, ?_⟩
          refine ⟨_, _, rfl, rfl, by rw [cat_len, c1, c2, sz]; omega, ?_⟩
          clear f11
          walk_at "rd"
          rw [lq]
          refine ⟨f21, ?_⟩
          refine ⟨_, _, rfl, rfl, by rw [cat_len, cat_len, c1, c2, sz]; omega, ?_⟩
          refine ⟨_, _, rfl, rfl, by rw [cat_len, cat_len, cat_len, c1, c2, c3, sz]; omega, ?_⟩
          clear f21
          walk_at "rd"
          exact ret_eq (q _ s8) (by first | (congr 1; symm; exact decide_eq_true rfl) | simp [sysRepr])
end
end G
namespace G
open PySem PySem.Spec PyProof.Rows L2
theorem made_get {H : Hp} {x dx q : Addr} {o1 o2 o : HO} (nx : H x = none) (nd : H dx = none) (ne : dx ≠ x) (e : H q = some o) : upd (upd H dx o1) x o2 q = some o :=
  upd_get ((upd_ne ne.symm).trans nx) (upd_get nd e)
theorem KindAt.lst {K : PySem.W.Frag} {H : Hp} {a D : Addr} {k : KindT} {xs ys : List V} (h : KindAt K H a k) (hD : H D = some (.lst xs)) : KindAt K (upd H D (.lst ys)) a k := by
  obtain ⟨ok, dx, t, pr, m, as, h1, h2, h3, h4, h5⟩ := h
  refine ⟨ok, dx, t, pr, m, as, by rw [upd_ne (ne_of h1 hD (by intro e; cases e))]; exact h1, by rw [upd_ne (ne_of h2 hD (by intro e; cases e))]; exact h2, ?_, by rw [upd_ne (ne_of h4 hD (by intro e; cases e))]; exact h4, h5.lst hD⟩
  rcases h3 with h3 | h3
  · exact .inl (by rw [upd_ne (ne_of h3 hD (by intro e; cases e))]; exact h3)
  · exact .inr h3
theorem with_nm2 {gs : List GateT} (go : GatesOk gs) {g : GateT} (hg : g ∈ gs) : ∀ z, g.2 = some z → Nm z := by
  intro z hz
  obtain ⟨i, hi, e⟩ := List.mem_iff_getElem.mp hg
  obtain ⟨n, wv⟩ := g
  have hz' : wv = some z := hz
  subst hz'
  have zi := go.wi i n z (by rw [List.getElem?_eq_getElem hi, e])
  obtain ⟨g', hg', rfl⟩ := List.mem_map.mp zi
  exact go.nm g' (List.mem_of_mem_take hg')
/-- the gates made so far -/
inductive DoSt (K : PySem.W.Frag) (H0 : Hp) (D : Addr) (gs : List GateT) (i : Nat) (H' : Hp) : Prop
  | mk (as : List Addr) (sm : Same H0 H') (hD : H' D = some (.lst (as.map V.ref))) (ln : as.length = i) (at_ : ∀ (j : Nat) (a : Addr) (g : GateT), as[j]? = some a → gs[j]? = some g → GateAt K H' a g)
inductive KdSt (K : PySem.W.Frag) (H0 : Hp) (D : Addr) (ks : List KindT) (i : Nat) (H' : Hp) : Prop
  | mk (bs : List Addr) (sm : Same H0 H') (hD : H' D = some (.lst (bs.map V.ref))) (ln : bs.length = i) (at_ : ∀ (j : Nat) (a : Addr) (k : KindT), bs[j]? = some a → ks[j]? = some k → KindAt K H' a k)
section
variable {P : Program} {w : World} {K : PySem.W.Frag} {mg : Str → Option Value} {base : Heap} {CX : CXT}
def spBuilt (K : PySem.W.Frag) : Sp := fun vs H Q _ => ∃ (l1 l2 : Addr), vs = [.ref l1, .ref l2] ∧ ∃ (ps qs : List Addr) (gs : List GateT) (ks : List KindT), PairsAt H l1 ps gs ∧ GatesOk gs ∧ SortsAt H l2 qs ks ∧ KindsPre (gnames gs) ks ∧ 1 ≤ ks.length ∧ ks.length ≤ 4 ∧
  ∀ H' a t u as bs, Same H H' → SysAt K H' a t u as bs gs ks → Q (.ref a) H'
theorem ok_built {f : Addr} {fd : FuncData} {dvs : List V} {kws : List (Str × V)} (T : Tx K mg)
    (F : FunD K "_law_built" "_law_built" (defArgs s__law_built) (defBody s__law_built) (defScope s__law_built) dvs kws f fd) :
    FnG P w K mg base CX0 8 f fd ["_law_pairs", "_law_sorts_here"] (spBuilt K) := by
  have c_Gate_2 : CalC P w K mg base CX0 2 "Gate" (cG K) [] (spGate K) := c_Gate_2 T
  have c_Kind_2_many_members : CalN P w K mg base CX0 6 "Kind" (cK K) 2 ["many", "members"] (fun vs zs => gWM vs [] zs) (spKind K) := c_Kind_2_many_members T
  have c_System_2 : CalC P w K mg base CX0 5 "System" (cS K) [] (spSystem K) := c_System_2 T
  refine okG F sc__law_built (fun vs H Q E h => ?_) (fun cdv A outer s H1 vs Q E hr hgd h => ?_)
  · obtain ⟨l1, l2, rfl, _⟩ := h
    rfl
  · obtain ⟨l1, l2, rfl, ps, qs, gs, ks, pa, go, sa, kp, k1, k4, q⟩ := h
    have hu := hr.units
    have hl1 := pa.lst
    have hl2 := sa.lst
    have lp : (ps.map V.ref).length = gs.length := by rw [List.length_map, pa.ln]
    have lq : (qs.map V.ref).length = ks.length := by rw [List.length_map, sa.ln]
    have g3 := go.few
    refine ⟨_, PSs.nox (pss_cons (ps_set (i := 2) sc__law_built.nd rfl (Or.inl rfl) (pe_callTy call_tuple_of rfl T.f_tuple (by decide +kernel) (pa_cons (pe_lc (own := [("_law_tag_here", 3), ("_law_outer", 4)]) (tt := tYes) rfl sc__law_built.nd (pi_list (pv 0)) (blkOk_by (own := [("_law_tag_here", 3), ("_law_outer", 4)]) (N := n__law_built) (sc := defScope s__law_built) (by decide +kernel)) (fun _ _ _ _ _ => (pg_tupK (K := K) (n := 2) rfl rfl (pgs_cons (pg_name (i := 3) sc__law_built.nd rfl (Or.inl rfl)) (pgs_cons (pg_name (i := 4) sc__law_built.nd rfl (Or.inl rfl)) pgs_nil)))) (fun _ _ _ _ _ => pts_nil) (fun _ _ _ _ _ => (pe_mkc c_Gate_2 (hr.mono (by decide)) pass0 (pa_cons (pv 3) (pa_cons (pv 4) pa_nil))))) pa_nil)))
    (pss_cons (ps_setLc (i := 5) (own := [("_law_called", 6), ("_law_lines_here", 7), ("_law_plural", 8), ("_law_begun", 9)]) (tt := tYes) rfl sc__law_built.nd rfl rfl (sw_true rfl rfl rfl (by decide +kernel)) (pi_list (pv 1)) (blkOk_by (own := [("_law_called", 6), ("_law_lines_here", 7), ("_law_plural", 8), ("_law_begun", 9)]) (N := n__law_built) (sc := defScope s__law_built) (by decide +kernel)) (fun _ _ _ _ _ => (pg_tupK (K := K) (n := 4) rfl rfl (pgs_cons (pg_name (i := 6) sc__law_built.nd rfl (Or.inl rfl)) (pgs_cons (pg_name (i := 7) sc__law_built.nd rfl (Or.inl rfl)) (pgs_cons (pg_name (i := 8) sc__law_built.nd rfl (Or.inl rfl)) (pgs_cons (pg_name (i := 9) sc__law_built.nd rfl (Or.inl rfl)) pgs_nil)))))) (fun _ _ _ _ _ => pts_nil) (fun _ _ _ _ _ => (pe_mkn c_Kind_2_many_members (hr.mono (by decide)) pass0 (pa_cons (pv 6) (pa_cons (pv 7) pa_nil)) (pk_cons (pv 8) (pk_cons (pv 9) pk_nil)))))
    (pss_one (ps_ret (pe_mkc c_System_2 (hr.mono (by decide)) pass0 (pa_cons (pv 2) (pa_cons (pe_callTy call_tuple_of rfl T.f_tuple (by decide +kernel) (pa_cons (pv 5) pa_nil)) pa_nil))))))), ?_⟩
    walk_at "rd"
    refine ⟨⟨_, SqL.of hl1⟩, ?_⟩
    intro D nD
    refine lcW (wk_list (ps.map V.ref)) (fun i H' => DoSt K H1 D gs i H') (.mk [] (by walk_at "g but") upd_same rfl (fun i a g h _ => by simp at h)) (fun i H' _ e => by obtain ⟨as, sm, _⟩ := e; exact SqL.of (sm _ _ hl1)) ?_ ?_
    · rintro i x H2 hx ⟨as, sm, hD, ln, at_⟩
      obtain ⟨y, g, rfl, hy, hg, et⟩ := pa.item hx
      have et2 := sm _ _ et
      have gm := List.mem_of_getElem? hg
      have nn := go.nm g gm
      have wn := with_nm2 go gm
      have lj := (List.getElem?_eq_some_iff.mp hg).1
      have nL : g.1.length ≤ sizeLine := Nat.le_trans nn.2 (by decide)
      have wo : NameOr (gWith g.2) := by
        cases hw : g.2 with
        | none => exact .inl rfl
        | some z => exact .inr ⟨z, rfl, Nat.le_trans (wn z hw).2 (by decide), (wn z hw).1⟩
      walk_at "rd"
      intro x dx nx ndx nex
      refine ⟨x, dx, g.1, gWith g.2, rfl, upd_same, nL, nn.1, wo, fun H3 b3 e3 => ⟨rfl, ?_⟩⟩
      have s3 := made_same nx ndx b3
      have ll : (as.map V.ref).length < sizeLine := by rw [List.length_map, sizeLine_eq]; omega
      have s4 : Same H1 (upd H3 D (.lst ((as ++ [x]).map V.ref))) := L2.Same.own (sm.trans s3) nD
      have es : (as.map V.ref ++ [V.ref x]) = (as ++ [x]).map V.ref := by rw [List.map_append]; rfl
      have nxD : x ≠ D := (ne_of_none hD nx).symm
      refine ⟨as.map V.ref, s3 _ _ hD, ll, ?_⟩
      rw [es]
      refine .mk (as ++ [x]) s4 upd_same (by rw [List.length_append, ln]; rfl) (fun j a g' h1 h2 => ?_)
      rcases Nat.lt_or_ge j as.length with lt | ge
      · rw [List.getElem?_append_left lt] at h1
        obtain ⟨dd, e⟩ := at_ j a g' h1 h2
        exact ⟨dd, by rw [upd_ne (ne_of (s3 _ _ e) (s3 _ _ hD) (by intro e; cases e))]; exact s3 _ _ e⟩
      · have li := (List.getElem?_eq_some_iff.mp h1).1
        rw [List.length_append] at li
        have e : j = as.length := by
          have : [x].length = 1 := rfl
          omega
        subst e
        rw [List.getElem?_append_right (Nat.le_refl _), Nat.sub_self] at h1
        obtain rfl := Option.some.inj h1
        rw [ln, hg] at h2
        obtain rfl := Option.some.inj h2
        exact ⟨dx, by rw [upd_ne nxD]; exact e3⟩
    · rintro H2 ⟨as, sm, hD, ln, at_⟩
      rw [lp] at ln
      walk_at "rd"
      refine .inl ⟨SqL.of hD, fun t nt => ?_⟩
      have s12 : Same H1 (upd H2 t (.tup (as.map V.ref))) := sm.new nt
      have ga : GatesAt K (upd H2 t (.tup (as.map V.ref))) t as gs := ⟨upd_same, ln, fun j a g h1 h2 => (at_ j a g h1 h2).same ((Same.refl _).new nt)⟩
      generalize upd H2 t (.tup (as.map V.ref)) = H3 at s12 ga ⊢
      clear at_ hD sm nt
      have hl23 := s12 _ _ hl2
      walk_at "rd"
      refine ⟨⟨_, SqL.of hl23⟩, ?_⟩
      intro D2 nD2
      refine lcW (wk_list (qs.map V.ref)) (fun i H' => KdSt K H3 D2 ks i H') (.mk [] (by walk_at "g but") upd_same rfl (fun i a g h _ => by simp at h)) (fun i H' _ e => by obtain ⟨as, sm, _⟩ := e; exact SqL.of (sm _ _ hl23)) ?_ ?_
      · rintro i x H4 hx ⟨bs, s4, hD2, ln2, at2⟩
        obtain ⟨y, k, rfl, hy, hk, tt, mm, e1, e2, e3⟩ := sa.item hx
        have s14 := s12.trans s4
        have x1 := s14 _ _ e1
        have x2 := s14 _ _ e2
        have x3 := s14 _ _ e3
        have ok := kp.ok k (List.mem_of_getElem? hk)
        have li := (List.getElem?_eq_some_iff.mp hk).1
        walk_at "rd"
        intro x dx nx ndx nex
        refine ⟨x, dx, tt, mm, k.n, k.b, k.rs, k.ms, rfl, upd_same, ok.ok.nm, made_get nx ndx nex x2, ok.ok.ro, .inl (made_get nx ndx nex x3), ok.ok.mo, fun H5 pr as5 b5 f1 f2 f3 => ⟨rfl, ?_⟩⟩
        have s5 := made_same nx ndx b5
        have ll : (bs.map V.ref).length < sizeLine := by rw [List.length_map, sizeLine_eq]; omega
        have kx : KindAt K H5 x k := ⟨ok.ok, dx, tt, pr, mm, as5, f1, s5 _ _ x2, .inl (s5 _ _ x3), f2, f3⟩
        have hD5 := s5 _ _ hD2
        have sn : Same H3 (upd H5 D2 (.lst ((bs ++ [x]).map V.ref))) := L2.Same.own (s4.trans s5) nD2
        have es : (bs.map V.ref ++ [V.ref x]) = (bs ++ [x]).map V.ref := by rw [List.map_append]; rfl
        refine ⟨bs.map V.ref, hD5, ll, ?_⟩
        rw [es]
        refine .mk (bs ++ [x]) sn upd_same (by rw [List.length_append, ln2]; rfl) (fun j a k' h1 h2 => ?_)
        rcases Nat.lt_or_ge j bs.length with lt | ge
        · rw [List.getElem?_append_left lt] at h1
          exact ((at2 j a k' h1 h2).same s5).lst hD5
        · have li2 := (List.getElem?_eq_some_iff.mp h1).1
          rw [List.length_append] at li2
          have e : j = bs.length := by
            have : [x].length = 1 := rfl
            omega
          subst e
          rw [List.getElem?_append_right (Nat.le_refl _), Nat.sub_self] at h1
          obtain rfl := Option.some.inj h1
          rw [ln2, hk] at h2
          obtain rfl := Option.some.inj h2
          exact kx.lst hD5
      · rintro H4 ⟨bs, s4, hD2, ln2, at2⟩
        rw [lq] at ln2
        have s14 := s12.trans s4
        walk_at "rd"
        refine .inl ⟨SqL.of hD2, fun u2 nu => ?_⟩
        have s45 : Same H4 (upd H4 u2 (.tup (bs.map V.ref))) := (Same.refl _).new nu
        have s15 := s14.trans s45
        have ka : KindsAt K (upd H4 u2 (.tup (bs.map V.ref))) u2 bs ks := ⟨upd_same, ln2, fun j a k h1 h2 => (at2 j a k h1 h2).same s45⟩
        have ar : SysArg K (upd H4 u2 (.tup (bs.map V.ref))) t u2 as bs gs ks := ⟨ga.same (s4.trans s45), go, ka, kp.all k1 k4⟩
        walk_at "rd"
        intro x dx nx ndx nex
        refine ⟨x, dx, t, u2, rfl, upd_same, as, bs, gs, ks, ar.same (made_same nx ndx (But.refl _ _)), fun H6 b6 si => ⟨rfl, ?_⟩⟩
        have s6 := made_same nx ndx b6
        exact q _ _ _ _ _ _ (s15.trans s6) ⟨ar.same s6, dx, si⟩
theorem c_built (T : Tx K mg) : Cal P w K mg base CX0 8 "_law_built" [] (spBuilt K) := by
  obtain ⟨fd, F⟩ := T.d__law_built
  exact .mk F (ok_built T F) T.n__law_built fun _ _ _ _ _ _ us hl => match us, hl with | [_, _], _ => rfl
end
end G
section
local macro_rules | `(tactic| walk_at "g and") => `(tactic| first
  | exact G.ErrL.same (by assumption) (by walk_at "g but")
  | exact Or.inl ⟨rfl, _, L2.SqL.of (by walk_at "g hp")⟩)

namespace G
open PySem PySem.Spec PyProof.Rows L2
section
variable {P : Program} {w : World} {K : PySem.W.Frag} {mg : Str → Option Value} {base : Heap} {CX : CXT}
def ownL (i : Nat) : List V := (List.range 27).map fun j => V.bl (decide (i = j))
theorem own_count : ∀ i, i < 27 → List.countP (fun z => eqV z (V.bl true)) (ownL i) = 1 := by decide +kernel
theorem own_idx {i : Nat} (hi : i < 27) : (ownL i)[i]? = some (V.bl true) := by
  unfold ownL
  rw [List.getElem?_map, List.getElem?_range hi]
  simp
theorem own_bef {i m : Nat} {z : V} (hm : m < i) (e : (ownL i)[m]? = some z) : eqV z (V.bl true) = false := by
  unfold ownL at e
  rw [List.getElem?_map] at e
  obtain ⟨j, hj, rfl⟩ := Option.map_eq_some_iff.mp e
  obtain ⟨h1, h2⟩ := List.getElem?_eq_some_iff.mp hj
  rw [List.getElem_range] at h2
  subst h2
  have : decide (i = m) = false := decide_eq_false (by omega)
  rw [this]
  rfl
def bD (a b c : Bool) : PyData := .list [.bool a, .bool b, .bool c]
theorem bD_eqv (a b c : Bool) : (!PyData.eqv (bD a b c) (bD a b c)) = false := by
  cases a <;> cases b <;> cases c <;> decide +kernel
theorem bD_shaped (a b c : Bool) : SeqAt.shaped (bD a b c) = true := by
  cases a <;> cases b <;> cases c <;> decide +kernel
theorem bD_at {K : PySem.W.Frag} {H : Hp} {l : Addr} {a b c : Bool} {ys : List V} (h : H l = some (.lst ys)) (e : ys = [.bl a, .bl b, .bl c]) : Dp K H (.ref l) (bD a b c) :=
  .lst (SqL.of (e ▸ h)) (.cons (.bl a) (.cons (.bl b) (.cons (.bl c) .nil)))
theorem mid9 {t1 t2 t3 t4 t5 t6 t7 t8 t9 t10 : TS} {D : Ends} {σ : L2.St} {H : Hp} (M : L2.St → Hp → Prop) (h2 : ∀ σ' H', M σ' H' → t10 D σ' H')
    (h1 : ∀ u : TS, (∀ σ' H', M σ' H' → u D σ' H') → tSeq t1 (tSeq t2 (tSeq t3 (tSeq t4 (tSeq t5 (tSeq t6 (tSeq t7 (tSeq t8 (tSeq t9 u)))))))) D σ H) :
    tSeq t1 (tSeq t2 (tSeq t3 (tSeq t4 (tSeq t5 (tSeq t6 (tSeq t7 (tSeq t8 (tSeq t9 t10)))))))) D σ H := h1 t10 h2
abbrev plE (K : PySem.W.Frag) (i : Nat) : Addr := He.ga K (nmE i)
/-! ### the place of an error among the classes -/
def spPlace (K : PySem.W.Frag) : Sp := fun vs H Q _ => ∃ (x : V) (i : Nat) (fs : List (Str × V)), vs = [x] ∧ i < 27 ∧ ErrL H x (plE K i) fs ∧ ∀ H', Same H H' → Q (.int i) H'
theorem ok_place {f : Addr} {fd : FuncData} {dvs : List V} {kws : List (Str × V)} (T : Tx K mg)
    (F : FunD K "_law_place" "_law_place" (defArgs s__law_place) (defBody s__law_place) (defScope s__law_place) dvs kws f fd) :
    FnT P w K mg base 1 f fd ["_law_e"] (spPlace K) := by
  refine okT F sc__law_place (fun vs H Q E h => ?_) (fun cdv A outer s H vs Q E hr hgd h => ?_)
  · obtain ⟨x, i, fs, rfl, _⟩ := h
    rfl
  · obtain ⟨x, i, fs, rfl, hi, he, q⟩ := h
    have hu : (A.deeper (envOfC "_law_place" (defScope s__law_place) s.heap.objs.size f cdv)).units + 64 < cLine := by have := hr.un; omega
    refine ⟨_, PSs.nox (pss_cons (ps_set (i := 1) sc__law_place.nd rfl (Or.inl rfl) (pe_lst (pa_cons (pe_callB (cr_isL (n := 27) (cl := plE K) (c := (.ref (He.ga K "InvalidName"))) (f := fun i => decide (i = 0)) (fun u h => h) (fun i hi => (T.ex_all i hi).1) T.k_InvalidName) rfl T.f_isinstance (by decide +kernel) (pa_cons (pv 0) (pa_cons (pe_gl T.g_InvalidName) pa_nil))) (pa_cons (pe_callB (cr_isL (n := 27) (cl := plE K) (c := (.ref (He.ga K "InvalidText"))) (f := fun i => decide (i = 1)) (fun u h => h) (fun i hi => (T.ex_all i hi).1) T.k_InvalidText) rfl T.f_isinstance (by decide +kernel) (pa_cons (pv 0) (pa_cons (pe_gl T.g_InvalidText) pa_nil))) (pa_cons (pe_callB (cr_isL (n := 27) (cl := plE K) (c := (.ref (He.ga K "InvalidFlag"))) (f := fun i => decide (i = 2)) (fun u h => h) (fun i hi => (T.ex_all i hi).1) T.k_InvalidFlag) rfl T.f_isinstance (by decide +kernel) (pa_cons (pv 0) (pa_cons (pe_gl T.g_InvalidFlag) pa_nil))) pa_nil)))))
    (pss_cons (ps_set (i := 1) sc__law_place.nd rfl (Or.inl rfl) (pe_op op_cat (pv 1) (pe_lst (pa_cons (pe_callB (cr_isL (n := 27) (cl := plE K) (c := (.ref (He.ga K "InvalidNumber"))) (f := fun i => decide (i = 3)) (fun u h => h) (fun i hi => (T.ex_all i hi).1) T.k_InvalidNumber) rfl T.f_isinstance (by decide +kernel) (pa_cons (pv 0) (pa_cons (pe_gl T.g_InvalidNumber) pa_nil))) (pa_cons (pe_callB (cr_isL (n := 27) (cl := plE K) (c := (.ref (He.ga K "InvalidThing"))) (f := fun i => decide (i = 4)) (fun u h => h) (fun i hi => (T.ex_all i hi).1) T.k_InvalidThing) rfl T.f_isinstance (by decide +kernel) (pa_cons (pv 0) (pa_cons (pe_gl T.g_InvalidThing) pa_nil))) (pa_cons (pe_callB (cr_isL (n := 27) (cl := plE K) (c := (.ref (He.ga K "InvalidChoice"))) (f := fun i => decide (i = 5)) (fun u h => h) (fun i hi => (T.ex_all i hi).1) T.k_InvalidChoice) rfl T.f_isinstance (by decide +kernel) (pa_cons (pv 0) (pa_cons (pe_gl T.g_InvalidChoice) pa_nil))) pa_nil))))))
    (pss_cons (ps_set (i := 1) sc__law_place.nd rfl (Or.inl rfl) (pe_op op_cat (pv 1) (pe_lst (pa_cons (pe_callB (cr_isL (n := 27) (cl := plE K) (c := (.ref (He.ga K "InvalidWish"))) (f := fun i => decide (i = 6)) (fun u h => h) (fun i hi => (T.ex_all i hi).1) T.k_InvalidWish) rfl T.f_isinstance (by decide +kernel) (pa_cons (pv 0) (pa_cons (pe_gl T.g_InvalidWish) pa_nil))) (pa_cons (pe_callB (cr_isL (n := 27) (cl := plE K) (c := (.ref (He.ga K "InvalidSet"))) (f := fun i => decide (i = 7)) (fun u h => h) (fun i hi => (T.ex_all i hi).1) T.k_InvalidSet) rfl T.f_isinstance (by decide +kernel) (pa_cons (pv 0) (pa_cons (pe_gl T.g_InvalidSet) pa_nil))) (pa_cons (pe_callB (cr_isL (n := 27) (cl := plE K) (c := (.ref (He.ga K "InvalidIndex"))) (f := fun i => decide (i = 8)) (fun u h => h) (fun i hi => (T.ex_all i hi).1) T.k_InvalidIndex) rfl T.f_isinstance (by decide +kernel) (pa_cons (pv 0) (pa_cons (pe_gl T.g_InvalidIndex) pa_nil))) pa_nil))))))
    (pss_cons (ps_set (i := 1) sc__law_place.nd rfl (Or.inl rfl) (pe_op op_cat (pv 1) (pe_lst (pa_cons (pe_callB (cr_isL (n := 27) (cl := plE K) (c := (.ref (He.ga K "NotASystem"))) (f := fun i => decide (i = 9)) (fun u h => h) (fun i hi => (T.ex_all i hi).1) T.k_NotASystem) rfl T.f_isinstance (by decide +kernel) (pa_cons (pv 0) (pa_cons (pe_gl T.g_NotASystem) pa_nil))) (pa_cons (pe_callB (cr_isL (n := 27) (cl := plE K) (c := (.ref (He.ga K "InvalidGates"))) (f := fun i => decide (i = 10)) (fun u h => h) (fun i hi => (T.ex_all i hi).1) T.k_InvalidGates) rfl T.f_isinstance (by decide +kernel) (pa_cons (pv 0) (pa_cons (pe_gl T.g_InvalidGates) pa_nil))) (pa_cons (pe_callB (cr_isL (n := 27) (cl := plE K) (c := (.ref (He.ga K "InvalidKinds"))) (f := fun i => decide (i = 11)) (fun u h => h) (fun i hi => (T.ex_all i hi).1) T.k_InvalidKinds) rfl T.f_isinstance (by decide +kernel) (pa_cons (pv 0) (pa_cons (pe_gl T.g_InvalidKinds) pa_nil))) pa_nil))))))
    (pss_cons (ps_set (i := 1) sc__law_place.nd rfl (Or.inl rfl) (pe_op op_cat (pv 1) (pe_lst (pa_cons (pe_callB (cr_isL (n := 27) (cl := plE K) (c := (.ref (He.ga K "InvalidRows"))) (f := fun i => decide (i = 12)) (fun u h => h) (fun i hi => (T.ex_all i hi).1) T.k_InvalidRows) rfl T.f_isinstance (by decide +kernel) (pa_cons (pv 0) (pa_cons (pe_gl T.g_InvalidRows) pa_nil))) (pa_cons (pe_callB (cr_isL (n := 27) (cl := plE K) (c := (.ref (He.ga K "InvalidMembers"))) (f := fun i => decide (i = 13)) (fun u h => h) (fun i hi => (T.ex_all i hi).1) T.k_InvalidMembers) rfl T.f_isinstance (by decide +kernel) (pa_cons (pv 0) (pa_cons (pe_gl T.g_InvalidMembers) pa_nil))) (pa_cons (pe_callB (cr_isL (n := 27) (cl := plE K) (c := (.ref (He.ga K "InvalidNumbers"))) (f := fun i => decide (i = 14)) (fun u h => h) (fun i hi => (T.ex_all i hi).1) T.k_InvalidNumbers) rfl T.f_isinstance (by decide +kernel) (pa_cons (pv 0) (pa_cons (pe_gl T.g_InvalidNumbers) pa_nil))) pa_nil))))))
    (pss_cons (ps_set (i := 1) sc__law_place.nd rfl (Or.inl rfl) (pe_op op_cat (pv 1) (pe_lst (pa_cons (pe_callB (cr_isL (n := 27) (cl := plE K) (c := (.ref (He.ga K "InvalidRun"))) (f := fun i => decide (i = 15)) (fun u h => h) (fun i hi => (T.ex_all i hi).1) T.k_InvalidRun) rfl T.f_isinstance (by decide +kernel) (pa_cons (pv 0) (pa_cons (pe_gl T.g_InvalidRun) pa_nil))) (pa_cons (pe_callB (cr_isL (n := 27) (cl := plE K) (c := (.ref (He.ga K "InvalidThings"))) (f := fun i => decide (i = 16)) (fun u h => h) (fun i hi => (T.ex_all i hi).1) T.k_InvalidThings) rfl T.f_isinstance (by decide +kernel) (pa_cons (pv 0) (pa_cons (pe_gl T.g_InvalidThings) pa_nil))) (pa_cons (pe_callB (cr_isL (n := 27) (cl := plE K) (c := (.ref (He.ga K "InvalidChanges"))) (f := fun i => decide (i = 17)) (fun u h => h) (fun i hi => (T.ex_all i hi).1) T.k_InvalidChanges) rfl T.f_isinstance (by decide +kernel) (pa_cons (pv 0) (pa_cons (pe_gl T.g_InvalidChanges) pa_nil))) pa_nil))))))
    (pss_cons (ps_set (i := 1) sc__law_place.nd rfl (Or.inl rfl) (pe_op op_cat (pv 1) (pe_lst (pa_cons (pe_callB (cr_isL (n := 27) (cl := plE K) (c := (.ref (He.ga K "UnknownName"))) (f := fun i => decide (i = 18)) (fun u h => h) (fun i hi => (T.ex_all i hi).1) T.k_UnknownName) rfl T.f_isinstance (by decide +kernel) (pa_cons (pv 0) (pa_cons (pe_gl T.g_UnknownName) pa_nil))) (pa_cons (pe_callB (cr_isL (n := 27) (cl := plE K) (c := (.ref (He.ga K "UnknownHand"))) (f := fun i => decide (i = 19)) (fun u h => h) (fun i hi => (T.ex_all i hi).1) T.k_UnknownHand) rfl T.f_isinstance (by decide +kernel) (pa_cons (pv 0) (pa_cons (pe_gl T.g_UnknownHand) pa_nil))) (pa_cons (pe_callB (cr_isL (n := 27) (cl := plE K) (c := (.ref (He.ga K "InUse"))) (f := fun i => decide (i = 20)) (fun u h => h) (fun i hi => (T.ex_all i hi).1) T.k_InUse) rfl T.f_isinstance (by decide +kernel) (pa_cons (pv 0) (pa_cons (pe_gl T.g_InUse) pa_nil))) pa_nil))))))
    (pss_cons (ps_set (i := 1) sc__law_place.nd rfl (Or.inl rfl) (pe_op op_cat (pv 1) (pe_lst (pa_cons (pe_callB (cr_isL (n := 27) (cl := plE K) (c := (.ref (He.ga K "TooMany"))) (f := fun i => decide (i = 21)) (fun u h => h) (fun i hi => (T.ex_all i hi).1) T.k_TooMany) rfl T.f_isinstance (by decide +kernel) (pa_cons (pv 0) (pa_cons (pe_gl T.g_TooMany) pa_nil))) (pa_cons (pe_callB (cr_isL (n := 27) (cl := plE K) (c := (.ref (He.ga K "Alone"))) (f := fun i => decide (i = 22)) (fun u h => h) (fun i hi => (T.ex_all i hi).1) T.k_Alone) rfl T.f_isinstance (by decide +kernel) (pa_cons (pv 0) (pa_cons (pe_gl T.g_Alone) pa_nil))) (pa_cons (pe_callB (cr_isL (n := 27) (cl := plE K) (c := (.ref (He.ga K "Waits"))) (f := fun i => decide (i = 23)) (fun u h => h) (fun i hi => (T.ex_all i hi).1) T.k_Waits) rfl T.f_isinstance (by decide +kernel) (pa_cons (pv 0) (pa_cons (pe_gl T.g_Waits) pa_nil))) (pa_cons (pe_callB (cr_isL (n := 27) (cl := plE K) (c := (.ref (He.ga K "Ended"))) (f := fun i => decide (i = 24)) (fun u h => h) (fun i hi => (T.ex_all i hi).1) T.k_Ended) rfl T.f_isinstance (by decide +kernel) (pa_cons (pv 0) (pa_cons (pe_gl T.g_Ended) pa_nil))) pa_nil)))))))
    (pss_cons (ps_set (i := 1) sc__law_place.nd rfl (Or.inl rfl) (pe_op op_cat (pv 1) (pe_lst (pa_cons (pe_callB (cr_isL (n := 27) (cl := plE K) (c := (.ref (He.ga K "NothingToUndo"))) (f := fun i => decide (i = 25)) (fun u h => h) (fun i hi => (T.ex_all i hi).1) T.k_NothingToUndo) rfl T.f_isinstance (by decide +kernel) (pa_cons (pv 0) (pa_cons (pe_gl T.g_NothingToUndo) pa_nil))) (pa_cons (pe_callB (cr_isL (n := 27) (cl := plE K) (c := (.ref (He.ga K "Broken"))) (f := fun i => decide (i = 26)) (fun u h => h) (fun i hi => (T.ex_all i hi).1) T.k_Broken) rfl T.f_isinstance (by decide +kernel) (pa_cons (pv 0) (pa_cons (pe_gl T.g_Broken) pa_nil))) pa_nil)))))
    (pss_cons (ps_set (i := 2) sc__law_place.nd rfl (Or.inl rfl) (pe_lst (pa_cons (pe_callB (cr_isL (n := 27) (cl := plE K) (c := (.ref (He.ga K "WrongValue"))) (f := fun i => decide (i < 18)) (fun u h => h) (fun i hi => (T.ex_all i hi).1) T.k_WrongValue) rfl T.f_isinstance (by decide +kernel) (pa_cons (pv 0) (pa_cons (pe_gl T.g_WrongValue) pa_nil))) (pa_cons (pe_callB (cr_isL (n := 27) (cl := plE K) (c := (.ref (He.ga K "WrongName"))) (f := fun i => decide (17 < i) && decide (i < 21)) (fun u h => h) (fun i hi => (T.ex_all i hi).1) T.k_WrongName) rfl T.f_isinstance (by decide +kernel) (pa_cons (pv 0) (pa_cons (pe_gl T.g_WrongName) pa_nil))) (pa_cons (pe_callB (cr_isL (n := 27) (cl := plE K) (c := (.ref (He.ga K "NoAnswer"))) (f := fun i => decide (20 < i)) (fun u h => h) (fun i hi => (T.ex_all i hi).1) T.k_NoAnswer) rfl T.f_isinstance (by decide +kernel) (pa_cons (pv 0) (pa_cons (pe_gl T.g_NoAnswer) pa_nil))) pa_nil)))))
    (pss_cons (ps_if (PW.pt (pw_or (pt_cmpR op_ne (pe_bm PySem.F.plainAttrs_list PySem.F.slot_list_count PySem.F.type_list_count mt_count (pv 1) (pa_cons pe_bl pa_nil)) pe_int (nomark _)) (pw_or1 (pt_cmpR (op_neD hu) (pv 2) (pe_op op_cat (pe_lst (pa_cons (pe_callB (cr_isL (n := 27) (cl := plE K) (c := (.ty "ValueError")) (f := fun i => decide (i < 18)) (fun u h => h) (fun i hi => (T.ex_all i hi).1) T.k_ValueError) rfl T.f_isinstance (by decide +kernel) (pa_cons (pv 0) (pa_cons (pe_bltn (v := .ty "ValueError") (u := .type "ValueError") rfl T.f_ValueError (by decide +kernel) rfl) pa_nil))) (pa_cons (pe_callB (cr_isL (n := 27) (cl := plE K) (c := (.ty "LookupError")) (f := fun i => decide (17 < i) && decide (i < 21)) (fun u h => h) (fun i hi => (T.ex_all i hi).1) T.k_LookupError) rfl T.f_isinstance (by decide +kernel) (pa_cons (pv 0) (pa_cons (pe_bltn (v := .ty "LookupError") (u := .type "LookupError") rfl T.f_LookupError (by decide +kernel) rfl) pa_nil))) pa_nil))) (pe_slice sl_list (pv 2) (po_some pe_int) po_none)) (nomark _))))) (pss_one (ps_ret (pe_un un_neg pe_int))) pss_nil)
    (pss_cons (ps_set (i := 3) sc__law_place.nd rfl (Or.inl rfl) (pe_bm PySem.F.plainAttrs_list PySem.F.slot_list_index PySem.F.type_list_index mt_index (pv 1) (pa_cons pe_bl pa_nil)))
    (pss_cons (ps_if (PW.pt (pw_or (pt_not (pt_cmpR op_eq (pe_callB (cr_isL (n := 27) (cl := plE K) (c := (.ty "ArithmeticError")) (f := fun i => decide (20 < i)) (fun u h => h) (fun i hi => (T.ex_all i hi).1) T.k_ArithmeticError) rfl T.f_isinstance (by decide +kernel) (pa_cons (pv 0) (pa_cons (pe_bltn (v := .ty "ArithmeticError") (u := .type "ArithmeticError") rfl T.f_ArithmeticError (by decide +kernel) rfl) pa_nil))) (pe_ix ix_list (pv 2) pe_int (fun _ _ => rfl)) (nomark _))) (pw_or1 (pt_cmpR (op_neD hu) (pv 2) (pe_lst (pa_cons (pe_cmpR op_lt (pv 3) pe_int (nomark _)) (pa_cons (pe_chain op_lt op_lt pe_int (pv 3) pe_int) (pa_cons (pe_cmpR op_lt pe_int (pv 3) (nomark _)) pa_nil)))) (nomark _))))) (pss_one (ps_ret (pe_un un_neg pe_int))) pss_nil)
    (pss_one (ps_ret (pv 3)))))))))))))))), ?_⟩
    refine mid9 (fun σ' H' => ∃ l : Addr, σ' = [some x, some (.ref l), none, none] ∧ Same H H' ∧ H' l = some (.lst (ownL i))) ?_ ?_
    · have he0 := he
      have q0 := q
      clear he q
      rintro _ H1 ⟨l, rfl, s1, hl⟩
      have he1 : ErrL H1 x (plE K i) fs := he0.same s1
      walk_at "rd"
      intro l18 n18
      walk_at "rd"
      refine G.iteKF ?_ ?_
      · show (!decide (V.int ((List.countP (fun z => eqV z (V.bl true)) (ownL i) : Nat) : Int) = V.int 1)) = false
        rw [own_count i hi]
        rfl
      walk_at "rd"
      intro l19 n19
      walk_at "rd"
      intro l20 n20
      walk_at "rd"
      intro l21 n21
      walk_at "rd"
      refine ⟨bD (decide (i < 18)) (decide (17 < i) && decide (i < 21)) (decide (20 < i)), bD (decide (i < 18)) (decide (17 < i) && decide (i < 21)) (decide (20 < i)),
        bD_at (by walk_at "g hp") rfl, bD_at (by walk_at "g hp") rfl, bD_shaped _ _ _, bD_shaped _ _ _, _, rfl, G.iteKF (bD_eqv _ _ _) ?_⟩
      walk_at "rd"
      refine ⟨own_idx hi, rfl, fun m z' hm e => own_bef hm e, ?_⟩
      walk_at "rd"
      refine G.iteKF ?_ ?_
      · simp
      walk_at "rd"
      have z1 : decide ((i : Int) < 18) = decide (i < 18) := by
        rw [decide_eq_decide]
        omega
      have z2 : decide ((i : Int) < 21) = decide (i < 21) := by
        rw [decide_eq_decide]
        omega
      have z3 : decide (20 < (i : Int)) = decide (20 < i) := by
        rw [decide_eq_decide]
        omega
      refine iteD (fun h1 => ?_) (fun h1 => ?_)
      · walk_at "rd"
        intro l22 n22
        walk_at "rd"
        refine ⟨bD (decide (i < 18)) (decide (17 < i) && decide (i < 21)) (decide (20 < i)), bD (decide (i < 18)) (decide (17 < i) && decide (i < 21)) (decide (20 < i)),
          bD_at (by walk_at "g hp") rfl, bD_at (ys := _) (by walk_at "g hp") (by dsimp only; rw [z1, z2, z3, show decide (17 < i) = true from decide_eq_true (by omega), Bool.true_and]), bD_shaped _ _ _, bD_shaped _ _ _, _, rfl, G.iteKF (bD_eqv _ _ _) ?_⟩
        walk_at "rd"
        exact q0 _ (by walk_at "g but")
      · walk_at "rd"
        intro l22 n22
        walk_at "rd"
        refine ⟨bD (decide (i < 18)) (decide (17 < i) && decide (i < 21)) (decide (20 < i)), bD (decide (i < 18)) (decide (17 < i) && decide (i < 21)) (decide (20 < i)),
          bD_at (by walk_at "g hp") rfl, bD_at (ys := _) (by walk_at "g hp") (by dsimp only; rw [z1, z3, show decide (17 < i) = false from decide_eq_false (by omega), Bool.false_and]), bD_shaped _ _ _, bD_shaped _ _ _, _, rfl, G.iteKF (bD_eqv _ _ _) ?_⟩
        walk_at "rd"
        exact q0 _ (by walk_at "g but")
    · intro u hu
      walk_at "rd"
      intro l1 n1
      walk_at "rd"
      intro l2 n2
      walk_at "rd"
      intro l3 n3
      walk_at "rd"
      intro l4 n4
      walk_at "rd"
      intro l5 n5
      walk_at "rd"
      intro l6 n6
      walk_at "rd"
      intro l7 n7
      walk_at "rd"
      intro l8 n8
      walk_at "rd"
      intro l9 n9
      walk_at "rd"
      intro l10 n10
      walk_at "rd"
      intro l11 n11
      walk_at "rd"
      intro l12 n12
      walk_at "rd"
      intro l13 n13
      walk_at "rd"
      intro l14 n14
      walk_at "rd"
      intro l15 n15
      walk_at "rd"
      intro l16 n16
      walk_at "rd"
      intro l17 n17
      walk_at "rd"
      exact hu _ _ ⟨l17, rfl, by walk_at "g but", upd_same⟩
theorem h_place (T : Tx K mg) : CalT P w K mg base 1 "_law_place" (spPlace K) := by
  obtain ⟨fd, F⟩ := T.d__law_place
  exact .mk F (ok_place T F) T.n__law_place fun _ _ _ _ _ _ us hl => match us, hl with | [_], _ => rfl
end
end G
end
section
local macro_rules | `(tactic| walk_at "g and") => `(tactic| first
  | exact G.ErrL.same (by assumption) (by walk_at "g but")
  | exact Or.inl ⟨rfl, _, L2.SqL.of (by walk_at "g hp")⟩)

namespace G
open PySem PySem.Spec PyProof.Rows L2
/-! ### what an error keeps -/
/-- the attributes of an error of the i-th class, made of o (and m) -/
def odF (i : Nat) (o m : V) : List (Str × V) :=
  if i < 10 then gF1 "given" [o] else if i < 18 then gF1 "index" [o] else if i < 20 then gF1 "given" [o] else if i < 21 then gF1 "index" [o] else
  if i < 22 then gF1 "limit" [o] else if i < 23 then gF1 "given" [o] else if i < 25 then gF1 "hand" [o] else if i < 26 then [] else gF2 "index" "shown" [o, m]
theorem od_given {i : Nat} {o m : V} (h : i < 10 ∨ i = 18 ∨ i = 19 ∨ i = 22) : ([0, 1, 2, 3, 4, 5, 6, 7, 8, 9, 18, 19, 22].contains i) = true ∧ (odF i o m).lookup ("given" : Str) = some o := by
  have a : ∀ i < 27, i < 10 ∨ i = 18 ∨ i = 19 ∨ i = 22 → ([0, 1, 2, 3, 4, 5, 6, 7, 8, 9, 18, 19, 22].contains i) = true := by decide
  have b : odF i o m = gF1 "given" [o] := by
    unfold odF
    repeat' split
    all_goals first | rfl | omega
  exact ⟨a i (by omega) h, by rw [b]; rfl⟩
theorem od_index {i : Nat} {o m : V} (h : (10 ≤ i ∧ i < 18) ∨ i = 20 ∨ i = 26) : ([10, 11, 12, 13, 14, 15, 16, 17, 20, 26].contains i) = true ∧ (odF i o m).lookup ("index" : Str) = some o := by
  have a : ∀ i < 27, (10 ≤ i ∧ i < 18) ∨ i = 20 ∨ i = 26 → ([10, 11, 12, 13, 14, 15, 16, 17, 20, 26].contains i) = true := by decide
  refine ⟨a i (by omega) h, ?_⟩
  unfold odF
  repeat' split
  all_goals first | rfl | omega
theorem od_limit {o m : V} : ([21].contains 21) = true ∧ (odF 21 o m).lookup ("limit" : Str) = some o := ⟨rfl, rfl⟩
theorem od_shown {o m : V} : ([26].contains 26) = true ∧ (odF 26 o m).lookup ("shown" : Str) = some m := ⟨rfl, rfl⟩
theorem od_hand {i : Nat} {o m : V} (h : i = 23 ∨ i = 24) : ([23, 24].contains i) = true ∧ (odF i o m).lookup ("hand" : Str) = some o := by
  rcases h with rfl | rfl <;> exact ⟨rfl, rfl⟩
section
variable {P : Program} {w : World} {K : PySem.W.Frag} {mg : Str → Option Value} {base : Heap} {CX : CXT}
def spKept (K : PySem.W.Frag) : Sp := fun vs H Q _ => ∃ (x : V) (i : Nat) (o m : V), vs = [x, .int i] ∧ i < 27 ∧ ErrL H x (plE K i) (odF i o m) ∧
  (i < 25 → ∀ H', Same H H' → Q o H') ∧ (i = 25 → ∀ H', Same H H' → Q .non H') ∧ (i = 26 → ∀ t H', Same H H' → H' t = some (.tup [o, m]) → Q (.ref t) H')
theorem ok_kept {f : Addr} {fd : FuncData} {dvs : List V} {kws : List (Str × V)} (T : Tx K mg)
    (F : FunD K "_law_kept" "_law_kept" (defArgs s__law_kept) (defBody s__law_kept) (defScope s__law_kept) dvs kws f fd) :
    FnT P w K mg base 1 f fd ["_law_e", "_law_at"] (spKept K) := by
  refine okT F sc__law_kept (fun vs H Q E h => ?_) (fun cdv A outer s H vs Q E hr hgd h => ?_)
  · obtain ⟨x, i, o, m, rfl, _⟩ := h
    rfl
  · obtain ⟨x, i, o, m, rfl, hi, he, q1, q2, q3⟩ := h
    have hu : (A.deeper (envOfC "_law_kept" (defScope s__law_kept) s.heap.objs.size f cdv)).units + 64 < cLine := by have := hr.un; omega
    refine ⟨_, PSs.nox (pss_cons (ps_if (PW.pt (pw_or (pt_cmpR op_lt (pv 1) pe_int (nomark _)) (pw_or1 (pt_cmpR op_eq (pv 1) pe_int (nomark _))))) (pss_one (ps_ret pe_non)) pss_nil)
    (pss_cons (ps_if (PW.pt (pw_or (pt_cmpR op_lt (pv 1) pe_int (nomark _)) (pw_or1 (pt_cmpR op_in_seq (pv 1) (pe_lst (pa_cons pe_int (pa_cons pe_int (pa_cons pe_int pa_nil)))) rfl)))) (pss_one (ps_ret (pe_errfldL (n := 27) (cl := plE K) (fun i hi => (T.ex_all i hi).2) T.nf_given (pv 0)))) pss_nil)
    (pss_cons (ps_if (PW.pt (pw_or (pt_cmpR op_lt (pv 1) pe_int (nomark _)) (pw_or1 (pt_cmpR op_eq (pv 1) pe_int (nomark _))))) (pss_one (ps_ret (pe_errfldL (n := 27) (cl := plE K) (fun i hi => (T.ex_all i hi).2) T.nf_index (pv 0)))) pss_nil)
    (pss_cons (ps_if (pt_cmpR op_eq (pv 1) pe_int (nomark _)) (pss_one (ps_ret (pe_errfldL (n := 27) (cl := plE K) (fun i hi => (T.ex_all i hi).2) T.nf_limit (pv 0)))) pss_nil)
    (pss_one (ps_ret (pe_ifExp (pt_cmpR op_lt (pv 1) pe_int (nomark _)) (pe_errfldL (n := 27) (cl := plE K) (fun i hi => (T.ex_all i hi).2) T.nf_hand (pv 0)) (pe_tup (pa_cons (pe_errfldL (n := 27) (cl := plE K) (fun i hi => (T.ex_all i hi).2) T.nf_index (pv 0)) (pa_cons (pe_errfldL (n := 27) (cl := plE K) (fun i hi => (T.ex_all i hi).2) T.nf_shown (pv 0)) pa_nil)))))))))), ?_⟩
    walk_at "rd"
    refine iteD (fun h1 => ?_) (fun h1 => ?_)
    · have := V.int.inj h1
      walk_at "rd"
      exact q2 (by omega) _ (.refl _)
    have h1' : i ≠ 25 := fun e => h1 (by rw [e]; rfl)
    walk_at "rd"
    refine iteD (fun h2 => ?_) (fun h2 => ?_)
    · walk_at "rd"
      have z := od_given (i := i) (o := o) (m := m) (.inl (by omega))
      exact ⟨z.1, z.2, q1 (by omega) _ (.refl _)⟩
    walk_at "rd"
    intro l nl
    walk_at "rd"
    have he1 : ErrL (upd H l (.lst [V.int 18, V.int 19, V.int 22])) x (plE K i) (odF i o m) := he.same (by walk_at "g but")
    have s1 : Same H (upd H l (.lst [V.int 18, V.int 19, V.int 22])) := by walk_at "g but"
    refine iteB (fun h3 => ?_) (fun h3 => ?_)
    · have h4 : i = 18 ∨ i = 19 ∨ i = 22 := by
        simp [inV, eqV] at h3
        omega
      have z := od_given (i := i) (o := o) (m := m) (.inr h4)
      walk_at "rd"
      exact ⟨z.1, z.2, q1 (by omega) _ s1⟩
    have h3' : i ≠ 18 ∧ i ≠ 19 ∧ i ≠ 22 := by
      simp [inV, eqV] at h3
      omega
    generalize upd H l (.lst [V.int 18, V.int 19, V.int 22]) = H1 at he1 s1 ⊢
    clear nl he
    walk_at "rd"
    refine iteD (fun h5 => ?_) (fun h5 => ?_)
    · walk_at "rd"
      have z := od_index (i := i) (o := o) (m := m) (.inl (by omega))
      exact ⟨z.1, z.2, q1 (by omega) _ s1⟩
    walk_at "rd"
    refine iteD (fun h6 => ?_) (fun h6 => ?_)
    · have h6' := V.int.inj h6
      walk_at "rd"
      have z := od_index (i := i) (o := o) (m := m) (.inr (.inl (by omega)))
      exact ⟨z.1, z.2, q1 (by omega) _ s1⟩
    have h6' : i ≠ 20 := fun e => h6 (by rw [e]; rfl)
    walk_at "rd"
    refine iteD (fun h7 => ?_) (fun h7 => ?_)
    · have h7' : i = 21 := by
        have := V.int.inj h7
        omega
      subst h7'
      walk_at "rd"
      exact q1 (by omega) _ s1
    have h7' : i ≠ 21 := fun e => h7 (by rw [e]; rfl)
    walk_at "rd"
    refine iteD (fun h8 => ?_) (fun h8 => ?_)
    · walk_at "rd"
      have z := od_hand (i := i) (o := o) (m := m) (by omega)
      exact ⟨z.1, z.2, q1 (by omega) _ s1⟩
    have h9 : i = 26 := by omega
    subst h9
    walk_at "rd"
    intro t nt
    exact q3 rfl _ _ (s1.new nt) upd_same
theorem h_kept (T : Tx K mg) : CalT P w K mg base 1 "_law_kept" (spKept K) := by
  obtain ⟨fd, F⟩ := T.d__law_kept
  exact .mk F (ok_kept T F) T.n__law_kept fun _ _ _ _ _ _ us hl => match us, hl with | [_, _], _ => rfl
/-! ### the words -/
def nmL : List V := (List.range 27).map fun i => V.str (nmE i)
def spWords : Sp := fun vs H Q _ => vs = [] ∧ ∀ H' l, Same H H' → H' l = some (.lst nmL) → Q (.ref l) H'
theorem ok_words {f : Addr} {fd : FuncData} {dvs : List V} {kws : List (Str × V)} (T : Tx K mg)
    (F : FunD K "_law_words" "_law_words" (defArgs s__law_words) (defBody s__law_words) (defScope s__law_words) dvs kws f fd) :
    FnT P w K mg base 1 f fd [] spWords := by
  refine okT F sc__law_words (fun vs H Q E h => ?_) (fun cdv A outer s H vs Q E hr hgd h => ?_)
  · obtain ⟨rfl, _⟩ := h
    rfl
  · obtain ⟨rfl, q⟩ := h
    refine ⟨_, PSs.nox (pss_cons (ps_set (i := 0) sc__law_words.nd rfl (Or.inl rfl) (pe_lst (pa_cons pe_str (pa_cons pe_str (pa_cons pe_str (pa_cons pe_str (pa_cons pe_str (pa_cons pe_str pa_nil))))))))
    (pss_cons (ps_set (i := 0) sc__law_words.nd rfl (Or.inl rfl) (pe_op op_cat (pv 0) (pe_lst (pa_cons pe_str (pa_cons pe_str (pa_cons pe_str (pa_cons pe_str (pa_cons pe_str (pa_cons pe_str pa_nil)))))))))
    (pss_cons (ps_set (i := 0) sc__law_words.nd rfl (Or.inl rfl) (pe_op op_cat (pv 0) (pe_lst (pa_cons pe_str (pa_cons pe_str (pa_cons pe_str (pa_cons pe_str (pa_cons pe_str pa_nil))))))))
    (pss_cons (ps_set (i := 0) sc__law_words.nd rfl (Or.inl rfl) (pe_op op_cat (pv 0) (pe_lst (pa_cons pe_str (pa_cons pe_str (pa_cons pe_str (pa_cons pe_str (pa_cons pe_str (pa_cons pe_str (pa_cons pe_str (pa_cons pe_str pa_nil)))))))))))
    (pss_one (ps_ret (pe_op op_cat (pv 0) (pe_lst (pa_cons pe_str (pa_cons pe_str pa_nil)))))))))), ?_⟩
    walk_at "rd"
    intro l1 n1
    walk_at "rd"
    intro l2 n2
    walk_at "rd"
    intro m2 k2
    walk_at "rd"
    intro l3 n3
    walk_at "rd"
    intro m3 k3
    walk_at "rd"
    intro l4 n4
    walk_at "rd"
    intro m4 k4
    walk_at "rd"
    intro l5 n5
    walk_at "rd"
    intro m5 k5
    exact q _ _ (by walk_at "g but") (by rw [upd_same]; rfl)
theorem h_words (T : Tx K mg) : CalT P w K mg base 1 "_law_words" spWords := by
  obtain ⟨fd, F⟩ := T.d__law_words
  exact .mk F (ok_words T F) T.n__law_words fun _ _ _ _ _ _ us hl => match us, hl with | [], _ => rfl
end
end G
end
section
local macro_rules | `(tactic| walk_at "g and") => `(tactic| first
  | exact G.ErrL.same (by assumption) (by walk_at "g but")
  | exact Or.inl ⟨rfl, _, L2.SqL.of (by walk_at "g hp")⟩)

namespace G
open PySem PySem.Spec PyProof.Rows L2
/-! ### what a call raises or returns, told -/
/-- an error that is caught: told, it makes Q hold -/
def WishQ (K : PySem.W.Frag) (Q : VK) : XK := fun cls d H' => ∃ (i : Nat) (o m : V) (dx : Addr) (z : PyData), i < 25 ∧ cls = .ref (plE K i) ∧ d = some dx ∧ H' dx = some (.xd (odF i o m)) ∧ Dq K H' o z ∧ ShD 60 sizeLine z ∧
  ∀ t H'', Same H' H'' → H'' t = some (.tup [.str (nmE i), .str z.shown]) → Q (.ref t) H''
/-- what comes back: told, it makes Q hold -/
def RetQ (K : PySem.W.Frag) (Q : VK) : VK := fun v H' => tRet (tTup (tCons (tC (V.str "returned")) (tCons (tCB (rReprQ K) (tCons (tVar 1) tNil)) tNil))) { nx := fun _ H' => Q V.non H', rt := Q } [none, some v, none, none] H'
theorem RetQ.of {K : PySem.W.Frag} {Q : VK} {v : V} {H : Hp} {z : PyData} (h : Dq K H v z) (s : ShD 60 sizeLine z) (q : ∀ t H'', Same H H'' → H'' t = some (.tup [.str "returned", .str z.shown]) → Q (.ref t) H'') : RetQ K Q v H := by
  unfold RetQ
  walk_at "rd"
  refine ⟨z, rfl, h, s.sh, s.dp, s.ln, ?_⟩
  walk_at "rd"
  intro t nt
  exact q t _ ((Same.refl _).new nt) upd_same
/-- what _law_caught asks of the lambda that it calls -/
def TCa (K : PySem.W.Frag) : (XK → Hp → VK → Prop) → Hp → VK → Prop := fun tl H Q => tl (WishQ K Q) H (RetQ K Q)
theorem mg_ref {mg : Str → Option Value} {x : Str} {a : Addr} (h : ∃ u, mg x = some u ∧ RelV (.ref a) u) : mg x = some (.ref a) := by
  obtain ⟨u, e, r⟩ := h
  obtain rfl : u = Value.ref a := r
  exact e
theorem Room.hot {k : Nat} {A : Around} {h : Option Value} (r : Room k A) : L2H.RoomH k (A.mark h) := ⟨r.dp, r.un⟩
theorem caught_gives {X : Cx} (T : Tx X.K X.mg) (hsm : (X.base.get? sysModules).isSome = true) (hgd : X.A.guards = some []) {k : Nat} (hr : Room (k + 2) X.A) {g : Addr} {cdg : Value} {q : Str} :
    LamX.GivesTo X n__law_caught "_law_caught" (defScope s__law_caught) g cdg (defBody s__law_caught) "_law_act" q (TCa X.K) := by
  intro f c' s H Q tl act hc h
  have h__law_place : CalT X.prog X.w X.K X.mg X.base 1 "_law_place" (spPlace X.K) := h_place T
  have h__law_kept : CalT X.prog X.w X.K X.mg X.base 1 "_law_kept" (spKept X.K) := h_kept T
  have h__law_words : CalT X.prog X.w X.K X.mg X.base 1 "_law_words" spWords := h_words T
  have hrd := hr.deeper (envOfC "_law_caught" (defScope s__law_caught) s.heap.objs.size g cdg)
  have hrh : ∀ {h : Option Value}, L2H.RoomH 1 ((X.A.deeper (envOfC "_law_caught" (defScope s__law_caught) s.heap.objs.size g cdg)).mark h) := (Room.hot hrd).mono (by omega)
  have hu : (X.A.deeper (envOfC "_law_caught" (defScope s__law_caught) s.heap.objs.size g cdg)).units + 64 < cLine := by
    have := hrd.un
    omega
  refine ⟨_, pss_cons (ps_try_ad (i := 2) (Wout := fun _ _ _ _ => False) (X := (cxOf CX0 X.prog X.w X.K X.mg X.base n__law_caught "_law_caught" (defScope s__law_caught) g cdg X.A X.stack s H E0).nox)
    (tb := fun W D σ H => ∃ Ech : XK, (∀ cls d σ' H', Ech cls d H' → W cls d σ' H') ∧ σ[0]? = some (some (.ref f)) ∧ H c' = some (LamX.CodeO c' q) ∧ tl Ech H (fun v H' => D.nx (σ.set 1 (some v)) H'))
    rfl rfl rfl sc__law_caught.nd rfl rfl (test_three (mg_ref T.g_WrongValue) (mg_ref T.g_WrongName) (mg_ref T.g_NoAnswer)) LamX.takes0 (fun W pn xe tk _ => ?_)
    (fun a pn => (pss_cons (ps_set (i := 3) sc__law_caught.nd rfl (Or.inl rfl) (pe_calT h__law_place (hrh.mono (by decide)) hgd (pa_cons (pv 2) pa_nil)))
    (pss_one (ps_ret (pe_tup (pa_cons (pe_ix (ixK (K := X.K) (r := rIxL) rfl ix_list) (pe_op op_cat (pe_calT0 h__law_words (hrh.mono (by decide)) hgd) (pe_lst (pa_cons pe_str pa_nil))) (pv 3) (fun _ _ => rfl)) (pa_cons (pe_callB (crK (K := X.K) (r := rReprQ) rfl (call_reprB hgd hu hsm)) rfl T.f_repr (by decide +kernel) (pa_cons (pe_calT h__law_kept (hrh.mono (by decide)) hgd (pa_cons (pv 2) (pa_cons (pv 3) pa_nil))) pa_nil)) pa_nil)))))))) (pss_one (ps_ret (pe_tup (pa_cons pe_str (pa_cons (pe_callB (call_reprB hgd hu hsm) rfl T.f_repr (by decide +kernel) (pa_cons (pv 1) pa_nil)) pa_nil))))), ?_⟩
  · refine ⟨fun pins s' σ H' D I h' => ?_⟩
    obtain ⟨Ech, hW, h1, h2, h3⟩ := h'
    exact (pss_one (ps_set (i := 1) sc__law_caught.nd rfl (Or.inl rfl) (act W pn xe Ech _ _ tk hW))).run pins s' σ H' D I ⟨h1, h2, h3⟩
  · refine ⟨WishQ X.K Q, ?_, rfl, hc, h⟩
    rintro cls d σ' H' ⟨i, o, m, dx, z, hi, rfl, rfl, hx, hz, hs, hq⟩ hl
    refine ⟨true, T.xm_all i (by omega), fun _ => ⟨_, rfl, fun a na => ?_⟩, fun h => by cases h⟩
    obtain ⟨v0, v1, v2, v3, rfl⟩ : ∃ v0 v1 v2 v3, σ' = [v0, v1, v2, v3] := by
      match σ', hl with
      | [v0, v1, v2, v3], _ => exact ⟨_, _, _, _, rfl⟩
    have he : ErrL (upd H' a (exl a (plE X.K i) (some dx))) (.ref a) (plE X.K i) (odF i o m) := by
      refine ⟨a, some dx, rfl, upd_same, ?_⟩
      show upd H' a _ dx = _
      rw [upd_ne (ne_of_none hx na)]
      exact hx
    have s1 : Same H' (upd H' a (exl a (plE X.K i) (some dx))) := (Same.refl _).new na
    have hz1 := Dq.same s1 hz
    generalize upd H' a (exl a (plE X.K i) (some dx)) = H1 at he s1 hz1 ⊢
    walk_at "rd"
    refine ⟨(show i < 27 by omega), he, fun H2 s2 => ?_⟩
    have he2 := he.same s2
    have hz2 := Dq.same s2 hz1
    have s12 := s1.trans s2
    walk_at "rd"
    intro H3 l3 s3 hl3
    walk_at "rd"
    intro l4 n4
    walk_at "rd"
    intro l5 n5
    walk_at "rd"
    have hn : (nmL ++ [V.str "odd"])[i]? = some (V.str (nmE i)) := by
      rw [List.getElem?_append_left (by show i < 27; omega)]
      unfold nmL
      rw [List.getElem?_map, List.getElem?_range (by omega)]
      rfl
    refine ⟨(show atI _ (i : Int) = _ from by rw [atI_nat hn]), ?_⟩
    have s5 : Same H2 (upd (upd H3 l4 (.lst [V.str "odd"])) l5 (.lst (nmL ++ [V.str "odd"]))) := by walk_at "g but"
    have he5 := he2.same s5
    have hz5 := Dq.same s5 hz2
    have s15 := s12.trans s5
    generalize upd (upd H3 l4 (.lst [V.str "odd"])) l5 (.lst (nmL ++ [V.str "odd"])) = H5 at he5 hz5 s15 ⊢
    clear s5 he2 hz2 s12 n4 n5 hl3 s3 he hz1 s1 s2
    walk_at "rd"
    refine ⟨fun _ H6 s6 => ?_, fun h => by omega, fun h => by omega⟩
    have hz6 := Dq.same s6 hz5
    walk_at "rd"
    refine ⟨z, rfl, hz6, hs.sh, hs.dp, hs.ln, ?_⟩
    walk_at "rd"
    intro t nt
    exact hq t _ ((s15.trans s6).new nt) upd_same
/-- _law_caught(lambda: e), in a def y whose lambdas' code stands in its own table -/
theorem pe_caught {X : Cx} {y : Str} {params : Arguments} {body : Expr} {scope : Scope} {t : XK → TE} {p lpos pos : Pos} {k : Nat} (T : Tx X.K X.mg) (hsm : (X.base.get? sysModules).isSome = true) (hgd : X.A.guards = some [])
    (TB : LamX.TabB X.base X.mg (codeA X.K y) (tabA X.K y)) (hr : Room (k + 2) X.A) (hcode : X.env.code = .ref (codeA X.K y)) (L : LamX.LamS X.env.scope scope) (hdef : defaultsOf params X.env = ([], []))
    (hbind : ∀ (q : Str) (cl : List (Str × Addr)) (pm cv ctv : Value), bindArgs (PySem.W.kla_fn "<lambda>" q params body scope cl pm cv ctv) ⟨[], []⟩ = pure [])
    (hbody : ∀ (A : Around) (outer : List Env) (s : Shared) (H : Hp) (E : XK) (f c' : Addr), Room k (A.deeper (LamX.lamEnv X scope s.heap.objs.size f c')) → PE (LamX.lamCx X A outer s H E scope f c') body (t E))
    (hg : Gl X "_law_caught" := by rfl) :
    PE X (.Call (.Name "_law_caught" p) [.Lambda params body scope lpos] [] pos) (LamX.tLam [(tabA X.K y, X.env.qual ++ "<lambda>")] (TCa X.K) t) := by
  obtain ⟨fd, F⟩ := T.d__law_caught
  have hm : X.mg "_law_caught" = some (.ref (He.ga X.K "_law_caught")) := T.n__law_caught
  have hb : Binds X.K fd ["_law_act"] [] := F.bindsN fun _ _ _ _ _ _ us hl => match us, hl with | [_], _ => rfl
  obtain ⟨oc, od, dV, kV, doc, pm, an, cdv, ct, osl, rfl, lk, hcd, _, _⟩ := F.ex
  exact LamX.pe_lamcall (Ng := n__law_caught) hg hm F.kp lk hcd hb sc__law_caught rfl (.inl rfl) (caught_gives T hsm hgd hr) TB hcode (by simp) (by simp) hr L hdef hbind hbody
end G
end
namespace G
open PySem PySem.Spec PyProof.Rows L2
/-! ### what stays where tables of code objects grow -/
def noT : HO → Bool
  | .tbl _ => false
  | _ => true
/-- all but the tables is kept -/
def Kp (H H' : Hp) : Prop := ∀ b o, H b = some o → noT o = true → H' b = some o
theorem Kp.refl (H : Hp) : Kp H H := fun _ _ e _ => e
theorem Kp.trans {H H1 H2 : Hp} (a : Kp H H1) (b : Kp H1 H2) : Kp H H2 := fun c o e n => b c o (a c o e n) n
theorem Kp.of {H H' : Hp} (s : Same H H') : Kp H H' := fun b o e _ => s b o e
theorem Kp.ofN {H H' : Hp} (s : LamX.ExtN H H') : Kp H H' := fun b o e n => s b o e fun ps z => by
  rw [z] at n
  cases n
/-- .. and but what stands at p -/
def KpB (p : Addr) (H H' : Hp) : Prop := ∀ b o, b ≠ p → H b = some o → noT o = true → H' b = some o
theorem KpB.of {p : Addr} {H H' : Hp} (s : But p H H') : KpB p H H' := fun b o n e _ => s b o n e
theorem KpB.trans {p : Addr} {H H1 H2 : Hp} (a : KpB p H H1) (b : Kp H1 H2) : KpB p H H2 := fun c o n e t => b c o (a c o n e t) t
mutual
theorem Dq.ext {K : PySem.W.Frag} {H H' : Hp} (s : Kp H H') : ∀ {v : V} {d : PyData}, Dq K H v d → Dq K H' v d
  | _, _, .non => .non
  | _, _, .bl b => .bl b
  | _, _, .int i => .int i
  | _, _, .str x => .str x
  | _, _, .lst e ha => .lst (s _ _ e rfl) (DqAll.ext s ha)
  | _, _, .tup e ha => .tup (by
      rcases e with (h | ⟨o, h⟩) | h
      · exact .inl (.inl (s _ _ h rfl))
      · exact .inl (.inr ⟨o, s _ _ h rfl⟩)
      · exact .inr h) (DqAll.ext s ha)
  | _, _, .dct e hk hv => .dct (s _ _ e rfl) (DqAll.ext s hk) (DqAll.ext s hv)
theorem DqAll.ext {K : PySem.W.Frag} {H H' : Hp} (s : Kp H H') : ∀ {vs : List V} {ds : List PyData}, DqAll K H vs ds → DqAll K H' vs ds
  | _, _, .nil => .nil
  | _, _, .cons h1 h2 => .cons (Dq.ext s h1) (DqAll.ext s h2)
end
/-- tables stay tables where a pool is drawn from -/
theorem tabs_pl {T : List (Addr × Str)} {H H' : Hp} {p : Addr} (t : LamX.Tabs T H) (hp : PoolAt H p) (s : Pl p H H') : LamX.Tabs T H' := by
  intro q hq
  obtain ⟨ps, h1, h2, h3⟩ := t q hq
  refine ⟨ps, s.obj hp h1 rfl, h2, fun pos cv hc => ?_⟩
  obtain ⟨c, e1, e2⟩ := h3 pos cv hc
  exact ⟨c, e1, s.obj hp e2 rfl⟩
theorem GoAt.ext {K : PySem.W.Frag} {H H' : Hp} {g : Addr} {gs : List Nat} (h : GoAt K H g gs) (s : Kp H H') : GoAt K H' g gs := by
  rcases h with h | h
  · exact .inl (s _ _ h rfl)
  · exact .inr h
theorem RowIn.ext {K : PySem.W.Frag} {H H' : Hp} {a : Addr} {q : RwT} (h : RowIn K H a q) (s : Kp H H') : RowIn K H' a q := by
  obtain ⟨dx, g, e, o⟩ := h
  exact ⟨dx, g, s _ _ e rfl, o.ext s⟩
theorem RowsIn.ext {K : PySem.W.Frag} {H H' : Hp} {as : List Addr} {rs : List RwT} (h : RowsIn K H as rs) (s : Kp H H') : RowsIn K H' as rs :=
  ⟨h.1, fun i a q h1 h2 => (h.2 i a q h1 h2).ext s⟩
theorem MemAt.ext {K : PySem.W.Frag} {H H' : Hp} {m : Addr} {ms : List Str} (h : MemAt K H m ms) (s : Kp H H') : MemAt K H' m ms := by
  rcases h with h | h
  · exact .inl (s _ _ h rfl)
  · exact .inr h
theorem KindAt.ext {K : PySem.W.Frag} {H H' : Hp} {a : Addr} {k : KindT} (h : KindAt K H a k) (s : Kp H H') : KindAt K H' a k := by
  obtain ⟨ok, dx, t, pr, m, as, h1, h2, h3, h4, h5⟩ := h
  exact ⟨ok, dx, t, pr, m, as, s _ _ h1 rfl, s _ _ h2 rfl, h3.ext s, s _ _ h4 rfl, h5.ext s⟩
theorem GateAt.ext {K : PySem.W.Frag} {H H' : Hp} {a : Addr} {g : GateT} (h : GateAt K H a g) (s : Kp H H') : GateAt K H' a g := by
  obtain ⟨dx, e⟩ := h
  exact ⟨dx, s _ _ e rfl⟩
theorem GatesAt.ext {K : PySem.W.Frag} {H H' : Hp} {t : Addr} {as : List Addr} {gs : List GateT} (h : GatesAt K H t as gs) (s : Kp H H') : GatesAt K H' t as gs :=
  ⟨s _ _ h.tup rfl, h.ln, fun i a g h1 h2 => (h.at_ i a g h1 h2).ext s⟩
theorem KindsAt.ext {K : PySem.W.Frag} {H H' : Hp} {t : Addr} {bs : List Addr} {ks : List KindT} (h : KindsAt K H t bs ks) (s : Kp H H') : KindsAt K H' t bs ks :=
  ⟨s _ _ h.tup rfl, h.ln, fun i a g h1 h2 => (h.at_ i a g h1 h2).ext s⟩
theorem SysIn.ext {K : PySem.W.Frag} {H H' : Hp} {p dx t u : Addr} {gs : List GateT} {ks : List KindT} (h : SysIn K H p dx t u gs ks) (s : Kp H H') : SysIn K H' p dx t u gs ks := by
  obtain ⟨pl, pg, l, tr, ls, kvs, h1, h2, h3, h4, h5⟩ := h
  exact ⟨pl, pg, l, tr, ls, kvs, s _ _ h1 rfl, s _ _ h2 rfl, h3, s _ _ h4 rfl, h5⟩
theorem SysArg.ext {K : PySem.W.Frag} {H H' : Hp} {t u : Addr} {as bs : List Addr} {gs : List GateT} {ks : List KindT} (h : SysArg K H t u as bs gs ks) (s : Kp H H') : SysArg K H' t u as bs gs ks :=
  ⟨h.ga.ext s, h.go, h.ka.ext s, h.ko⟩
theorem SysAt.ext {K : PySem.W.Frag} {H H' : Hp} {a t u : Addr} {as bs : List Addr} {gs : List GateT} {ks : List KindT} (h : SysAt K H a t u as bs gs ks) (s : Kp H H') : SysAt K H' a t u as bs gs ks :=
  ⟨h.1.ext s, h.2.elim fun dx h => ⟨dx, h.ext s⟩⟩
theorem SysW.ext {K : PySem.W.Frag} {H H' : Hp} {a : Addr} {x : Str} (h : SysW K H a x) (s : Kp H H') : SysW K H' a x := by
  obtain ⟨dx, t, u, pl, pg, l, tr, e⟩ := h
  exact ⟨dx, t, u, pl, pg, l, tr, s _ _ e rfl⟩
theorem DueAt.ext {H H' : Hp} {d : Addr} {k : KindT} (h : DueAt H d k) (s : Kp H H') : DueAt H' d k := by
  obtain ⟨t, m, h1, h2, h3⟩ := h
  exact ⟨t, m, s _ _ h1 rfl, s _ _ h2 rfl, s _ _ h3 rfl⟩
theorem PairsAt.ext {H H' : Hp} {l : Addr} {ps : List Addr} {gs : List GateT} (h : PairsAt H l ps gs) (s : Kp H H') : PairsAt H' l ps gs :=
  ⟨s _ _ h.lst rfl, h.ln, fun i a g h1 h2 => s _ _ (h.at_ i a g h1 h2) rfl⟩
theorem SortsAt.ext {H H' : Hp} {l : Addr} {qs : List Addr} {ks : List KindT} (h : SortsAt H l qs ks) (s : Kp H H') : SortsAt H' l qs ks :=
  ⟨s _ _ h.lst rfl, h.ln, fun i a g h1 h2 => (h.at_ i a g h1 h2).ext s⟩
end G
namespace G
open PySem PySem.Spec PyProof.Rows L2
/-! ### the constructors of errors -/
section
variable {K : PySem.W.Frag} {mg : Str → Option Value}
theorem e_InvalidName_given {P : Program} {w : World} {base : Heap} (T : Tx K mg) : ErK P w K mg base "InvalidName" (He.ga K "InvalidName") 1 ["given"] false (gF1 "given") := by
  obtain ⟨fd, F⟩ := T.d_InvalidName___init__
  exact erK_of base_VE T.er_InvalidName T.in_InvalidName.1 T.in_InvalidName.2 F (ok_err1 base_VE T.er_InvalidName T.no_InvalidName_given F sc_InvalidName___init__ rfl) T.g_InvalidName (fun _ _ _ _ _ _ us hl => match us, hl with | [_, _], _ => rfl) (fun _ _ _ _ _ _ us ws l1 l2 => match us, ws, l1, l2 with | [_], [_], _, _ => rfl)
theorem e_InvalidName {P : Program} {w : World} {base : Heap} (T : Tx K mg) : ErK P w K mg base "InvalidName" (He.ga K "InvalidName") 1 ["given"] false (gF1 "given") := e_InvalidName_given T
theorem e_InvalidText_given {P : Program} {w : World} {base : Heap} (T : Tx K mg) : ErK P w K mg base "InvalidText" (He.ga K "InvalidText") 1 ["given"] false (gF1 "given") := by
  obtain ⟨fd, F⟩ := T.d_InvalidText___init__
  exact erK_of base_VE T.er_InvalidText T.in_InvalidText.1 T.in_InvalidText.2 F (ok_err1 base_VE T.er_InvalidText T.no_InvalidText_given F sc_InvalidText___init__ rfl) T.g_InvalidText (fun _ _ _ _ _ _ us hl => match us, hl with | [_, _], _ => rfl) (fun _ _ _ _ _ _ us ws l1 l2 => match us, ws, l1, l2 with | [_], [_], _, _ => rfl)
theorem e_InvalidText {P : Program} {w : World} {base : Heap} (T : Tx K mg) : ErK P w K mg base "InvalidText" (He.ga K "InvalidText") 1 ["given"] false (gF1 "given") := e_InvalidText_given T
theorem e_InvalidFlag_given {P : Program} {w : World} {base : Heap} (T : Tx K mg) : ErK P w K mg base "InvalidFlag" (He.ga K "InvalidFlag") 1 ["given"] false (gF1 "given") := by
  obtain ⟨fd, F⟩ := T.d_InvalidFlag___init__
  exact erK_of base_VE T.er_InvalidFlag T.in_InvalidFlag.1 T.in_InvalidFlag.2 F (ok_err1 base_VE T.er_InvalidFlag T.no_InvalidFlag_given F sc_InvalidFlag___init__ rfl) T.g_InvalidFlag (fun _ _ _ _ _ _ us hl => match us, hl with | [_, _], _ => rfl) (fun _ _ _ _ _ _ us ws l1 l2 => match us, ws, l1, l2 with | [_], [_], _, _ => rfl)
theorem e_InvalidFlag {P : Program} {w : World} {base : Heap} (T : Tx K mg) : ErK P w K mg base "InvalidFlag" (He.ga K "InvalidFlag") 1 ["given"] false (gF1 "given") := e_InvalidFlag_given T
theorem e_InvalidNumber_given {P : Program} {w : World} {base : Heap} (T : Tx K mg) : ErK P w K mg base "InvalidNumber" (He.ga K "InvalidNumber") 1 ["given"] false (gF1 "given") := by
  obtain ⟨fd, F⟩ := T.d_InvalidNumber___init__
  exact erK_of base_VE T.er_InvalidNumber T.in_InvalidNumber.1 T.in_InvalidNumber.2 F (ok_err1 base_VE T.er_InvalidNumber T.no_InvalidNumber_given F sc_InvalidNumber___init__ rfl) T.g_InvalidNumber (fun _ _ _ _ _ _ us hl => match us, hl with | [_, _], _ => rfl) (fun _ _ _ _ _ _ us ws l1 l2 => match us, ws, l1, l2 with | [_], [_], _, _ => rfl)
theorem e_InvalidNumber {P : Program} {w : World} {base : Heap} (T : Tx K mg) : ErK P w K mg base "InvalidNumber" (He.ga K "InvalidNumber") 1 ["given"] false (gF1 "given") := e_InvalidNumber_given T
theorem e_InvalidThing_given {P : Program} {w : World} {base : Heap} (T : Tx K mg) : ErK P w K mg base "InvalidThing" (He.ga K "InvalidThing") 1 ["given"] false (gF1 "given") := by
  obtain ⟨fd, F⟩ := T.d_InvalidThing___init__
  exact erK_of base_VE T.er_InvalidThing T.in_InvalidThing.1 T.in_InvalidThing.2 F (ok_err1 base_VE T.er_InvalidThing T.no_InvalidThing_given F sc_InvalidThing___init__ rfl) T.g_InvalidThing (fun _ _ _ _ _ _ us hl => match us, hl with | [_, _], _ => rfl) (fun _ _ _ _ _ _ us ws l1 l2 => match us, ws, l1, l2 with | [_], [_], _, _ => rfl)
theorem e_InvalidThing {P : Program} {w : World} {base : Heap} (T : Tx K mg) : ErK P w K mg base "InvalidThing" (He.ga K "InvalidThing") 1 ["given"] false (gF1 "given") := e_InvalidThing_given T
theorem e_InvalidChoice_given {P : Program} {w : World} {base : Heap} (T : Tx K mg) : ErK P w K mg base "InvalidChoice" (He.ga K "InvalidChoice") 1 ["given"] false (gF1 "given") := by
  obtain ⟨fd, F⟩ := T.d_InvalidChoice___init__
  exact erK_of base_VE T.er_InvalidChoice T.in_InvalidChoice.1 T.in_InvalidChoice.2 F (ok_err1 base_VE T.er_InvalidChoice T.no_InvalidChoice_given F sc_InvalidChoice___init__ rfl) T.g_InvalidChoice (fun _ _ _ _ _ _ us hl => match us, hl with | [_, _], _ => rfl) (fun _ _ _ _ _ _ us ws l1 l2 => match us, ws, l1, l2 with | [_], [_], _, _ => rfl)
theorem e_InvalidChoice {P : Program} {w : World} {base : Heap} (T : Tx K mg) : ErK P w K mg base "InvalidChoice" (He.ga K "InvalidChoice") 1 ["given"] false (gF1 "given") := e_InvalidChoice_given T
theorem e_InvalidWish_given {P : Program} {w : World} {base : Heap} (T : Tx K mg) : ErK P w K mg base "InvalidWish" (He.ga K "InvalidWish") 1 ["given"] false (gF1 "given") := by
  obtain ⟨fd, F⟩ := T.d_InvalidWish___init__
  exact erK_of base_VE T.er_InvalidWish T.in_InvalidWish.1 T.in_InvalidWish.2 F (ok_err1 base_VE T.er_InvalidWish T.no_InvalidWish_given F sc_InvalidWish___init__ rfl) T.g_InvalidWish (fun _ _ _ _ _ _ us hl => match us, hl with | [_, _], _ => rfl) (fun _ _ _ _ _ _ us ws l1 l2 => match us, ws, l1, l2 with | [_], [_], _, _ => rfl)
theorem e_InvalidWish {P : Program} {w : World} {base : Heap} (T : Tx K mg) : ErK P w K mg base "InvalidWish" (He.ga K "InvalidWish") 1 ["given"] false (gF1 "given") := e_InvalidWish_given T
theorem e_InvalidSet_given {P : Program} {w : World} {base : Heap} (T : Tx K mg) : ErK P w K mg base "InvalidSet" (He.ga K "InvalidSet") 1 ["given"] false (gF1 "given") := by
  obtain ⟨fd, F⟩ := T.d_InvalidSet___init__
  exact erK_of base_VE T.er_InvalidSet T.in_InvalidSet.1 T.in_InvalidSet.2 F (ok_err1 base_VE T.er_InvalidSet T.no_InvalidSet_given F sc_InvalidSet___init__ rfl) T.g_InvalidSet (fun _ _ _ _ _ _ us hl => match us, hl with | [_, _], _ => rfl) (fun _ _ _ _ _ _ us ws l1 l2 => match us, ws, l1, l2 with | [_], [_], _, _ => rfl)
theorem e_InvalidSet {P : Program} {w : World} {base : Heap} (T : Tx K mg) : ErK P w K mg base "InvalidSet" (He.ga K "InvalidSet") 1 ["given"] false (gF1 "given") := e_InvalidSet_given T
theorem e_InvalidIndex_given {P : Program} {w : World} {base : Heap} (T : Tx K mg) : ErK P w K mg base "InvalidIndex" (He.ga K "InvalidIndex") 1 ["given"] false (gF1 "given") := by
  obtain ⟨fd, F⟩ := T.d_InvalidIndex___init__
  exact erK_of base_VE T.er_InvalidIndex T.in_InvalidIndex.1 T.in_InvalidIndex.2 F (ok_err1 base_VE T.er_InvalidIndex T.no_InvalidIndex_given F sc_InvalidIndex___init__ rfl) T.g_InvalidIndex (fun _ _ _ _ _ _ us hl => match us, hl with | [_, _], _ => rfl) (fun _ _ _ _ _ _ us ws l1 l2 => match us, ws, l1, l2 with | [_], [_], _, _ => rfl)
theorem e_InvalidIndex {P : Program} {w : World} {base : Heap} (T : Tx K mg) : ErK P w K mg base "InvalidIndex" (He.ga K "InvalidIndex") 1 ["given"] false (gF1 "given") := e_InvalidIndex_given T
theorem e_NotASystem_given {P : Program} {w : World} {base : Heap} (T : Tx K mg) : ErK P w K mg base "NotASystem" (He.ga K "NotASystem") 1 ["given"] false (gF1 "given") := by
  obtain ⟨fd, F⟩ := T.d_NotASystem___init__
  exact erK_of base_VE T.er_NotASystem T.in_NotASystem.1 T.in_NotASystem.2 F (ok_err1 base_VE T.er_NotASystem T.no_NotASystem_given F sc_NotASystem___init__ rfl) T.g_NotASystem (fun _ _ _ _ _ _ us hl => match us, hl with | [_, _], _ => rfl) (fun _ _ _ _ _ _ us ws l1 l2 => match us, ws, l1, l2 with | [_], [_], _, _ => rfl)
theorem e_NotASystem {P : Program} {w : World} {base : Heap} (T : Tx K mg) : ErK P w K mg base "NotASystem" (He.ga K "NotASystem") 1 ["given"] false (gF1 "given") := e_NotASystem_given T
theorem e_InvalidGates_index {P : Program} {w : World} {base : Heap} (T : Tx K mg) : ErK P w K mg base "InvalidGates" (He.ga K "InvalidGates") 1 ["index"] false (gF1 "index") := by
  obtain ⟨fd, F⟩ := T.d_InvalidGates___init__
  exact erK_of base_VE T.er_InvalidGates T.in_InvalidGates.1 T.in_InvalidGates.2 F (ok_err1 base_VE T.er_InvalidGates T.no_InvalidGates_index F sc_InvalidGates___init__ rfl) T.g_InvalidGates (fun _ _ _ _ _ _ us hl => match us, hl with | [_, _], _ => rfl) (fun _ _ _ _ _ _ us ws l1 l2 => match us, ws, l1, l2 with | [_], [_], _, _ => rfl)
theorem e_InvalidGates {P : Program} {w : World} {base : Heap} (T : Tx K mg) : ErK P w K mg base "InvalidGates" (He.ga K "InvalidGates") 1 ["index"] false (gF1 "index") := e_InvalidGates_index T
theorem e_InvalidKinds_index {P : Program} {w : World} {base : Heap} (T : Tx K mg) : ErK P w K mg base "InvalidKinds" (He.ga K "InvalidKinds") 1 ["index"] false (gF1 "index") := by
  obtain ⟨fd, F⟩ := T.d_InvalidKinds___init__
  exact erK_of base_VE T.er_InvalidKinds T.in_InvalidKinds.1 T.in_InvalidKinds.2 F (ok_err1 base_VE T.er_InvalidKinds T.no_InvalidKinds_index F sc_InvalidKinds___init__ rfl) T.g_InvalidKinds (fun _ _ _ _ _ _ us hl => match us, hl with | [_, _], _ => rfl) (fun _ _ _ _ _ _ us ws l1 l2 => match us, ws, l1, l2 with | [_], [_], _, _ => rfl)
theorem e_InvalidKinds {P : Program} {w : World} {base : Heap} (T : Tx K mg) : ErK P w K mg base "InvalidKinds" (He.ga K "InvalidKinds") 1 ["index"] false (gF1 "index") := e_InvalidKinds_index T
theorem e_InvalidRows_index {P : Program} {w : World} {base : Heap} (T : Tx K mg) : ErK P w K mg base "InvalidRows" (He.ga K "InvalidRows") 1 ["index"] false (gF1 "index") := by
  obtain ⟨fd, F⟩ := T.d_InvalidRows___init__
  exact erK_of base_VE T.er_InvalidRows T.in_InvalidRows.1 T.in_InvalidRows.2 F (ok_err1 base_VE T.er_InvalidRows T.no_InvalidRows_index F sc_InvalidRows___init__ rfl) T.g_InvalidRows (fun _ _ _ _ _ _ us hl => match us, hl with | [_, _], _ => rfl) (fun _ _ _ _ _ _ us ws l1 l2 => match us, ws, l1, l2 with | [_], [_], _, _ => rfl)
theorem e_InvalidRows {P : Program} {w : World} {base : Heap} (T : Tx K mg) : ErK P w K mg base "InvalidRows" (He.ga K "InvalidRows") 1 ["index"] false (gF1 "index") := e_InvalidRows_index T
theorem e_InvalidMembers_index {P : Program} {w : World} {base : Heap} (T : Tx K mg) : ErK P w K mg base "InvalidMembers" (He.ga K "InvalidMembers") 1 ["index"] false (gF1 "index") := by
  obtain ⟨fd, F⟩ := T.d_InvalidMembers___init__
  exact erK_of base_VE T.er_InvalidMembers T.in_InvalidMembers.1 T.in_InvalidMembers.2 F (ok_err1 base_VE T.er_InvalidMembers T.no_InvalidMembers_index F sc_InvalidMembers___init__ rfl) T.g_InvalidMembers (fun _ _ _ _ _ _ us hl => match us, hl with | [_, _], _ => rfl) (fun _ _ _ _ _ _ us ws l1 l2 => match us, ws, l1, l2 with | [_], [_], _, _ => rfl)
theorem e_InvalidMembers {P : Program} {w : World} {base : Heap} (T : Tx K mg) : ErK P w K mg base "InvalidMembers" (He.ga K "InvalidMembers") 1 ["index"] false (gF1 "index") := e_InvalidMembers_index T
theorem e_InvalidNumbers_index {P : Program} {w : World} {base : Heap} (T : Tx K mg) : ErK P w K mg base "InvalidNumbers" (He.ga K "InvalidNumbers") 1 ["index"] false (gF1 "index") := by
  obtain ⟨fd, F⟩ := T.d_InvalidNumbers___init__
  exact erK_of base_VE T.er_InvalidNumbers T.in_InvalidNumbers.1 T.in_InvalidNumbers.2 F (ok_err1 base_VE T.er_InvalidNumbers T.no_InvalidNumbers_index F sc_InvalidNumbers___init__ rfl) T.g_InvalidNumbers (fun _ _ _ _ _ _ us hl => match us, hl with | [_, _], _ => rfl) (fun _ _ _ _ _ _ us ws l1 l2 => match us, ws, l1, l2 with | [_], [_], _, _ => rfl)
theorem e_InvalidNumbers {P : Program} {w : World} {base : Heap} (T : Tx K mg) : ErK P w K mg base "InvalidNumbers" (He.ga K "InvalidNumbers") 1 ["index"] false (gF1 "index") := e_InvalidNumbers_index T
theorem e_InvalidRun_index {P : Program} {w : World} {base : Heap} (T : Tx K mg) : ErK P w K mg base "InvalidRun" (He.ga K "InvalidRun") 1 ["index"] false (gF1 "index") := by
  obtain ⟨fd, F⟩ := T.d_InvalidRun___init__
  exact erK_of base_VE T.er_InvalidRun T.in_InvalidRun.1 T.in_InvalidRun.2 F (ok_err1 base_VE T.er_InvalidRun T.no_InvalidRun_index F sc_InvalidRun___init__ rfl) T.g_InvalidRun (fun _ _ _ _ _ _ us hl => match us, hl with | [_, _], _ => rfl) (fun _ _ _ _ _ _ us ws l1 l2 => match us, ws, l1, l2 with | [_], [_], _, _ => rfl)
theorem e_InvalidRun {P : Program} {w : World} {base : Heap} (T : Tx K mg) : ErK P w K mg base "InvalidRun" (He.ga K "InvalidRun") 1 ["index"] false (gF1 "index") := e_InvalidRun_index T
theorem e_InvalidThings_index {P : Program} {w : World} {base : Heap} (T : Tx K mg) : ErK P w K mg base "InvalidThings" (He.ga K "InvalidThings") 1 ["index"] false (gF1 "index") := by
  obtain ⟨fd, F⟩ := T.d_InvalidThings___init__
  exact erK_of base_VE T.er_InvalidThings T.in_InvalidThings.1 T.in_InvalidThings.2 F (ok_err1 base_VE T.er_InvalidThings T.no_InvalidThings_index F sc_InvalidThings___init__ rfl) T.g_InvalidThings (fun _ _ _ _ _ _ us hl => match us, hl with | [_, _], _ => rfl) (fun _ _ _ _ _ _ us ws l1 l2 => match us, ws, l1, l2 with | [_], [_], _, _ => rfl)
theorem e_InvalidThings {P : Program} {w : World} {base : Heap} (T : Tx K mg) : ErK P w K mg base "InvalidThings" (He.ga K "InvalidThings") 1 ["index"] false (gF1 "index") := e_InvalidThings_index T
theorem e_InvalidChanges_index {P : Program} {w : World} {base : Heap} (T : Tx K mg) : ErK P w K mg base "InvalidChanges" (He.ga K "InvalidChanges") 1 ["index"] false (gF1 "index") := by
  obtain ⟨fd, F⟩ := T.d_InvalidChanges___init__
  exact erK_of base_VE T.er_InvalidChanges T.in_InvalidChanges.1 T.in_InvalidChanges.2 F (ok_err1 base_VE T.er_InvalidChanges T.no_InvalidChanges_index F sc_InvalidChanges___init__ rfl) T.g_InvalidChanges (fun _ _ _ _ _ _ us hl => match us, hl with | [_, _], _ => rfl) (fun _ _ _ _ _ _ us ws l1 l2 => match us, ws, l1, l2 with | [_], [_], _, _ => rfl)
theorem e_InvalidChanges {P : Program} {w : World} {base : Heap} (T : Tx K mg) : ErK P w K mg base "InvalidChanges" (He.ga K "InvalidChanges") 1 ["index"] false (gF1 "index") := e_InvalidChanges_index T
theorem e_UnknownName_given {P : Program} {w : World} {base : Heap} (T : Tx K mg) : ErK P w K mg base "UnknownName" (He.ga K "UnknownName") 1 ["given"] false (gF1 "given") := by
  obtain ⟨fd, F⟩ := T.d_UnknownName___init__
  exact erK_of base_LE T.er_UnknownName T.in_UnknownName.1 T.in_UnknownName.2 F (ok_err1 base_LE T.er_UnknownName T.no_UnknownName_given F sc_UnknownName___init__ rfl) T.g_UnknownName (fun _ _ _ _ _ _ us hl => match us, hl with | [_, _], _ => rfl) (fun _ _ _ _ _ _ us ws l1 l2 => match us, ws, l1, l2 with | [_], [_], _, _ => rfl)
theorem e_UnknownName {P : Program} {w : World} {base : Heap} (T : Tx K mg) : ErK P w K mg base "UnknownName" (He.ga K "UnknownName") 1 ["given"] false (gF1 "given") := e_UnknownName_given T
theorem e_UnknownHand_given {P : Program} {w : World} {base : Heap} (T : Tx K mg) : ErK P w K mg base "UnknownHand" (He.ga K "UnknownHand") 1 ["given"] false (gF1 "given") := by
  obtain ⟨fd, F⟩ := T.d_UnknownHand___init__
  exact erK_of base_LE T.er_UnknownHand T.in_UnknownHand.1 T.in_UnknownHand.2 F (ok_err1 base_LE T.er_UnknownHand T.no_UnknownHand_given F sc_UnknownHand___init__ rfl) T.g_UnknownHand (fun _ _ _ _ _ _ us hl => match us, hl with | [_, _], _ => rfl) (fun _ _ _ _ _ _ us ws l1 l2 => match us, ws, l1, l2 with | [_], [_], _, _ => rfl)
theorem e_UnknownHand {P : Program} {w : World} {base : Heap} (T : Tx K mg) : ErK P w K mg base "UnknownHand" (He.ga K "UnknownHand") 1 ["given"] false (gF1 "given") := e_UnknownHand_given T
theorem e_InUse_index {P : Program} {w : World} {base : Heap} (T : Tx K mg) : ErK P w K mg base "InUse" (He.ga K "InUse") 1 ["index"] false (gF1 "index") := by
  obtain ⟨fd, F⟩ := T.d_InUse___init__
  exact erK_of base_LE T.er_InUse T.in_InUse.1 T.in_InUse.2 F (ok_err1 base_LE T.er_InUse T.no_InUse_index F sc_InUse___init__ rfl) T.g_InUse (fun _ _ _ _ _ _ us hl => match us, hl with | [_, _], _ => rfl) (fun _ _ _ _ _ _ us ws l1 l2 => match us, ws, l1, l2 with | [_], [_], _, _ => rfl)
theorem e_InUse {P : Program} {w : World} {base : Heap} (T : Tx K mg) : ErK P w K mg base "InUse" (He.ga K "InUse") 1 ["index"] false (gF1 "index") := e_InUse_index T
theorem e_TooMany_limit {P : Program} {w : World} {base : Heap} (T : Tx K mg) : ErK P w K mg base "TooMany" (He.ga K "TooMany") 1 ["limit"] false (gF1 "limit") := by
  obtain ⟨fd, F⟩ := T.d_TooMany___init__
  exact erK_of base_AE T.er_TooMany T.in_TooMany.1 T.in_TooMany.2 F (ok_err1 base_AE T.er_TooMany T.no_TooMany_limit F sc_TooMany___init__ rfl) T.g_TooMany (fun _ _ _ _ _ _ us hl => match us, hl with | [_, _], _ => rfl) (fun _ _ _ _ _ _ us ws l1 l2 => match us, ws, l1, l2 with | [_], [_], _, _ => rfl)
theorem e_TooMany {P : Program} {w : World} {base : Heap} (T : Tx K mg) : ErK P w K mg base "TooMany" (He.ga K "TooMany") 1 ["limit"] false (gF1 "limit") := e_TooMany_limit T
theorem e_Alone_given {P : Program} {w : World} {base : Heap} (T : Tx K mg) : ErK P w K mg base "Alone" (He.ga K "Alone") 1 ["given"] false (gF1 "given") := by
  obtain ⟨fd, F⟩ := T.d_Alone___init__
  exact erK_of base_AE T.er_Alone T.in_Alone.1 T.in_Alone.2 F (ok_err1 base_AE T.er_Alone T.no_Alone_given F sc_Alone___init__ rfl) T.g_Alone (fun _ _ _ _ _ _ us hl => match us, hl with | [_, _], _ => rfl) (fun _ _ _ _ _ _ us ws l1 l2 => match us, ws, l1, l2 with | [_], [_], _, _ => rfl)
theorem e_Alone {P : Program} {w : World} {base : Heap} (T : Tx K mg) : ErK P w K mg base "Alone" (He.ga K "Alone") 1 ["given"] false (gF1 "given") := e_Alone_given T
theorem e_Waits_hand {P : Program} {w : World} {base : Heap} (T : Tx K mg) : ErK P w K mg base "Waits" (He.ga K "Waits") 1 ["hand"] false (gF1 "hand") := by
  obtain ⟨fd, F⟩ := T.d_Waits___init__
  exact erK_of base_AE T.er_Waits T.in_Waits.1 T.in_Waits.2 F (ok_err1 base_AE T.er_Waits T.no_Waits_hand F sc_Waits___init__ rfl) T.g_Waits (fun _ _ _ _ _ _ us hl => match us, hl with | [_, _], _ => rfl) (fun _ _ _ _ _ _ us ws l1 l2 => match us, ws, l1, l2 with | [_], [_], _, _ => rfl)
theorem e_Waits {P : Program} {w : World} {base : Heap} (T : Tx K mg) : ErK P w K mg base "Waits" (He.ga K "Waits") 1 ["hand"] false (gF1 "hand") := e_Waits_hand T
theorem e_Ended_hand {P : Program} {w : World} {base : Heap} (T : Tx K mg) : ErK P w K mg base "Ended" (He.ga K "Ended") 1 ["hand"] false (gF1 "hand") := by
  obtain ⟨fd, F⟩ := T.d_Ended___init__
  exact erK_of base_AE T.er_Ended T.in_Ended.1 T.in_Ended.2 F (ok_err1 base_AE T.er_Ended T.no_Ended_hand F sc_Ended___init__ rfl) T.g_Ended (fun _ _ _ _ _ _ us hl => match us, hl with | [_, _], _ => rfl) (fun _ _ _ _ _ _ us ws l1 l2 => match us, ws, l1, l2 with | [_], [_], _, _ => rfl)
theorem e_Ended {P : Program} {w : World} {base : Heap} (T : Tx K mg) : ErK P w K mg base "Ended" (He.ga K "Ended") 1 ["hand"] false (gF1 "hand") := e_Ended_hand T
theorem e_Broken_index_shown {P : Program} {w : World} {base : Heap} (T : Tx K mg) : ErK P w K mg base "Broken" (He.ga K "Broken") 2 ["index", "shown"] false (gF2 "index" "shown") := by
  obtain ⟨fd, F⟩ := T.d_Broken___init__
  exact erK_of base_AE T.er_Broken T.in_Broken.1 T.in_Broken.2 F (ok_err2 base_AE T.er_Broken T.no_Broken_index T.no_Broken_shown F sc_Broken___init__ rfl) T.g_Broken (fun _ _ _ _ _ _ us hl => match us, hl with | [_, _, _], _ => rfl) (fun _ _ _ _ _ _ us ws l1 l2 => match us, ws, l1, l2 with | [_], [_, _], _, _ => rfl)
theorem e_Broken {P : Program} {w : World} {base : Heap} (T : Tx K mg) : ErK P w K mg base "Broken" (He.ga K "Broken") 2 ["index", "shown"] false (gF2 "index" "shown") := e_Broken_index_shown T
end
end G
namespace G
open PySem PySem.Spec PyProof.Rows L2
/-! ### any value: a text or none -/
theorem dq_ty {K : PySem.W.Frag} {H : Hp} {x : V} {z : PyData} (h : Dq K H x z) : (∃ s, x = .str s ∧ z = .str s) ∨ ((∀ s, x ≠ .str s) ∧ ∃ t : String, t ∈ ["NoneType", "bool", "int", "list", "tuple", "dict"] ∧ TyX K H x (.type t)) := by
  cases h with
  | non => exact .inr ⟨fun s e => (by cases e), "NoneType", by decide, .base .non⟩
  | bl b => exact .inr ⟨fun s e => (by cases e), "bool", by decide, .base (.bl b)⟩
  | int i => exact .inr ⟨fun s e => (by cases e), "int", by decide, .base (.int i)⟩
  | str x => exact .inl ⟨x, rfl, rfl⟩
  | lst e _ => exact .inr ⟨fun s e => (by cases e), "list", by decide, .base (.lst e)⟩
  | tup e _ => exact .inr ⟨fun s e => (by cases e), "tuple", by decide, sqT_ty e⟩
  | dct e _ _ => exact .inr ⟨fun s e => (by cases e), "dict", by decide, .base (.dK e)⟩
theorem not_str {K : PySem.W.Frag} : ∀ t ∈ ["NoneType", "bool", "int", "list", "tuple", "dict"], PySem.W.kitOne K (.type t) (.type "str") = some false := by
  intro t ht
  simp only [List.mem_cons, List.not_mem_nil, or_false] at ht
  rcases ht with rfl | rfl | rfl | rfl | rfl | rfl <;> exact kit_ty (by decide +kernel)
/-- a kind by its name, once it is found -/
inductive KfSt (H0 : Hp) (D : Addr) (bs : List Addr) (i j : Nat) (H' : Hp) : Prop
  | mk (sm : Same H0 H') (hD : H' D = some (.lst (if j ≤ i then [] else (bs[i]?.toList).map V.ref)))
section
variable {P : Program} {w : World} {K : PySem.W.Frag} {mg : Str → Option Value} {base : Heap} {CX : CXT}
def spCheckKindX (K : PySem.W.Frag) : Sp := fun vs H Q E => ∃ (a dx t u : Addr) (x : V) (z : PyData), vs = [.ref a, x] ∧ Dq K H x z ∧ ∃ (gs : List GateT) (ks : List KindT) (bs : List Addr), SysIn K H a dx t u gs ks ∧ KindsAt K H u bs ks ∧ ks.length ≤ 4 ∧
  ((∃ s, x = .str s ∧ s ∈ knames ks) → ∀ H', Same H H' → Q .non H') ∧
  ((∀ s, x = .str s → s ∉ knames ks) → ∀ d H', Same H H' → H' d = some (.xd (gF1 "given" [x])) → E (.ref (He.ga K "UnknownName")) (some d) H')
theorem ok_check_kindX {f : Addr} {fd : FuncData} {dvs : List V} {kws : List (Str × V)} (T : Tx K mg)
    (F : FunD K "check_kind" "check_kind" (defArgs s_check_kind) (defBody s_check_kind) (defScope s_check_kind) dvs kws f fd) :
    FnOk P w K mg base (L2.CX P w) 3 f fd ["system", "value"] (spCheckKindX K) := by
  refine F.ok sc_check_kind (fun vs H Q E h => ?_) (fun cdv A outer s H vs Q E hr h => ?_)
  · obtain ⟨a, dx, t, u, x, z, rfl, _⟩ := h
    rfl
  · obtain ⟨a, dx, t, u, x, z, rfl, hx, gs, ks, bs, si, ka, k4, q, e⟩ := h
    have hu := hr.units
    have si0 := si
    obtain ⟨pl, pg, lt, tr, ls, kvs, i1, _⟩ := si0
    have hk := ka.tup
    have lb : (bs.map V.ref).length = ks.length := by rw [List.length_map, ka.ln]
    refine ⟨_, (pss_one (ps_if (PW.pt (pw_or (pt_not (pt_val (pe_callB call_isi rfl T.f_isinstance (by decide +kernel) (pa_cons (pv 1) (pa_cons (pe_bltn (v := .ty "str") (u := .type "str") rfl T.f_str (by decide +kernel) rfl) pa_nil))))) (pw_or1 (pt_cmpR op_notIn_seq (pv 1) (pe_lc (own := [("kind", 2)]) (g := gName 2) (tt := tYes) rfl sc_check_kind.nd (pi_tup (pe_get (T.p_System_kinds _ _ _) (hr.mono (by decide)) (pv 0))) (blkOk_by (own := [("kind", 2)]) (N := n_check_kind) (sc := defScope s_check_kind) (by decide +kernel)) (fun _ _ _ _ _ => (pg_name (i := 2) sc_check_kind.nd rfl (Or.inl rfl))) (fun _ _ _ _ _ => pts_nil) (fun _ _ _ _ _ => (pe_get (T.p_Kind_name _ _ _) (hr.mono (by decide)) (pv 2)))) rfl)))) (pss_one (ps_raise rfl takesX (pmk_err (e_UnknownName T) (raises_own (T.er_UnknownName.xf.exC) T.ty_UnknownName) (hr.mono (by decide)) (pa_cons (pv 1) pa_nil) (by decide)))) pss_nil)), ?_⟩
    rcases dq_ty hx with ⟨s', rfl, _⟩ | ⟨ns, tt, mt, ty⟩
    · walk_at "rd"
      refine ⟨⟨_, SqT.of hk⟩, ?_⟩
      intro D nD
      refine lcW (wk_tup (bs.map V.ref)) (fun i H' => H' = upd H D (.lst ((knames (ks.take i)).map V.str))) rfl (fun i H' _ e => by rw [e]; exact SqT.of (upd_get nD hk)) ?_ ?_
      · rintro i x H' hx rfl
        obtain ⟨y, k, rfl, hy, hkk, ok, dk, t', pr, m, as', e1, _⟩ := ka.item hx
        have e2 := upd_get (o := .lst ((knames (ks.take i)).map V.str)) nD e1
        walk_at "rd"
        refine ⟨by rw [List.length_map, knames_len, List.length_take]; show _ < 16777216; omega, ?_⟩
        rw [upd_upd, knames_snoc hkk, List.map_append]
        rfl
      · rintro H' rfl
        rw [lb, List.take_of_length_le (Nat.le_refl _)]
        have sD : SqL K (upd H D (.lst ((knames ks).map V.str))) D ((knames ks).map V.str) := SqL.of upd_same
        walk_at "rd"
        refine ⟨flat_strs _, ?_⟩
        rw [inV_strs]
        by_cases zi : s' ∈ knames ks
        · rw [decide_eq_true zi]
          walk_at "rd"
          exact q ⟨s', rfl, zi⟩ _ ((Same.refl _).new nD)
        · rw [decide_eq_false zi]
          walk_at "rd"
          intro d H2 s2 hd
          exact e (fun s es => by rw [← V.str.inj es]; exact zi) d H2 (fun b o hb => s2 b o (upd_get nD hb)) hd
    · walk_at "rd"
      refine ⟨not_str tt mt, ?_⟩
      walk_at "rd"
      intro d H2 s2 hd
      exact e (fun s es => absurd es (ns s)) d H2 s2 hd
theorem c_check_kindX (T : Tx K mg) : CalO P w K mg base (L2.CX P w) 3 "check_kind" [] (spCheckKindX K) := by
  obtain ⟨fd, F⟩ := T.d_check_kind
  exact .mk F (ok_check_kindX T F) T.n_check_kind fun _ _ _ _ _ _ us hl => match us, hl with | [_, _], _ => rfl
theorem names_ne {ks : List KindT} (nd : (knames ks).Nodup) {i j : Nat} {k k' : KindT} (h : ks[i]? = some k) (h' : ks[j]? = some k') : k'.n = k.n ↔ j = i := by
  have li := (List.getElem?_eq_some_iff.mp h).1
  have lj := (List.getElem?_eq_some_iff.mp h').1
  constructor
  · intro e
    have a : (knames ks)[j]? = (knames ks)[i]? := by
      unfold knames
      rw [List.getElem?_map, List.getElem?_map, h, h']
      show some k'.n = some k.n
      rw [e]
    have lj2 : j < (knames ks).length := by rw [knames_len]; exact lj
    have li2 : i < (knames ks).length := by rw [knames_len]; exact li
    rw [List.getElem?_eq_getElem lj2, List.getElem?_eq_getElem li2] at a
    exact (List.getElem_inj nd).mp (Option.some.inj a)
  · rintro rfl
    rw [h] at h'
    rw [Option.some.inj h']
def spKindX (K : PySem.W.Frag) : Sp := fun vs H Q E => ∃ (a dx t u : Addr) (x : V) (z : PyData), vs = [.ref a, x] ∧ Dq K H x z ∧ ∃ (gs : List GateT) (ks : List KindT) (bs : List Addr), SysIn K H a dx t u gs ks ∧ KindsAt K H u bs ks ∧ ks.length ≤ 4 ∧ (knames ks).Nodup ∧
  (∀ (i : Nat) (k : KindT) (y : Addr), ks[i]? = some k → bs[i]? = some y → x = .str k.n → ∀ H', Same H H' → Q (.ref y) H') ∧
  ((∀ s, x = .str s → s ∉ knames ks) → ∀ d H', Same H H' → H' d = some (.xd (gF1 "given" [x])) → E (.ref (He.ga K "UnknownName")) (some d) H')
theorem ok_System_kindX {f : Addr} {fd : FuncData} {dvs : List V} {kws : List (Str × V)} (T : Tx K mg)
    (F : FunD K "kind" "System.kind" (defArgs s_System_kind) (defBody s_System_kind) (defScope s_System_kind) dvs kws f fd) :
    FnOk P w K mg base (L2.CX P w) 4 f fd ["self", "kind"] (spKindX K) := by
  have c_check_kind : CalO P w K mg base (L2.CX P w) 3 "check_kind" [] (spCheckKindX K) := c_check_kindX T
  refine F.ok sc_System_kind (fun vs H Q E h => ?_) (fun cdv A outer s H vs Q E hr h => ?_)
  · obtain ⟨a, dx, t, u, x, z, rfl, _⟩ := h
    rfl
  · obtain ⟨a, dx, t, u, x, z, rfl, hx, gs, ks, bs, si, ka, k4, nd, q, e⟩ := h
    have hu := hr.units
    have cl := T.c_System
    have n1 := T.na_System_all_kinds
    have si0 := si
    obtain ⟨pl, pg, lt, tr, ls, kvs, i1, _⟩ := si0
    have lb : (bs.map V.ref).length = ks.length := by rw [List.length_map, ka.ln]
    refine ⟨_, (pss_cons (ps_expr (pe_calO c_check_kind (hr.mono (by decide)) passX (pa_cons (pv 0) (pa_cons (pv 1) pa_nil))))
    (pss_one (ps_ret (pe_ix ix_list (pe_lc (own := [("known", 2)]) (g := gName 2) rfl sc_System_kind.nd (pi_tup (pe_fld (pv 0) rfl)) (blkOk_by (own := [("known", 2)]) (N := n_System_kind) (sc := defScope s_System_kind) (by decide +kernel)) (fun _ _ _ _ _ => (pg_name (i := 2) sc_System_kind.nd rfl (Or.inl rfl))) (fun _ _ _ _ _ => (pts_one (pt_cmpR op_eq (pe_get (T.p_Kind_name _ _ _) (hr.mono (by decide)) (pv 2)) (pv 1) (nomark _)))) (fun _ _ _ _ _ => (pv 2))) pe_int (fun _ _ => rfl))))), ?_⟩
    walk_at "rd"
    refine ⟨z, rfl, hx, gs, ks, bs, si, ka, k4, fun ⟨s', ex, zi⟩ H1 s1 => ?_, fun hn d H1 s1 hd => e hn d H1 s1 hd⟩
    subst ex
    obtain ⟨k, kmem, kn⟩ := List.mem_map.mp zi
    obtain ⟨i, hkk0⟩ := List.getElem?_of_mem kmem
    have li := (List.getElem?_eq_some_iff.mp hkk0).1
    obtain ⟨y, hy⟩ : ∃ y, bs[i]? = some y := ⟨_, List.getElem?_eq_getElem (by rw [ka.ln]; exact li)⟩
    have hk1 := s1 _ _ ka.tup
    have i11 := s1 _ _ i1
    walk_at "rd"
    refine ⟨⟨_, SqT.of hk1⟩, ?_⟩
    intro D nD
    refine lcW (wk_tup (bs.map V.ref)) (fun j H' => KfSt H1 D bs i j H') (.mk (by walk_at "g but") (by rw [if_pos (Nat.zero_le _)]; exact upd_same)) (fun j H' _ e => by obtain ⟨sm, _⟩ := e; exact SqT.of (sm _ _ hk1)) ?_ ?_
    · rintro j x H' hx ⟨sm, hD⟩
      obtain ⟨b, k', rfl, hb, hkk, ok, dk, t', pr, m, as', e1, _⟩ := ka.item hx
      have e2 := sm _ _ (s1 _ _ e1)
      walk_at "rd"
      refine iteD (fun e => ?_) (fun ne => ?_)
      · have ej : j = i := (names_ne nd hkk0 hkk).mp ((V.str.inj e).trans kn.symm)
        subst ej
        rw [if_pos (Nat.le_refl _)] at hD
        walk_at "rd"
        refine .mk (L2.Same.own sm nD) ?_
        rw [upd_same, if_neg (by omega), hb]
        rfl
      · have hne : ¬ j = i := fun e => ne (by rw [(names_ne nd hkk0 hkk).mpr e, kn])
        refine .mk sm ?_
        rw [hD]
        by_cases c : j ≤ i
        · rw [if_pos c, if_pos (by omega)]
        · rw [if_neg c, if_neg (by omega)]
    · rintro H' ⟨sm, hD⟩
      rw [if_neg (by omega), hy] at hD
      have hD' : H' D = some (.lst [.ref y]) := hD
      have ea : atI [V.ref y] 0 = some (.ref y) := atI_nat (j := 0) rfl
      clear hD
      walk_at "rd"
      exact q i k y hkk0 hy (by rw [kn]) _ (s1.trans sm)
theorem m_System_kindX (T : Tx K mg) : MetC P w K mg base (L2.CX P w) 4 (cS K) "kind" [] (spKindX K) := by
  obtain ⟨fd, F⟩ := T.d_System_kind
  obtain ⟨h1, h2⟩ := T.mt_System_kind
  exact ⟨_, fd, _, [], T.c_System, ⟨h1, h2, F.kp⟩, ok_System_kindX T F, F.bindsN fun _ _ _ _ _ _ us hl => match us, hl with | [_, _], _ => rfl, .nil⟩
theorem m_System_kindXN (T : Tx K mg) : MetN P w K mg base (L2.CX P w) 4 (cS K) "kind" ["kind"] (fun vs zs => vs ++ zs) (spKindX K) := by
  obtain ⟨fd, F⟩ := T.d_System_kind
  obtain ⟨h1, h2⟩ := T.mt_System_kind
  have hb := kbindsN (ps := ["self", "kind"]) F 1 ["kind"] (fun us ws => us ++ ws) (fun r1 r2 => vals_app r1 r2)
    (fun kV doc pm an cdv ct us ws l1 l2 => match us, ws, l1, l2 with
    | [_], [_], _, _ => rfl)
  exact ⟨_, fd, _, _, T.c_System, ⟨h1, h2, F.kp⟩, ok_System_kindX T F, hb⟩
end
end G
namespace G
open PySem PySem.Spec PyProof.Rows L2
/-- what is due for a question: the kind's properties, or the error -/
def dueT (ks : List KindT) (x : V) (z : PyData) : List V := match ks.find? fun k => decide (x = .str k.n) with
  | some k => [.str "returned", .str (dueD k).shown]
  | none => [.str "UnknownName", .str z.shown]
theorem dueT_some {ks : List KindT} {i : Nat} {k : KindT} {x : V} {z : PyData} (nd : (knames ks).Nodup) (hk : ks[i]? = some k) (e : x = .str k.n) : dueT ks x z = [.str "returned", .str (dueD k).shown] := by
  have h : ks.find? (fun k => decide (x = .str k.n)) = some k := by
    have li := (List.getElem?_eq_some_iff.mp hk).1
    cases q : ks.find? fun k => decide (x = .str k.n) with
    | none =>
      have := List.find?_eq_none.mp q k (List.mem_of_getElem? hk)
      simp [e] at this
    | some k' =>
      have h1 := List.find?_some q
      have h2 := List.mem_of_find?_eq_some q
      obtain ⟨j, hj⟩ := List.getElem?_of_mem h2
      have e2 : k'.n = k.n := by
        have := of_decide_eq_true h1
        rw [e] at this
        exact (V.str.inj this).symm
      have := (names_ne nd hk hj).mp e2
      subst this
      rw [hk] at hj
      rw [Option.some.inj hj]
  unfold dueT
  rw [h]
theorem dueT_none {ks : List KindT} {x : V} {z : PyData} (h : ∀ s, x = .str s → s ∉ knames ks) : dueT ks x z = [.str "UnknownName", .str z.shown] := by
  have q : ks.find? (fun k => decide (x = .str k.n)) = none := List.find?_eq_none.mpr fun k hk => by
    simp only [decide_eq_true_eq]
    exact fun e => h _ e (List.mem_map.mpr ⟨k, hk, rfl⟩)
  unfold dueT
  rw [q]
section
variable {P : Program} {w : World} {K : PySem.W.Frag} {mg : Str → Option Value} {base : Heap} {CX : CXT}
def spDue (K : PySem.W.Frag) : Sp := fun vs H Q _ => ∃ (l : Addr) (x : V) (z : PyData), vs = [.ref l, x] ∧ Dq K H x z ∧ ShD 60 sizeLine z ∧ ∃ (qs : List Addr) (ks : List KindT), SortsAt H l qs ks ∧ (knames ks).Nodup ∧ ks.length ≤ 4 ∧ (∀ k ∈ ks, KindOk4 k) ∧
  ∀ H' t, Same H H' → H' t = some (.tup (dueT ks x z)) → Q (.ref t) H'
theorem ok_due {f : Addr} {fd : FuncData} {dvs : List V} {kws : List (Str × V)} (T : Tx K mg) (hsm : (base.get? sysModules).isSome = true)
    (F : FunD K "_law_due" "_law_due" (defArgs s__law_due) (defBody s__law_due) (defScope s__law_due) dvs kws f fd) :
    FnG P w K mg base CX0 1 f fd ["_law_sorts_here", "_law_thing"] (spDue K) := by
  refine okG F sc__law_due (fun vs H Q E h => ?_) (fun cdv A outer s H vs Q E hr hgd h => ?_)
  · obtain ⟨l, x, z, rfl, _⟩ := h
    rfl
  · obtain ⟨l, x, z, rfl, hx, sz, qs, ks, so, nd, k4, ok4, q⟩ := h
    have hu := hr.units
    have lb : (qs.map V.ref).length = ks.length := by rw [List.length_map, so.ln]
    refine ⟨_, PSs.nox (pss_cons (ps_setLc (i := 2) (own := [("_law_part", 3)]) (g := gName 3) rfl sc__law_due.nd rfl rfl (sw_true rfl rfl rfl (by decide +kernel)) (pi_list (pv 0)) (blkOk_by (own := [("_law_part", 3)]) (N := n__law_due) (sc := defScope s__law_due) (by decide +kernel)) (fun _ _ _ _ _ => (pg_name (i := 3) sc__law_due.nd rfl (Or.inl rfl))) (fun _ _ _ _ _ => (pts_one (PW.pt (pw_and (pt_val (pe_callB (crK (K := K) (r := rIsi) rfl call_isi) rfl T.f_isinstance (by decide +kernel) (pa_cons (pv 1) (pa_cons (pe_bltn (v := .ty "str") (u := .type "str") rfl T.f_str (by decide +kernel) rfl) pa_nil)))) (pw_and1 (pt_cmpR op_eq (pe_ix (ixK (K := K) (r := rIxT) rfl ix_tup) (pv 3) pe_int (fun _ _ => rfl)) (pv 1) (nomark _))))))) (fun _ _ _ _ _ => (pv 3)))
    (pss_one (ps_ret (pe_ifExp (pt_cmpR (op_neD hu) (pv 2) (pe_lst pa_nil) (nomark _)) (pe_tup (pa_cons pe_str (pa_cons (pe_callB (call_repr hgd hu) rfl T.f_repr (by decide +kernel) (pa_cons (pe_ix ix_list (pv 2) pe_int (fun _ _ => rfl)) pa_nil)) pa_nil))) (pe_tup (pa_cons pe_str (pa_cons (pe_callB (call_reprB hgd hu hsm) rfl T.f_repr (by decide +kernel) (pa_cons (pv 1) pa_nil)) pa_nil))))))), ?_⟩
    walk_at "rd"
    refine ⟨⟨_, SqL.of so.lst⟩, ?_⟩
    intro D nD
    rcases Classical.em (∃ (i : Nat) (k : KindT), ks[i]? = some k ∧ x = .str k.n) with ⟨i, k, hk, ex⟩ | no
    · subst ex
      have li := (List.getElem?_eq_some_iff.mp hk).1
      obtain ⟨y, hy⟩ : ∃ y, qs[i]? = some y := ⟨_, List.getElem?_eq_getElem (by rw [so.ln]; exact li)⟩
      refine lcW (wk_list (qs.map V.ref)) (fun j H' => KfSt H D qs i j H') (.mk (by walk_at "g but") (by rw [if_pos (Nat.zero_le _)]; exact upd_same)) (fun j H' _ e => by obtain ⟨sm, _⟩ := e; exact SqL.of (sm _ _ so.lst)) ?_ ?_
      · rintro j x H' hx ⟨sm, hD⟩
        obtain ⟨b, k', rfl, hb, hkk, t', m', e1, _⟩ := so.item hx
        have e2 := sm _ _ e1
        walk_at "rd"
        refine iteD (fun e => ?_) (fun ne => ?_)
        · have ej : j = i := (names_ne nd hk hkk).mp (V.str.inj e)
          subst ej
          rw [if_pos (Nat.le_refl _)] at hD
          walk_at "rd"
          refine .mk (L2.Same.own sm nD) ?_
          rw [upd_same, if_neg (by omega), hb]
          rfl
        · have hne : ¬ j = i := fun e => ne (by rw [(names_ne nd hk hkk).mpr e])
          refine .mk sm ?_
          rw [hD]
          by_cases c : j ≤ i
          · rw [if_pos c, if_pos (by omega)]
          · rw [if_neg c, if_neg (by omega)]
      · rintro H' ⟨sm, hD⟩
        rw [if_neg (by omega), hy] at hD
        have hD' : H' D = some (.lst [.ref y]) := hD
        have du := (so.at_ i y k hy hk).same sm
        have o4 := ok4 k (List.mem_of_getElem? hk)
        clear hD
        walk_at "rd"
        intro e ne
        have du2 : DueAt (upd H' e (.lst [])) y k := du.same ((Same.refl _).new ne)
        refine ⟨.list [dueD k], .list [], .lst (SqL.of (by walk_at "g hp")) (.cons (due_dp du2) .nil), .lst (SqL.of upd_same) .nil, ?_, by decide +kernel, _, rfl, ?_⟩
        · have sh := due_shaped o4
          unfold SeqAt.shaped at sh ⊢
          obtain ⟨s1, s2⟩ := Bool.and_eq_true_iff.mp sh
          refine Bool.and_eq_true_iff.mpr ⟨?_, decide_eq_true ?_⟩
          · show (PyData.canLay0 (dueD k) && true) = true
            rw [s1]
            rfl
          · have d2 : (dueD k).depth ≤ 2 := by
              simp only [dueD, strsD, PyData.depth, PyData.depthAll, strs_depth]
              decide
            show max (dueD k).depth 0 + 1 ≤ 64
            omega
        · have ea : atI [V.ref y] 0 = some (.ref y) := atI_nat (j := 0) rfl
          have s9 : Same H (upd H' e (.lst [])) := by walk_at "g but"
          refine G.iteKT (by rfl) ?_
          have hD9 : upd H' e (.lst []) D = some (.lst [.ref y]) := by walk_at "g hp"
          generalize upd H' e (.lst []) = H9 at du2 s9 hD9 ⊢
          clear hD' sm du ne
          walk_at "rd"
          refine ⟨dueD k, rfl, due_dp du2, (due_show k).1, (due_show k).2.1, (due_show k).2.2, due_len o4, ?_⟩
          walk_at "rd"
          intro t nt
          exact q _ t (s9.new nt) (by rw [upd_same, dueT_some nd hk rfl])
    · refine lcW (wk_list (qs.map V.ref)) (fun j H' => Same H H' ∧ H' D = some (.lst [])) ⟨by walk_at "g but", upd_same⟩ (fun j H' _ e => SqL.of (e.1 _ _ so.lst)) ?_ ?_
      · rintro j y H' hy ⟨sm, hD⟩
        obtain ⟨b, k', rfl, hb, hkk, t', m', e1, _⟩ := so.item hy
        have e2 := sm _ _ e1
        rcases dq_ty (Dq.same sm hx) with ⟨s', rfl, _⟩ | ⟨ns, tt, mt, ty⟩
        · walk_at "rd"
          refine iteD (fun e => ?_) (fun ne => ?_)
          · exact absurd ⟨j, k', hkk, by rw [V.str.inj e]⟩ no
          · exact ⟨sm, hD⟩
        · walk_at "rd"
          refine ⟨not_str tt mt, ?_⟩
          walk_at "rd"
          exact hD
      · rintro H' ⟨sm, hD⟩
        walk_at "rd"
        intro e ne
        refine ⟨.list [], .list [], .lst (SqL.of (by walk_at "g hp")) .nil, .lst (SqL.of upd_same) .nil, by decide +kernel, by decide +kernel, _, rfl, G.iteKF (by decide +kernel) ?_⟩
        have s9 : Same H (upd H' e (.lst [])) := by walk_at "g but"
        have x9 := Dq.same s9 hx
        generalize upd H' e (.lst []) = H9 at s9 x9 ⊢
        clear hD sm ne
        walk_at "rd"
        refine ⟨z, rfl, x9, sz.sh, sz.dp, sz.ln, ?_⟩
        walk_at "rd"
        intro t nt
        exact q _ t (s9.new nt) (by rw [upd_same, dueT_none fun s' es hm => by
          obtain ⟨k, km, kn⟩ := List.mem_map.mp hm
          obtain ⟨i, hi⟩ := List.getElem?_of_mem km
          exact no ⟨i, k, hi, by rw [es, kn]⟩])
theorem c_due (T : Tx K mg) (hsm : (base.get? sysModules).isSome = true) : Cal P w K mg base CX0 1 "_law_due" [] (spDue K) := by
  obtain ⟨fd, F⟩ := T.d__law_due
  exact .mk F (ok_due T hsm F) T.n__law_due fun _ _ _ _ _ _ us hl => match us, hl with | [_, _], _ => rfl
theorem strs_dq {H : Hp} {a : Addr} {l : List Str} (h : SqT K H a (l.map V.str)) : Dq K H (.ref a) (strsD l) := by
  refine .tup h ?_
  clear h
  induction l with
  | nil => exact .nil
  | cons z l ih => exact .cons (.str z) ih
theorem shown_dq {H : Hp} {d t m : Addr} {k : KindT} (h1 : H d = some (.tup [.str k.n, .ref t, .bl k.b, .ref m])) (h2 : H t = some (.tup (rowsV k.rs))) (h3 : MemAt K H m k.ms) : Dq K H (.ref d) (dueD k) :=
  .tup (SqT.of h1) (.cons (.str _) (.cons (strs_dq (by rw [← rowsV_texts]; exact SqT.of h2)) (.cons (.bl _) (.cons (strs_dq h3.sq) .nil))))
theorem due_sh {k : KindT} (h : KindOk4 k) : ShD 60 sizeLine (dueD k) := ⟨(due_show k).1, (due_show k).2.2, due_len h⟩
theorem due_asc {k : KindT} (h : KindOk4 k) : Asc (dueD k).shown := by
  refine asc_dtup fun d hd => ?_
  simp only [List.mem_cons, List.not_mem_nil, or_false] at hd
  rcases hd with rfl | rfl | rfl | rfl
  · exact asc_dstr fun c hc => sign_128 (nm_plain h.ok.nm c hc)
  · refine asc_dtup fun d hd => ?_
    obtain ⟨z, hz, rfl⟩ := List.mem_map.mp hd
    obtain ⟨q, hq, rfl⟩ := List.mem_map.mp hz
    obtain ⟨o, l, _⟩ := h.ok.ro.ok q hq
    exact asc_dstr fun c hc => rowText_128 o l c hc
  · exact asc_dbool _
  · refine asc_dtup fun d hd => ?_
    obtain ⟨z, hz, rfl⟩ := List.mem_map.mp hd
    exact asc_dstr fun c hc => sign_128 (nm_plain (h.ok.mo.nm z hz) c hc)
def spShown (K : PySem.W.Frag) : Sp := fun vs H Q _ => ∃ (y : Addr) (k : KindT), vs = [.ref y] ∧ KindAt K H y k ∧ ∀ H' t, Same H H' → Dq K H' (.ref t) (dueD k) → Q (.ref t) H'
theorem ok_shown {f : Addr} {fd : FuncData} {dvs : List V} {kws : List (Str × V)} (T : Tx K mg)
    (F : FunD K "_law_shown" "_law_shown" (defArgs s__law_shown) (defBody s__law_shown) (defScope s__law_shown) dvs kws f fd) :
    FnOk P w K mg base CX0 3 f fd ["_law_mine"] (spShown K) := by
  refine F.ok sc__law_shown (fun vs H Q E h => ?_) (fun cdv A outer s H vs Q E hr h => ?_)
  · obtain ⟨y, k, rfl, _⟩ := h
    rfl
  · obtain ⟨y, k, rfl, ⟨ok, dx, rt, pr, m, as, h1, h2, h3, h4, h5⟩, q⟩ := h
    have hu := hr.units
    refine ⟨_, PSs.nox (pss_one (ps_ret (pe_tup (pa_cons (pe_get (T.p_Kind_name _ _ _) (hr.mono (by decide)) (pv 0)) (pa_cons (pe_get (T.p_Kind_rows _ _ _) (hr.mono (by decide)) (pv 0)) (pa_cons (pe_get (T.p_Kind_many _ _ _) (hr.mono (by decide)) (pv 0)) (pa_cons (pe_get (T.p_Kind_members _ _ _) (hr.mono (by decide)) (pv 0)) pa_nil))))))), ?_⟩
    walk_at "rd"
    intro t nt
    exact q _ t ((Same.refl _).new nt) (shown_dq upd_same (by walk_at "g hp") (h3.same ((Same.refl _).new nt)))
theorem c_shown (T : Tx K mg) : CalO P w K mg base CX0 3 "_law_shown" [] (spShown K) := by
  obtain ⟨fd, F⟩ := T.d__law_shown
  exact .mk F (ok_shown T F) T.n__law_shown fun _ _ _ _ _ _ us hl => match us, hl with | [_], _ => rfl
end
end G
namespace G
open PySem PySem.Spec PyProof.Rows L2
theorem passLam {X : Cx} {A : Around} {outer : List Env} {s : Shared} {H : Hp} {E : XK} {scope : Scope} {f c' : Addr} : Passes (L2.CX X.prog X.w) (LamX.lamCx X A outer s H E scope f c') E :=
  passes_call (X := LamX.lamCx X A outer s H E scope f c') (takes_of rfl rfl rfl rfl) fun _ _ _ _ h => h
def qnA : Str := (envOfC "_law_asked" (defScope s__law_asked) 0 0 .none).qual ++ "<lambda>"
abbrev tabsA (K : PySem.W.Frag) : List (Addr × Str) := [(tabA K "_law_asked", qnA)]
theorem two_dp {K : PySem.W.Frag} {H : Hp} {t : Addr} {a b : Str} (h : H t = some (.tup [.str a, .str b])) : Dp K H (.ref t) (.tuple [.str a, .str b]) :=
  .tup (SqT.of h) (.cons (.str a) (.cons (.str b) .nil))
section
variable {P : Program} {w : World} {K : PySem.W.Frag} {mg : Str → Option Value} {base : Heap} {CX : CXT}
def spAsked (K : PySem.W.Frag) : Sp := fun vs H Q _ => ∃ (a l : Addr) (x : V), vs = [.ref a, .ref l, x] ∧ ∃ (z : PyData) (t u : Addr) (as bs qs : List Addr) (gs : List GateT) (ks : List KindT), Dq K H x z ∧ ShD 60 sizeLine z ∧ Asc z.shown ∧
  SysAt K H a t u as bs gs ks ∧ SortsAt H l qs ks ∧ (∀ k ∈ ks, KindOk4 k) ∧ LamX.Tabs (tabsA K) H ∧ ∀ H', Kp H H' → LamX.Tabs (tabsA K) H' → Q (.bl true) H'
/-- what the question makes of a wish for the tuple that is due -/
theorem ask_one {H : Hp} {a t u : Addr} {x : V} {z : PyData} {as bs : List Addr} {gs : List GateT} {ks : List KindT} {Q : VK} (hx : Dq K H x z) (sz : ShD 60 sizeLine z) (sy : SysAt K H a t u as bs gs ks) (ok4 : ∀ k ∈ ks, KindOk4 k)
    (q : ∀ t H', Same H H' → H' t = some (.tup (dueT ks x z)) → Q (.ref t) H') : spKindX K [.ref a, x] H (fun y H1 => spShown K [y] H1 (RetQ K Q) E0) (WishQ K Q) := by
  obtain ⟨ar, dx, si⟩ := sy
  have nd := ar.ko.nd
  refine ⟨a, dx, t, u, x, z, rfl, hx, gs, ks, bs, si, ar.ka, ar.ko.few, nd, fun i k y hk hy ex H3 s3 => ?_, fun hn d H3 s3 hd => ?_⟩
  · have o4 := ok4 k (List.mem_of_getElem? hk)
    refine ⟨y, k, rfl, (ar.ka.at_ i y k hy hk).same s3, fun H4 t4 s4 d4 => ?_⟩
    exact RetQ.of d4 (due_sh o4) fun t5 H5 s5 h5 => q t5 H5 ((s3.trans s4).trans s5) (by rw [h5, dueT_some nd hk ex])
  · refine ⟨18, x, x, d, z, by decide, rfl, rfl, hd, Dq.same s3 hx, sz, fun t5 H5 s5 h5 => q t5 H5 (s3.trans s5) ?_⟩
    rw [h5, dueT_none hn]
    rfl
/-- two such tuples, compared -/
theorem due_two {ks : List KindT} {x : V} {z : PyData} (ok4 : ∀ k ∈ ks, KindOk4 k) (az : Asc z.shown) : ∃ b c : Str, dueT ks x z = [.str b, .str c] ∧ Asc b ∧ Asc c := by
  unfold dueT
  split
  · rename_i k h
    exact ⟨_, _, rfl, asc_lit (by decide +kernel), due_asc (ok4 k (List.mem_of_find?_eq_some h))⟩
  · exact ⟨_, _, rfl, asc_lit (by decide +kernel), az⟩
theorem ok_asked {fd : FuncData} {dvs : List V} {kws : List (Str × V)} (T : Tx K mg) (hsm : (base.get? sysModules).isSome = true) (TB : LamX.TabB base mg (codeA K "_law_asked") (tabA K "_law_asked"))
    (code : ∀ oc od fd osl, K.lookup (He.ga K "_law_asked") = some ⟨oc, od, .func fd, osl⟩ → fd.code = .ref (codeA K "_law_asked"))
    (F : FunD K "_law_asked" "_law_asked" (defArgs s__law_asked) (defBody s__law_asked) (defScope s__law_asked) dvs kws (He.ga K "_law_asked") fd) :
    FnG P w K mg base CX0 8 (He.ga K "_law_asked") fd ["_law_mine", "_law_sorts_here", "_law_thing"] (spAsked K) := by
  have c__law_due : Cal P w K mg base CX0 1 "_law_due" [] (spDue K) := c_due T hsm
  have c__law_shown : CalO P w K mg base CX0 3 "_law_shown" [] (spShown K) := c_shown T
  have m_System_kind : MetC P w K mg base (L2.CX P w) 4 (cS K) "kind" [] (spKindX K) := m_System_kindX T
  have m_System_kind_kind : MetN P w K mg base (L2.CX P w) 4 (cS K) "kind" ["kind"] (fun vs zs => vs ++ zs) (spKindX K) := m_System_kindXN T
  refine okGC F sc__law_asked code (fun vs H Q E h => ?_) (fun A outer s H vs Q E hr hgd h => ?_)
  · obtain ⟨a, l, x, rfl, _⟩ := h
    rfl
  · obtain ⟨a, l, x, rfl, z, t, u, as, bs, qs, gs, ks, hx, sz, az, sy, so, ok4, tabs, q⟩ := h
    have hu := hr.units
    refine ⟨_, PSs.nox (pss_cons (ps_set (i := 3) sc__law_asked.nd rfl (Or.inl rfl) (pe_cal c__law_due (hr.mono (by decide)) hgd pass0 (pa_cons (pv 1) (pa_cons (pv 2) pa_nil))))
    (pss_cons (ps_if (pt_cmpR (op_neD hu) (pe_caught (y := "_law_asked") (k := 5) T hsm hgd TB (hr.mono (by decide)) rfl (LamX.lamS_by (sc := defScope s__law_asked) (by decide +kernel)) rfl (fun _ _ _ _ _ => rfl) (fun A outer s H E f c' hrl => (pe_calO c__law_shown (hrl.mono (by decide)) pass0 (pa_cons (pe_met m_System_kind (hrl.mono (by decide)) passLam (pv 0) (pa_cons (pv 2) pa_nil)) pa_nil)))) (pv 3) (nomark _)) (pss_one (ps_ret pe_bl)) pss_nil)
    (pss_one (ps_ret (pe_cmpR (op_eqD hu) (pe_caught (y := "_law_asked") (k := 5) T hsm hgd TB (hr.mono (by decide)) rfl (LamX.lamS_by (sc := defScope s__law_asked) (by decide +kernel)) rfl (fun _ _ _ _ _ => rfl) (fun A outer s H E f c' hrl => (pe_calO c__law_shown (hrl.mono (by decide)) pass0 (pa_cons (pe_metN m_System_kind_kind (hrl.mono (by decide)) passLam (pv 0) (pk_cons (pv 2) pk_nil)) pa_nil)))) (pv 3) (nomark _)))))), ?_⟩
    have nd := sy.1.ko.nd
    have k4 := sy.1.ko.few
    walk_at "rd"
    refine ⟨z, rfl, hx, sz, qs, ks, so, nd, k4, ok4, fun H1 t1 s1 h1 => ?_⟩
    have tb1 : LamX.Tabs (tabsA K) H1 := tabs.ext s1
    have hx1 := Dq.same s1 hx
    have sy1 := sy.same s1
    have kp1 : Kp H H1 := .of s1
    clear sy so tabs s1 hx
    walk_at "rd"
    intro H2 n2 tb2
    have kp12 := Kp.ofN n2
    have hx2 := Dq.ext kp12 hx1
    have sy2 := sy1.ext kp12
    have h2 := kp12 _ _ h1 rfl
    have kp2 := kp1.trans kp12
    clear hx1 sy1 h1 kp1 kp12 n2 tb1
    obtain ⟨d1, d2, ed, ad1, ad2⟩ := due_two (x := x) ok4 az
    have sh := two_shaped ad1 ad2
    have cl := T.c_System
    obtain ⟨dx, si⟩ := sy2.2
    obtain ⟨pl, pg, lt, tr, ls, kvs, i1, _⟩ := si
    refine ⟨_, rfl, a, dx, _, rfl, i1, rfl, _, rfl, ?_⟩
    refine ask_one hx2 sz sy2 ok4 fun t5 H5 s5 h5 => ?_
    have h15 := s5 _ _ h2
    rw [ed] at h5 h15
    walk_at "rd"
    refine ⟨_, _, two_dp h5, two_dp h15, sh, sh, _, rfl, G.iteKF (by rw [two_eqv]; rfl) ?_⟩
    have tb5 : LamX.Tabs (tabsA K) H5 := tb2.ext s5
    have hx5 := Dq.same s5 hx2
    have sy5 := sy2.same s5
    have kp5 := kp2.trans (.of s5)
    clear hx2 sy2 h5 h2 kp2 tb2 s5 i1
    walk_at "rd"
    intro H6 n6 tb6
    have kp56 := Kp.ofN n6
    have hx6 := Dq.ext kp56 hx5
    have sy6 := sy5.ext kp56
    have h6 := kp56 _ _ h15 rfl
    have kp6 := kp5.trans kp56
    clear hx5 sy5 h15 kp5 kp56 n6 tb5
    obtain ⟨dx, si⟩ := sy6.2
    obtain ⟨pl, pg, lt, tr, ls, kvs, i1, _⟩ := si
    refine ⟨_, rfl, a, dx, _, rfl, i1, rfl, _, rfl, rfl, ?_⟩
    refine ask_one hx6 sz sy6 ok4 fun t7 H7 s7 h7 => ?_
    have h17 := s7 _ _ h6
    rw [ed] at h7
    walk_at "rd"
    refine ⟨_, _, two_dp h7, two_dp h17, sh, sh, ?_⟩
    rw [two_eqv]
    walk_at "rd"
    exact q _ (kp6.trans (.of s7)) (tb6.ext s7)
theorem c_asked (T : Tx K mg) (hsm : (base.get? sysModules).isSome = true) (TB : LamX.TabB base mg (codeA K "_law_asked") (tabA K "_law_asked"))
    (code : ∀ oc od fd osl, K.lookup (He.ga K "_law_asked") = some ⟨oc, od, .func fd, osl⟩ → fd.code = .ref (codeA K "_law_asked")) : Cal P w K mg base CX0 8 "_law_asked" [] (spAsked K) := by
  obtain ⟨fd, F⟩ := T.d__law_asked
  exact .mk F (ok_asked T hsm TB code F) T.n__law_asked fun _ _ _ _ _ _ us hl => match us, hl with | [_, _, _], _ => rfl
end
end G
namespace G
open PySem PySem.Spec PyProof.Rows L2
theorem passE {X : Cx} : Passes (L2.CX X.prog X.w) X E0 := fun _ _ _ _ _ _ _ h => by
  obtain ⟨_, _, _, _, _, _, _, _, _, _, _, _, e⟩ := h
  exact e.elim
/-! ### names and what is made of them -/
theorem asc_nm {z : Str} (h : Nm z) : Asc z := fun c hc => sign_128 (nm_plain h c hc)
theorem asc_cut {z : Str} (h : Asc z) (lo hi : Option Int) : Asc (cutS z lo hi) := by
  intro c hc
  unfold cutS at hc
  exact h c (List.mem_of_mem_drop (List.mem_of_mem_take (by simpa using hc)))
theorem asc_up {z : Str} (h : Asc z) : Asc (Txt.upper z) ∧ (Txt.upper z).length = z.length := by
  rw [PyProof.Rows.upper_ascii h]
  refine ⟨fun c hc => ?_, by simp [Str.length]⟩
  have e : ((⟨z.cps.map PyProof.Rows.up1⟩ : Str).cps.toList) = z.cps.toList.map PyProof.Rows.up1 := by simp
  rw [e] at hc
  obtain ⟨d, hd, rfl⟩ := List.mem_map.mp hc
  have := h d hd
  unfold PyProof.Rows.up1
  split <;> omega
/-- a value that can be asked for -/
def Thing (K : PySem.W.Frag) (H : Hp) (x : V) : Prop := ∃ z, Dq K H x z ∧ ShD 60 sizeLine z ∧ Asc z.shown
theorem Thing.ext {K : PySem.W.Frag} {H H' : Hp} {x : V} (h : Thing K H x) (s : Kp H H') : Thing K H' x := by
  obtain ⟨z, a, b⟩ := h
  exact ⟨z, Dq.ext s a, b⟩
theorem shD_str {s : Str} (h : Asc s) (l : s.length ≤ 20) : ShD 0 202 (.str s) := ⟨rfl, Nat.le_refl _, by
  have := repr_128 h
  have e : (PyData.str s).shown = reprText s := by rw [PyData.shown]
  rw [e]
  omega⟩
theorem Thing.str {K : PySem.W.Frag} {H : Hp} {s : Str} (h : Asc s) (l : s.length ≤ 20) : Thing K H (.str s) :=
  ⟨_, .str s, (shD_str h l).mono (by decide) (by rw [sizeLine_eq]; decide), asc_dstr h⟩
theorem Thing.nm {K : PySem.W.Frag} {H : Hp} {s : Str} (h : Nm s) : Thing K H (.str s) := .str (asc_nm h) (by have := h.2; omega)
theorem dq_strs {K : PySem.W.Frag} {H : Hp} : ∀ xs : List Str, DqAll K H (xs.map V.str) (xs.map PyData.str)
  | [] => .nil
  | x :: xs => .cons (.str x) (dq_strs xs)
theorem shs_of {xs : List Str} (h : ∀ s ∈ xs, Asc s ∧ s.length ≤ 20) : ∀ d ∈ xs.map PyData.str, ShD 0 202 d := fun d hd => by
  obtain ⟨s, hs, rfl⟩ := List.mem_map.mp hd
  exact shD_str (h s hs).1 (h s hs).2
theorem ascs_of {xs : List Str} (h : ∀ s ∈ xs, Asc s ∧ s.length ≤ 20) : ∀ d ∈ xs.map PyData.str, Asc d.shown := fun d hd => by
  obtain ⟨s, hs, rfl⟩ := List.mem_map.mp hd
  exact asc_dstr (h s hs).1
theorem Thing.tup {K : PySem.W.Frag} {H : Hp} {a : Addr} {xs : List Str} (e : SqT K H a (xs.map V.str)) (n : xs.length ≤ 2) (h : ∀ s ∈ xs, Asc s ∧ s.length ≤ 20) : Thing K H (.ref a) :=
  ⟨_, .tup e (dq_strs xs), (shD_tup (shs_of h)).mono (by decide) (by rw [List.length_map, sizeLine_eq]; omega), asc_dtup (ascs_of h)⟩
theorem Thing.lst {K : PySem.W.Frag} {H : Hp} {a : Addr} {xs : List Str} (e : H a = some (.lst (xs.map V.str))) (n : xs.length ≤ 2) (h : ∀ s ∈ xs, Asc s ∧ s.length ≤ 20) : Thing K H (.ref a) :=
  ⟨_, .lst e (dq_strs xs), (shD_list (shs_of h)).mono (by decide) (by rw [List.length_map, sizeLine_eq]; omega), asc_dlist (ascs_of h)⟩
theorem Thing.dct {K : PySem.W.Frag} {H : Hp} {a : Addr} (e : H a = some (.dK [])) : Thing K H (.ref a) :=
  ⟨.dict [], .dct e .nil .nil, ⟨by decide +kernel, by decide +kernel, by rw [sizeLine_eq]; exact Nat.le_trans (m := 10) (by decide +kernel) (by decide)⟩, asc_lit (by decide +kernel)⟩
theorem Thing.non {K : PySem.W.Frag} {H : Hp} : Thing K H .non := ⟨_, .non, ⟨by decide +kernel, by decide +kernel, by rw [sizeLine_eq]; exact Nat.le_trans (m := 10) (by decide +kernel) (by decide)⟩, asc_lit (by decide +kernel)⟩
theorem Thing.zero {K : PySem.W.Frag} {H : Hp} : Thing K H (.int 0) := ⟨_, .int 0, ⟨by decide +kernel, by decide +kernel, by rw [sizeLine_eq]; exact Nat.le_trans (m := 10) (by decide +kernel) (by decide)⟩, asc_lit (by decide +kernel)⟩
theorem Thing.yes {K : PySem.W.Frag} {H : Hp} : Thing K H (.bl true) := ⟨_, .bl true, ⟨by decide +kernel, by decide +kernel, by rw [sizeLine_eq]; exact Nat.le_trans (m := 10) (by decide +kernel) (by decide)⟩, asc_lit (by decide +kernel)⟩
/-- what stands once the systems are made -/
structure Wd (K : PySem.W.Frag) (p : Addr) (H H' : Hp) (l1 l2 l3 a b : Addr) (gs : List GateT) (ks ks3 : List KindT) : Prop where
  kb : KpB p H H'
  pool : PoolAt H' p
  tabs : LamX.Tabs (tabsA K) H'
  pa : ∃ ps, PairsAt H' l1 ps gs
  go : GatesOk gs
  sa : ∃ qs, SortsAt H' l2 qs ks
  kp : KindsPre (gnames gs) ks
  k1 : 1 ≤ ks.length
  k4 : ks.length ≤ 4
  sa3 : ∃ qs, SortsAt H' l3 qs ks3
  kp3 : KindsPre (gnames gs) ks3
  k13 : 1 ≤ ks3.length
  k43 : ks3.length ≤ 4
  one : ∃ t u as bs, SysAt K H' a t u as bs gs ks
  two : ∃ t u as bs, SysAt K H' b t u as bs gs ks3
theorem pool_ext {H H' : Hp} {p : Addr} (h : PoolAt H p) (s : Kp H H') : PoolAt H' p := by
  obtain ⟨a, b, d, e, r⟩ := h
  exact ⟨a, b, d, s _ _ e rfl, r⟩
theorem Wd.ext {K : PySem.W.Frag} {p l1 l2 l3 a b : Addr} {H H' H2 : Hp} {gs : List GateT} {ks ks3 : List KindT} (h : Wd K p H H' l1 l2 l3 a b gs ks ks3) (s : Kp H' H2) (t : LamX.Tabs (tabsA K) H2) : Wd K p H H2 l1 l2 l3 a b gs ks ks3 :=
  ⟨h.kb.trans s, pool_ext h.pool s, t, h.pa.imp fun _ x => x.ext s, h.go, h.sa.imp fun _ x => x.ext s, h.kp, h.k1, h.k4, h.sa3.imp fun _ x => x.ext s, h.kp3, h.k13, h.k43,
    h.one.imp fun _ x => x.imp fun _ x => x.imp fun _ x => x.imp fun _ x => x.ext s, h.two.imp fun _ x => x.imp fun _ x => x.imp fun _ x => x.imp fun _ x => x.ext s⟩
theorem Wd.same {K : PySem.W.Frag} {p l1 l2 l3 a b : Addr} {H H' H2 : Hp} {gs : List GateT} {ks ks3 : List KindT} (h : Wd K p H H' l1 l2 l3 a b gs ks ks3) (s : Same H' H2) : Wd K p H H2 l1 l2 l3 a b gs ks ks3 := h.ext (.of s) (h.tabs.ext s)
theorem Wd.pl {K : PySem.W.Frag} {p l1 l2 l3 a b : Addr} {H H' H2 : Hp} {gs : List GateT} {ks ks3 : List KindT} (h : Wd K p H H' l1 l2 l3 a b gs ks ks3) (s : Pl p H' H2) : Wd K p H H2 l1 l2 l3 a b gs ks ks3 :=
  ⟨fun c o n e t => s.but c o n (h.kb c o n e t), s.pool, tabs_pl h.tabs h.pool s, h.pa.imp fun _ x => x.pl h.pool (refs_ne h.pool x.lst) s, h.go, h.sa.imp fun _ x => x.pl h.pool (refs_ne h.pool x.lst) s, h.kp, h.k1, h.k4,
    h.sa3.imp fun _ x => x.pl h.pool (refs_ne h.pool x.lst) s, h.kp3, h.k13, h.k43,
    h.one.imp fun _ x => x.imp fun _ x => x.imp fun _ x => x.imp fun _ x => x.pl h.pool s, h.two.imp fun _ x => x.imp fun _ x => x.imp fun _ x => x.imp fun _ x => x.pl h.pool s⟩
/-- the things at l -/
structure Ths (R : V → Prop) (H : Hp) (l : Addr) (n : Nat) : Prop where
  ex : ∃ xs, H l = some (.lst xs) ∧ xs.length ≤ n ∧ ∀ x ∈ xs, R x
def StrV (x : V) : Prop := ∃ s, x = .str s ∧ Asc s ∧ s.length ≤ 20
theorem StrV.nm {s : Str} (h : Nm s) : StrV (.str s) := ⟨s, rfl, asc_nm h, by have := h.2; omega⟩
theorem StrV.th {K : PySem.W.Frag} {H : Hp} {x : V} (h : StrV x) : Thing K H x := by
  obtain ⟨s, rfl, a, l⟩ := h
  exact .str a l
theorem at_last {α : Type} {xs : List α} {v : α} (h : xs[xs.length - 1]? = some v) : atI xs (-1) = some v := by
  have l0 := (List.getElem?_eq_some_iff.mp h).1
  have e : ixN xs.length (-1) = some (xs.length - 1) := by
    unfold ixN
    rw [if_neg (by decide)]
    simp
    omega
  unfold atI
  rw [e]
  exact h
theorem cut3 (ls : List Str) : ∃ ls' : List Str, cutV (ls.map V.str) none (some 3) = ls'.map V.str ∧ ls'.length ≤ 3 ∧ ∀ z ∈ ls', z ∈ ls := by
  refine ⟨(ls.drop (HT.sIx (ls.map V.str).length 0 none)).take (HT.sIx (ls.map V.str).length (ls.map V.str).length (some 3) - HT.sIx (ls.map V.str).length 0 none), ?_, ?_, fun z hz => List.mem_of_mem_drop (List.mem_of_mem_take hz)⟩
  · unfold cutV
    rw [List.map_take, List.map_drop]
  · rw [List.length_take]
    refine Nat.le_trans (Nat.min_le_left _ _) ?_
    have h : HT.sIx (ls.map V.str).length (ls.map V.str).length (some 3) ≤ 3 := by
      unfold HT.sIx
      simp
      omega
    omega
inductive R12A (K : PySem.W.Frag) (p : Addr) (H : Hp) (σ : L2.St) (H' : Hp) : Prop
  | mk (l1 l2 l3 : Addr) (ps qs qs3 : List Addr) (gs : List GateT) (ks ks3 : List KindT) (eσ : σ = [some (.ref p), some (.ref l1), some (.ref l2), none, some (.ref l3), none, none, none, none, none])
    (pl : Pl p H H') (tabs : LamX.Tabs (tabsA K) H') (pa : PairsAt H' l1 ps gs) (go : GatesOk gs) (sa : SortsAt H' l2 qs ks) (kp : KindsPre (gnames gs) ks) (k1 : 1 ≤ ks.length) (k4 : ks.length ≤ 4)
    (sa3 : SortsAt H' l3 qs3 ks3) (kp3 : KindsPre (gnames gs) ks3) (k13 : 1 ≤ ks3.length) (k43 : ks3.length ≤ 4)
inductive R12B (K : PySem.W.Frag) (p : Addr) (H : Hp) (σ : L2.St) (H' : Hp) : Prop
  | mk (l1 l2 l3 a b : Addr) (gs : List GateT) (ks ks3 : List KindT) (eσ : σ = [some (.ref p), some (.ref l1), some (.ref l2), none, some (.ref l3), some (.ref a), some (.ref b), none, none, none])
    (wd : Wd K p H H' l1 l2 l3 a b gs ks ks3)
inductive R12C (K : PySem.W.Frag) (R : Hp → V → Prop) (p : Addr) (H : Hp) (n : Nat) (σ : L2.St) (H' : Hp) : Prop
  | mk (l1 l2 l3 a b l : Addr) (gs : List GateT) (ks ks3 : List KindT) (eσ : σ = [some (.ref p), some (.ref l1), some (.ref l2), none, some (.ref l3), some (.ref a), some (.ref b), some (.ref l), none, none])
    (wd : Wd K p H H' l1 l2 l3 a b gs ks ks3) (nl : l ≠ p) (th : Ths (R H') H' l n)
inductive R12D (K : PySem.W.Frag) (p : Addr) (H : Hp) (σ : L2.St) (H' : Hp) : Prop
  | mk (l1 l2 l3 a b l : Addr) (c : Option V) (gs : List GateT) (ks ks3 : List KindT) (eσ : σ = [some (.ref p), some (.ref l1), some (.ref l2), none, some (.ref l3), some (.ref a), some (.ref b), some (.ref l), none, c])
    (wd : Wd K p H H' l1 l2 l3 a b gs ks ks3)
theorem two_items {H : Hp} {l l' : Addr} {qs qs' : List Addr} {ks ks' : List KindT} (h : SortsAt H l qs ks) (h' : SortsAt H l' qs' ks') {j : Nat} {x : V} (hx : (qs.map V.ref ++ qs'.map V.ref)[j]? = some x) :
    ∃ y k tt mm, x = .ref y ∧ (k ∈ ks ∨ k ∈ ks') ∧ H y = some (.tup [.str k.n, .ref tt, .bl k.b, .ref mm]) := by
  rcases Nat.lt_or_ge j (qs.map V.ref).length with lt | ge
  · rw [List.getElem?_append_left lt] at hx
    obtain ⟨y, k, rfl, hy, hk, tt, mm, e1, _⟩ := h.item hx
    exact ⟨y, k, tt, mm, rfl, .inl (List.mem_of_getElem? hk), e1⟩
  · rw [List.getElem?_append_right ge] at hx
    obtain ⟨y, k, rfl, hy, hk, tt, mm, e1, _⟩ := h'.item hx
    exact ⟨y, k, tt, mm, rfl, .inr (List.mem_of_getElem? hk), e1⟩
section
variable {P : Program} {w : World} {K : PySem.W.Frag} {mg : Str → Option Value} {base : Heap} {CX : CXT}
theorem c_is (T : Tx K mg) : Cal P w K mg base CX0 4 "_law_is" [] (spIs K) := by
  obtain ⟨fd, F⟩ := T.d__law_is
  exact .mk F (ok_is T F) T.n__law_is fun _ _ _ _ _ _ us hl => match us, hl with | [_, _, _], _ => rfl
def spRight (K : PySem.W.Frag) : Sp := fun vs H Q _ => ∃ p : Addr, vs = [.ref p] ∧ PoolAt H p ∧ LamX.Tabs (tabsA K) H ∧ ∀ H', KpB p H H' → LamX.Tabs (tabsA K) H' → Q (.bl true) H'
theorem ok_right {f : Addr} {fd : FuncData} {dvs : List V} {kws : List (Str × V)} (T : Tx K mg) (hsm : (base.get? sysModules).isSome = true) (TB : LamX.TabB base mg (codeA K "_law_asked") (tabA K "_law_asked"))
    (code : ∀ oc od fd osl, K.lookup (He.ga K "_law_asked") = some ⟨oc, od, .func fd, osl⟩ → fd.code = .ref (codeA K "_law_asked"))
    (F : FunD K "_law_right" "_law_right" (defArgs s__law_right) (defBody s__law_right) (defScope s__law_right) dvs kws f fd) :
    FnG P w K mg base CX0 11 f fd ["_law_pool_here"] (spRight K) := by
  have c__law_forest : Cal P w K mg base CX0 4 "_law_forest" [] spForest := c_forest T
  have c__law_sorts : Cal P w K mg base CX0 5 "_law_sorts" [] spSorts := c_sorts T
  have c__law_tag : Cal P w K mg base CX0 2 "_law_tag" [] spTag := c_tag T
  have c__law_marks : Cal P w K mg base CX0 1 "_law_marks" [] spMarks := c_marks T
  have c__law_is : Cal P w K mg base CX0 4 "_law_is" [] (spIs K) := c_is T
  have c__law_built : Cal P w K mg base CX0 8 "_law_built" [] (spBuilt K) := c_built T
  have c__law_asked : Cal P w K mg base CX0 8 "_law_asked" [] (spAsked K) := c_asked T hsm TB code
  have m_System_kind : MetC P w K mg base (L2.CX P w) 4 (cS K) "kind" [] (spKindX K) := m_System_kindX T
  have c_Kind_2_many_members : CalN P w K mg base CX0 6 "Kind" (cK K) 2 ["many", "members"] (fun vs zs => gWM vs [] zs) (spKind K) := c_Kind_2_many_members T
  obtain ⟨fk, fdk, psk, ek, fnk, bnk⟩ := eqK (P := P) (w := w) (base := base) (CX := CX0) T
  refine okG F sc__law_right (fun vs H Q E h => ?_) (fun cdv A outer s H vs Q E hr hgd h => ?_)
  · obtain ⟨p, rfl, _⟩ := h
    rfl
  · obtain ⟨p, rfl, hp, tabs, fin⟩ := h
    have hu := hr.units
    refine ⟨_, PSs.nox (pss_cons (ps_set (i := 1) sc__law_right.nd rfl (Or.inl rfl) (pe_cal c__law_forest (hr.mono (by decide)) hgd pass0 (pa_cons (pv 0) pa_nil)))
    (pss_cons (ps_set (i := 2) sc__law_right.nd rfl (Or.inl rfl) (pe_cal c__law_sorts (hr.mono (by decide)) hgd pass0 (pa_cons (pv 0) (pa_cons (pe_lc (own := [("_law_pair", 3)]) (g := gName 3) (tt := tYes) rfl sc__law_right.nd (pi_list (pv 1)) (blkOk_by (own := [("_law_pair", 3)]) (N := n__law_right) (sc := defScope s__law_right) (by decide +kernel)) (fun _ _ _ _ _ => (pg_name (i := 3) sc__law_right.nd rfl (Or.inl rfl))) (fun _ _ _ _ _ => pts_nil) (fun _ _ _ _ _ => (pe_ix (ixK (K := K) (r := rIxT) rfl ix_tup) (pv 3) pe_int (fun _ _ => rfl)))) pa_nil))))
    (pss_cons (ps_set (i := 4) sc__law_right.nd rfl (Or.inl rfl) (pe_cal c__law_sorts (hr.mono (by decide)) hgd pass0 (pa_cons (pv 0) (pa_cons (pe_lc (own := [("_law_pair", 3)]) (g := gName 3) (tt := tYes) rfl sc__law_right.nd (pi_list (pv 1)) (blkOk_by (own := [("_law_pair", 3)]) (N := n__law_right) (sc := defScope s__law_right) (by decide +kernel)) (fun _ _ _ _ _ => (pg_name (i := 3) sc__law_right.nd rfl (Or.inl rfl))) (fun _ _ _ _ _ => pts_nil) (fun _ _ _ _ _ => (pe_ix (ixK (K := K) (r := rIxT) rfl ix_tup) (pv 3) pe_int (fun _ _ => rfl)))) pa_nil))))
    (pss_cons (ps_asg (pe_tup (pa_cons (pe_cal c__law_built (hr.mono (by decide)) hgd pass0 (pa_cons (pv 1) (pa_cons (pv 2) pa_nil))) (pa_cons (pe_cal c__law_built (hr.mono (by decide)) hgd pass0 (pa_cons (pv 1) (pa_cons (pv 4) pa_nil))) pa_nil))) (pg_tup rfl (pgs_cons (pg_name (i := 5) sc__law_right.nd rfl (Or.inr rfl)) (pgs_cons (pg_name (i := 6) sc__law_right.nd rfl (Or.inl rfl)) pgs_nil))))
    (pss_cons (ps_set (i := 7) sc__law_right.nd rfl (Or.inl rfl) (pe_op op_cat (pe_op op_cat (pe_lc (own := [("_law_part", 8)]) (g := gName 8) (tt := tYes) rfl sc__law_right.nd (pi_list (pe_op op_cat (pv 2) (pv 4))) (blkOk_by (own := [("_law_part", 8)]) (N := n__law_right) (sc := defScope s__law_right) (by decide +kernel)) (fun _ _ _ _ _ => (pg_name (i := 8) sc__law_right.nd rfl (Or.inl rfl))) (fun _ _ _ _ _ => pts_nil) (fun _ _ _ _ _ => (pe_ix (ixK (K := K) (r := rIxT) rfl ix_tup) (pv 8) pe_int (fun _ _ => rfl)))) (pe_lc (own := [("_law_pair", 3)]) (g := gName 3) (tt := tYes) rfl sc__law_right.nd (pi_list (pv 1)) (blkOk_by (own := [("_law_pair", 3)]) (N := n__law_right) (sc := defScope s__law_right) (by decide +kernel)) (fun _ _ _ _ _ => (pg_name (i := 3) sc__law_right.nd rfl (Or.inl rfl))) (fun _ _ _ _ _ => pts_nil) (fun _ _ _ _ _ => (pe_ix (ixK (K := K) (r := rIxT) rfl ix_tup) (pv 3) pe_int (fun _ _ => rfl))))) (pe_slice sl_list (pe_callTy call_list_of rfl T.f_list (by decide +kernel) (pa_cons (pe_cal c__law_marks (hr.mono (by decide)) hgd pass0 (pa_cons (pv 2) pa_nil)) pa_nil)) po_none (po_some pe_int))))
    (pss_cons (ps_set (i := 7) sc__law_right.nd rfl (Or.inl rfl) (pe_op op_cat (pv 7) (pe_lst (pa_cons (pe_cal c__law_tag (hr.mono (by decide)) hgd pass0 (pa_cons (pv 0) pa_nil)) (pa_cons (pe_op op_add_str (pe_ix ix_tup (pe_ix ix_list (pv 2) pe_int (fun _ _ => rfl)) pe_int (fun _ _ => rfl)) pe_str) (pa_cons (pe_slice sl_str (pe_ix ix_tup (pe_ix ix_list (pv 2) pe_int (fun _ _ => rfl)) pe_int (fun _ _ => rfl)) po_none (po_some (pe_un un_neg pe_int))) (pa_cons (pe_upper (pe_ix ix_tup (pe_ix ix_list (pv 2) (pe_un un_neg pe_int) (fun _ _ => rfl)) pe_int (fun _ _ => rfl))) pa_nil)))))))
    (pss_cons (ps_set (i := 7) sc__law_right.nd rfl (Or.inl rfl) (pe_op op_cat (pv 7) (pe_lst (pa_cons pe_non (pa_cons pe_int (pa_cons pe_bl (pa_cons (pe_tup pa_nil) (pa_cons (pe_tup (pa_cons (pe_ix ix_tup (pe_ix ix_list (pv 2) pe_int (fun _ _ => rfl)) pe_int (fun _ _ => rfl)) pa_nil)) (pa_cons (pe_lst (pa_cons (pe_ix ix_tup (pe_ix ix_list (pv 2) pe_int (fun _ _ => rfl)) pe_int (fun _ _ => rfl)) pa_nil)) (pa_cons pe_dnewK (pa_cons (pe_lst pa_nil) (pa_cons (pe_lst (pa_cons pe_str pa_nil)) (pa_cons (pe_tup (pa_cons (pe_ix ix_tup (pe_ix ix_list (pv 2) pe_int (fun _ _ => rfl)) pe_int (fun _ _ => rfl)) (pa_cons pe_str pa_nil))) pa_nil)))))))))))))
    (pss_cons (ps_for PassesOwn.never rfl (pi_list (pv 7)) (pg_name (i := 9) sc__law_right.nd rfl (Or.inl rfl))
      (pss_one (ps_if (PW.pt (pw_or (pt_not (pt_val (pe_cal c__law_asked (hr.mono (by decide)) hgd pass0 (pa_cons (pv 5) (pa_cons (pv 2) (pa_cons (pv 9) pa_nil)))))) (pw_or1 (pt_not (pt_val (pe_cal c__law_asked (hr.mono (by decide)) hgd pass0 (pa_cons (pv 6) (pa_cons (pv 4) (pa_cons (pv 9) pa_nil))))))))) (pss_one (ps_ret pe_bl)) pss_nil)))
    (pss_cons (ps_if (pt_not (pt_val (pe_callB (cr_all rfl) rfl T.f_all (by decide +kernel) (pa_cons (pe_lc (own := [("_law_part", 8)]) (g := gName 8) (tt := tYes) rfl sc__law_right.nd (pi_list (pv 2)) (blkOk_by (own := [("_law_part", 8)]) (N := n__law_right) (sc := defScope s__law_right) (by decide +kernel)) (fun _ _ _ _ _ => (pg_name (i := 8) sc__law_right.nd rfl (Or.inl rfl))) (fun _ _ _ _ _ => pts_nil) (fun _ _ _ _ _ => (pe_cmpR (opK (K := K) (r := fun K1 => rOwnEq K1 (cK K) (spKindEq K) E0 fun b => b) rfl (op_eqO ek fnk (hr.mono (by decide)) bnk pass0)) (pe_met m_System_kind (hr.mono (by decide)) passE (pv 5) (pa_cons (pe_ix (ixK (K := K) (r := rIxT) rfl ix_tup) (pv 8) pe_int (fun _ _ => rfl)) pa_nil)) (pe_mkn c_Kind_2_many_members (hr.mono (by decide)) pass0 (pa_cons (pe_ix (ixK (K := K) (r := rIxT) rfl ix_tup) (pv 8) pe_int (fun _ _ => rfl)) (pa_cons (pe_ix (ixK (K := K) (r := rIxT) rfl ix_tup) (pv 8) pe_int (fun _ _ => rfl)) pa_nil)) (pk_cons (pe_ix (ixK (K := K) (r := rIxT) rfl ix_tup) (pv 8) pe_int (fun _ _ => rfl)) (pk_cons (pe_ix (ixK (K := K) (r := rIxT) rfl ix_tup) (pv 8) pe_int (fun _ _ => rfl)) pk_nil))) (nomark _)))) pa_nil)))) (pss_one (ps_ret pe_bl)) pss_nil)
    (pss_one (ps_ret (pe_and (pe_cal c__law_is (hr.mono (by decide)) hgd pass0 (pa_cons (pv 5) (pa_cons (pv 1) (pa_cons (pv 2) pa_nil)))) (pe_one (pe_cal c__law_is (hr.mono (by decide)) hgd pass0 (pa_cons (pv 6) (pa_cons (pv 1) (pa_cons (pv 4) pa_nil))))))))))))))))), ?_⟩
    clear c__law_forest c__law_sorts c__law_tag c__law_marks c__law_is c__law_built c__law_asked m_System_kind c_Kind_2_many_members ek fnk bnk
    refine mid3 (fun σ' H' => R12A K p H σ' H') ?_ (fun u rest => ?_)
    · rintro σ1 H1 ⟨l1, l2, l3, ps, qs, qs3, gs, ks, ks3, rfl, p1, tabs1, pa, go, sa, kp, k1, k4, sa3, kp3, k13, k43⟩
      refine mid1 (fun σ' H' => R12B K p H σ' H') ?_ (fun u rest => ?_)
      · clear pa go sa kp k1 k4 sa3 kp3 k13 k43 tabs1
        rintro σ2 H2 ⟨l1, l2, l3, a, b, gs, ks, ks3, rfl, wd⟩
        refine mid1 (fun σ' H' => R12C K (fun _ => StrV) p H 14 σ' H') ?_ (fun u rest => ?_)
        · clear wd
          rintro σ3 H3 ⟨l1, l2, l3, a, b, l, gs, ks, ks3, rfl, wd, nl, th⟩
          refine mid1 (fun σ' H' => R12C K (fun _ => StrV) p H 18 σ' H') ?_ (fun u rest => ?_)
          · clear wd th nl
            rintro σ4 H4 ⟨l1, l2, l3, a, b, l, gs, ks, ks3, rfl, wd, nl, th⟩
            refine mid1 (fun σ' H' => R12C K (Thing K) p H 28 σ' H') ?_ (fun u rest => ?_)
            · clear wd th nl
              rintro σ5 H5 ⟨l1, l2, l3, a, b, l, gs, ks, ks3, rfl, wd, nl, th⟩
              refine mid1 (fun σ' H' => R12D K p H σ' H') ?_ (fun u rest => ?_)
              · clear wd th nl
                rintro σ6 H6 ⟨l1, l2, l3, a, b, l, c, gs, ks, ks3, rfl, wd⟩
                have few : ∀ k ∈ ks, k.ms.length ≤ 4 := fun k hk => (wd.kp.ok k hk).few
                have few3 : ∀ k ∈ ks3, k.ms.length ≤ 4 := fun k hk => (wd.kp3.ok k hk).few
                obtain ⟨qs, sa⟩ := wd.sa
                obtain ⟨t, u, as, bs, one⟩ := wd.one
                have hl2 := sa.lst
                have lq : (qs.map V.ref).length = ks.length := by rw [List.length_map, sa.ln]
                have k4 := wd.k4
                walk_at "rd"
                refine ⟨⟨_, SqL.of hl2⟩, ?_⟩
                intro D nD
                refine lcW (wk_list (qs.map V.ref)) (fun j H' => Same H6 H' ∧ H' D = some (.lst (List.replicate j (V.bl true)))) ⟨by walk_at "g but", upd_same⟩ (fun j H' _ e => SqL.of (e.1 _ _ hl2)) ?_ ?_
                · rintro j x H7 hx ⟨sm, hD⟩
                  have wd7 := wd.same sm
                  obtain ⟨y, k, rfl, hy, hk, tt, mm, e1, e2, e3⟩ := (sa.same sm).item hx
                  have ok := wd.kp.ok k (List.mem_of_getElem? hk)
                  have li := (List.getElem?_eq_some_iff.mp hk).1
                  have one7 := one.same sm
                  obtain ⟨ar, dx, si⟩ := one7
                  have si0 := si
                  obtain ⟨pl, pg, lt, tr, ls, kvs, i1, _⟩ := si0
                  have nd := ar.ko.nd
                  walk_at "rd"
                  refine ⟨.str k.n, rfl, .str _, gs, ks, bs, si, ar.ka, k4, nd, fun i k' y' hk' hy' ex H8 s8 => ?_, fun hn => absurd (List.mem_map.mpr ⟨k, List.mem_of_getElem? hk, rfl⟩) (hn _ rfl)⟩
                  obtain rfl : j = i := (names_ne nd hk' hk).mp (V.str.inj ex)
                  obtain rfl : k' = k := by
                    rw [hk] at hk'
                    exact (Option.some.inj hk').symm
                  have ky := (ar.ka.at_ j y' k' hy' hk').same s8
                  have x1 := s8 _ _ e1
                  have x2 := s8 _ _ e2
                  have x3 := s8 _ _ e3
                  have hD8 := s8 _ _ hD
                  have sm8 := sm.trans s8
                  clear si i1 ar wd7 e1 e2 e3 hD sm
                  walk_at "rd"
                  intro x dx2 nx ndx nex
                  refine ⟨x, dx2, tt, mm, k'.n, k'.b, k'.rs, k'.ms, rfl, upd_same, ok.ok.nm, made_get nx ndx nex x2, ok.ok.ro, .inl (made_get nx ndx nex x3), ok.ok.mo, fun H9 pr as5 b5 f1 f2 f3 => ⟨rfl, ?_⟩⟩
                  have s9 := made_same nx ndx b5
                  have kx : KindAt K H9 x k' := ⟨ok.ok, dx2, tt, pr, mm, as5, f1, s9 _ _ x2, .inl (s9 _ _ x3), f2, f3⟩
                  have ky9 := ky.same s9
                  obtain ⟨_, dk, _, _, _, _, ek', _⟩ := id ky9
                  have hD9 := s9 _ _ hD8
                  walk_at "rd"
                  refine eqKK T ky9 kx (E := true) (by simp [kEq]) ?_
                  refine ⟨true, rfl, List.replicate j (V.bl true), hD9, by rw [List.length_replicate, sizeLine_eq]; omega, L2.Same.own (sm8.trans s9) nD, ?_⟩
                  rw [upd_same, List.replicate_succ']
                · rintro H7 ⟨sm, hD⟩
                  rw [lq] at hD
                  have hD' : H7 D = some (.lst ((List.replicate ks.length true).map V.bl)) := by rw [hD, List.map_replicate]
                  refine ⟨D, List.replicate ks.length true, rfl, SqL.of hD', ?_⟩
                  have wd7 := wd.same sm
                  clear wd
                  obtain ⟨ps, pa⟩ := wd7.pa
                  obtain ⟨qs3, sa3⟩ := wd7.sa3
                  obtain ⟨t2, u2, as2, bs2, two⟩ := wd7.two
                  have one7 := one.same sm
                  have sa7 := sa.same sm
                  walk_at "rd"
                  refine G.iteKF (by simp) ?_
                  walk_at "rd"
                  refine ⟨gs, ks, one7, pa, sa7, few, fun H8 s8 => ?_⟩
                  walk_at "rd"
                  refine ⟨gs, ks3, two.same s8, pa.same s8, sa3.same s8, few3, fun H9 s9 => ?_⟩
                  have s79 := s8.trans s9
                  exact fin _ (wd7.kb.trans (.of s79)) (wd7.tabs.ext s79)
              · obtain ⟨xs, hl, lx, tx⟩ := th.ex
                walk_at "rd"
                refine ⟨⟨_, SqL.of hl⟩, ?_⟩
                refine forW (wk_list xs) (fun i σ H' => ∃ c, σ = [some (.ref p), some (.ref l1), some (.ref l2), none, some (.ref l3), some (.ref a), some (.ref b), some (.ref l), none, c] ∧ Kp H5 H' ∧ LamX.Tabs (tabsA K) H')
                  ⟨_, rfl, Kp.refl _, wd.tabs⟩ (fun j σ H' _ e => by obtain ⟨_, _, k, _⟩ := e; exact SqL.of (k _ _ hl rfl)) ?_ ?_
                · rintro i x σ H6 hx ⟨c, rfl, k6, t6⟩
                  have wd6 := wd.ext k6 t6
                  obtain ⟨z, dz, sz, az⟩ := (tx x (List.mem_of_getElem? hx)).ext k6
                  obtain ⟨t, u, as, bs, one⟩ := wd6.one
                  obtain ⟨qs, sa⟩ := wd6.sa
                  walk_at "rd"
                  refine ⟨z, t, u, as, bs, qs, gs, ks, dz, sz, az, one, sa, wd6.kp.ok, t6, fun H7 k7 t7 => ?_⟩
                  have wd7 := wd6.ext k7 t7
                  obtain ⟨t', u', as', bs', two⟩ := wd7.two
                  obtain ⟨qs3, sa3⟩ := wd7.sa3
                  walk_at "rd"
                  refine ⟨z, t', u', as', bs', qs3, gs, ks3, Dq.ext k7 dz, sz, az, two, sa3, wd7.kp3.ok, t7, fun H8 k8 t8 => ?_⟩
                  walk_at "rd"
                  exact ⟨_, rfl, (k6.trans k7).trans k8, t8⟩
                · rintro σ H6 ⟨c, rfl, k6, t6⟩
                  walk_at "rd"
                  exact rest _ _ (.mk l1 l2 l3 a b l c gs ks ks3 rfl (wd.ext k6 t6))
-- BEGIN
            · have wd0 := wd
              obtain ⟨xs, hl, lx, tx⟩ := th.ex
              obtain ⟨qs, sa⟩ := wd.sa
              have hp := wd.pool
              have hl2 := sa.lst
              have lq0 : 0 < qs.length := by rw [sa.ln]; exact wd.k1
              have lk0 : 0 < ks.length := wd.k1
              have ea : atI (qs.map V.ref) 0 = some (.ref qs[0]) := at_any (j := 0) (by omega) (by rw [List.getElem?_map, List.getElem?_eq_getElem lq0]; rfl)
              obtain ⟨t0, m0, et0, _⟩ := sa.at_ 0 _ _ (List.getElem?_eq_getElem lq0) (List.getElem?_eq_getElem lk0)
              have n0 : Nm ks[0].n := (wd.kp.ok _ (List.getElem_mem lk0)).ok.nm
              have n08 := n0.2
              walk_at "rd"
              intro T1 nT1
              have sT1 : Same H4 (upd H4 T1 (.tup [])) := (Same.refl _).new nT1
              have gT1 : upd H4 T1 (.tup []) T1 = some (.tup []) := upd_same
              generalize upd H4 T1 (.tup []) = h1 at sT1 gT1 ⊢
              have q1 := sT1
              have a1 := q1 _ _ hl2
              have b1 := q1 _ _ et0
              clear nT1 sT1
              walk_at "rd"
              intro T2 nT2
              have sT2 : Same h1 (upd h1 T2 (.tup [.str ks[0].n])) := (Same.refl _).new nT2
              have gT2 : upd h1 T2 (.tup [.str ks[0].n]) T2 = some (.tup [.str ks[0].n]) := upd_same
              generalize upd h1 T2 (.tup [.str ks[0].n]) = h2 at sT2 gT2 ⊢
              have q2 := q1.trans sT2
              have a2 := q2 _ _ hl2
              have b2 := q2 _ _ et0
              replace gT1 := sT2 _ _ gT1
              clear nT2 sT2 a1 b1
              walk_at "rd"
              intro L3 nL3
              have sL3 : Same h2 (upd h2 L3 (.lst [.str ks[0].n])) := (Same.refl _).new nL3
              have gL3 : upd h2 L3 (.lst [.str ks[0].n]) L3 = some (.lst [.str ks[0].n]) := upd_same
              generalize upd h2 L3 (.lst [.str ks[0].n]) = h3 at sL3 gL3 ⊢
              have q3 := q2.trans sL3
              have a3 := q3 _ _ hl2
              have b3 := q3 _ _ et0
              replace gT1 := sL3 _ _ gT1
              replace gT2 := sL3 _ _ gT2
              clear nL3 sL3 a2 b2
              walk_at "rd"
              intro D4 nD4
              have sD4 : Same h3 (upd h3 D4 (.dK [])) := (Same.refl _).new nD4
              have gD4 : upd h3 D4 (.dK []) D4 = some (.dK []) := upd_same
              generalize upd h3 D4 (.dK []) = h4 at sD4 gD4 ⊢
              have q4 := q3.trans sD4
              have a4 := q4 _ _ hl2
              have b4 := q4 _ _ et0
              replace gT1 := sD4 _ _ gT1
              replace gT2 := sD4 _ _ gT2
              replace gL3 := sD4 _ _ gL3
              clear nD4 sD4 a3 b3
              walk_at "rd"
              intro L5 nL5
              have sL5 : Same h4 (upd h4 L5 (.lst [])) := (Same.refl _).new nL5
              have gL5 : upd h4 L5 (.lst []) L5 = some (.lst []) := upd_same
              generalize upd h4 L5 (.lst []) = h5 at sL5 gL5 ⊢
              have q5 := q4.trans sL5
              have a5 := q5 _ _ hl2
              have b5 := q5 _ _ et0
              replace gT1 := sL5 _ _ gT1
              replace gT2 := sL5 _ _ gT2
              replace gL3 := sL5 _ _ gL3
              replace gD4 := sL5 _ _ gD4
              clear nL5 sL5 a4 b4
              walk_at "rd"
              intro L6 nL6
              have sL6 : Same h5 (upd h5 L6 (.lst [.str (Str.ofString "a")])) := (Same.refl _).new nL6
              have gL6 : upd h5 L6 (.lst [.str (Str.ofString "a")]) L6 = some (.lst [.str (Str.ofString "a")]) := upd_same
              generalize upd h5 L6 (.lst [.str (Str.ofString "a")]) = h6 at sL6 gL6 ⊢
              have q6 := q5.trans sL6
              have a6 := q6 _ _ hl2
              have b6 := q6 _ _ et0
              replace gT1 := sL6 _ _ gT1
              replace gT2 := sL6 _ _ gT2
              replace gL3 := sL6 _ _ gL3
              replace gD4 := sL6 _ _ gD4
              replace gL5 := sL6 _ _ gL5
              clear nL6 sL6 a5 b5
              walk_at "rd"
              intro T7 nT7
              have sT7 : Same h6 (upd h6 T7 (.tup [.str ks[0].n, .str (Str.ofString "end")])) := (Same.refl _).new nT7
              have gT7 : upd h6 T7 (.tup [.str ks[0].n, .str (Str.ofString "end")]) T7 = some (.tup [.str ks[0].n, .str (Str.ofString "end")]) := upd_same
              generalize upd h6 T7 (.tup [.str ks[0].n, .str (Str.ofString "end")]) = h7 at sT7 gT7 ⊢
              have q7 := q6.trans sT7
              have a7 := q7 _ _ hl2
              have b7 := q7 _ _ et0
              replace gT1 := sT7 _ _ gT1
              replace gT2 := sT7 _ _ gT2
              replace gL3 := sT7 _ _ gL3
              replace gD4 := sT7 _ _ gD4
              replace gL5 := sT7 _ _ gL5
              replace gL6 := sT7 _ _ gL6
              clear nT7 sT7 a6 b6
              walk_at "rd"
              intro R8 nR8
              have sR8 : Same h7 (upd h7 R8 (.lst [.non, .int 0, .bl true, .ref T1, .ref T2, .ref L3, .ref D4, .ref L5, .ref L6, .ref T7])) := (Same.refl _).new nR8
              have gR8 : upd h7 R8 (.lst [.non, .int 0, .bl true, .ref T1, .ref T2, .ref L3, .ref D4, .ref L5, .ref L6, .ref T7]) R8 = some (.lst [.non, .int 0, .bl true, .ref T1, .ref T2, .ref L3, .ref D4, .ref L5, .ref L6, .ref T7]) := upd_same
              generalize upd h7 R8 (.lst [.non, .int 0, .bl true, .ref T1, .ref T2, .ref L3, .ref D4, .ref L5, .ref L6, .ref T7]) = h8 at sR8 gR8 ⊢
              have q8 := q7.trans sR8
              have a8 := q8 _ _ hl2
              have b8 := q8 _ _ et0
              replace gT1 := sR8 _ _ gT1
              replace gT2 := sR8 _ _ gT2
              replace gL3 := sR8 _ _ gL3
              replace gD4 := sR8 _ _ gD4
              replace gL5 := sR8 _ _ gL5
              replace gL6 := sR8 _ _ gL6
              replace gT7 := sR8 _ _ gT7
              clear nR8 sR8 a7 b7
              have hl8 := q8 _ _ hl
              walk_at "rd"
              refine ⟨by simp only [List.length_cons, List.length_nil, sizeLine_eq]; omega, ?_⟩
              intro R nR
              have nRp : R ≠ p := PoolAt.ne_new (hp.same q8) nR
              have sR : Same h8 (upd h8 R (.lst (xs ++ [.non, .int 0, .bl true, .ref T1, .ref T2, .ref L3, .ref D4, .ref L5, .ref L6, .ref T7]))) := (Same.refl _).new nR
              walk_at "rd"
              refine rest _ _ (.mk l1 l2 l3 a b R gs ks ks3 rfl (wd.same (q8.trans sR)) nRp ⟨⟨_, upd_same, by simp only [List.length_append, List.length_cons, List.length_nil]; omega, fun x hx => ?_⟩⟩)
              have na : ∀ s ∈ [ks[0].n], Asc s ∧ s.length ≤ 20 := fun s hs => by rw [List.mem_singleton.mp hs]; exact ⟨asc_nm n0, by omega⟩
              have nb : ∀ s ∈ [Str.ofString "a"], Asc s ∧ s.length ≤ 20 := fun s hs => by rw [List.mem_singleton.mp hs]; exact ⟨asc_lit (by decide +kernel), by decide +kernel⟩
              have nc : ∀ s ∈ [ks[0].n, Str.ofString "end"], Asc s ∧ s.length ≤ 20 := fun s hs => by
                simp only [List.mem_cons, List.not_mem_nil, or_false] at hs
                rcases hs with rfl | rfl
                · exact ⟨asc_nm n0, by omega⟩
                · exact ⟨asc_lit (by decide +kernel), by decide +kernel⟩
              have ne : ∀ s ∈ ([] : List Str), Asc s ∧ s.length ≤ 20 := fun s hs => by cases hs
              rcases List.mem_append.mp hx with hx | hx
              · exact (tx x hx).th
              · simp only [List.mem_cons, List.not_mem_nil, or_false] at hx
                rcases hx with rfl | rfl | rfl | rfl | rfl | rfl | rfl | rfl | rfl | rfl
                · exact .non
                · exact .zero
                · exact .yes
                · exact .tup (xs := []) (SqT.of (sR _ _ gT1)) (by decide) ne
                · exact .tup (xs := [ks[0].n]) (SqT.of (sR _ _ gT2)) (by show 1 ≤ 2; decide) na
                · exact .lst (xs := [ks[0].n]) (sR _ _ gL3) (by show 1 ≤ 2; decide) na
                · exact .dct (sR _ _ gD4)
                · exact .lst (xs := []) (sR _ _ gL5) (by decide) ne
                · exact .lst (xs := [Str.ofString "a"]) (sR _ _ gL6) (by show 1 ≤ 2; decide) nb
                · exact .tup (xs := [ks[0].n, Str.ofString "end"]) (SqT.of (sR _ _ gT7)) (by show 2 ≤ 2; decide) nc
-- END
-- BEGIN
          · obtain ⟨_, sa⟩ := wd.sa
            have hp := wd.pool
            have hl2 := sa.lst
            have wd0 := wd
            obtain ⟨th⟩ := th
            obtain ⟨xs, hl, lx, tx⟩ := th
            walk_at "rd"
            intro H4 z p4 nz lz
            have wd := wd0.pl p4
            have hl4 := p4.get hl nl
            obtain ⟨qs, sa⟩ := wd.sa
            have hp := wd.pool
            have hl2 := sa.lst
            have lq0 : 0 < qs.length := by rw [sa.ln]; exact wd.k1
            have ea : atI (qs.map V.ref) 0 = some (.ref qs[0]) := at_any (j := 0) (by omega) (by rw [List.getElem?_map, List.getElem?_eq_getElem lq0]; rfl)
            have lqn : qs.length - 1 < qs.length := by omega
            have eb : atI (qs.map V.ref) (-1) = some (.ref qs[qs.length - 1]) := at_last (by rw [List.length_map, List.getElem?_map, List.getElem?_eq_getElem lqn]; rfl)
            have lk0 : 0 < ks.length := wd.k1
            have lkn : qs.length - 1 < ks.length := by rw [← sa.ln]; exact lqn
            obtain ⟨t0, m0, et0, _⟩ := sa.at_ 0 _ _ (List.getElem?_eq_getElem lq0) (List.getElem?_eq_getElem lk0)
            obtain ⟨tn, mn, etn, _⟩ := sa.at_ (qs.length - 1) _ _ (List.getElem?_eq_getElem lqn) (List.getElem?_eq_getElem lkn)
            have n0 : Nm ks[0].n := (wd.kp.ok _ (List.getElem_mem lk0)).ok.nm
            have nn : Nm ks[qs.length - 1].n := (wd.kp.ok _ (List.getElem_mem lkn)).ok.nm
            have x1 : (Str.ofString "x").length = 1 := by decide +kernel
            have n08 := n0.2
            have nn8 := nn.2
            walk_at "rd"
            refine ⟨by rw [x1, sizeLine_eq]; omega, ?_⟩
            walk_at "rd"
            refine ⟨by rw [sizeLine_eq]; omega, ?_⟩
            walk_at "rd"
            intro N nN
            have nNp : N ≠ p := PoolAt.ne_new hp nN
            have sN : Same H4 (upd H4 N (.lst [.str z, .str (ks[0].n ++ Str.ofString "x"), .str (cutS ks[0].n none (some (-1))), .str (Txt.upper ks[qs.length - 1].n)])) := (Same.refl _).new nN
            have hN : upd H4 N (.lst [.str z, .str (ks[0].n ++ Str.ofString "x"), .str (cutS ks[0].n none (some (-1))), .str (Txt.upper ks[qs.length - 1].n)]) N = some (.lst [.str z, .str (ks[0].n ++ Str.ofString "x"), .str (cutS ks[0].n none (some (-1))), .str (Txt.upper ks[qs.length - 1].n)]) := upd_same
            generalize upd H4 N (.lst [.str z, .str (ks[0].n ++ Str.ofString "x"), .str (cutS ks[0].n none (some (-1))), .str (Txt.upper ks[qs.length - 1].n)]) = H5 at sN hN ⊢
            have hl5 := sN _ _ hl4
            walk_at "rd"
            refine ⟨by simp only [List.length_cons, List.length_nil, sizeLine_eq]; omega, ?_⟩
            intro R nR
            have nRp : R ≠ p := PoolAt.ne_new (hp.same sN) nR
            walk_at "rd"
            refine rest _ _ (.mk l1 l2 l3 a b R gs ks ks3 rfl (wd.same (sN.new nR)) nRp ⟨⟨_, upd_same, by simp only [List.length_append, List.length_cons, List.length_nil]; omega, fun x hx => ?_⟩⟩)
            rcases List.mem_append.mp hx with hx | hx
            · exact tx x hx
            · simp only [List.mem_cons, List.not_mem_nil, or_false] at hx
              rcases hx with rfl | rfl | rfl | rfl
              · exact .nm ⟨nz, lz⟩
              · exact ⟨_, rfl, asc_cat (asc_nm n0) (asc_lit (by decide +kernel)), by rw [cat_len, x1]; omega⟩
              · exact ⟨_, rfl, asc_cut (asc_nm n0) _ _, Nat.le_trans (cutS_length _ _ _) (by omega)⟩
              · exact ⟨_, rfl, (asc_up (asc_nm nn)).1, by rw [(asc_up (asc_nm nn)).2]; omega⟩
-- END
-- BEGIN
        · obtain ⟨ps, pa⟩ := wd.pa
          obtain ⟨qs, sa⟩ := wd.sa
          obtain ⟨qs3, sa3⟩ := wd.sa3
          have hp := wd.pool
          have hl1 := pa.lst
          have hl2 := sa.lst
          have hl3 := sa3.lst
          have lq : qs.length ≤ 4 := by rw [sa.ln]; exact wd.k4
          have lq3 : qs3.length ≤ 4 := by rw [sa3.ln]; exact wd.k43
          have lp : ps.length ≤ 3 := by rw [pa.ln]; exact wd.go.few
          have g3 := wd.go.few
          walk_at "rd"
          refine ⟨by simp only [List.length_map, sizeLine_eq]; omega, ?_⟩
          intro N nN
          have sN : Same H2 (upd H2 N (.lst (qs.map V.ref ++ qs3.map V.ref))) := (Same.refl _).new nN
          have hN : upd H2 N (.lst (qs.map V.ref ++ qs3.map V.ref)) N = some (.lst (qs.map V.ref ++ qs3.map V.ref)) := upd_same
          generalize upd H2 N (.lst (qs.map V.ref ++ qs3.map V.ref)) = H3 at sN hN ⊢
          have saN := sa.same sN
          have saN3 := sa3.same sN
          walk_at "rd"
          refine ⟨⟨_, SqL.of hN⟩, ?_⟩
          intro D nD
          refine lcW (wk_list (qs.map V.ref ++ qs3.map V.ref)) (fun j H' => ∃ acc : List Str, H' = upd H3 D (.lst (acc.map V.str)) ∧ acc.length ≤ j ∧ ∀ z ∈ acc, Nm z) ⟨[], rfl, Nat.le_refl _, fun _ h => by cases h⟩ (fun j H' _ e => by obtain ⟨_, rfl, _⟩ := e; exact SqL.of (upd_get nD hN)) ?_ ?_
          · rintro j x H' hx ⟨acc, rfl, la, an⟩
            have lj := (List.getElem?_eq_some_iff.mp hx).1
            simp only [List.length_append, List.length_map] at lj
            obtain ⟨y, k, tt, mm, rfl, hk, et⟩ := two_items saN saN3 hx
            have et2 := upd_get (o := .lst (acc.map V.str)) nD et
            have nk : Nm k.n := by
              rcases hk with hk | hk
              · exact (wd.kp.ok k hk).ok.nm
              · exact (wd.kp3.ok k hk).ok.nm
            walk_at "rd"
            refine ⟨by rw [List.length_map, sizeLine_eq]; omega, acc ++ [k.n], by rw [upd_upd, List.map_append]; rfl, by rw [List.length_append]; show acc.length + 1 ≤ _; omega, fun z hz => ?_⟩
            rcases List.mem_append.mp hz with hz | hz
            · exact an z hz
            · rw [List.mem_singleton.mp hz]; exact nk
          · rintro H' ⟨acc, rfl, la, an⟩
            simp only [List.length_append, List.length_map] at la
            have sD : Same H2 (upd H3 D (.lst (acc.map V.str))) := sN.new nD
            have hD : upd H3 D (.lst (acc.map V.str)) D = some (.lst (acc.map V.str)) := upd_same
            generalize upd H3 D (.lst (acc.map V.str)) = H4 at sD hD ⊢
            clear saN saN3 nD hN nN sN
            have pa4 := pa.same sD
            have hl14 := pa4.lst
            walk_at "rd"
            refine ⟨⟨_, SqL.of hl14⟩, ?_⟩
            intro D2 nD2
            have la2 : (ps.map V.ref).length = gs.length := by rw [List.length_map, pa.ln]
            refine lcW (wk_list (ps.map V.ref)) (fun j H' => H' = upd H4 D2 (.lst ((gnames (gs.take j)).map V.str))) rfl (fun j H' _ e => by rw [e]; exact SqL.of (upd_get nD2 hl14)) ?_ ?_
            · rintro j x H' hx rfl
              obtain ⟨y, g, rfl, hy, hg, et⟩ := pa4.item hx
              have et2 := upd_get (o := .lst ((gnames (gs.take j)).map V.str)) nD2 et
              have lj := (List.getElem?_eq_some_iff.mp hg).1
              walk_at "rd"
              refine ⟨by rw [List.length_map, gnames_len, List.length_take]; show _ < 16777216; omega, ?_⟩
              rw [upd_upd, gnames_snoc hg, List.map_append]
              rfl
            · rintro H' rfl
              rw [la2, List.take_of_length_le (Nat.le_refl _)]
              have sE : Same H2 (upd H4 D2 (.lst ((gnames gs).map V.str))) := sD.new nD2
              have hE : upd H4 D2 (.lst ((gnames gs).map V.str)) D2 = some (.lst ((gnames gs).map V.str)) := upd_same
              have hD5 : upd H4 D2 (.lst ((gnames gs).map V.str)) D = some (.lst (acc.map V.str)) := upd_get nD2 hD
              generalize upd H4 D2 (.lst ((gnames gs).map V.str)) = H5 at sE hE hD5 ⊢
              clear pa4 hl14 hD sD nD2
              have glen := gnames_len (gs := gs)
              walk_at "rd"
              refine ⟨by simp only [List.length_map, sizeLine_eq]; omega, ?_⟩
              intro N2 nN2
              have sF : Same H2 (upd H5 N2 (.lst (acc.map V.str ++ (gnames gs).map V.str))) := sE.new nN2
              have hF : upd H5 N2 (.lst (acc.map V.str ++ (gnames gs).map V.str)) N2 = some (.lst (acc.map V.str ++ (gnames gs).map V.str)) := upd_same
              generalize upd H5 N2 (.lst (acc.map V.str ++ (gnames gs).map V.str)) = H6 at sF hF ⊢
              clear hE hD5 sE nN2
              walk_at "rd"
              refine ⟨ks, sa.same sF, wd.k4, fun k hk => (wd.kp.ok k hk).ok, fun H7 t ls s7 ht lo => ?_⟩
              have sG := sF.trans s7
              have hG := s7 _ _ hF
              clear sF hF s7
              walk_at "rd"
              intro M nM
              have sM : Same H2 (upd H7 M (.lst (ls.map V.str))) := sG.new nM
              have hM : upd H7 M (.lst (ls.map V.str)) M = some (.lst (ls.map V.str)) := upd_same
              have hG2 : upd H7 M (.lst (ls.map V.str)) N2 = some (.lst (acc.map V.str ++ (gnames gs).map V.str)) := upd_get nM hG
              generalize upd H7 M (.lst (ls.map V.str)) = H8 at sM hM hG2 ⊢
              clear sG hG nM ht
              walk_at "rd"
              intro C nC
              obtain ⟨ls3, e3, l3', m3⟩ := cut3 ls
              rw [e3]
              have sC : Same H2 (upd H8 C (.lst (ls3.map V.str))) := sM.new nC
              have hC : upd H8 C (.lst (ls3.map V.str)) C = some (.lst (ls3.map V.str)) := upd_same
              have hG3 : upd H8 C (.lst (ls3.map V.str)) N2 = some (.lst (acc.map V.str ++ (gnames gs).map V.str)) := upd_get nC hG2
              generalize upd H8 C (.lst (ls3.map V.str)) = H9 at sC hC hG3 ⊢
              clear sM hM hG2 nC
              walk_at "rd"
              refine ⟨by simp only [List.length_append, List.length_map, sizeLine_eq]; omega, ?_⟩
              intro R nR
              have nRp : R ≠ p := PoolAt.ne_new (hp.same sC) nR
              have sR : Same H2 (upd H9 R (.lst (acc.map V.str ++ (gnames gs).map V.str ++ ls3.map V.str))) := sC.new nR
              walk_at "rd"
              refine rest _ _ (.mk l1 l2 l3 a b R gs ks ks3 rfl (wd.same sR) nRp ⟨⟨_, upd_same, by simp only [List.length_append, List.length_map]; omega, fun x hx => ?_⟩⟩)
              rw [← List.map_append, ← List.map_append] at hx
              obtain ⟨z, hz, rfl⟩ := List.mem_map.mp hx
              refine StrV.nm ?_
              rcases List.mem_append.mp hz with hz | hz
              · rcases List.mem_append.mp hz with hz | hz
                · exact an z hz
                · obtain ⟨g, hg, rfl⟩ := List.mem_map.mp hz
                  exact wd.go.nm g hg
              · obtain ⟨k, hk, hz⟩ := List.mem_flatMap.mp ((lo.me z).mp (m3 z hz))
                obtain ⟨q, hq, eq⟩ := List.mem_filterMap.mp hz
                exact ((wd.kp.ok k hk).ok.ro.ok q hq).2.1 z eq
-- END
-- BEGIN
      · walk_at "rd"
        refine ⟨gs, ks, pa, go, sa, kp, k1, k4, fun H4 a t u as bs s4 one => ?_⟩
        walk_at "rd"
        refine ⟨gs, ks3, pa.same s4, go, sa3.same s4, kp3, k13, k43, fun H5 b t2 u2 as2 bs2 s5 two => ?_⟩
        walk_at "rd"
        intro N nN
        have sN : Same H5 (upd H5 N (.tup [.ref a, .ref b])) := (Same.refl _).new nN
        have s35 := (s4.trans s5).trans sN
        walk_at "rd"
        exact rest _ _ (.mk l1 l2 l3 a b gs ks ks3 rfl ⟨(KpB.of p1.but).trans (.of s35), p1.pool.same s35, tabs1.ext s35, ⟨_, pa.same s35⟩, go, ⟨_, sa.same s35⟩, kp, k1, k4, ⟨_, sa3.same s35⟩, kp3, k13, k43, ⟨_, _, _, _, one.same (s5.trans sN)⟩, ⟨_, _, _, _, two.same sN⟩⟩)
-- END
-- BEGIN
    · walk_at "rd"
      intro H1 l1 ps gs p1 n1 nl1 pa go
      have hp1 := p1.pool
      have la : (ps.map V.ref).length = gs.length := by rw [List.length_map, pa.ln]
      have g3 := go.few
      have g1 := go.one
      have hl1 := pa.lst
      have glen := gnames_len (gs := gs)
      have tne : gnames gs ≠ [] := fun e => by rw [e] at glen; simp at glen; omega
      have tnm : ∀ z ∈ gnames gs, Nm z := fun z hz => by
        obtain ⟨g, hg, rfl⟩ := List.mem_map.mp hz
        exact go.nm g hg
      walk_at "rd"
      refine ⟨⟨_, SqL.of hl1⟩, ?_⟩
      intro D nD
      have nDp : D ≠ p := PoolAt.ne_new hp1 nD
      refine lcW (wk_list (ps.map V.ref)) (fun j H' => H' = upd H1 D (.lst ((gnames (gs.take j)).map V.str))) rfl (fun j H' _ e => by rw [e]; exact SqL.of (upd_get nD hl1)) ?_ ?_
      · rintro j x H' hx rfl
        obtain ⟨y, g, rfl, hy, hg, et⟩ := pa.item hx
        have et2 := upd_get (o := .lst ((gnames (gs.take j)).map V.str)) nD et
        have lj := (List.getElem?_eq_some_iff.mp hg).1
        walk_at "rd"
        refine ⟨by rw [List.length_map, gnames_len, List.length_take]; show _ < 16777216; omega, ?_⟩
        rw [upd_upd, gnames_snoc hg, List.map_append]
        rfl
      · rintro H' rfl
        rw [la, List.take_of_length_le (Nat.le_refl _)]
        have hpD := hp1.new (o := .lst ((gnames gs).map V.str)) nD
        have sD := (Same.refl H1).new nD (o := .lst ((gnames gs).map V.str))
        have paD := pa.same sD
        have hDD : upd H1 D (.lst ((gnames gs).map V.str)) D = some (.lst ((gnames gs).map V.str)) := upd_same
        generalize upd H1 D (.lst ((gnames gs).map V.str)) = H3 at hpD sD paD hDD ⊢
        walk_at "rd"
        refine ⟨go.nd, ?_⟩
        intro H4 l2 qs ks p4 n2 nl2 sa kp k1 k4
        have pa4 := paD.pl hpD nl1 p4
        have p14 : Pl p H1 H4 := Pl.trans ⟨But.of sD, hpD⟩ p4
        have hp4 := p4.pool
        have hl4 := pa4.lst
        clear hDD nDp nD
        walk_at "rd"
        refine ⟨⟨_, SqL.of hl4⟩, ?_⟩
        intro D nD
        have nDp : D ≠ p := PoolAt.ne_new hp4 nD
        refine lcW (wk_list (ps.map V.ref)) (fun j H' => H' = upd H4 D (.lst ((gnames (gs.take j)).map V.str))) rfl (fun j H' _ e => by rw [e]; exact SqL.of (upd_get nD hl4)) ?_ ?_
        · rintro j x H' hx rfl
          obtain ⟨y, g, rfl, hy, hg, et⟩ := pa4.item hx
          have et2 := upd_get (o := .lst ((gnames (gs.take j)).map V.str)) nD et
          have lj := (List.getElem?_eq_some_iff.mp hg).1
          walk_at "rd"
          refine ⟨by rw [List.length_map, gnames_len, List.length_take]; show _ < 16777216; omega, ?_⟩
          rw [upd_upd, gnames_snoc hg, List.map_append]
          rfl
        · rintro H' rfl
          rw [la, List.take_of_length_le (Nat.le_refl _)]
          have hpE := hp4.new (o := .lst ((gnames gs).map V.str)) nD
          have sE := (Same.refl H4).new nD (o := .lst ((gnames gs).map V.str))
          have paE := pa4.same sE
          have hEE : upd H4 D (.lst ((gnames gs).map V.str)) D = some (.lst ((gnames gs).map V.str)) := upd_same
          generalize upd H4 D (.lst ((gnames gs).map V.str)) = H5 at hpE sE paE hEE ⊢
          have saE := sa.same sE
          walk_at "rd"
          refine ⟨go.nd, ?_⟩
          intro H6 l3 qs3 ks3 p6 n3 nl3 sa3 kp3 k13 k43
          have pa6 := paE.pl hpE nl1 p6
          have sa6 := saE.pl hpE nl2 p6
          have p46 : Pl p H4 H6 := Pl.trans ⟨But.of sE, hpE⟩ p6
          have pp := (p1.trans p14).trans p46
          walk_at "rd"
          exact rest _ _ (.mk l1 l2 l3 ps qs qs3 gs ks ks3 rfl pp (tabs_pl tabs hp pp) pa6 go sa6 kp k1 k4 sa3 kp3 k13 k43)
-- END
end
end G
namespace G
open PySem PySem.Spec PyProof.Rows L2
theorem tabs_own {T : List (Addr × Str)} {H : Hp} {D : Addr} {xs ys : List V} (t : LamX.Tabs T H) (e : H D = some (.lst xs)) : LamX.Tabs T (upd H D (.lst ys)) := by
  intro q hq
  obtain ⟨ps, h1, h2, h3⟩ := t q hq
  refine ⟨ps, ?_, h2, fun pos cv hc => ?_⟩
  · rw [upd_ne (ne_of h1 e (by intro e; cases e))]
    exact h1
  · obtain ⟨c, e1, e2⟩ := h3 pos cv hc
    refine ⟨c, e1, ?_⟩
    rw [upd_ne (ne_of e2 e (by intro e; cases e))]
    exact e2
theorem tabs_nil {T : List (Addr × Str)} {H : Hp} (h : ∀ p ∈ T, H p.1 = some (.tbl #[])) : LamX.Tabs T H :=
  fun p hp => ⟨#[], h p hp, trivial, fun pos cv hc => by cases hc⟩
theorem sqL_ext {K : PySem.W.Frag} {H H' : Hp} {a : Addr} {xs : List V} (h : SqL K H a xs) (s : Kp H H') : SqL K H' a xs := by
  rcases h with (h | ⟨o, h⟩) | h
  · exact .inl (.inl (s _ _ h rfl))
  · exact .inl (.inr ⟨o, s _ _ h rfl⟩)
  · exact .inr h
theorem kp_cell {H H1 H2 H3 : Hp} {p D : Addr} {ys : List V} (k : Kp H H1) (n : H1 p = none) (s : Same H1 H2) (b : KpB p H2 H3) (nD : H D = none) : Kp H (upd H3 D (.lst ys)) := fun c o e t => by
  have e1 := k c o e t
  rw [upd_ne (ne_of_none e nD)]
  exact b c o (ne_of_none e1 n) (s _ _ e1) t
section
variable {P : Program} {w : World} {K : PySem.W.Frag} {mg : Str → Option Value} {base : Heap} {CX : CXT}
theorem c_right (T : Tx K mg) (hsm : (base.get? sysModules).isSome = true) (TB : LamX.TabB base mg (codeA K "_law_asked") (tabA K "_law_asked"))
    (code : ∀ oc od fd osl, K.lookup (He.ga K "_law_asked") = some ⟨oc, od, .func fd, osl⟩ → fd.code = .ref (codeA K "_law_asked")) : Cal P w K mg base CX0 11 "_law_right" [] (spRight K) := by
  obtain ⟨fd, F⟩ := T.d__law_right
  exact .mk F (ok_right T hsm TB code F) T.n__law_right fun _ _ _ _ _ _ us hl => match us, hl with | [_], _ => rfl
def spLaw (K : PySem.W.Frag) : Sp := fun vs H Q _ => ∃ (a : Addr) (ns : List Int), vs = [.ref a] ∧ SqL K H a (ns.map V.int) ∧ ns.length ≤ 63 ∧ LamX.Tabs (tabsA K) H ∧ ∀ H', Q (.bl true) H'
theorem ok_law {f : Addr} {fd : FuncData} {dvs : List V} {kws : List (Str × V)} (T : Tx K mg) (hsm : (base.get? sysModules).isSome = true) (TB : LamX.TabB base mg (codeA K "_law_asked") (tabA K "_law_asked"))
    (code : ∀ oc od fd osl, K.lookup (He.ga K "_law_asked") = some ⟨oc, od, .func fd, osl⟩ → fd.code = .ref (codeA K "_law_asked"))
    (F : FunD K "law" "law" (defArgs s_law) (defBody s_law) (defScope s_law) dvs kws f fd) :
    FnG P w K mg base CX0 12 f fd ["_law_script"] (spLaw K) := by
  have c__law_right : Cal P w K mg base CX0 11 "_law_right" [] (spRight K) := c_right T hsm TB code
  have c__law_pool : Cal P w K mg base CX0 1 "_law_pool" [] (spPool K) := c_pool T
  refine okG F sc_law (fun vs H Q E h => ?_) (fun cdv A outer s H vs Q E hr hgd h => ?_)
  · obtain ⟨a, ns, rfl, _⟩ := h
    rfl
  · obtain ⟨a, ns, rfl, ha, hl, tabs, q⟩ := h
    have hu := hr.units
    refine ⟨_, PSs.nox (pss_one (ps_ret (pe_callB (cr_all rfl) rfl T.f_all (by decide +kernel) (pa_cons (pe_lc (own := [("_law_k", 1)]) (g := gName 1) (tt := tYes) rfl sc_law.nd (pi_range1 rfl T.f_range (pa_cons (pe_callB (call_max2 rfl) rfl T.f_max (by decide +kernel) (pa_cons pe_int (pa_cons (pe_callB (call_min2 rfl) rfl T.f_min (by decide +kernel) (pa_cons (pe_callB call_len_seq rfl T.f_len (by decide +kernel) (pa_cons (pv 0) pa_nil)) (pa_cons pe_int pa_nil))) pa_nil))) pa_nil)) (blkOk_by (own := [("_law_k", 1)]) (N := n_law) (sc := defScope s_law) (by decide +kernel)) (fun _ _ _ _ _ => (pg_name (i := 1) sc_law.nd rfl (Or.inl rfl))) (fun _ _ _ _ _ => pts_nil) (fun _ _ _ _ _ => (pe_cal c__law_right (hr.mono (by decide)) hgd pass0 (pa_cons (pe_cal c__law_pool (hr.mono (by decide)) hgd pass0 (pa_cons (pv 0) (pa_cons (pv 1) pa_nil))) pa_nil)))) pa_nil)))), ?_⟩
    walk_at "rd"
    intro D nD
    refine lcW (wk_range 0 _) (fun j H' => Kp H H' ∧ LamX.Tabs (tabsA K) H' ∧ H' D = some (.lst (List.replicate j (.bl true)))) ⟨.of (by walk_at "g but"), tabs.ext (by walk_at "g but"), upd_same⟩ (fun _ _ _ _ => trivial) ?_ ?_
    · rintro i x H1 hx ⟨s1, t1, hD⟩
      obtain ⟨rfl, hi⟩ := rng_at hx
      have hk : i < 8 := by omega
      have ha1 : SqL K H1 a (ns.map V.int) := sqL_ext ha s1
      walk_at "rd"
      refine ⟨ns, _, rfl, ha1, hl, by omega, by omega, fun H2 p s2 np hp => ?_⟩
      have t2 : LamX.Tabs (tabsA K) H2 := t1.ext s2
      walk_at "rd"
      intro H3 k3 t3
      have hD2 := s2 _ _ hD
      have nDp : D ≠ p := ne_of_none hD np
      have hD3 := k3 _ _ nDp hD2 rfl
      refine ⟨_, hD3, by rw [List.length_replicate]; show i < 16777216; omega, ?_, ?_, ?_⟩
      · exact kp_cell s1 np s2 k3 nD
      · exact tabs_own t3 hD3
      · rw [upd_same, List.replicate_succ']
    · rintro H3 ⟨s3, t3, hD⟩
      refine ⟨D, List.replicate _ true, rfl, SqL.of (by rw [hD, List.map_replicate]), ?_⟩
      walk_at "rd"
      exact ret_eq (q _) (by simp)
end
/-- what the head tells is enough -/
theorem factsS {w : World} {K : PySem.W.Frag} {h : Heap} {mg : Str → Option Value} {f : Addr} (X : K.In h) (Gl : h.Ns mainGlobals mg) (own : mg ("law" : Str) = some (.ref f)) (c : SaysG fa fn gets exs K) (t : ∀ y ∈ tbs, TabK K h y) : LawF w mg f h K := by
  have T := tx_of X Gl c
  obtain ⟨fd, F⟩ := T.d_law
  obtain rfl : f = He.ga K "law" := Value.ref.inj (Option.some.inj (own.symm.trans T.n_law))
  have b := FunD.bindsA (ps := ["_law_script"]) F fun _ _ _ _ _ _ us hl => match us, hl with | [_], _ => rfl
  have m : ("_law_asked" : Str) ∈ tbs := by decide +kernel
  exact ⟨fd, spLaw K, fun s v => b s [v] rfl, fun H a ns hl tb hS => ⟨a, ns, rfl, hS, hl, tabs_nil fun p hp => by
    rw [List.mem_singleton.mp hp]
    exact tb _ m, fun _ => rfl⟩, fun base _ _ tb sm => ok_law T sm (tb _ m) (t _ m).fn F⟩
end G
theorem PySem.Challenge.cw_gatecrowds_k12_kinds_asked_for_holds : PySem.Challenge.rw_gatecrowds_k12_kinds_asked_for.Holds :=
  G.kread_of fun _ _ _ _ _ kin Gl own c t => G.factsS kin Gl own c t
