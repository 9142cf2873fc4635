import PyProof.Rows.All
import Wide.All
import OpenK.AllK
import Wide.FinOn
import KE.KStateDown
import Lean
import HandS.Base
import HandS.Call
import HandS.List
import HandS.Comp
import HandS.Ends
import HandS.Dict
import HandS.Iter
import HandS.Text
import HandS.More
import HandS.Words
import HandS.WordsList
import HandS.WordsDict
import HandS.Exc
import HandS.WordsExc
import HandS.Defaults
import HandS.IsInst
import HandS.Property
import HandS.MakeKw
import HandS.MakeKwOnly
import HandS.Flow
import HandS.Style
import HandS.Head0
import HandS.Head1
import HandS.Head2
import HandS.HeadEnd
import HandS.HeadHook1
import HandS.HeadHook2
import HandS.HeadHook3
import HandS.HeadHook4
import KE.GoesEnum
import HandS.NoneIn
import HandS.TupAny
import HandS.SetBool
import HandS.SetTxt0
import HandS.Strs
import PyProof.Rows.SortStr
import KE.KCallOwn
import HandS.ClsMeth
import KE.KTryMore
import KE.KExcInit
import HandS.ExcInit
import HandS.ExcIs
import HandS.ExcField
import HandS.ExcOwn
import HandS.ExcValue
import HandS.Deep
import PySem.Challenge.RW_gatecrowds_k01_constants_and_errors
import HandS.Conv
set_option Elab.async false
set_option linter.all false
set_option maxRecDepth 100000
set_option maxHeartbeats 4000000
/-! own rules, ahead of all laws -/
namespace G
open PySem PySem.Spec PyProof.Rows L2

/-! ### names of the module -/
theorem pe_gl {X : Cx} {x : Str} {pos : Pos} {v : V} (h : ∃ u, X.mg x = some u ∧ RelV v u) (hg : Gl X x := by rfl)
    (hd : (x == ("__debug__" : Str)) = false := by decide) : PE X (.Name x pos) (tC v) := by
  obtain ⟨u, hm, r⟩ := h
  exact pe_glob hg hm r hd

/-! ### promises that ask that no guard runs -/
structure FnG (P : Program) (w : World) (K : PySem.W.Frag) (mg : Str → Option Value) (base : Heap) (CX : CXT)
    (k : Nat) (f : Addr) (fd : FuncData) (ps : List Str) (sp : Sp) : Prop where
  len : ∀ vs H Q E, sp vs H Q E → vs.length = ps.length
  run : ∀ (A : Around) (outer : List Env) (s : Shared) (H : Hp) (args : Args) (us : List Value) (vs : List V)
    (Q : VK) (E : XK), Room k A → A.guards = some [] → Env0 P w K mg base A outer s H →
    BindsTo s fd args (ps.zip us) → Vals vs us → sp vs H Q E →
    codeAny (model P w) A (.call (.ref f) args) (CR CX outer P w H s Q E) s

section
variable {P : Program} {w : World} {K : PySem.W.Frag} {mg : Str → Option Value} {base : Heap}
variable {CX : CXT} {k : Nat} {f : Addr} {fd : FuncData} {ps : List Str} {sp : Sp}
theorem FnG.of (F : FnOk P w K mg base CX k f fd ps sp) : FnG P w K mg base CX k f fd ps sp :=
  ⟨F.len, fun A o s H args us vs Q E hr _ => F.run A o s H args us vs Q E hr⟩
theorem FnG.mono {j : Nat} (F : FnG P w K mg base CX j f fd ps sp) (h : j ≤ k) : FnG P w K mg base CX k f fd ps sp :=
  ⟨F.len, fun A o s H args us vs Q E hr => F.run A o s H args us vs Q E (hr.mono h)⟩

/-- a def by its body, the body's reading under the knowledge that no guard runs -/
theorem fng_of {name qual : Str} {params : Arguments} {body : List Stmt} {scope : Scope} {dV kV doc pm cdv ct oc : Value}
    {an od : Option Addr} {osl : Array (Option Value)} {N : List Str}
    (lk : K.lookup f = some ⟨oc, od, .func (PySem.W.fnOf name qual params body scope dV kV doc pm an cdv ct), osl⟩)
    (hcd : PySem.W.codeIn K cdv qual = true) (S : FnScope N ps scope)
    (len : ∀ vs H Q E, sp vs H Q E → vs.length = ps.length)
    (hbody : ∀ (A : Around) (outer : List Env) (s : Shared) (H : Hp) (vs : List V) (Q : VK) (E : XK),
      Room k (A.deeper (envOfC qual scope s.heap.objs.size f cdv)) → A.guards = some [] → sp vs H Q E →
      ∃ t, PSs (cxOf CX P w K mg base N qual scope f cdv A outer s H E) body t ∧
        t { nx := fun _ H' => Q .non H', rt := Q } (start N vs) H) :
    FnG P w K mg base CX (k + 1) f (PySem.W.fnOf name qual params body scope dV kV doc pm an cdv ct) ps sp := by
  refine ⟨len, ?_⟩
  intro A outer s H args us vs Q E hr hgd e0 hb r hsp
  have hl := len _ _ _ _ hsp
  have st := fun b o e => (e0.bs b o e).1
  have kin : K.In s.heap := e0.mod.kin.keeps st
  have hlim : s.heap.NoLimit := e0.mod.nolimit.keeps st
  have kinds : ∀ y ∈ ps.zip us, scope.names.lookup y.1 = some .local ∨
      (scope.names.lookup y.1 = some .cell ∧ ((cellsFrom (s.heap.objs.size + 1) scope.names []).lookup y.1).isSome = true) := by
    rintro ⟨n, v⟩ hy
    have hp := S.par n (List.of_mem_zip hy).1
    exact hp.imp id fun q => ⟨q, PySem.W.cellsFrom_some _ _ _ (.inl q)⟩
  refine codeAny_call_function hr.depth (kin _ _ lk) rfl S.co S.gen rfl
    (PySem.W.codeRec_of kin hcd) (hb _ _ _ _ ?_)
  refine wpAny_newFunctionEnv_cells S.kind kinds ?_
  rintro env rfl s1 x
  refine ⟨hlim.keeps x.toInCall.keep, codeAny_func ?_⟩
  obtain ⟨t, ht, hq⟩ := hbody A outer s H vs Q E (hr.deeper _) hgd hsp
  have I0 := inv_start (CX := CX) (E := E) S hr.hd e0 hl r x
  refine wpAny_mono (ht.run [] s1 (start N vs) H _ I0 hq) ?_ (fun e s' hs => hs)
  intro fl s' hs
  cases fl with
  | brk => exact (hs.choose_spec.choose_spec.2).elim
  | cont => exact (hs.choose_spec.choose_spec.2).elim
  | ret u =>
    obtain ⟨v, σ', H', J, rv, q⟩ := hs
    exact ⟨v, H', J.os, J.bare, J.base, J.hok, rv, q⟩
  | next =>
    obtain ⟨σ', H', J, q⟩ := hs
    exact ⟨V.non, H', J.os, J.bare, J.base, J.hok, rfl, q⟩
end

/-- the same of a def as the head tells it -/
theorem okG {P : Program} {w : World} {K : PySem.W.Frag} {mg : Str → Option Value} {base : Heap} {CX : CXT} {k : Nat} {f : Addr}
    {fd : FuncData} {x qual : Str} {params : Arguments} {body : List Stmt} {scope : Scope} {dvs : List V} {kws : List (Str × V)}
    {N ps : List Str} {sp : Sp} (F : FunD K x qual params body scope dvs kws f fd) (S : FnScope N ps scope)
    (len : ∀ vs H Q E, sp vs H Q E → vs.length = ps.length)
    (hbody : ∀ (cdv : Value) (A : Around) (outer : List Env) (s : Shared) (H : Hp) (vs : List V) (Q : VK) (E : XK),
      Room k (A.deeper (envOfC qual scope s.heap.objs.size f cdv)) → A.guards = some [] → sp vs H Q E →
      ∃ t, PSs (cxOf CX P w K mg base N qual scope f cdv A outer s H E) body t ∧
        t { nx := fun _ H' => Q .non H', rt := Q } (start N vs) H) : FnG P w K mg base CX (k + 1) f fd ps sp := by
  obtain ⟨oc, od, dV, kV, doc, pm, an, cdv, ct, osl, rfl, lk, hcd, _, _⟩ := F.ex
  exact fng_of lk hcd S len fun A outer s H vs Q E hr hg hsp => hbody cdv A outer s H vs Q E hr hg hsp

/-! ### a call by name: all that it wants in one -/
/-- the module's name x is a def that keeps sp; dvs fill up behind the written arguments -/
def Cal (P : Program) (w : World) (K : PySem.W.Frag) (mg : Str → Option Value) (base : Heap) (CX : CXT) (k : Nat) (x : Str)
    (dvs : List V) (sp : Sp) : Prop :=
  ∃ f fd ps ds, FnG P w K mg base CX k f fd ps sp ∧ mg x = some (.ref f) ∧ PySem.W.keepIn K (.ref f) = true ∧
    Binds K fd ps ds ∧ Vals dvs ds
theorem Cal.mono {P : Program} {w : World} {K : PySem.W.Frag} {mg : Str → Option Value} {base : Heap} {CX : CXT} {j k : Nat} {x : Str}
    {dvs : List V} {sp : Sp} (C : Cal P w K mg base CX j x dvs sp) (h : j ≤ k) : Cal P w K mg base CX k x dvs sp := by
  obtain ⟨f, fd, ps, ds, F, r⟩ := C
  exact ⟨f, fd, ps, ds, F.mono h, r⟩

/-- the same without a word of guards -/
def CalO (P : Program) (w : World) (K : PySem.W.Frag) (mg : Str → Option Value) (base : Heap) (CX : CXT) (k : Nat) (x : Str)
    (dvs : List V) (sp : Sp) : Prop :=
  ∃ f fd ps ds, FnOk P w K mg base CX k f fd ps sp ∧ mg x = some (.ref f) ∧ PySem.W.keepIn K (.ref f) = true ∧
    Binds K fd ps ds ∧ Vals dvs ds
theorem CalO.cal {P : Program} {w : World} {K : PySem.W.Frag} {mg : Str → Option Value} {base : Heap} {CX : CXT} {k : Nat} {x : Str}
    {dvs : List V} {sp : Sp} (C : CalO P w K mg base CX k x dvs sp) : Cal P w K mg base CX k x dvs sp := by
  obtain ⟨f, fd, ps, ds, F, r⟩ := C
  exact ⟨f, fd, ps, ds, .of F, r⟩
/-- a def without defaults, called with all its arguments -/
theorem CalO.mk {P : Program} {w : World} {K : PySem.W.Frag} {mg : Str → Option Value} {base : Heap} {CX : CXT} {k : Nat} {x qual : Str} {f : Addr} {fd : FuncData}
    {params : Arguments} {body : List Stmt} {scope : Scope} {ps : List Str} {sp : Sp} (F : FunD K x qual params body scope [] [] f fd)
    (ok : FnOk P w K mg base CX k f fd ps sp) (hm : mg x = some (.ref f))
    (h : ∀ (kV doc pm : Value) (an : Option Addr) (cdv ct : Value) (us : List Value), us.length = ps.length → bindArgs (PySem.W.fnOf x qual params body scope .none kV doc pm an cdv ct) ⟨us, []⟩ = pure (ps.zip us)) :
    CalO P w K mg base CX k x [] sp := ⟨f, fd, ps, [], ok, hm, F.kp, F.bindsN h, .nil⟩
theorem Cal.mk {P : Program} {w : World} {K : PySem.W.Frag} {mg : Str → Option Value} {base : Heap} {CX : CXT} {k : Nat} {x qual : Str} {f : Addr} {fd : FuncData}
    {params : Arguments} {body : List Stmt} {scope : Scope} {ps : List Str} {sp : Sp} (F : FunD K x qual params body scope [] [] f fd)
    (ok : FnG P w K mg base CX k f fd ps sp) (hm : mg x = some (.ref f))
    (h : ∀ (kV doc pm : Value) (an : Option Addr) (cdv ct : Value) (us : List Value), us.length = ps.length → bindArgs (PySem.W.fnOf x qual params body scope .none kV doc pm an cdv ct) ⟨us, []⟩ = pure (ps.zip us)) :
    Cal P w K mg base CX k x [] sp := ⟨f, fd, ps, [], ok, hm, F.kp, F.bindsN h, .nil⟩

section
variable {X : Cx} {CX : CXT} {k : Nat} {f : Addr} {fd : FuncData} {ps : List Str} {sp : Sp} {dvs : List V} {ds : List Value}
variable {E : XK} {x : Str} {p pos : Pos} {e : Expr} {es : List Expr} {t : TA}
theorem run_fng {pins : List (Addr × Obj)} {σ : L2.St} {H : Hp} {s : Shared} {Q : VK} {us : List Value} {vs : List V}
    (F : FnG X.prog X.w X.K X.mg X.base CX k f fd ps sp) (hr : Room k X.A) (hgd : X.A.guards = some [])
    (hb : Binds X.K fd ps ds) (hd : Vals dvs ds) (hx : Passes CX X E)
    (I : Inv X pins σ H s) (r : Vals vs us) (h : sp (vs ++ dvs) H Q E) :
    wpAny (model X.prog X.w) X.A (call (.ref f) us) (EP X pins σ Q) X.xe s := by
  have r2 := r.append hd
  have hl := (r2.length.symm.trans (F.len _ _ _ _ h))
  have go := F.run X.A X.stack s H ⟨us, []⟩ (us ++ ds) (vs ++ dvs) Q E hr hgd I.env0 (hb s us I.kIn hl) r2 h
  refine wpAny_call (codeAny_mono go ?_)
  intro r s' hq
  match r, hq with
  | .error e, hq => exact hx pins σ H s e s' I hq
  | .ok (.ret u), hq => exact I.after hq
  | .ok .next, hq => exact hq.elim
  | .ok .brk, hq => exact hq.elim
  | .ok .cont, hq => exact hq.elim
/-- f(e, ..) -/
theorem pe_cal (C : Cal X.prog X.w X.K X.mg X.base CX k x dvs sp) (hr : Room k X.A) (hgd : X.A.guards = some []) (hx : Passes CX X E)
    (ha : PA X (e :: es) t) (hg : Gl X x := by rfl) (hdb : (x == ("__debug__" : Str)) = false := by decide)
    (he : starEach (e :: es) X.env = (false, eval e X.env) :: starEach es X.env := by rfl)
    (hpl : (backTo pos (starEach es X.env)).any (·.1) = false := by rfl) :
    PE X (.Call (.Name x p) (e :: es) [] pos) (tCall sp dvs E t) := by
  obtain ⟨f, fd, ps, ds, F, hm, hk, hb, hd⟩ := C
  refine ⟨?_⟩
  intro pins s σ H Q I h
  refine wpAny_Call_Name_kw (ld_glob I hg hm ?_ hdb)
  refine PySem.W.callWith_K (h₀ := X.base) I.ok.mod.kin hk ?_ he hpl
  refine thn (ha.run pos pins s σ H _ I h) ?_
  rintro us s1 ⟨vs, H1, I1, r, q⟩
  exact ⟨I1.kIn, run_fng F hr hgd hb hd hx I1 r q⟩
theorem pe_calO (C : CalO X.prog X.w X.K X.mg X.base CX k x dvs sp) (hr : Room k X.A) (hx : Passes CX X E)
    (ha : PA X (e :: es) t) (hg : Gl X x := by rfl) (hdb : (x == ("__debug__" : Str)) = false := by decide)
    (he : starEach (e :: es) X.env = (false, eval e X.env) :: starEach es X.env := by rfl)
    (hpl : (backTo pos (starEach es X.env)).any (·.1) = false := by rfl) :
    PE X (.Call (.Name x p) (e :: es) [] pos) (tCall sp dvs E t) := by
  obtain ⟨f, fd, ps, ds, F, hm, hk, hb, hd⟩ := C
  exact pe_call F hr hg hm hk hb hd hx ha hdb he hpl
/-- f() -/
theorem pe_cal0 (C : Cal X.prog X.w X.K X.mg X.base CX k x dvs sp) (hr : Room k X.A) (hgd : X.A.guards = some []) (hx : Passes CX X E)
    (hg : Gl X x := by rfl) (hdb : (x == ("__debug__" : Str)) = false := by decide) :
    PE X (.Call (.Name x p) [] [] pos) (tCall sp dvs E tNil) := by
  obtain ⟨f, fd, ps, ds, F, hm, hk, hb, hd⟩ := C
  refine ⟨?_⟩
  intro pins s σ H Q I h
  refine wpAny_Call_Name_kw (ld_glob I hg hm ?_ hdb)
  exact PySem.W.callWith_K0 I.kIn hk (run_fng (us := []) F hr hgd hb hd hx I .nil h)
end

/-! ### repr of data -/
def rRepr (K : PySem.W.Frag) : List V → Hp → VK → Prop := fun xs H Q => ∃ (x : V) (d : PyData), xs = [x] ∧ Dp K H x d ∧
  d.showable = true ∧ d.hasDict = false ∧ d.depth ≤ 60 ∧ d.shown.length ≤ sizeLine ∧ Q (.str d.shown) H
theorem call_repr {X : Cx} (hgd : X.A.guards = some []) (hu : X.A.units + 64 < cLine) : CallR X (.builtin "repr") (rRepr X.K) := by
  intro pins s σ H xs us Q I r h
  obtain ⟨x, d, rfl, hd, hs, hn, hdp, hz, q⟩ := h
  obtain ⟨u, rfl, rx⟩ := vals1 r
  obtain ⟨as, rd⟩ := Dp.reads I d x u hd rx
  have hsm := PyData.noDict_hsm (as := as) hn
  cases rx' : x with
  | ref a =>
    subst rx'
    obtain rfl : u = Value.ref a := rx
    exact repr_of_reads' rd hs hsm hgd (by omega) (fun _ _ e => e)
      (fun h' t tk hk => ⟨.str d.shown, H, I.kept hk, ⟨_, rfl⟩, q⟩) hz
  | non => subst rx'; cases hd; cases rx; exact PySem.P.repr_of_none ⟨.str _, H, I.tok _, ⟨_, rfl⟩, q⟩
  | bl b => subst rx'; cases hd; cases rx; exact PySem.P.repr_of_bool ⟨.str _, H, I.tok _, ⟨_, rfl⟩, by simpa only [PyData.shown] using q⟩
  | int i =>
    subst rx'; cases hd; obtain ⟨t, rfl⟩ := rx
    exact PySem.P.repr_of_int (by simpa only [PyData.showable, decide_eq_true_eq] using hs) ⟨.str _, H, I.tok _, ⟨_, rfl⟩, by simpa only [PyData.shown] using q⟩
  | str z =>
    subst rx'; cases hd; obtain ⟨t, rfl⟩ := rx
    exact PySem.P.repr_of_str ⟨.str _, H, I.tok _, ⟨_, rfl⟩, by simpa only [PyData.shown] using q⟩ (by simpa only [PyData.shown] using hz)
  | byt b => subst rx'; cases hd
  | flt b => subst rx'; cases hd
  | ty n => subst rx'; cases hd
end G
/-! own rules, second part: instances compared, their truth, attributes as targets, constructors and properties in one -/
namespace G
open PySem PySem.Spec PyProof.Rows L2

/-! ### type of a value, for == -/
theorem type_of {X : Cx} {pins : List (Addr × Obj)} {σ : L2.St} {H : Hp} {s : Shared} {x : V} {u t : Value} {M : Model}
    (I : Inv X pins σ H s) (rx : RelV x u) (ty : TyOf X.K H x t) : PySem.W.Looks M s.heap (typeOf u) t := by
  cases ty with
  | non => cases rx; exact .of_pure rfl
  | bl y => cases rx; exact .of_pure rfl
  | int i => obtain ⟨t, rfl⟩ := rx; exact .of_pure rfl
  | str y => obtain ⟨t, rfl⟩ := rx; exact .of_pure rfl
  | flt y => obtain ⟨t, rfl⟩ := rx; exact .of_pure rfl
  | @lst a xs ea =>
    cases (show u = Value.ref a from rx)
    obtain ⟨_, _, n, _, h1⟩ := (show ObjOk X.prog X.w H s.heap a (.lst xs) from I.hok a _ ea)
    exact (PySem.W.Looks.ld h1).andThen .now
  | @frz a ob xs ea =>
    cases (show u = Value.ref a from rx)
    obtain ⟨_, _, _, n, _, h1⟩ := (show ObjOk X.prog X.w H s.heap a (.frz ob (.lst xs)) from I.hok a _ ea)
    exact (PySem.W.Looks.ld h1).andThen .now
  | @tup a xs ea =>
    cases (show u = Value.ref a from rx)
    obtain ⟨_, _, _, o, h1, h2, _⟩ := (show ObjOk X.prog X.w H s.heap a (.tup xs) from I.hok a _ ea)
    rw [← h2]; exact (PySem.W.Looks.ld h1).andThen .now
  | @dK a kvs ea =>
    cases (show u = Value.ref a from rx)
    obtain ⟨_, _, vs, _, o, es, ep, h1, h2, _⟩ := (show ObjOk X.prog X.w H s.heap a (.dK kvs) from I.hok a _ ea)
    rw [← h2.1]; exact (PySem.W.Looks.ld h1).andThen .now
  | @dT a kvs ea =>
    cases (show u = Value.ref a from rx)
    obtain ⟨_, _, xs, _, o, es, ep, h1, h2, _⟩ := (show ObjOk X.prog X.w H s.heap a (.dT kvs) from I.hok a _ ea)
    rw [← h2.1]; exact (PySem.W.Looks.ld h1).andThen .now
  | @ins a C dx fs ea cl ha hn htk hm =>
    cases (show u = Value.ref a from rx)
    obtain ⟨mA, O, _⟩ := ins_get I.hok ea
    obtain ⟨od, J, _⟩ := O.look
    exact J.type

/-! ### == and != of an instance of a class with its own __eq__ -/
/-- what the class at C wants of its comparison -/
structure EqC (K : PySem.W.Frag) (C f : Addr) : Prop where
  eq : PySem.W.findIn K (.ref C) "__eq__" = some (some (.ref f))
  fn : PySem.W.isFn K (.ref f) = true
  ne : PySem.W.findIn K (.ref C) "__ne__" = some (some (.builtin "object.__ne__"))
  ob : PySem.W.mroIn K C (.type "object") = some true
def rOwnEq (K : PySem.W.Frag) (C : Addr) (sp : Sp) (E : XK) (g : Bool → Bool) : R2 := fun x y H Q => ∃ (a dx : Addr) (fs : List (Str × V)) (t : Value),
  x = .ref a ∧ H a = some (.ins C dx fs) ∧ TyOf K H y t ∧ PySem.W.notFirst K C t = true ∧
  sp [x, y] H (fun v H' => ∃ b, v = .bl b ∧ Q (.bl (g b)) H') E
section
variable {X : Cx} {CX : CXT} {k : Nat} {C f : Addr} {fd : FuncData} {ps : List Str} {sp : Sp} {E : XK}
theorem eq_call {pins : List (Addr × Obj)} {σ : L2.St} {H : Hp} {s : Shared} {A : Around} {x y : V} {v u : Value} {Q : VK} (I : Inv X pins σ H s)
    (Fn : FnOk X.prog X.w X.K X.mg X.base CX k f fd ps sp) (hr : Room k A) (hA : A.frames = some X.stack) (hb : Binds X.K fd ps [])
    (hx : Passes CX X.nox E) (rx : RelV x v) (ry : RelV y u) (h : sp [x, y] H Q E) {E' : Value → Shared → Prop} :
    wpAny (model X.prog X.w) A (call (.ref f) [v, u]) (EP X pins σ Q) E' s := by
  have hl : [v, u].length = ps.length := Fn.len _ _ _ _ h
  have e0 := I.env0
  have e1 : Env0 X.prog X.w X.K X.mg X.base A X.stack s H := ⟨hA, e0.mod, e0.bs, e0.bsz, e0.funs, e0.frf, e0.hok, e0.bare⟩
  have bt := hb s [v, u] I.kIn (by simpa using hl)
  refine wpAny_call (codeAny_mono (Fn.run A X.stack s H ⟨[v, u], []⟩ [v, u] [x, y] Q E hr e1 (by simpa using bt) (.cons rx (.cons ry .nil)) h) ?_)
  intro r s' hq
  match r, hq with
  | .error e, hq => exact (hx pins σ H s e s' (I.wish _) hq).elim
  | .ok (.ret u), hq => exact I.after hq
  | .ok .next, hq => exact hq.elim
  | .ok .brk, hq => exact hq.elim
  | .ok .cont, hq => exact hq.elim
theorem op_eqO (e : EqC X.K C f) (Fn : FnOk X.prog X.w X.K X.mg X.base CX k f fd ps sp) (hr : Room k X.A) (hb : Binds X.K fd ps [])
    (hx : Passes CX X.nox E) : OpR X (compareOp .Eq) (rOwnEq X.K C sp E fun b => b) := by
  intro pins s σ H x y v u Q I rx ry h
  obtain ⟨a, dx, fs, t, rfl, ha, ty, hn, hs⟩ := h
  obtain rfl : v = Value.ref a := rx
  obtain ⟨mA, J, _⟩ := ins_get I.hok ha
  obtain ⟨od, J, _⟩ := J.look
  obtain ⟨m, hF⟩ := I.fr
  show wpAny (model X.prog X.w) X.A (richCompare .Eq (.ref a) u) (EP X pins σ Q) X.xe s
  refine PySem.W.cmp_K (op := .Eq) (tb := t) hr.units0 hF I.ok.mod.kin J (type_of I ry ty) hn e.eq e.fn ?_
  refine wpAny_mono (eq_call (x := V.ref a) (E' := X.xe) I Fn hr I.ok.frames hb hx rfl ry hs) ?_ fun _ _ z => z
  rintro r s' ⟨z, H', I', rz, b, rfl, q⟩
  cases rz
  exact ⟨.bl b, H', I', rfl, q⟩
theorem op_neO (e : EqC X.K C f) (Fn : FnOk X.prog X.w X.K X.mg X.base CX k f fd ps sp) (hr : Room (k + 1) X.A) (hb : Binds X.K fd ps [])
    (hx : Passes CX X.nox E) : OpR X (compareOp .NotEq) (rOwnEq X.K C sp E fun b => !b) := by
  intro pins s σ H x y v u Q I rx ry h
  obtain ⟨a, dx, fs, t, rfl, ha, ty, hn, hs⟩ := h
  obtain rfl : v = Value.ref a := rx
  obtain ⟨mA, J, _⟩ := ins_get I.hok ha
  obtain ⟨od, J, _⟩ := J.look
  have kin := I.kIn
  have un := hr.units
  have one : wpAny (model X.prog X.w) X.A (tryCompare (.ref a) "__ne__" u) (fun r s' => ∃ v, r = some v ∧ EP X pins σ Q v s') X.xe s := by
    have inner : wpAny (model X.prog X.w) X.A.in1 (call (.ref f) [.ref a, u]) (EP X pins σ fun v H' => ∃ b, v = .bl b ∧ Q (.bl (!b)) H') X.xe s :=
      eq_call (x := V.ref a) I Fn hr.in1 (by simpa using I.ok.frames) hb hx rfl ry hs
    have slot : wpAny (model X.prog X.w) X.A (call (.builtin "object.__ne__") [.ref a, u]) (fun v s' => EP X pins σ Q v s' ∧ ∃ b, v = .bool b) X.xe s := by
      refine wpAny_call (codeAny_call_builtin (by decide +kernel) PySem.F.cmpEntry_ne (PySem.W.check_slot PySem.F.cmpKind_ne PySem.F.cmpSplit_ne
        (J.type.andThen (PySem.W.looks_mroIn kin e.ob)) (PySem.F.cmpArgs_ne _ _) ?_))
      unfold Builtin.«object.__ne__»
      refine wpAny_bind (m := slotArgs "__ne__" 1 _) (wpAny_pure ?_)
      refine wpAny_bind (m := cRoomFor _ _) (wpAny_cRoomFor (by show X.A.units + 1 < cLine; omega) ?_)
      refine wpAny_bind (m := callSpecialIfBound? (.ref a) (Str.ofString "__eq__") _) (PySem.W.ifBound_K kin J e.eq e.fn (wpAny_mono inner ?_ fun _ _ z => z))
      rintro r s' ⟨z, H', I', rz, b, rfl, q⟩
      cases rz
      exact wpAny_bind (wpAny_truthy_bool (wpAny_pure ⟨⟨.bl (!b), H', I', rfl, q⟩, _, rfl⟩))
    have bound : wpAny (model X.prog X.w) X.A (callSpecialIfBound? (.ref a) "__ne__" [u]) (fun r s' => ∃ v, r = some v ∧ EP X pins σ Q v s' ∧ ∃ b, v = .bool b) X.xe s := by
      simp only [callSpecialIfBound?, bindSpecialIfBound?]
      refine wpAny_holding (wpAny_bind (wpAny_bind (wpAny_bind (J.type.here ((PySem.W.looks_findIn kin e.ne).here ?_)))))
      have fin : wpAny (model X.prog X.w) X.A (call (.builtin "object.__ne__") ([.ref a] ++ [u]) >>= fun v => pure (some v)) (fun r s' => ∃ v, r = some v ∧ EP X pins σ Q v s' ∧ ∃ b, v = .bool b) X.xe s :=
        wpAny_bind (wpAny_mono slot (fun v s' q => wpAny_pure ⟨v, rfl, q⟩) fun _ _ z => z)
      refine wpAny_bind (wpAny_askSetting (wpAny_ite ?_))
      have bd : bindSpecial (.builtin "object.__ne__") (.ref a) = pure (.builtin "object.__ne__", [.ref a]) := PySem.F.slot_object_ne.bind _
      split
      · exact wpAny_bind ((PySem.W.Looks.of_pure bd).here (wpAny_pure (by exact fin)))
      · exact wpAny_tryCatch (wpAny_bind ((PySem.W.Looks.of_pure bd).here (wpAny_pure (by exact fin))))
    unfold tryCompare
    refine wpAny_bind (wpAny_mono bound ?_ fun _ _ z => z)
    rintro r s' ⟨v, rfl, q, b, rfl⟩
    exact wpAny_pure ⟨_, rfl, q⟩
  show wpAny (model X.prog X.w) X.A (richCompare .NotEq (.ref a) u) (EP X pins σ Q) X.xe s
  unfold richCompare
  simp only [oneThing_ref]
  refine wpAny_holding (wpAny_bind (wpAny_cRoomFor (by omega) ?_))
  refine wpAny_bind (J.type.here (wpAny_bind ((type_of I ry ty).here ?_)))
  split
  · rename_i hne
    have sub : PySem.W.subIn X.K t (.ref C) = some false := by
      rcases Bool.or_eq_true_iff.mp hn with z | z
      · rw [beq_iff_eq.mp z] at hne; simp at hne
      · exact beq_iff_eq.mp z
    refine wpAny_bind ((PySem.W.looks_subIn kin sub).here ?_)
    simp only [Bool.false_eq_true, if_false]
    refine wpAny_bind (wpAny_mono one ?_ fun _ _ z => z)
    rintro r s' ⟨v, rfl, q⟩
    exact wpAny_pure q
  · refine wpAny_bind (wpAny_pure ?_)
    simp only [Bool.false_eq_true, if_false]
    refine wpAny_bind (wpAny_mono one ?_ fun _ _ z => z)
    rintro r s' ⟨v, rfl, q⟩
    exact wpAny_pure q
end

/-! ### truth and length of an instance -/
section
variable {X : Cx} {CX : CXT} {k : Nat} {C f : Addr} {fd : FuncData} {ps : List Str} {sp : Sp} {E : XK}
/-- neither __bool__ nor __len__: true -/
theorem tru_inst (h1 : PySem.W.findIn X.K (.ref C) "__bool__" = some none) (h2 : PySem.W.findIn X.K (.ref C) "__len__" = some none) :
    TruR X (fun x H Q => ∃ (a dx : Addr) (fs : List (Str × V)), x = .ref a ∧ H a = some (.ins C dx fs) ∧ Q true H) := by
  intro pins s σ H x v Q I rx h
  obtain ⟨a, dx, fs, rfl, ha, q⟩ := h
  obtain rfl : v = Value.ref a := rx
  obtain ⟨mA, J, _⟩ := ins_get I.hok ha
  obtain ⟨od, J, _⟩ := J.look
  obtain ⟨m, hF⟩ := I.fr
  exact PySem.W.truthy_K0 hF I.ok.mod.kin J h1 h2 ⟨H, I, q⟩
/-- len(o) by the class's own __len__ -/
theorem call_len_inst (h1 : PySem.W.findIn X.K (.ref C) "__len__" = some (some (.ref f))) (h2 : PySem.W.isFn X.K (.ref f) = true)
    (Fn : FnOk X.prog X.w X.K X.mg X.base CX k f fd ps sp) (hr : Room (k + 1) X.A) (hb : Binds X.K fd ps []) (hx : Passes CX X E) :
    CallR X (.builtin "len") (fun xs H Q => ∃ (a dx : Addr) (fs : List (Str × V)), xs = [.ref a] ∧ H a = some (.ins C dx fs) ∧
      sp [.ref a] H (fun v H' => ∃ n : Int, v = .int n ∧ 0 ≤ n ∧ n < 2 ^ 63 ∧ Q (.int n) H') E) := by
  intro pins s σ H xs us Q I r h
  obtain ⟨a, dx, fs, rfl, ha, hs⟩ := h
  obtain ⟨u, rfl, r1⟩ := vals1 r
  obtain rfl : u = Value.ref a := r1
  obtain ⟨mA, J, _⟩ := ins_get I.hok ha
  obtain ⟨od, J, _⟩ := J.look
  obtain ⟨m, hF⟩ := I.fr
  have hl : [Value.ref a].length = ps.length := Fn.len _ _ _ _ hs
  have e1 : Env0 X.prog X.w X.K X.mg X.base X.A.in1 X.stack s H := I.env0.in1
  have bt := hb s [Value.ref a] I.kIn (by simpa using hl)
  refine PySem.W.len_K hF I.ok.mod.kin J h1 h2 (wpAny_call (codeAny_mono (Fn.run X.A.in1 X.stack s H ⟨[.ref a], []⟩ [.ref a] [.ref a] _ E hr.in1 e1 (by simpa using bt) (.cons rfl .nil) hs) ?_))
  intro r s' hq
  match r, hq with
  | .error e, hq => exact (hx pins σ H s e s' I hq)
  | .ok (.ret w), hq =>
    obtain ⟨v, H', I', rv, n, rfl, n0, n1, q⟩ := I.after hq
    obtain ⟨t, rfl⟩ := rv
    exact ⟨⟨n0, n1⟩, .int n, H', I'.tok _, ⟨_, rfl⟩, q⟩
  | .ok .next, hq => exact hq.elim
  | .ok .brk, hq => exact hq.elim
  | .ok .cont, hq => exact hq.elim
end

/-! ### an attribute as a target -/
def gAttr (K : PySem.W.Frag) (to : TE) (f : Str) : TG := fun v σ H Q => to σ H fun x H1 => ∃ (a C dx : Addr) (fs : List (Str × V)),
  x = .ref a ∧ H1 a = some (.ins C dx fs) ∧ Cls K C ∧ NoAttr K C f ∧ fs.length < 1000 ∧ Q σ (upd H1 a (.ins C dx (putF f v fs)))
theorem pg_attr {X : Cx} {o : Expr} {f : Str} {pos : Pos} {to : TE} (ho : PE X o to)
    (ha : ∀ v, assign (.Attribute o f pos) X.env v = (do
      let ov ← holding [v] (eval o X.env)
      standAt pos.atName
      holding [v, ov] (setAttr ov f v)
      release [v, ov] []) := by intro _; rfl) : PG X (.Attribute o f pos) (gAttr X.K to f) := by
  refine ⟨?_⟩
  intro pins s σ H v u Q I r h
  rw [ha]
  refine wpAny_bind (wpAny_holding (thn (ho.run pins s σ H _ I h) ?_))
  rintro ov s1 ⟨x, H1, I1, rx, a, C, dx, fs, ex, ea, c, n, l, q⟩
  subst ex
  obtain rfl : ov = Value.ref a := rx
  refine wpAny_bind (wpAny_standAt (wpAny_bind (wpAny_holding (setattr_ok I1 ea c n l r ?_))))
  intro s3 I3
  exact wpAny_release ⟨σ, _, I3, q⟩

/-! ### a constructor, a property, a method: all that it wants in one -/
/-- the module's name x is the class at C; its __init__ keeps sp; dvs fill up behind the written arguments -/
def CalC (P : Program) (w : World) (K : PySem.W.Frag) (mg : Str → Option Value) (base : Heap) (CX : CXT) (k : Nat) (x : Str) (C : Addr)
    (dvs : List V) (sp : Sp) : Prop :=
  ∃ f fd ps ds, Mk K C f ∧ FnOk P w K mg base CX k f fd ps sp ∧ mg x = some (.ref C) ∧ Binds K fd ps ds ∧ Vals dvs ds
/-- .. with n written arguments and the keywords ks: gV says how they go to the parameters -/
def CalN (P : Program) (w : World) (K : PySem.W.Frag) (mg : Str → Option Value) (base : Heap) (CX : CXT) (k : Nat) (x : Str) (C : Addr)
    (n : Nat) (ks : List Str) (gV : List V → List V → List V) (sp : Sp) : Prop :=
  ∃ f fd ps g, Mk K C f ∧ FnOk P w K mg base CX k f fd ps sp ∧ mg x = some (.ref C) ∧ KBn K fd ps (n + 1) ks g gV
/-- a property of the class at C that hands back the attribute fld -/
def GetP (P : Program) (w : World) (K : PySem.W.Frag) (mg : Str → Option Value) (base : Heap) (k : Nat) (C : Addr) (f fld : Str) : Prop :=
  ∃ p g fd ps, Cls K C ∧ PropOf K C f p g ∧ FnOk P w K mg base CX0 k g fd ps (getSp C fld) ∧ Binds K fd ps []
def tGet (C : Addr) (fld : Str) (ta : TE) : TE := fun σ H Q => ta σ H fun x H1 => ∃ (a dx : Addr) (fs : List (Str × V)) (v : V),
  x = .ref a ∧ H1 a = some (.ins C dx fs) ∧ fs.lookup fld = some v ∧ Q v H1
section
variable {X : Cx} {CX : CXT} {k n : Nat} {C : Addr} {sp : Sp} {dvs : List V} {ks : List Str} {gV : List V → List V → List V}
variable {E : XK} {x f fld : Str} {p pos : Pos} {e : Expr} {es : List Expr} {kws : List Keyword} {ta : TE} {t tk : TA}
theorem pe_mkc (c : CalC X.prog X.w X.K X.mg X.base CX k x C dvs sp) (hr : Room (k + 1) X.A) (hx : Passes CX X E)
    (ha : PA X (e :: es) t) (hg : Gl X x := by rfl) (hdb : (x == ("__debug__" : Str)) = false := by decide)
    (he : starEach (e :: es) X.env = (false, eval e X.env) :: starEach es X.env := by rfl)
    (hpl : (backTo pos (starEach es X.env)).any (·.1) = false := by rfl) :
    PE X (.Call (.Name x p) (e :: es) [] pos) (tMake C sp dvs E t) := by
  obtain ⟨f, fd, ps, ds, M, Fn, hm, hb, hd⟩ := c
  exact pe_make M Fn hr hg hm hb hd hx ha hdb he hpl
theorem pe_mkn (c : CalN X.prog X.w X.K X.mg X.base CX k x C n ks gV sp) (hr : Room (k + 1) X.A) (hx : Passes CX X E)
    (ha : PA X (e :: es) t) (hkw : PK X kws tk) (hg : Gl X x := by rfl) (hall : (backToKw pos (keywordEach kws X.env)).all (·.1.isSome) = true := by rfl)
    (hks : (backToKw pos (keywordEach kws X.env)).filterMap (·.1) = ks := by rfl) (hdb : (x == ("__debug__" : Str)) = false := by decide)
    (he : starEach (e :: es) X.env = (false, eval e X.env) :: starEach es X.env := by rfl)
    (hpl : ((backTo pos (starEach (e :: es) X.env)).any (·.1) || (backToKw pos (keywordEach kws X.env)).any (·.1.isNone)) = false := by rfl) :
    PE X (.Call (.Name x p) (e :: es) kws pos) (tMakeK C n ks.length sp gV E t tk) := by
  obtain ⟨f, fd, ps, g, M, Fn, hm, hb⟩ := c
  exact pe_makeK M Fn hr hg hm hb hx ha hkw hall hks hdb he hpl
theorem pe_mkn0 (c : CalN X.prog X.w X.K X.mg X.base CX k x C 0 ks gV sp) (hr : Room (k + 1) X.A) (hx : Passes CX X E)
    (hkw : PK X kws tk) (hg : Gl X x := by rfl) (hall : (backToKw pos (keywordEach kws X.env)).all (·.1.isSome) = true := by rfl)
    (hks : (backToKw pos (keywordEach kws X.env)).filterMap (·.1) = ks := by rfl) (hdb : (x == ("__debug__" : Str)) = false := by decide)
    (hpl : ((backTo pos (starEach [] X.env)).any (·.1) || (backToKw pos (keywordEach kws X.env)).any (·.1.isNone)) = false := by rfl) :
    PE X (.Call (.Name x p) [] kws pos) (tMakeK C 0 ks.length sp gV E tNil tk) := by
  obtain ⟨f, fd, ps, g, M, Fn, hm, hb⟩ := c
  exact pe_makeK0 M Fn hr hg hm hb hx hkw hall hks hdb hpl
theorem pe_get (c : GetP X.prog X.w X.K X.mg X.base k C f fld) (hr : Room (k + 1) X.A) (ha : PE X e ta)
    (hab : attributeBase e f X.env (eval e X.env) = eval e X.env := by rfl) : PE X (.Attribute e f pos) (tGet C fld ta) := by
  obtain ⟨p, g, fd, ps, cl, hp, Fn, hb⟩ := c
  refine ⟨?_⟩
  intro pins s σ H Q I h
  refine attr_of hab (thn (ha.run pins s σ H _ I h) ?_)
  rintro u s1 ⟨x, H1, I1, rx, a, dx, fs, v, rfl, ea, el, q⟩
  obtain rfl : u = Value.ref a := rx
  exact getprop_ok (E := E0) I1 ea cl hp Fn hr hb .nil pass0 ⟨a, dx, fs, v, rfl, ea, el, q⟩
end
end G
/-! own rules, third part: heaps behind a pool, loops over anything that stands still, small tactics -/
namespace G
open PySem PySem.Spec PyProof.Rows L2

/-! ### heaps -/
/-- all but what stands at p is as it was -/
def But (p : Addr) (H H' : Hp) : Prop := ∀ q o, q ≠ p → H q = some o → H' q = some o
theorem But.refl (p : Addr) (H : Hp) : But p H H := fun _ _ _ e => e
theorem But.trans {p : Addr} {H H1 H2 : Hp} (a : But p H H1) (b : But p H1 H2) : But p H H2 := fun q o n e => b q o n (a q o n e)
theorem But.of {p : Addr} {H H' : Hp} (a : Same H H') : But p H H' := fun q o _ e => a q o e
theorem But.new {p : Addr} {H H1 : Hp} {q : Addr} {o : HO} (a : But p H H1) (n : H1 q = none) : But p H (upd H1 q o) := fun b u nb e => by
  rw [upd_ne (ne_of_none (a b u nb e) n)]
  exact a b u nb e
theorem But.at {p : Addr} {H H1 : Hp} {o : HO} (a : But p H H1) : But p H (upd H1 p o) := fun b u nb e => by
  rw [upd_ne nb]
  exact a b u nb e
theorem _root_.L2.Same.new {H H1 : Hp} {q : Addr} {o : HO} (a : Same H H1) (n : H1 q = none) : Same H (upd H1 q o) := fun b u e => by
  rw [upd_ne (ne_of_none (a b u e) n)]
  exact a b u e
/-- another object, written: it was new ahead -/
theorem But.own {p : Addr} {H H1 : Hp} {q : Addr} {o : HO} (a : But p H H1) (n : H q = none) : But p H (upd H1 q o) := fun b u nb e => by
  rw [upd_ne (ne_of_none e n)]
  exact a b u nb e
theorem _root_.L2.Same.own {H H1 : Hp} {q : Addr} {o : HO} (a : Same H H1) (n : H q = none) : Same H (upd H1 q o) := fun b u e => by
  rw [upd_ne (ne_of_none e n)]
  exact a b u e
/-- the pool: three whole numbers, none below nought, two of them small -/
def PoolAt (H : Hp) (p : Addr) : Prop := ∃ a b d : Int, H p = some (.lst [.int a, .int b, .int d]) ∧ 0 ≤ a ∧ a < 4294967296 ∧ 0 ≤ b ∧ b < 4294967296 ∧ 0 ≤ d
/-- a pool was drawn from, new things stand -/
structure Pl (p : Addr) (H H' : Hp) : Prop where
  but : But p H H'
  pool : PoolAt H' p
theorem Pl.refl {p : Addr} {H : Hp} (h : PoolAt H p) : Pl p H H := ⟨.refl _ _, h⟩
theorem Pl.trans {p : Addr} {H H1 H2 : Hp} (a : Pl p H H1) (b : Pl p H1 H2) : Pl p H H2 := ⟨a.but.trans b.but, b.pool⟩
theorem PoolAt.new {H : Hp} {p q : Addr} {o : HO} (h : PoolAt H p) (n : H q = none) : PoolAt (upd H q o) p := by
  obtain ⟨a, b, d, e, r⟩ := h
  exact ⟨a, b, d, by rw [upd_ne (ne_of_none e n)]; exact e, r⟩
theorem PoolAt.ne {H : Hp} {p q : Addr} {o : HO} (h : PoolAt H p) (nq : q ≠ p) : PoolAt (upd H q o) p := by
  obtain ⟨a, b, d, e, r⟩ := h
  exact ⟨a, b, d, by rw [upd_ne nq.symm]; exact e, r⟩
theorem Pl.new {p : Addr} {H H1 : Hp} {q : Addr} {o : HO} (a : Pl p H H1) (n : H1 q = none) : Pl p H (upd H1 q o) := ⟨a.but.new n, a.pool.new n⟩
theorem Pl.own {p : Addr} {H H1 : Hp} {q : Addr} {o : HO} (a : Pl p H H1) (n : H q = none) (nq : q ≠ p) : Pl p H (upd H1 q o) := ⟨a.but.own n, a.pool.ne nq⟩
theorem Pl.same {p : Addr} {H H1 H2 : Hp} (a : Pl p H H1) (s : Same H1 H2) : Pl p H H2 := ⟨a.but.trans (.of s), by
  obtain ⟨x, b, d, e, r⟩ := a.pool
  exact ⟨x, b, d, s _ _ e, r⟩⟩
theorem PoolAt.same {p : Addr} {H1 H2 : Hp} (h : PoolAt H1 p) (s : Same H1 H2) : PoolAt H2 p := by
  obtain ⟨x, b, d, e, r⟩ := h
  exact ⟨x, b, d, s _ _ e, r⟩
theorem Pl.get {p q : Addr} {H H1 : Hp} {o : HO} (a : Pl p H H1) (e : H q = some o) (n : q ≠ p) : H1 q = some o := a.but q o n e
/-- what is no list is not the pool -/
def noL : HO → Bool
  | .lst _ => false
  | _ => true
theorem Pl.obj {p q : Addr} {H H1 : Hp} {o : HO} (a : Pl p H H1) (h : PoolAt H p) (e : H q = some o) (n : noL o = true) : H1 q = some o := by
  obtain ⟨x, b, d, e', _⟩ := h
  exact a.get e (ne_of e e' (by rintro rfl; cases n))
theorem Pl.free {p q : Addr} {H H1 : Hp} (a : Pl p H H1) (n : H1 q = none) : H q = none := by
  cases e : H q with
  | none => rfl
  | some o =>
    by_cases hq : q = p
    · obtain ⟨x, b, d, e', _⟩ := a.pool
      rw [hq, e'] at n
      cases n
    · rw [a.get e hq] at n
      cases n
theorem PoolAt.ne_new {H : Hp} {p q : Addr} (h : PoolAt H p) (n : H q = none) : q ≠ p := by
  obtain ⟨x, b, d, e, _⟩ := h
  exact (ne_of_none e n).symm
theorem upd_get {H : Hp} {q g : Addr} {o u : HO} (n : H q = none) (e : H g = some u) : upd H q o g = some u := by
  rw [upd_ne (ne_of_none e n)]
  exact e
theorem _root_.L2.SqL.same {K : PySem.W.Frag} {H H' : Hp} {a : Addr} {xs : List V} (h : SqL K H a xs) (s : Same H H') : SqL K H' a xs := s.seq h
theorem _root_.L2.SqT.same {K : PySem.W.Frag} {H H' : Hp} {a : Addr} {xs : List V} (h : SqT K H a xs) (s : Same H H') : SqT K H' a xs := by
  rcases h with (h | ⟨o, h⟩) | h
  · exact .inl (.inl (s _ _ h))
  · exact .inl (.inr ⟨o, s _ _ h⟩)
  · exact .inr h
theorem _root_.L2.SqT.pl {K : PySem.W.Frag} {p : Addr} {H H' : Hp} {a : Addr} {xs : List V} (h : SqT K H a xs) (r : Pl p H H') (hp : PoolAt H p) : SqT K H' a xs := by
  rcases h with (h | ⟨o, h⟩) | h
  · exact .inl (.inl (r.obj hp h rfl))
  · exact .inl (.inr ⟨o, r.obj hp h rfl⟩)
  · exact .inr h

theorem upd_free {H : Hp} {q p : Addr} {o : HO} (h : upd H q o p = none) : H p = none := by
  by_cases e : p = q
  · rw [e, upd_same] at h; cases h
  · rw [upd_ne e] at h; exact h
theorem upd_free_ne {H : Hp} {q p : Addr} {o : HO} (h : upd H q o p = none) : p ≠ q := fun e => by
  rw [e, upd_same] at h; cases h
theorem same_get {H H1 : Hp} {g : Addr} {u : HO} (s : Same H H1) (e : H g = some u) : H1 g = some u := s _ _ e
/-! ### what is walked and stands still -/
/-- the walk J yields the items xs one by one while Sd holds of the heap -/
structure Wk (J : It) (xs : List V) (Sd : Hp → Prop) : Prop where
  go : ∀ i H, Sd H → i < xs.length → J.go i H
  stop : ∀ i H, Sd H → xs.length ≤ i → J.stop i H
  yld : ∀ i H v H', Sd H → i < xs.length → J.yld i H v H' → H' = H ∧ xs[i]? = some v
theorem wk_list {K : PySem.W.Frag} {a : Addr} (xs : List V) : Wk (Itl K a) xs (fun H => SqL K H a xs) :=
  ⟨fun i H h l => ⟨xs, xs[i], h, by simp [l]⟩, fun i H h l => ⟨xs, h, l⟩, fun i H v H' h _ y => ⟨y.1, y.2 xs h⟩⟩
theorem wk_tup {K : PySem.W.Frag} {a : Addr} (xs : List V) : Wk (Itt K a) xs (fun H => SqT K H a xs) :=
  ⟨fun i H h l => ⟨xs, xs[i], h, by simp [l]⟩, fun i H h l => ⟨xs, h, l⟩, fun i H v H' h _ y => ⟨y.1, y.2 xs h⟩⟩
def signs (x : Str) : List V := x.cps.toList.map fun c => V.str ⟨#[c]⟩
theorem signs_len (x : Str) : (signs x).length = x.cps.size := by simp [signs]
theorem wk_str (x : Str) : Wk (Its x) (signs x) (fun _ => True) :=
  ⟨fun i H _ l => by rw [signs_len] at l; exact l, fun i H _ l => by rw [signs_len] at l; exact l, fun i H v H' _ _ y => by
    obtain ⟨e, c, h, rfl⟩ := y
    refine ⟨e, ?_⟩
    simp only [signs, List.getElem?_map, Array.getElem?_toList, h, Option.map_some]⟩
def rngV (lo : Int) (n : Nat) : List V := (List.range n).map fun (i : Nat) => V.int (lo + (i : Int))
theorem rngV_len (lo : Int) (n : Nat) : (rngV lo n).length = n := by simp [rngV]
theorem wk_range (lo : Int) (n : Nat) : Wk (Itr lo n) (rngV lo n) (fun _ => True) :=
  ⟨fun i H _ l => by rw [rngV_len] at l; exact l, fun i H _ l => by rw [rngV_len] at l; exact l, fun i H v H' _ l y => by
    obtain ⟨e, rfl⟩ := y
    rw [rngV_len] at l
    refine ⟨e, ?_⟩
    simp [rngV, l]⟩

/-- a list comprehension over what stands still -/
theorem lcW {J : It} {xs : List V} {Sd : Hp → Prop} (wk : Wk J xs Sd) {g : TG} {tt : TT} {te : TE} {vs : List Nat} {σ : L2.St} {H1 : Hp} {D : Addr} {Qd : Hp → Prop}
    (Pv : Nat → Hp → Prop) (h0 : Pv 0 (upd H1 D (.lst []))) (hst : ∀ i H, i ≤ xs.length → Pv i H → Sd H)
    (hs : ∀ i x H, xs[i]? = some x → Pv i H → g x (wipe σ vs) H fun σ2 H2 => wipe σ2 vs = wipe σ vs ∧ tt σ2 H2 fun b H3 =>
      if b = true then te σ2 H3 fun y H4 => ∃ acc, H4 D = some (.lst acc) ∧ acc.length < sizeLine ∧ Pv (i + 1) (upd H4 D (.lst (acc ++ [y]))) else Pv (i + 1) H3)
    (hd : ∀ H, Pv xs.length H → Qd H) :
    ∃ W : Nat → Nat → Hp → Prop, (∃ m, W 0 m (upd H1 D (.lst []))) ∧ ∀ i m H, W i m H →
      (J.stop i H ∧ Qd H) ∨ (J.go i H ∧ ∃ Nx : Hp → Prop, (∀ H', Nx H' → ∃ m', m' < m ∧ W (i + 1) m' H') ∧ ∀ x H', J.yld i H x H' →
        g x (wipe σ vs) H' fun σ2 H2 => wipe σ2 vs = wipe σ vs ∧ tt σ2 H2 fun b H3 =>
        if b = true then te σ2 H3 fun y H4 => ∃ acc, H4 D = some (.lst acc) ∧ acc.length < sizeLine ∧ Nx (upd H4 D (.lst (acc ++ [y]))) else Nx H3) := by
  refine ⟨fun i m H => m = xs.length - i ∧ i ≤ xs.length ∧ Pv i H, ⟨xs.length, rfl, Nat.zero_le _, h0⟩, ?_⟩
  rintro i m H ⟨rfl, hi, pv⟩
  have sd := hst i H hi pv
  rcases Nat.lt_or_ge i xs.length with lt | ge
  · refine .inr ⟨wk.go i H sd lt, Pv (i + 1), fun H' q => ⟨xs.length - (i + 1), by omega, rfl, lt, q⟩, ?_⟩
    intro x H' y
    obtain ⟨rfl, hx⟩ := wk.yld i H x H' sd lt y
    exact hs i x _ hx pv
  · have e : i = xs.length := by omega
    subst e
    exact .inl ⟨wk.stop _ H sd ge, hd H pv⟩
/-- a comprehension whose element is a plain function of the item and touches nothing -/
theorem lcP {J : It} {xs : List V} {Sd : Hp → Prop} (wk : Wk J xs Sd) (f : V → V) {g : TG} {te : TE} {vs : List Nat} {σ : L2.St} {H1 : Hp} {D : Addr} {Qd : Hp → Prop}
    (hst : ∀ acc, Sd (upd H1 D (.lst acc))) (hz : xs.length < sizeLine)
    (hs : ∀ (i : Nat) (x : V) (acc : List V) (Q : VK), xs[i]? = some x → Q (f x) (upd H1 D (.lst acc)) → g x (wipe σ vs) (upd H1 D (.lst acc)) fun σ2 H2 => wipe σ2 vs = wipe σ vs ∧ te σ2 H2 Q)
    (hd : Qd (upd H1 D (.lst (xs.map f)))) :
    ∃ W : Nat → Nat → Hp → Prop, (∃ m, W 0 m (upd H1 D (.lst []))) ∧ ∀ i m H, W i m H →
      (J.stop i H ∧ Qd H) ∨ (J.go i H ∧ ∃ Nx : Hp → Prop, (∀ H', Nx H' → ∃ m', m' < m ∧ W (i + 1) m' H') ∧ ∀ x H', J.yld i H x H' →
        g x (wipe σ vs) H' fun σ2 H2 => wipe σ2 vs = wipe σ vs ∧ tYes σ2 H2 fun b H3 =>
        if b = true then te σ2 H3 fun y H4 => ∃ acc, H4 D = some (.lst acc) ∧ acc.length < sizeLine ∧ Nx (upd H4 D (.lst (acc ++ [y]))) else Nx H3) := by
  refine lcW wk (fun i H => H = upd H1 D (.lst ((xs.take i).map f))) (by simp) (fun i H _ e => by rw [e]; exact hst _) ?_ (fun H e => by rw [e, List.take_length]; exact hd)
  rintro i x H hx rfl
  have lt : i < xs.length := (List.getElem?_eq_some_iff.mp hx).1
  have tk : (xs.take (i + 1)).map f = (xs.take i).map f ++ [f x] := by
    rw [List.take_add_one, hx, List.map_append]
    rfl
  have h := hs i x ((xs.take i).map f) (fun y H4 => ∃ acc, H4 D = some (.lst acc) ∧ acc.length < sizeLine ∧ upd H4 D (.lst (acc ++ [y])) = upd H1 D (.lst ((xs.take (i + 1)).map f))) hx
    ⟨_, upd_same, by rw [List.length_map, List.length_take]; omega, by rw [upd_upd, tk]⟩
  exact h
/-- a for over what stands still -/
theorem forW {J : It} {xs : List V} {Sd : Hp → Prop} (wk : Wk J xs Sd) {g : TG} {tb : TS} {D : Ends} {σ : L2.St} {H : Hp} (Pv : Nat → L2.St → Hp → Prop) (h0 : Pv 0 σ H)
    (hst : ∀ i σ H, i ≤ xs.length → Pv i σ H → Sd H)
    (hs : ∀ i x σ H, xs[i]? = some x → Pv i σ H → g x σ H fun σ2 H2 => tb { D with nx := Pv (i + 1), ct := Pv (i + 1), bk := D.nx } σ2 H2) (hd : ∀ σ H, Pv xs.length σ H → D.nx σ H) :
    ∃ W : Nat → Nat → L2.St → Hp → Prop, (∃ m, W 0 m σ H) ∧ ∀ i m σ H, W i m σ H →
      (J.stop i H ∧ D.nx σ H) ∨ (J.go i H ∧ ∃ N : L2.St → Hp → Prop, (∀ σ' H', N σ' H' → ∃ m', m' < m ∧ W (i + 1) m' σ' H') ∧
        ∀ x H', J.yld i H x H' → g x σ H' fun σ2 H2 => tb { D with nx := N, ct := N, bk := D.nx } σ2 H2) := by
  refine ⟨fun i m σ H => m = xs.length - i ∧ i ≤ xs.length ∧ Pv i σ H, ⟨xs.length, rfl, Nat.zero_le _, h0⟩, ?_⟩
  rintro i m σ H ⟨rfl, hi, pv⟩
  have sd := hst i σ H hi pv
  rcases Nat.lt_or_ge i xs.length with lt | ge
  · refine .inr ⟨wk.go i H sd lt, Pv (i + 1), fun σ' H' q => ⟨xs.length - (i + 1), by omega, rfl, lt, q⟩, ?_⟩
    intro x H' y
    obtain ⟨rfl, hx⟩ := wk.yld i H x H' sd lt y
    exact hs i x σ _ hx pv
  · have e : i = xs.length := by omega
    subst e
    exact .inl ⟨wk.stop _ H sd ge, hd σ H pv⟩

/-! ### tests -/
theorem iteD {p A B : Prop} [Decidable p] (h1 : p → A) (h2 : ¬ p → B) : if decide p = true then A else B := by
  by_cases h : p
  · rw [decide_eq_true h]; exact iteT (h1 h)
  · rw [decide_eq_false h]; exact iteF (h2 h)
theorem iteND {p A B : Prop} [Decidable p] (h1 : ¬ p → A) (h2 : p → B) : if (!decide p) = true then A else B := by
  by_cases h : p
  · rw [decide_eq_true h]; exact iteF (h2 h)
  · rw [decide_eq_false h]; exact iteT (h1 h)
theorem iteB {b : Bool} {A B : Prop} (h1 : b = true → A) (h2 : b = false → B) : if b = true then A else B := by
  cases b
  · exact iteF (h2 rfl)
  · exact iteT (h1 rfl)
theorem iteNB {b : Bool} {A B : Prop} (h1 : b = false → A) (h2 : b = true → B) : if (!b) = true then A else B := by
  cases b
  · exact iteT (h1 rfl)
  · exact iteF (h2 rfl)
theorem iteKT {b : Bool} {A B : Prop} (h : b = true) (x : A) : if b = true then A else B := by rw [h]; exact iteT x
theorem iteKF {b : Bool} {A B : Prop} (h : b = false) (x : B) : if b = true then A else B := by rw [h]; exact iteF x
/-- the wished end, by an equation of what comes back -/
theorem ret_eq {Q : VK} {H : Hp} {v u : V} (h : Q v H) (e : v = u) : Q u H := e ▸ h
theorem str_len (z : Str) : z.length = z.cps.toList.length := by
  show z.cps.size = _
  simp
theorem cat_len (x y : Str) : (x ++ y).length = x.length + y.length := by
  rw [str_len, str_len, str_len, ← List.length_append]
  show (x.cps ++ y.cps).toList.length = _
  rw [Array.toList_append]
end G
/-! own rules, fourth part: what the head tells -/
namespace G
open PySem PySem.Spec PyProof.Rows L2
/-! ### the head: He's facts, a list of further Bools, the getters of properties -/
/-- the property f of the class named c, its getter -/
def prA (K : PySem.W.Frag) (c f : Str) : Addr := match PySem.W.findIn K (.ref (He.ga K c)) f with
  | some (some (.ref p)) => p
  | _ => 0
def grA (K : PySem.W.Frag) (p : Addr) (T : String) : Addr := match PySem.W.recIn K p T with
  | some (.ref g :: _) => g
  | _ => 0
/-- one getter: its class, its name, the def -/
structure GetD where
  cls : Str
  name : Str
  kind : String
  params : Arguments
  body : List Stmt
  scope : Scope
def GetD.at (d : GetD) (K : PySem.W.Frag) : Addr := grA K (prA K d.cls d.name) d.kind
abbrev ObsF : Type := Option (Str × Str × Arguments × FuncBody × Scope × Addr × List (Str × Addr) × Value × Addr)
def obsF (K : PySem.W.Frag) (a : Addr) : ObsF := match K.lookup a with
  | some ⟨_, _, .func fd, _⟩ => some (fd.name, fd.qualname, fd.params, fd.body, fd.scope, fd.globals, fd.closure, fd.defaults, fd.builtins)
  | _ => none
def GetD.qual (d : GetD) : Str := d.cls ++ ("." ++ d.name)
def GetD.val (d : GetD) : ObsF := some (d.name, d.qual, d.params, .stmts d.body, d.scope, mainGlobals, [], .none, builtinsNs)
def GetD.ok (d : GetD) (K : PySem.W.Frag) : Bool :=
  decide (PySem.W.findIn K (.ref (He.ga K d.cls)) d.name = some (some (.ref (prA K d.cls d.name)))) &&
  (decide (PySem.W.specialIn K (.ref (prA K d.cls d.name)) "__get__" = some (some (.builtin (d.kind ++ ".__get__")))) &&
  (decide (PySem.W.takesIn K (.ref (prA K d.cls d.name)) = some (d.kind == "property")) &&
  ((match PySem.W.recIn K (prA K d.cls d.name) d.kind with
    | some (.ref g :: _) => decide (g = d.at K)
    | _ => false) &&
  (match K.lookup (d.at K) with
    | some ⟨_, _, .func fd, _⟩ => PySem.W.codeIn K fd.code d.qual
    | _ => false))))
theorem GetD.prop {d : GetD} {K : PySem.W.Frag} (hk : d.kind = "property") (h : d.ok K = true) : PropOf K (He.ga K d.cls) d.name (prA K d.cls d.name) (d.at K) := by
  obtain ⟨h1, h⟩ := He.ba h
  obtain ⟨h2, h⟩ := He.ba h
  obtain ⟨h3, h⟩ := He.ba h
  obtain ⟨h4, _⟩ := He.ba h
  refine ⟨of_decide_eq_true h1, ?_, (by have e := of_decide_eq_true h3; rw [hk] at e; simpa using e), ?_⟩
  · have e := of_decide_eq_true h2
    rw [hk] at e
    exact e
  · rw [hk] at h4
    split at h4
    · rename_i g r e
      have eg : g = d.at K := of_decide_eq_true h4
      exact ⟨r, by rw [e, eg]⟩
    · cases h4
theorem GetD.fn {d : GetD} {K : PySem.W.Frag} (e : obsF K (d.at K) = d.val) (h : d.ok K = true) :
    ∃ oc od osl kV doc pm an cdv ct, K.lookup (d.at K) = some ⟨oc, od, .func (PySem.W.fnOf d.name d.qual d.params d.body d.scope .none kV doc pm an cdv ct), osl⟩ ∧ PySem.W.codeIn K cdv d.qual = true := by
  obtain ⟨_, h⟩ := He.ba h
  obtain ⟨_, h⟩ := He.ba h
  obtain ⟨_, h⟩ := He.ba h
  obtain ⟨_, c⟩ := He.ba h
  unfold obsF at e
  cases q : K.lookup (d.at K) with
  | none => rw [q] at c; cases c
  | some o =>
    obtain ⟨oc, od, dt, osl⟩ := o
    rw [q] at c e
    cases dt with
    | func fd =>
      obtain ⟨a1, a2, a3, a4, a5, a6, a7, a8, a9, a10, a11, a12, a13, a14, a15⟩ := fd
      have e2 : (some (a1, a2, a3, a4, a5, a6, a7, a8, a15) : ObsF) = some (d.name, d.qual, d.params, .stmts d.body, d.scope, mainGlobals, [], .none, builtinsNs) := e
      simp only [Option.some.injEq, Prod.mk.injEq] at e2
      obtain ⟨rfl, rfl, rfl, rfl, rfl, rfl, rfl, rfl, rfl⟩ := e2
      exact ⟨oc, od, osl, a9, a10, a11, a12, a13, a14, rfl, c⟩
    | _ => cases c
/-- a def that stands in a record (of a classmethod), without defaults -/
theorem GetD.fund {d : GetD} {K : PySem.W.Frag} (e : obsF K (d.at K) = d.val) (h : d.ok K = true) (kp : PySem.W.keepIn K (.ref (d.at K)) = true) :
    ∃ fd, FunD K d.name d.qual d.params d.body d.scope [] [] (d.at K) fd := by
  obtain ⟨oc, od, osl, kV, doc, pm, an, cdv, ct, lk, hcd⟩ := d.fn e h
  exact ⟨_, ⟨⟨oc, od, .none, kV, doc, pm, an, cdv, ct, osl, rfl, lk, hcd, .inl ⟨rfl, rfl⟩, .inl rfl⟩, kp⟩⟩
abbrev AlG : Type := He.AlD × Bool × List ObsF
def obsK (fa : List He.Fa) (fn : List He.DefD) (gs : List GetD) (ex : List (PySem.W.Frag → Bool)) (K : PySem.W.Frag) : AlG :=
  (He.obsD fa fn K, (ex.all fun f => f K) && gs.all fun d => d.ok K, gs.map fun d => obsF K (d.at K))
def valK (fn : List He.DefD) (gs : List GetD) : AlG := (He.valD fn, true, gs.map GetD.val)
def obsKG (n : Nat) (fa : List He.Fa) (fn : List He.DefD) (gs : List GetD) (ex : List (PySem.W.Frag → Bool)) (g : Addr → Option Obj) : AlG :=
  obsK fa fn gs ex (He.frG g (He.asD g n ++ [cStatics, sysModules]))
def SaysG (fa : List He.Fa) (fn : List He.DefD) (gs : List GetD) (ex : List (PySem.W.Frag → Bool)) (K : PySem.W.Frag) : Prop := obsK fa fn gs ex K = valK fn gs
def hookG (n : Nat) (fa : List He.Fa) (fn : List He.DefD) (gs : List GetD) (ex : List (PySem.W.Frag → Bool)) : PySem.W.Hook where
  α := AlG
  obs := fun s => obsKG n fa fn gs ex s.heap.get?
  val := fun _ => valK fn gs
  says := fun _ h => ∃ K : PySem.W.Frag, K.In h ∧ SaysG fa fn gs ex K
  of := fun _ _ e => ⟨_, He.frG_in, e⟩
  keeps := fun _ _ _ ⟨K, hK, c⟩ k => ⟨K, PySem.W.Frag.In.keeps hK k, c⟩
theorem obsKG_eq {n : Nat} {fa : List He.Fa} {fn : List He.DefD} {gs : List GetD} {ex : List (PySem.W.Frag → Bool)} {g : Addr → Option Obj} {s : Shared}
    (h : ∀ a, g a = s.heap.get? a) : obsKG n fa fn gs ex g = (hookG n fa fn gs ex).obs s := by
  have e : g = s.heap.get? := funext h
  rw [e]
  rfl
section
variable {fa : List He.Fa} {fn : List He.DefD} {gs : List GetD} {ex : List (PySem.W.Frag → Bool)} {K : PySem.W.Frag}
theorem SaysG.d (c : SaysG fa fn gs ex K) : He.SaysD fa fn K := congrArg (fun z : AlG => z.1) c
theorem SaysG.more (c : SaysG fa fn gs ex K) (i : Nat) {f : PySem.W.Frag → Bool} (h : ex[i]? = some f := by rfl) : f K = true := by
  have c1 := (He.ba (show ((ex.all fun f => f K) && gs.all fun d => d.ok K) = true from congrArg (fun z : AlG => z.2.1) c)).1
  exact List.all_eq_true.mp c1 f (List.mem_of_getElem? h)
theorem SaysG.getter (c : SaysG fa fn gs ex K) (i : Nat) {d : GetD} (h : gs[i]? = some d := by rfl) : d.ok K = true ∧ obsF K (d.at K) = d.val := by
  have c1 := (He.ba (show ((ex.all fun f => f K) && gs.all fun d => d.ok K) = true from congrArg (fun z : AlG => z.2.1) c)).2
  have e : gs.map (fun d => obsF K (d.at K)) = gs.map GetD.val := congrArg (fun z : AlG => z.2.2) c
  refine ⟨List.all_eq_true.mp c1 d (List.mem_of_getElem? h), ?_⟩
  have e2 : (gs.map fun d => obsF K (d.at K))[i]? = (gs.map GetD.val)[i]? := by rw [e]
  rw [List.getElem?_map, List.getElem?_map, h] at e2
  exact Option.some.inj e2
end
/-! ### what the walk wants of a class -/
def btys : List String := ["NoneType", "bool", "int", "str", "list", "tuple", "dict"]
/-- for isinstance and == -/
structure ClsI (K : PySem.W.Frag) (C : Addr) : Prop where
  ha : PySem.W.findIn K (.ref C) "__class__" = some (some (.builtin "object.__class__"))
  hn : PySem.W.specialIn K (.builtin "object.__class__") "__get__" = some (some (.builtin "getset_descriptor.__get__"))
  htk : PySem.W.takesIn K (.builtin "object.__class__") = some true
  hm : PySem.W.mroIn K C (.type "object") = some true
  me : PySem.W.kitOne K (.ref C) (.ref C) = some true
  /-- a built-in thing is none of it -/
  bt : ∀ t ∈ btys, PySem.W.kitOne K (.type t) (.ref C) = some false
  /-- it is no built-in thing -/
  tb : ∀ t ∈ btys, PySem.W.kitOne K (.ref C) (.type t) = some false
  nf : ∀ t ∈ btys, PySem.W.notFirst K C (.type t) = true
def clsIB (c : Str) (K : PySem.W.Frag) : Bool :=
  decide (PySem.W.findIn K (.ref (He.ga K c)) "__class__" = some (some (.builtin "object.__class__"))) &&
  (decide (PySem.W.specialIn K (.builtin "object.__class__") "__get__" = some (some (.builtin "getset_descriptor.__get__"))) &&
  (decide (PySem.W.takesIn K (.builtin "object.__class__") = some true) &&
  (decide (PySem.W.mroIn K (He.ga K c) (.type "object") = some true) &&
  (decide (PySem.W.kitOne K (.ref (He.ga K c)) (.ref (He.ga K c)) = some true) &&
  ((btys.all fun t => decide (PySem.W.kitOne K (.type t) (.ref (He.ga K c)) = some false)) &&
  ((btys.all fun t => decide (PySem.W.kitOne K (.ref (He.ga K c)) (.type t) = some false)) &&
  (btys.all fun t => PySem.W.notFirst K (He.ga K c) (.type t))))))))
theorem clsI_of {c : Str} {K : PySem.W.Frag} (h : clsIB c K = true) : ClsI K (He.ga K c) := by
  obtain ⟨h1, h⟩ := He.ba h
  obtain ⟨h2, h⟩ := He.ba h
  obtain ⟨h3, h⟩ := He.ba h
  obtain ⟨h4, h⟩ := He.ba h
  obtain ⟨h5, h⟩ := He.ba h
  obtain ⟨h6, h⟩ := He.ba h
  obtain ⟨h7, h8⟩ := He.ba h
  exact ⟨of_decide_eq_true h1, of_decide_eq_true h2, of_decide_eq_true h3, of_decide_eq_true h4, of_decide_eq_true h5,
    fun t ht => of_decide_eq_true (List.all_eq_true.mp h6 t ht), fun t ht => of_decide_eq_true (List.all_eq_true.mp h7 t ht), fun t ht => List.all_eq_true.mp h8 t ht⟩
/-- an instance's type -/
theorem ClsI.ty {K : PySem.W.Frag} {C : Addr} (c : ClsI K C) (cl : Cls K C) {H : Hp} {a dx : Addr} {fs : List (Str × V)} (e : H a = some (.ins C dx fs)) : TyOf K H (.ref a) (.ref C) :=
  .ins e cl c.ha c.hn c.htk c.hm
/-- two unlike classes -/
structure ClsJ (K : PySem.W.Frag) (C D : Addr) : Prop where
  no : PySem.W.kitOne K (.ref C) (.ref D) = some false
  nf : PySem.W.notFirst K C (.ref D) = true
def clsJB (c d : Str) (K : PySem.W.Frag) : Bool :=
  decide (PySem.W.kitOne K (.ref (He.ga K c)) (.ref (He.ga K d)) = some false) && PySem.W.notFirst K (He.ga K c) (.ref (He.ga K d))
theorem clsJ_of {c d : Str} {K : PySem.W.Frag} (h : clsJB c d K = true) : ClsJ K (He.ga K c) (He.ga K d) := by
  obtain ⟨h1, h2⟩ := He.ba h
  exact ⟨of_decide_eq_true h1, h2⟩
def eqCB (c : Str) (K : PySem.W.Frag) : Bool :=
  decide (PySem.W.findIn K (.ref (He.ga K c)) "__eq__" = some (some (.ref (He.ma K (He.ga K c) "__eq__")))) &&
  (PySem.W.isFn K (.ref (He.ma K (He.ga K c) "__eq__")) &&
  (decide (PySem.W.findIn K (.ref (He.ga K c)) "__ne__" = some (some (.builtin "object.__ne__"))) &&
  decide (PySem.W.mroIn K (He.ga K c) (.type "object") = some true)))
theorem eqC_of {c : Str} {K : PySem.W.Frag} (h : eqCB c K = true) : EqC K (He.ga K c) (He.ma K (He.ga K c) "__eq__") := by
  obtain ⟨h1, h⟩ := He.ba h
  obtain ⟨h2, h⟩ := He.ba h
  obtain ⟨h3, h4⟩ := He.ba h
  exact ⟨of_decide_eq_true h1, h2, of_decide_eq_true h3, of_decide_eq_true h4⟩
/-- the class has no attribute of that name at all -/
def noB (c f : Str) (K : PySem.W.Frag) : Bool := decide (PySem.W.findIn K (.ref (He.ga K c)) f = some none)
theorem no_of {c f : Str} {K : PySem.W.Frag} (h : noB c f K = true) : PySem.W.findIn K (.ref (He.ga K c)) f = some none := of_decide_eq_true h
def lenB (c : Str) (K : PySem.W.Frag) : Bool :=
  decide (PySem.W.findIn K (.ref (He.ga K c)) "__len__" = some (some (.ref (He.ma K (He.ga K c) "__len__")))) && PySem.W.isFn K (.ref (He.ma K (He.ga K c) "__len__"))
theorem len_of {c : Str} {K : PySem.W.Frag} (h : lenB c K = true) : PySem.W.findIn K (.ref (He.ga K c)) "__len__" = some (some (.ref (He.ma K (He.ga K c) "__len__"))) ∧
    PySem.W.isFn K (.ref (He.ma K (He.ga K c) "__len__")) = true := by
  obtain ⟨h1, h2⟩ := He.ba h
  exact ⟨of_decide_eq_true h1, h2⟩
/-- the class's own method of that name -/
def mthB (c f : Str) (K : PySem.W.Frag) : Bool :=
  decide (PySem.W.findIn K (.ref (He.ga K c)) f = some (some (.ref (He.ma K (He.ga K c) f)))) && PySem.W.isFn K (.ref (He.ma K (He.ga K c) f))
theorem mth_of {c f : Str} {K : PySem.W.Frag} (h : mthB c f K = true) : PySem.W.findIn K (.ref (He.ga K c)) f = some (some (.ref (He.ma K (He.ga K c) f))) ∧
    PySem.W.isFn K (.ref (He.ma K (He.ga K c) f)) = true := by
  obtain ⟨h1, h2⟩ := He.ba h
  exact ⟨of_decide_eq_true h1, h2⟩
/-- an empty tuple stands at a -/
def noneIn (K : PySem.W.Frag) (a : Addr) : Bool := match K.lookup a with
  | some ⟨.type "tuple", _, .seq its _, _⟩ => its.size == 0
  | _ => false
theorem noneIn_of {K : PySem.W.Frag} {a : Addr} (h : noneIn K a = true) : ∀ H, SqT K H a [] := by
  intro H
  unfold noneIn at h
  split at h
  · rename_i d its n sl e
    have z : its = #[] := Array.eq_empty_of_size_eq_zero (eq_of_beq h)
    subst z
    exact .inr ⟨_, _, _, e, rfl, rfl, Nat.zero_le _, .nil⟩
  · cases h
/-- the getter's promise -/
theorem getP_of {P : Program} {w : World} {K : PySem.W.Frag} {mg : Str → Option Value} {base : Heap} {d : GetD} {fld : Str} {p1 p2 p3 : Pos}
    (e : obsF K (d.at K) = d.val) (h : d.ok K = true) (hk : d.kind = "property") (cl : Cls K (He.ga K d.cls)) (na : NoAttr K (He.ga K d.cls) fld)
    (S : FnScope ["self"] ["self"] d.scope) (hb : d.body = [.Return (some (.Attribute (.Name "self" p1) fld p2)) p3])
    (hbind : ∀ (kV doc pm : Value) (an : Option Addr) (cdv ct : Value) (us : List Value), us.length = 1 → bindArgs (PySem.W.fnOf d.name d.qual d.params d.body d.scope .none kV doc pm an cdv ct) ⟨us, []⟩ = pure ((["self"] : List Str).zip us)) :
    GetP P w K mg base 1 (He.ga K d.cls) d.name fld := by
  obtain ⟨oc, od, osl, kV, doc, pm, an, cdv, ct, lk, hcd⟩ := d.fn e h
  exact ⟨_, _, _, ["self"], cl, d.prop hk h, fn_getter lk hcd S rfl hb cl na, .all (hbind kV doc pm an cdv ct)⟩
end G
/-! own rules, fourth part: x, *more = a list; enumerate over a tuple -/
namespace G
open PySem PySem.Spec PyProof.Rows L2

/-! ### x, .., *more = a list -/
theorem star_run {P : Program} {w : World} {A : Around} {E : Value → Shared → Prop} {s : Shared} {l : Addr} {its : Array Value} {k : Nat} {Q : List Value → Shared → Prop}
    (pl : s.heap.IsList l its) (calm : A.handled = none) (hk : k ≤ its.size) (hz : its.size ≤ sizeLine)
    (q : ∀ (hp : Heap) (tk : Nat), (∀ b o, s.heap.get? b = some o → hp.get? b = some o) →
      Q (its.toList.take k ++ [.ref hp.objs.size]) { s with heap := hp.push { cls := .type "list", data := .seq (its.toList.drop k).toArray }, toks := tk }) :
    wpAny (model P w) A (unpackItems (.ref l) (k + 1) (some k)) Q E s := by
  have apart : l ≠ s.heap.objs.size := by
    obtain ⟨o, e, _⟩ := pl
    exact Nat.ne_of_lt (Heap.lt_size e)
  unfold unpackItems notIterableAtAll
  refine wpAny_bind (wpAny_bind (wpAny_specialOf pl.typeIs slot_list_iter.lookup (wpAny_pure ?_)))
  simp only [Bool.false_eq_true, if_false]
  refine wpAny_bind (wpAny_holding (wpAny_pyIter_list pl (wpAny_bind (wpAny_holding (PySem.W.kun_draw apart k 0 _ _ ⟨_, Heap.get?_push_size _ rfl, rfl, rfl⟩ (pl.push _) (by omega) fun h1 it1 sb1 => ?_)))))
  have pl1 : h1.IsList l its := (pl.push _).extBut sb1.extBut apart
  rw [Nat.zero_add] at it1
  obtain ⟨o1, e1, _⟩ := id it1
  obtain ⟨o2, e2, _⟩ := id pl1
  rw [List.drop_zero]
  have tl : (its.toList.take k).length = k := by
    rw [List.length_take, Array.length_toList]
    omega
  rw [if_neg (show ¬ ((its.toList.take k).length < k) by rw [tl]; omega)]
  refine wpAny_bind (wpAny_holding (PySem.W.kun_collect (s := { s with heap := h1 }) (T := "list_iterator") (.inr (.inr (.inl rfl)))
    (Walks.list (A := A.in1) calm s.heap.objs.size l apart its) (fun j u st => st.1.typeIs) (k := k) hk ⟨it1, pl1⟩ (Heap.lt_size e1) (Heap.lt_size e2) (fun h2 tk keep => ?_) hz))
  have ze : k + 1 - 1 - k = 0 := by omega
  have dl : (its.toList.drop k).length - (k + 1 - 1 - k) = (its.toList.drop k).length := by omega
  show wpAny _ _ (if (its.toList.drop k).length < k + 1 - 1 - k then _ else _) _ _ _
  rw [if_neg (by omega)]
  show wpAny _ _ (newList ((its.toList.drop k).take ((its.toList.drop k).length - (k + 1 - 1 - k))) >>= fun d =>
    pure (its.toList.take k ++ [d] ++ (its.toList.drop k).drop ((its.toList.drop k).length - (k + 1 - 1 - k)))) _ _ _
  rw [dl, List.take_length, List.drop_length]
  have old : ∀ b o, s.heap.get? b = some o → h2.get? b = some o := fun b o e => keep b o (Nat.ne_of_lt (Heap.lt_size e))
    (sb1.extBut b o (Nat.ne_of_lt (Heap.lt_size e)) (Heap.get?_push_of_some _ e))
  refine wpAny_bind (wpAny_newList (wpAny_pure ?_) (by rw [List.length_drop, Array.length_toList]; omega))
  rw [List.append_nil]
  exact q h2 tk old
def gStar (K : PySem.W.Frag) (k : Nat) (t : TGs) : TG := fun v σ H Q => ∃ a xs, v = .ref a ∧ SqL K H a xs ∧ k ≤ xs.length ∧
  ∀ D, H D = none → t (xs.take k ++ [.ref D]) σ (upd H D (.lst (xs.drop k))) Q
section
variable {X : Cx} {pos p : Pos} {e : Expr} {es : List Expr} {t : TG} {u : TGs} {k kk : Nat}
theorem pgs_star (h1 : PG X e t) (h2 : PGs X es u)
    (hs : (assignEach (.Starred e p :: es) X.env).map (·.2) = assign e X.env :: (assignEach es X.env).map (·.2) := by rfl) : PGs X (.Starred e p :: es) (gCons t u) := by
  refine ⟨fun pins s σ H vs us Q I r h => ?_⟩
  obtain ⟨v, vr, rfl, h⟩ := h
  cases r with
  | cons r rr =>
    rw [hs]
    refine assignInOrder_cons (thn (h1.run pins s σ H _ _ _ I r h) ?_)
    rintro _ s1 ⟨σ1, H1, I1, q1⟩
    exact h2.run pins s1 σ1 H1 _ _ Q I1 rr q1
theorem vals_take : ∀ {xs : List V} {us : List Value} (n : Nat), Vals xs us → Vals (xs.take n) (us.take n)
  | [], _, n, r => by cases r; rw [List.take_nil, List.take_nil]; exact .nil
  | _ :: _, _, 0, r => by rw [List.take_zero, List.take_zero]; exact .nil
  | _ :: _, _, n + 1, r => by
    cases r with
    | cons r rr => exact .cons r (vals_take n rr)
theorem vals_drop : ∀ {xs : List V} {us : List Value} (n : Nat), Vals xs us → Vals (xs.drop n) (us.drop n)
  | [], _, n, r => by cases r; rw [List.drop_nil, List.drop_nil]; exact .nil
  | _ :: _, _, 0, r => by rw [List.drop_zero, List.drop_zero]; exact r
  | _ :: _, _, n + 1, r => by
    cases r with
    | cons r rr => exact vals_drop n rr
theorem vals_app : ∀ {xs ys : List V} {us vs : List Value}, Vals xs us → Vals ys vs → Vals (xs ++ ys) (us ++ vs)
  | [], _, _, _, r, r' => by cases r; exact r'
  | _ :: _, _, _, _, r, r' => by
    cases r with
    | cons r rr => exact .cons r (vals_app rr r')
theorem pg_star (hc : X.calm = true) (h : PGs X es u) (hn : (assignEach es X.env).length = k + 1 := by rfl)
    (hst : (assignEach es X.env).findIdx? (·.1) = some k := by rfl) : PG X (.Tuple es kk pos) (gStar X.K k u) := by
  refine ⟨fun pins s σ H v w Q I r hw => ?_⟩
  obtain ⟨a, xs, rfl, hq, hl, hw⟩ := hw
  cases r
  obtain ⟨its, rv, pl, hz⟩ := I.list hq
  have el := rv.length
  rw [PyProof.Rows.assign_Tuple]
  refine wpAny_bind (wpAny_standAt ?_)
  unfold unpack
  rw [hn, hst]
  refine wpAny_bind (wpAny_holding (star_run pl.isList (I.ok.hd hc) (by rw [List.size_toArray]; omega) (by rw [List.size_toArray]; omega) fun hp tk keep => ?_))
  have I1 : Inv X pins σ H { s with heap := hp, toks := tk } := I.kept keep
  have fr : H hp.objs.size = none := I1.hok.fresh (Nat.le_refl _)
  have I2 : Inv X pins σ (upd H hp.objs.size (.lst (xs.drop k))) { s with heap := hp.push { cls := .type "list", data := .seq (its.drop k).toArray }, toks := tk } :=
    I1.laid (t' := tk) (fun b u e => Heap.get?_push_of_some _ e) (Nat.le_refl _)
      ⟨by rw [List.length_drop]; omega, its.drop k, 0, vals_drop k rv, Heap.get?_push_size _ rfl⟩
  exact h.run pins _ σ _ _ _ Q I2 (vals_app (vals_take k rv) (.cons (show RelV (V.ref hp.objs.size) (Value.ref hp.objs.size) from rfl) .nil)) (hw _ fr)
end

/-! ### enumerate(a tuple) -/
theorem enum_meets {v : Value} {o : Obj} {Hs : Heap → Prop} (B : Begins v o Hs) :
    Meets (Builtin.«enumerate.__new__» ⟨[.type "enumerate", v], []⟩) (fun _ R s => Hs s.heap ∧ R (.ok (.ret (.ref (s.heap.push o).objs.size)))
      { s with heap := (s.heap.push o).push { cls := .type "enumerate", data := .fields #[.none, .bool false, .ref s.heap.objs.size, rawInt 0, .none, .none] } }) :=
  .of_wp fun prog w A R s h => by
    obtain ⟨hp, g, d, tk, os⟩ := s
    obtain ⟨h1, h⟩ := h
    have sub := sub_enumerate
    have it : ∀ {A' : Around} {E : Value → Shared → Prop} {Q : Value → Shared → Prop}, Q (.ref hp.objs.size) ⟨hp.push o, g, d, tk, os⟩ →
        wpAny (model prog w) A' (pyIter v) Q E ⟨hp, g, d, tk, os⟩ := fun q => B.iter prog w _ _ ⟨hp, g, d, tk, os⟩ _ h1 q
    wp_walk using it
    refine wpAny_stack_any fun st => wpAny_pure ?_
    split
    · rename_i c _ _ _ _ _
      cases (c == Value.type "enumerate")
      · wp_walk using it
        exact ⟨_, rfl, h⟩
      · wp_walk using it
        exact ⟨_, rfl, h⟩
    · wp_walk using it
      exact ⟨_, rfl, h⟩
theorem enum_made {P : Program} {w : World} {A : Around} {E : Value → Shared → Prop} {s : Shared} {v : Value} {o : Obj} {Hs : Heap → Prop} {Q : Value → Shared → Prop}
    (B : Begins v o Hs) (h1 : Hs s.heap) (q : ∀ hp, IsEnum hp (s.heap.objs.size + 1) s.heap.objs.size 0 .none → hp.get? s.heap.objs.size = some o →
      (∀ b u, s.heap.get? b = some u → hp.get? b = some u) → Q (.ref (s.heap.objs.size + 1)) { s with heap := hp }) :
    wpAny (model P w) A (call (.type "enumerate") [v]) Q E s := by
  refine callType_new F.called_enumerate (by decide) (F.typeCall_enumerate_1 _) (F.newCall_enumerate_1 _) (fun obj => F.args_object_init_2 obj _) F.entry_enumerate_new (enum_meets B) ⟨h1, ?_⟩
  have z : (s.heap.push o).objs.size = s.heap.objs.size + 1 := Heap.size_push ..
  show _ ∧ _
  rw [z]
  have en : IsEnum ((s.heap.push o).push { cls := .type "enumerate", data := .fields #[.none, .bool false, .ref s.heap.objs.size, rawInt 0, .none, .none] })
      (s.heap.objs.size + 1) s.heap.objs.size 0 .none := by
    have x := Heap.get?_push_size (s.heap.push o) (o := { cls := .type "enumerate", data := .fields #[.none, .bool false, .ref s.heap.objs.size, rawInt 0, .none, .none] }) rfl
    rw [z] at x
    exact x
  exact ⟨⟨_, en, rfl⟩, q _ en (Heap.get?_push_of_some _ (Heap.get?_push_size _ B.free)) fun b u x => Heap.get?_push_of_some _ (Heap.get?_push_of_some _ x)⟩
/-- the tuple at a, each item in a new pair -/
def ItE (K : PySem.W.Frag) (a : Addr) : It :=
  ⟨fun i H => ∃ (xs : List V) (x : V), SqT K H a xs ∧ xs[i]? = some x,
    fun i H v H' => ∃ T x, v = .ref T ∧ H T = none ∧ H' = upd H T (.tup [.int (i : Nat), x]) ∧ ∀ xs, SqT K H a xs → xs[i]? = some x,
    fun i H => ∃ xs : List V, SqT K H a xs ∧ xs.length ≤ i⟩
theorem enum_end {P : Program} {w : World} {A : Around} {E : Value → Shared → Prop} {s : Shared} {e it t : Addr} {i : Nat} {c : Int} {its : Array Value} {old : Value} {Q : Option Value → Shared → Prop}
    (hh : A.handled = none) (he : IsEnum s.heap e it c old) (hit : s.heap.IsTupleIter it t i) (tp : s.heap.IsTuple t its) (lt : its.size ≤ i)
    (q : ∀ hp, Heap.ExtBut it s.heap hp → Q none { s with heap := hp }) : wpAny (model P w) A (pyNext (.ref e)) Q E s := by
  have T : s.TypeIs (.ref e) "enumerate" := ⟨_, he, rfl⟩
  unfold pyNext
  refine wpAny_bind (wpAny_attempt (wpAny_callSpecial?_slot (name := Str.ofString "__next__") T F.slot_enumerate_next (wpAny_call_entry F.slot_enumerate_next T F.entry_enumerate_next ?_ (F.args_enumerate_next_1 _))))
  show wpAny _ A.in1 (field (.ref e) 2 >>= _) _ _ s
  refine wpAny_bind (wpAny_field he rfl (x := .ref it) rfl (wpAny_bind (wpAny_nextOf_tuple_end hh hit tp (by simp; omega) fun hp x eb ob => ?_)))
  obtain ⟨o, ho, hc⟩ := ob
  exact wpAny_bind (wpAny_isInstance (T := "StopIteration") (b := true) ⟨o, ho, hc⟩ isSubtype_stop (wpAny_pure (q _ eb)))
theorem enum_turn {P : Program} {w : World} {K : PySem.W.Frag} {elts : List Expr} {kk : Nat} {tpos : Pos} (a e it : Addr) :
    Turn P w K (.Tuple elts kk tpos) (ItE K a) [e, it] e (fun i h => (∃ old, IsEnum h e it ((i : Nat) : Int) old) ∧ h.IsTupleIter it a i ∧ e ≠ it ∧ a ≠ it ∧ a ≠ e) where
  mem := List.mem_cons_self
  obj := fun i h st b hb => by
    obtain ⟨⟨old, he⟩, ⟨o, ho, hc, hd⟩, _⟩ := st
    rcases List.mem_cons.mp hb with rfl | hb
    · exact ⟨_, he, fun v q => nomatch q⟩
    · rw [List.mem_singleton.mp hb]
      exact ⟨o, ho, fun v q => by rw [hd] at q; cases q⟩
  keep := fun i h h' st k => ⟨st.1.elim fun old he => ⟨old, k e (by simp) _ he⟩, st.2.1.at fun o q => k it (by simp) o q, st.2.2⟩
  item := by
    rintro X rfl rfl rfl calm i pins s σ H E I hf ⟨⟨old, he⟩, hit, ne, ai, ae⟩ ⟨xs, x, hq, hx⟩
    obtain ⟨its, rv, tp, hz⟩ := I.tuple hq
    obtain ⟨u, hu, ru⟩ := rv.get hx
    have el := Heap.lt_size he
    have tp' : s.heap.IsTuple a its.toArray := tp
    have il : it < s.heap.objs.size := by
      obtain ⟨_, q, _⟩ := hit
      exact Heap.lt_size q
    have lt : i < its.toArray.size := by
      rw [List.size_toArray]
      exact (List.getElem?_eq_some_iff.mp hu).1
    refine PySem.wpAny_pyNext_enum_itemC (Draws.tuple (A := X.A.in1) (I.ok.hd calm) it a ai its.toArray) he ⟨hit, tp'⟩ lt ne (by simp [ne, ae.symm]) fun x2 hp tk hx2 ho st2 hT hsz hk => ?_
    have ex : x2 = u := by
      have h3 : its[i]? = some x2 := by simpa using hx2
      rw [hu] at h3
      exact (Option.some.inj h3).symm
    subst ex
    refine ⟨_, rfl, wpAny_letOwnedTupleGo_enum (s := { s with heap := hp, toks := tk + 1 }) ho fun hp2 he2 sb => ?_⟩
    have hT2 : hp2.get? s.heap.objs.size = some { cls := .type "tuple", data := .seq #[.int i tk, x2] } := (sb.2 _ (Nat.ne_of_gt el)).trans hT
    have pair : ObjOk X.prog X.w (upd H s.heap.objs.size (.tup [.int (i : Nat), x])) hp2 s.heap.objs.size (.tup [.int (i : Nat), x]) :=
      ⟨by show 2 ≤ sizeLine; decide, [.int i tk, x2], .cons ⟨_, rfl⟩ (.cons ru .nil), ⟨_, hT2, rfl, _, rfl⟩⟩
    have I1 : Inv X pins σ (upd H s.heap.objs.size (.tup [.int (i : Nat), x])) { s with heap := hp2, toks := tk + 1 } :=
      I.turnedNew (ch := [e, it]) (fun b ob hb q => (sb.2 b fun z => hb (by simp [z])).trans (hk b ob (fun z => hb (by simp [z])) (fun z => hb (by simp [z])) q)) hf (Nat.le_refl _) pair
    have e1 : ((i + 1 : Nat) : Int) = (i : Int) + 1 := by omega
    refine ⟨.ref s.heap.objs.size, _, I1, rfl, ⟨_, x, rfl, I.hok.fresh (Nat.le_refl _), rfl, fun ys hy => by rw [I.tuple_inj hy hq]; exact hx⟩,
      ⟨⟨x2, by rw [e1]; exact he2⟩, st2.1.at fun o q => (sb.2 it ne.symm).trans q, ne, ai, ae⟩, fun b hb => ?_⟩
    have lb : b < s.heap.objs.size := by
      rcases List.mem_cons.mp hb with rfl | hb
      · exact el
      · rw [List.mem_singleton.mp hb]
        exact il
    rw [upd_ne (Nat.ne_of_lt lb)]
    exact (hf b hb).1
  done := by
    rintro X rfl rfl rfl calm i pins s σ H E I hf ⟨⟨old, he⟩, hit, ne, ai, ae⟩ ⟨xs, hq, hx⟩
    obtain ⟨its, rv, tp, hz⟩ := I.tuple hq
    obtain ⟨f0, f1, f2, f3, f4, f5⟩ := hf it (by simp)
    have tp' : s.heap.IsTuple a its.toArray := tp
    have ln := rv.length
    exact enum_end (I.ok.hd calm) he hit tp' (by simp; omega) fun hp eb => ⟨rfl, I.turned (t' := s.toks) (fun b o hb q => eb b o hb q) f0 f1 f3 f4 f5⟩
  self := fun A i s Q E st h => st.1.elim fun _ he => wpAny_pyIter_enum he h
def iEnumT (K : PySem.W.Frag) (ta : TA) : TI := fun σ H R => ta σ H fun vs H1 => ∃ a xs, vs = [.ref a] ∧ SqT K H1 a xs ∧ R (ItE K a) H1
theorem pi_enumT {X : Cx} {e : Expr} {ta : TA} {p pos tpos : Pos} {elts : List Expr} {kk : Nat} (hg : Gl X "enumerate") (hm : X.mg "enumerate" = none) (ha : PA X [e] ta)
    (hs : starEach [e] X.env = [(false, eval e X.env)] := by rfl) : PI X (.Tuple elts kk tpos) (.Call (.Name "enumerate" p) [e] [] pos) (iEnumT X.K ta) := by
  refine ⟨fun pins s σ H R I h => ?_⟩
  refine Call_ (ld_blt I hg hm boot_enumerate (PyProof.Rows.callWith_type1 (thn (ha.run pos pins s σ H _ I h) ?_) hs rfl))
  rintro us s1 ⟨vs, H1, I1, r1, a, xs, rfl, hq, q⟩
  obtain ⟨u, rfl, r⟩ := vals1 r1
  obtain rfl : u = Value.ref a := r
  obtain ⟨its, rv, tp, hz⟩ := I1.tuple hq
  have tp' : s1.heap.IsTuple a its.toArray := tp
  have la : a < s1.heap.objs.size := by
    obtain ⟨o, e, _⟩ := tp
    exact Heap.lt_size e
  refine enum_made (begins_tuple a its.toArray) tp' fun hp en ti keep => wpAny_pyIter_enum en ?_
  refine ⟨s1.heap.objs.size + 1, [s1.heap.objs.size + 1, s1.heap.objs.size], _, _, H1, rfl, I1.kept (t' := s1.toks) keep, enum_turn a (s1.heap.objs.size + 1) s1.heap.objs.size,
    ⟨⟨.none, en⟩, ⟨_, ti, rfl, rfl⟩, Nat.succ_ne_self _, Nat.ne_of_lt la, Nat.ne_of_lt (Nat.lt_succ_of_lt la)⟩, fun b hb => ?_, q⟩
  have le : s1.heap.objs.size ≤ b := by
    rcases List.mem_cons.mp hb with rfl | hb
    · exact Nat.le_add_right _ _
    · rw [List.mem_singleton.mp hb]
      exact Nat.le_refl _
  exact I1.fpOk le (I1.hok.fresh le)
/-- a for over enumerate of a tuple that stands still -/
theorem forE {K : PySem.W.Frag} {a : Addr} {xs : List V} {g : TG} {tb : TS} {D : Ends} {σ : L2.St} {H : Hp} (Pv : Nat → L2.St → Hp → Prop) (h0 : Pv 0 σ H)
    (hst : ∀ i σ H, i ≤ xs.length → Pv i σ H → SqT K H a xs)
    (hs : ∀ i x σ H T, xs[i]? = some x → Pv i σ H → H T = none → g (.ref T) σ (upd H T (.tup [.int (i : Nat), x])) fun σ2 H2 => tb { D with nx := Pv (i + 1), ct := Pv (i + 1), bk := D.nx } σ2 H2)
    (hd : ∀ σ H, Pv xs.length σ H → D.nx σ H) :
    ∃ W : Nat → Nat → L2.St → Hp → Prop, (∃ m, W 0 m σ H) ∧ ∀ i m σ H, W i m σ H →
      ((ItE K a).stop i H ∧ D.nx σ H) ∨ ((ItE K a).go i H ∧ ∃ N : L2.St → Hp → Prop, (∀ σ' H', N σ' H' → ∃ m', m' < m ∧ W (i + 1) m' σ' H') ∧
        ∀ x H', (ItE K a).yld i H x H' → g x σ H' fun σ2 H2 => tb { D with nx := N, ct := N, bk := D.nx } σ2 H2) := by
  refine ⟨fun i m σ H => m = xs.length - i ∧ i ≤ xs.length ∧ Pv i σ H, ⟨xs.length, rfl, Nat.zero_le _, h0⟩, ?_⟩
  rintro i m σ H ⟨rfl, hi, pv⟩
  have sd := hst i σ H hi pv
  rcases Nat.lt_or_ge i xs.length with lt | ge
  · refine .inr ⟨⟨xs, xs[i], sd, by simp [lt]⟩, Pv (i + 1), fun σ' H' q => ⟨xs.length - (i + 1), by omega, rfl, lt, q⟩, ?_⟩
    rintro v H' ⟨T, x, rfl, nT, rfl, hx⟩
    exact hs i x σ H T (hx xs sd) pv nT
  · have e : i = xs.length := by omega
    subst e
    exact .inl ⟨⟨xs, sd, ge⟩, hd σ H pv⟩
/-! ### inside a comprehension the library's K is the outer one -/
section
variable {X : Cx} {K : PySem.W.Frag} {e : Expr} {f : Str} {pos : Pos} {ta : TE}
theorem pe_fldK (hK : X.K = K) (he : PE X e ta) (hb : attributeBase e f X.env (eval e X.env) = eval e X.env) : PE X (.Attribute e f pos) (tFld K ta f) := hK ▸ pe_fld he hb
theorem ixK {r : PySem.W.Frag → R2} (hK : X.K = K) (h : IxR X (r X.K)) : IxR X (r K) := hK ▸ h
theorem opK {r : PySem.W.Frag → R2} {op : Value → Value → Sem Value} (hK : X.K = K) (h : OpR X op (r X.K)) : OpR X op (r K) := hK ▸ h
theorem crK {r : PySem.W.Frag → List V → Hp → VK → Prop} {c : Value} (hK : X.K = K) (h : CallR X c (r X.K)) : CallR X c (r K) := hK ▸ h
theorem pg_tupK {es : List Expr} {k n : Nat} {t : TGs} (hK : X.K = K) (hc : X.calm = true) (h : PGs X es t)
    (hn : (assignEach es X.env).length = n := by rfl) (hst : (assignEach es X.env).findIdx? (·.1) = none := by rfl) : PG X (.Tuple es k pos) (gTup K n t) := hK ▸ pg_tup hc h hn hst
end
/-- behind a constructor all that was ahead of it still stands -/
theorem made_same {H H' : Hp} {x dx : Addr} {o1 o2 : HO} (nx : H x = none) (nd : H dx = none) (b : But x (upd (upd H dx o1) x o2) H') : Same H H' := fun q o e => by
  have h1 : q ≠ x := ne_of_none e nx
  refine b q o h1 ?_
  rw [upd_ne h1, upd_ne (ne_of_none e nd)]
  exact e
/-- a comprehension over nothing -/
theorem lcE {J : It} {Sd : Hp → Prop} (wk : Wk J [] Sd) {g : TG} {tt : TT} {te : TE} {vs : List Nat} {σ : L2.St} {H1 : Hp} {D : Addr} {Qd : Hp → Prop}
    (hst : Sd (upd H1 D (.lst []))) (hd : Qd (upd H1 D (.lst []))) :
    ∃ W : Nat → Nat → Hp → Prop, (∃ m, W 0 m (upd H1 D (.lst []))) ∧ ∀ i m H, W i m H →
      (J.stop i H ∧ Qd H) ∨ (J.go i H ∧ ∃ Nx : Hp → Prop, (∀ H', Nx H' → ∃ m', m' < m ∧ W (i + 1) m' H') ∧ ∀ x H', J.yld i H x H' →
        g x (wipe σ vs) H' fun σ2 H2 => wipe σ2 vs = wipe σ vs ∧ tt σ2 H2 fun b H3 =>
        if b = true then te σ2 H3 fun y H4 => ∃ acc, H4 D = some (.lst acc) ∧ acc.length < sizeLine ∧ Nx (upd H4 D (.lst (acc ++ [y]))) else Nx H3) :=
  lcW wk (fun i H => H = upd H1 D (.lst [])) rfl (fun i H _ e => e ▸ hst) (fun i x H hx _ => by simp at hx) (fun H e => e ▸ hd)
theorem sqT_ty {K : PySem.W.Frag} {H : Hp} {a : Addr} {xs : List V} (h : SqT K H a xs) : TyX K H (.ref a) (.type "tuple") := by
  rcases h with (h | ⟨o, h⟩) | ⟨o, its, n, h, c, _⟩
  · exact .base (.tup h)
  · exact .fTuple h
  · exact .kTuple h c
theorem But.same {p : Addr} {H H1 H2 : Hp} (a : But p H H1) (b : Same H1 H2) : But p H H2 := a.trans (.of b)
end G
/-! own rules, fifth part: the law's call at the head's end, for promises that ask that no guard runs -/
namespace G
open PySem PySem.Spec PyProof.Rows L2
section
variable {P : Program} {w : World} {K : PySem.W.Frag} {mg mb : Str → Option Value} {CX : CXT} {k : Nat}
variable {fa sa : Addr} {fd : FuncData} {x : Str} {sp : Sp} {s : Shared} {us : List Value} {ns : List Int}
/-- what the judge wants of the call's end -/
abbrev LawEnd (s : Shared) : Result → Shared → Prop := fun r t => r = .ok (.ret (.bool true)) ∧ OldK s.heap t.heap ∧ t.os = s.os ∧ AllBare t.gens
/-- the law's promise in an abstract heap where at most the script at sa stands -/
theorem law_core (H : Hp) (only : Only H) (seq : SqL K H sa (ns.map V.int)) (ok : HOk P w H s.heap) (one : ∀ b, H b ≠ none → b = sa) (out : H sa ≠ none → K.lookup sa = none)
    (kin : K.In s.heap) (gl : s.heap.Ns mainGlobals mg) (bl : s.heap.Ns builtinsNs mb) (bb : ∀ y : Str, y ≠ "__name__" → mb y = bootBuiltins y) (lim : s.heap.NoLimit) (gens : s.gens = #[])
    (obj : s.heap.get? sa = some { cls := .type "list", data := .seq us.toArray }) (room : Room k callerA)
    (F : ∀ base : Heap, K.In base → base.Ns mainGlobals mg → FnG P w K mg base CX k fa fd [x] sp) (bind : ∀ (t : Shared) (u : Value), BindsTo t fd ⟨[u], []⟩ [(x, u)])
    (keeps : sp [.ref sa] H (fun v _ => v = .bl true) fun _ _ _ => False) (noX : ∀ e t, CX [] H s (fun _ _ _ => False) e t → False) :
    codeAny (model P w) callerA (.call (.ref fa) ⟨[.ref sa], []⟩) (LawEnd s) s := by
  -- what is no sequence is not the script
  have free : ∀ {b : Addr} {o : Obj}, s.heap.get? b = some o → (∀ i n, o.data ≠ .seq i n) → H b = none := by
    intro b o e d
    cases hb : H b with
    | none => rfl
    | some u =>
      have z : b = sa := one b (by simp [hb])
      rw [z, obj] at e
      exact absurd rfl (Option.some.inj e ▸ d us.toArray 0)
  have sees : ∀ {b : Addr} {m : Str → Option Value}, s.heap.Ns b m → (hidT s.heap H).Ns b m := by
    rintro b m ⟨o, es, ep, e, d, r⟩
    exact ⟨o, es, ep, hidT_get e (free e fun i n z => by rw [d] at z; cases z), d, r⟩
  have kinB : K.In (hidT s.heap H) := by
    intro b o e
    refine hidT_get (kin b o e) ?_
    cases hb : H b with
    | none => rfl
    | some u =>
      have z : b = sa := one b (by simp [hb])
      subst z
      rw [out (by simp [hb])] at e
      cases e
  obtain ⟨mc, c1, c2⟩ := id lim
  have md : Mod K mg (hidT s.heap H) := ⟨kinB, sees gl, ⟨mb, sees bl, bb⟩, mc, sees c1, c2⟩
  have none_in : ∀ b : Addr, b ∉ ([] : List Addr) := fun b z => nomatch z
  have env : Env0 P w K mg (hidT s.heap H) callerA [] s H :=
    ⟨rfl, md, fun b o e => of_hidT e, Nat.le_of_eq (hidT_size _ _), trivial, fun b z => absurd (show b ∈ ([] : List Addr) from z) (none_in b), ok, .of_eq gens⟩
  have run := (F _ kinB (sees gl)).run callerA [] s H ⟨[.ref sa], []⟩ [.ref sa] [.ref sa] _ _ room rfl env (bind s (.ref sa)) (.cons rfl .nil) keeps
  refine codeAny_mono run ?_
  rintro (e | fl) t h
  · exact (noX e t h).elim
  cases fl with
  | ret u =>
    obtain ⟨v, H', os, bare, un, ok', rv, hv⟩ := h
    obtain rfl : v = V.bl true := hv
    obtain rfl : u = Value.bool true := rv
    refine ⟨rfl, .of_keep fun b o e => ?_, os, bare⟩
    cases hb : H b with
    | none => exact un.keep b o e hb (fun z => none_in b z) (by simp)
    | some u =>
      obtain ⟨ob, xs, z⟩ := (only b).resolve_left (by simp [hb])
      obtain ⟨e1, _⟩ := ok b _ z
      obtain ⟨e2, _⟩ := ok' b _ (un.frzs b ob _ z)
      rw [e] at e1
      exact (Option.some.inj e1) ▸ e2
  | next => exact h.elim
  | brk => exact h.elim
  | cont => exact h.elim
theorem law_callG (kin : K.In s.heap) (gl : s.heap.Ns mainGlobals mg) (bl : s.heap.Ns builtinsNs mb) (bb : ∀ y : Str, y ≠ "__name__" → mb y = bootBuiltins y) (lim : s.heap.NoLimit) (gens : s.gens = #[])
    (obj : s.heap.get? sa = some { cls := .type "list", data := .seq us.toArray }) (iv : IntsAre us ns) (fits : ns.length ≤ sizeLine) (room : Room k callerA)
    (F : ∀ base : Heap, K.In base → base.Ns mainGlobals mg → FnG P w K mg base CX k fa fd [x] sp) (bind : ∀ (t : Shared) (u : Value), BindsTo t fd ⟨[u], []⟩ [(x, u)])
    (keeps : ∀ H : Hp, Only H → SqL K H sa (ns.map V.int) → sp [.ref sa] H (fun v _ => v = .bl true) fun _ _ _ => False) (noX : ∀ H e t, CX [] H s (fun _ _ _ => False) e t → False) :
    codeAny (model P w) callerA (.call (.ref fa) ⟨[.ref sa], []⟩) (LawEnd s) s := by
  have vs := vals_ints iv
  have ln := iv.length
  cases own : K.lookup sa with
  | some o =>
    have e := kin sa o own
    rw [obj] at e
    obtain rfl := Option.some.inj e
    have o1 : Only fun _ => none := fun _ => .inl rfl
    have q1 : SqL K (fun _ => none) sa (ns.map V.int) := .inr ⟨_, us.toArray, _, own, rfl, rfl, rfl, by simpa [ln] using fits, by simpa using vs⟩
    exact law_core _ o1 q1 (fun b u z => nomatch z) (fun b z => absurd rfl z) (fun z => absurd rfl z) kin gl bl bb lim gens obj room F bind (keeps _ o1 q1) (noX _)
  | none =>
    let H : Hp := fun b => if b = sa then some (.frz { cls := .type "list", data := .seq us.toArray } (.lst (ns.map V.int))) else none
    have at1 : H sa = some (.frz { cls := .type "list", data := .seq us.toArray } (.lst (ns.map V.int))) := if_pos rfl
    have at0 : ∀ b, b ≠ sa → H b = none := fun b h => if_neg h
    have o1 : Only H := by
      intro b
      by_cases h : b = sa
      · subst h
        exact .inr ⟨_, _, at1⟩
      · exact .inl (at0 b h)
    have q1 : SqL K H sa (ns.map V.int) := .inl (.inr ⟨_, at1⟩)
    refine law_core H o1 q1 ?_ ?_ (fun _ => own) kin gl bl bb lim gens obj room F bind (keeps H o1 q1) (noX H)
    · intro b u z
      by_cases h : b = sa
      · subst h
        rw [at1] at z
        obtain rfl := Option.some.inj z
        exact ⟨obj, by rw [List.length_map]; exact fits, us, _, vs, obj⟩
      · rw [at0 b h] at z
        cases z
    · intro b z
      by_cases h : b = sa
      · exact h
      · exact absurd (at0 b h) z
end
/-- the walk of a law -/
theorem walkG {l : PySem.W.OpenLaw} {n k : Nat} {q : Program} {loose : List Str} {XP : (Str → Option Value) → Heap → Prop} {YP : World → Heap → Prop} {d : DefRec} {CX : CXT} {x : Str}
    (most : l.most = some n) (fits : n ≤ sizeLine) (dfl : d.params.defaults = []) (room : Room k callerA)
    (F : ∀ (w : World) (mg : Str → Option Value) (fa : Addr) (h : Heap), YP w h → h.Ns mainGlobals mg → mg d.name = some (.ref fa) →
      ∃ (K : PySem.W.Frag) (fd : FuncData) (sp : Sp), K.In h ∧ (∀ (s : Shared) (u : Value), BindsTo s fd ⟨[u], []⟩ [(x, u)]) ∧
        (∀ (H : Hp) (a : Addr) (ns : List Int), ns.length ≤ n → Only H → SqL K H a (ns.map V.int) → sp [.ref a] H (fun v _ => v = .bl true) fun _ _ _ => False) ∧
        ∀ base : Heap, K.In base → base.Ns mainGlobals mg → FnG l.prog w K mg base CX k fa fd [x] sp)
    (noX : ∀ (H : Hp) (s : Shared) (e : Value) (s' : Shared), CX [] H s (fun _ _ _ => False) e s' → False) :
    PySem.W.WalkO q loose XP YP l.row.toRowW d [] (fun f vs => PySem.call f vs) := by
  refine Att.attach_call most dfl ?_
  intro w s0 s1 mg mb fa o pm cd doc sa us ns G Y ho hd hcd hmg obj iv len gens
  obtain ⟨K, fd, sp, kin, bind, keeps, Fk⟩ := F w mg fa _ Y G.T.g hmg
  exact law_callG kin G.T.g G.T.b G.T.builtins G.T.nolimit gens obj iv (Nat.le_trans len fits) room Fk bind (fun H o1 q1 => keeps H sa ns len o1 q1) fun H e t => noX H s1 e t
end G
/-! own rules, sixth part: the truth of an instance by its own __len__ -/
namespace G
open PySem PySem.Spec PyProof.Rows L2
section
variable {X : Cx} {CX : CXT} {k : Nat} {C f : Addr} {fd : FuncData} {ps : List Str} {sp : Sp} {E : XK}
theorem tru_len (h0 : PySem.W.findIn X.K (.ref C) "__bool__" = some none) (h1 : PySem.W.findIn X.K (.ref C) "__len__" = some (some (.ref f))) (h2 : PySem.W.isFn X.K (.ref f) = true)
    (Fn : FnOk X.prog X.w X.K X.mg X.base CX k f fd ps sp) (hr : Room (k + 1) X.A) (hb : Binds X.K fd ps []) (hx : Passes CX X E) :
    TruR X (fun x H Q => ∃ (a dx : Addr) (fs : List (Str × V)), x = .ref a ∧ H a = some (.ins C dx fs) ∧
      sp [.ref a] H (fun v H' => ∃ n : Int, v = .int n ∧ 0 ≤ n ∧ n < 2 ^ 63 ∧ Q (n != 0) H') E) := by
  intro pins s σ H x v Q I rx h
  obtain ⟨a, dx, fs, rfl, ha, hs⟩ := h
  obtain rfl : v = Value.ref a := rx
  obtain ⟨mA, J, _⟩ := ins_get I.hok ha
  obtain ⟨od, J, _⟩ := J.look
  have kin := I.kIn
  have hl : [Value.ref a].length = ps.length := Fn.len _ _ _ _ hs
  have bt := hb s [Value.ref a] kin (by simpa using hl)
  have body : wpAny (model X.prog X.w) X.A.in1 (call (.ref f) [.ref a]) (EP X pins σ fun v H' => ∃ n : Int, v = .int n ∧ 0 ≤ n ∧ n < 2 ^ 63 ∧ Q (n != 0) H') X.xe s := by
    refine wpAny_call (codeAny_mono (Fn.run X.A.in1 X.stack s H ⟨[.ref a], []⟩ [.ref a] [.ref a] _ E hr.in1 I.env0.in1 (by simpa using bt) (.cons rfl .nil) hs) ?_)
    intro r s' hq
    match r, hq with
    | .error e, hq => exact (hx pins σ H s e s' I hq)
    | .ok (.ret w), hq => exact I.after hq
    | .ok .next, hq => exact hq.elim
    | .ok .brk, hq => exact hq.elim
    | .ok .cont, hq => exact hq.elim
  have key : wpAny (model X.prog X.w) X.A (runValue (.builtin "len" ⟨[.ref a], []⟩)) (fun r s' => ∃ (n : Int) (t : Tok), r = .int n t ∧ ∃ H', Inv X pins σ H' s' ∧ Q (n != 0) H') X.xe s := by
    refine wpAny_runValue (codeAny_builtin entry_len ?_)
    rw [Around.under_plainId plain_len _]
    unfold Builtin.«len»
    refine wpAny_bind (m := oneArg "len" _) (wpAny_pure ?_)
    refine wpAny_bind (m := callSpecial? (.ref a) (Str.ofString "__len__")) (PySem.W.special_fn kin J h1 (beq_iff_eq.mp h2) (wpAny_mono body ?_ fun _ _ z => z))
    rintro r s' ⟨z, H', I', rz, n, rfl, n0, n1, q⟩
    obtain ⟨t, rfl⟩ := rz
    refine wpAny_bind (wpAny_holding (wpAny_pure ?_))
    refine wpAny_bind (wpAny_letGo ?_)
    show wpAny _ _ (if n < 0 then _ else _) _ _ _
    rw [if_neg (by omega)]
    show wpAny _ _ (if n ≥ 2 ^ 63 then _ else _) _ _ _
    rw [if_neg (by omega)]
    exact wpAny_bind (wpAny_mkInt (wpAny_pure ⟨n, _, rfl, H', I'.tok _, q⟩))
  show wpAny (model X.prog X.w) X.A (truthy (.ref a)) _ X.xe s
  unfold truthy
  refine wpAny_bind (m := callSpecial? (.ref a) (Str.ofString "__bool__")) (wpAny_bind (wpAny_bind (J.type.here ((PySem.W.looks_findIn kin h0).here (wpAny_pure ?_)))))
  refine wpAny_bind (wpAny_bind (J.type.here ((PySem.W.looks_findIn kin h1).here ?_)))
  refine wpAny_bind (wpAny_mono key ?_ fun _ _ z => z)
  rintro r s' ⟨n, t, rfl, H', I', q⟩
  exact wpAny_pure ⟨H', I', q⟩
end
end G
/-! own rules: a tuple read backwards by t[::-1]; what a text of texts measures -/
namespace G
open PySem PySem.Spec PyProof.Rows L2
section
variable {prog : Program} {w : World} {A : Around} {E : Value → Shared → Prop} {s : Shared}
theorem adjust_back (n : Nat) : Builtin.Slice.sliceAdjust none none (-1) (n : Int) = ((n : Int) - 1, -1) := rfl
theorem places_back (n : Nat) : Builtin.Slice.slicePlaces ((n : Int) - 1) (-1) (-1) = n := by
  unfold Builtin.Slice.slicePlaces
  have h1 : ¬ ((-1 : Int) > 0) := by omega
  simp only [h1, if_false]
  rw [show (-(-1) : Int) = 1 by decide, Int.ediv_one]
  split <;> omega
theorem sliceApplied_back {sl : Addr} {vl vu vs : Value} {n : Nat} {Q : Int × Int × Nat → Shared → Prop} (hs : s.heap.IsSliceOf sl vl vu vs) (pl : IsPart vl none) (pu : IsPart vu none)
    (ps : IsPart vs (some (-1))) (h : Q ((n : Int) - 1, -1, n) s) : wpAny (model prog w) A (Builtin.Slice.sliceApplied (.ref sl) (pure (n : Int))) Q E s := by
  obtain ⟨os, hos, hcs, hds⟩ := id hs
  unfold Builtin.Slice.sliceApplied Builtin.Slice.sliceFields
  refine wpAny_bind (wpAny_bind (wpAny_field hos hds (x := vl) rfl (wpAny_bind (wpAny_field hos hds (x := vu) rfl (wpAny_bind (wpAny_field hos hds (x := vs) rfl (wpAny_pure ?_)))))))
  refine wpAny_bind (HT.slicePart_ ps ?_)
  show wpAny _ _ (if ((-1 : Int) == 0) = true then _ else _) _ _ s
  rw [if_neg (by decide)]
  refine wpAny_bind (HT.slicePart_ pl (wpAny_bind (HT.slicePart_ pu (wpAny_bind (wpAny_pure ?_)))))
  show wpAny _ _ (match Builtin.Slice.sliceAdjust none none (-1) (n : Int) with | (lo, hi) => pure (lo, (-1 : Int), Builtin.Slice.slicePlaces lo hi (-1))) _ _ s
  rw [adjust_back n]
  show wpAny _ _ (pure ((n : Int) - 1, (-1 : Int), Builtin.Slice.slicePlaces ((n : Int) - 1) (-1) (-1))) _ _ s
  rw [places_back]
  exact wpAny_pure h
theorem pick_back (xs : Array Value) : ((List.range xs.size).filterMap fun (k : Nat) => xs[((xs.size : Int) - 1 + (k : Int) * (-1)).toNat]?).toArray = xs.toList.reverse.toArray := by
  congr 1
  have e : (List.range xs.size).filterMap (fun (k : Nat) => xs[((xs.size : Int) - 1 + (k : Int) * (-1)).toNat]?) = ((List.range xs.size).map fun k => xs.size - 1 - k).filterMap (xs[·]?) := by
    rw [List.filterMap_map]
    have go : ∀ l : List Nat, (∀ k ∈ l, k < xs.size) → l.filterMap (fun (k : Nat) => xs[((xs.size : Int) - 1 + (k : Int) * (-1)).toNat]?) = l.filterMap ((fun x => xs[x]?) ∘ fun k => xs.size - 1 - k) := by
      intro l
      induction l with
      | nil => intro _; rfl
      | cons k l ih =>
        intro h
        have hk := h k List.mem_cons_self
        have e : ((xs.size : Int) - 1 + (k : Int) * (-1)).toNat = xs.size - 1 - k := by omega
        rw [List.filterMap_cons, List.filterMap_cons, ih fun j hj => h j (List.mem_cons_of_mem _ hj), e]
        rfl
    exact go _ fun k hk => List.mem_range.mp hk
  rw [e, PySem.W.krv_range, List.filterMap_reverse, PySem.W.krv_all]
theorem getItem_tuple_back {t sl : Addr} {items : Array Value} {vl vu vs : Value} {Q : Value → Shared → Prop} (ht : IsTup s.heap t items) (hs : s.heap.IsSliceOf sl vl vu vs)
    (pl : IsPart vl none) (pu : IsPart vu none) (ps : IsPart vs (some (-1)))
    (h : Q (.ref s.heap.objs.size) { s with heap := s.heap.push { cls := .type "tuple", data := .seq items.toList.reverse.toArray } })
    (hsz : items.size ≤ sizeLine) : wpAny (model prog w) A (getItem (.ref t) (.ref sl)) Q E s := by
  have hz : sizeOk (.seq items.toList.reverse.toArray) := by
    show items.toList.reverse.toArray.size ≤ sizeLine
    rw [List.size_toArray, List.length_reverse, Array.length_toList]
    exact hsz
  obtain ⟨os, hos, hcs, hds⟩ := id hs
  have hTs : s.TypeIs (.ref sl) "slice" := ⟨os, hos, hcs⟩
  unfold getItem
  try with_reducible refine wpAny_holding ?_
  first | refine wpAny_bind (wpAny_pure ?_) | skip
  refine wpAny_bind (wpAny_sequenceKey ht.typeIs (by decide) ?_)
  refine wpAny_bind (wpAny_callSpecial?_slot (name := Str.ofString "__getitem__") ht.typeIs PyProof.Rows.slot_tuple_getitem
    (wpAny_call_entry PyProof.Rows.slot_tuple_getitem ht.typeIs entry_tuple_getitem ?_ (args_tuple_getitem _ _)))
  show wpAny _ _ (Builtin.Tuple.tupleItemsOf (.ref t) >>= _) _ _ s
  refine wpAny_bind (tupleItemsOf_ ht ?_)
  refine wpAny_bind (wpAny_typeOf hTs ?_)
  rw [if_pos (by decide)]
  refine wpAny_bind (sliceApplied_back hs pl pu ps ?_)
  have hno : ¬ (((items.size : Int) - 1 == 0 && (-1 : Int) == 1 && items.size == items.size) = true) := by
    intro q
    rw [Bool.and_eq_true, Bool.and_eq_true] at q
    exact absurd q.1.2 (by decide)
  show wpAny _ _ (if ((items.size : Int) - 1 == 0 && (-1 : Int) == 1 && items.size == items.size) = true then _ else _) _ _ s
  rw [if_neg hno, pick_back]
  first
    | exact wpAny_bind (m := Builtin.Tuple.tupleExact _) (wpAny_newObj_type (wpAny_pure ⟨_, rfl, wpAny_pure h⟩) hz)
    | exact wpAny_bind (m := Builtin.Tuple.tupleExact _) (wpAny_newObj_type (wpAny_bind (wpAny_pure (wpAny_pure ⟨_, rfl, wpAny_pure h⟩))) hz)
end
def tRevT (K : PySem.W.Frag) (te : TE) : TE := fun σ H Q => te σ H fun x H1 => ∃ a xs, x = .ref a ∧ SqT K H1 a xs ∧ ∀ p, H1 p = none → Q (.ref p) (upd H1 p (.tup xs.reverse))
theorem pe_revT {X : Cx} {e : Expr} {te : TE} {k : Nat} {p1 p2 p3 pos : Pos} (he : PE X e te) : PE X (.Subscript e (.Slice none none (some (.UnaryOp .USub (.Constant (.int 1) k p1) p2)) p3) pos) (tRevT X.K te) := by
  refine ⟨fun pins s σ H Q I h => ?_⟩
  refine Subscript_ (thn (he.run pins s σ H _ I h) fun v s1 ⟨x, H1, I1, r1, q1⟩ => ?_)
  obtain ⟨a, xs, ex, hx, q⟩ := q1
  subst ex
  cases r1
  have hst : PO X (some (.UnaryOp .USub (.Constant (.int 1) k p1) p2)) (tPart (tUn (rU fun i => .int (-i)) (tC (.int 1)))) := po_some (pe_un un_neg pe_int)
  refine wpAny_Slice (thn (po_none.run pins s1 σ H1 (fun o H2 => o = none ∧ H2 = H1) I1 ⟨rfl, rfl⟩) fun vl s2 ⟨l, H2, I2, pl, el, e2⟩ => ?_)
  subst el e2
  refine thn (po_none.run pins s2 σ H2 (fun o H3 => o = none ∧ H3 = H2) I2 ⟨rfl, rfl⟩) fun vu s3 ⟨u, H3, I3, pu, eu, e3⟩ => ?_
  subst eu e3
  refine thn (hst.run pins s3 σ H3 (fun o H4 => o = some (-1) ∧ H4 = H3) I3 ⟨1, rfl, -1, rfl, rfl, rfl⟩) fun vs s4 ⟨o, H4, I4, ps, eo, e4⟩ => ?_
  subst eo e4
  have I5 : Inv X pins σ H4 { s4 with heap := s4.heap.push { cls := .type "slice", data := .fields #[vl, vu, vs] } } := I4.kept (t' := s4.toks) fun b ob q => Heap.get?_push_of_some _ q
  obtain ⟨its, r, ht, hz⟩ := I5.tuple hx
  have hlen := r.length
  have ht' : IsTup (s4.heap.push { cls := .type "slice", data := .fields #[vl, vu, vs] }) a its.toArray := ht
  show wpAny (model X.prog X.w) X.A (subscriptTail e (.Slice none none (some (.UnaryOp .USub (.Constant (.int 1) k p1) p2)) p3) (.ref a) (.ref s4.heap.objs.size)) (EP X pins σ Q) X.xe { s4 with heap := s4.heap.push { cls := .type "slice", data := .fields #[vl, vu, vs] } }
  refine tail_any (ops := [.ref a, .ref s4.heap.objs.size]) ht'.typeIs PyProof.Rows.slot_tuple_getitem.lookup ?_ (by with_unfolding_all rfl)
  refine getItem_tuple_back (items := its.toArray) ht' (Heap.IsSliceOf.new _ vl vu vs) pl pu ps ?_ (by rw [List.size_toArray]; omega)
  refine ⟨.ref _, _, I5.laid (t' := s4.toks) (o := .tup xs.reverse) (fun b ob q => Heap.get?_push_of_some _ q) (Nat.le_refl _) ?_, rfl, q _ (I5.hok.fresh (Nat.le_refl _))⟩
  exact ⟨by rw [List.length_reverse]; exact hz, _, r.reverse, IsTup.new _ _⟩
/-! ### slices and sums of tuples, whatever stands -/
theorem cut_whole {xs : List V} {lo hi : Option Int} (h : HT.sIx xs.length 0 lo = 0 ∧ HT.sIx xs.length xs.length hi = xs.length) : cutV xs lo hi = xs := by
  unfold cutV
  rw [h.1, h.2, List.drop_zero, Nat.sub_zero]
  exact List.take_of_length_le (Nat.le_refl _)
theorem sl_both {H : Hp} {a : Addr} {xs : List V} {lo hi : Option Int} {Q : VK} (ha : H a = some (.tup xs))
    (q : ∀ H' p, Same H H' → H' p = some (.tup (cutV xs lo hi)) → Q (.ref p) H') :
    (HT.sIx xs.length 0 lo = 0 ∧ HT.sIx xs.length xs.length hi = xs.length → Q (.ref a) H) ∧
    (¬ (HT.sIx xs.length 0 lo = 0 ∧ HT.sIx xs.length xs.length hi = xs.length) → ∀ p, H p = none → Q (.ref p) (upd H p (.tup (cutV xs lo hi)))) :=
  ⟨fun h => q H a (.refl _) (by rw [cut_whole h]; exact ha), fun _ p np => q _ p ((Same.refl _).new np) upd_same⟩
theorem cat_both {H : Hp} {a b : Addr} {xs ys : List V} {Q : VK} (ha : H a = some (.tup xs)) (hb : H b = some (.tup ys))
    (q : ∀ H' p, Same H H' → H' p = some (.tup (xs ++ ys)) → Q (.ref p) H') :
    (xs = [] → Q (.ref b) H) ∧ (xs ≠ [] → ys = [] → Q (.ref a) H) ∧ (xs ≠ [] → ys ≠ [] → ∀ p, H p = none → Q (.ref p) (upd H p (.tup (xs ++ ys)))) :=
  ⟨fun h => q H b (.refl _) (by rw [h]; exact hb), fun _ h => q H a (.refl _) (by rw [h, List.append_nil]; exact ha), fun _ _ p np => q _ p ((Same.refl _).new np) upd_same⟩
def rSlB (K : PySem.W.Frag) : V → Option Int → Option Int → Hp → VK → Prop := fun x lo hi H Q => ∃ a xs, x = .ref a ∧ H a = some (.tup xs) ∧
  ∀ H' p, Same H H' → H' p = some (.tup (cutV xs lo hi)) → Q (.ref p) H'
theorem sl_tupB {X : Cx} : SlR X (rSlB X.K) := by
  intro pins s σ H x v vl vu lo hi sl Q I rx hs pl pu h
  obtain ⟨a, xs, rfl, ha, q⟩ := h
  exact sl_tupA pins s σ H _ v vl vu lo hi sl Q I rx hs pl pu ⟨a, xs, rfl, SqT.of ha, (sl_both ha q).1, (sl_both ha q).2⟩
def rCatB (K : PySem.W.Frag) : R2 := fun x y H Q => ∃ a b xs ys, x = .ref a ∧ y = .ref b ∧ H a = some (.tup xs) ∧ H b = some (.tup ys) ∧ xs.length + ys.length ≤ sizeLine ∧
  ∀ H' p, Same H H' → H' p = some (.tup (xs ++ ys)) → Q (.ref p) H'
theorem op_catB {X : Cx} : OpR X (binaryOp .Add) (rCatB X.K) := by
  intro pins s σ H x y v u Q I rx ry h
  obtain ⟨a, b, xs, ys, rfl, rfl, ha, hb, hz, q⟩ := h
  obtain ⟨q0, q1, q2⟩ := cat_both ha hb q
  exact op_catA pins s σ H _ _ v u Q I rx ry ⟨a, b, xs, ys, rfl, rfl, SqT.of ha, SqT.of hb, hz, q0, q1, q2⟩
end G
/-! own rules: sets of texts (add, sorted), set comprehensions of texts over two sources -/
noncomputable section
namespace G
open PySem PySem.Spec PyProof.Rows L2 PySem.Froz
/-! ### a set of texts -/
theorem perm_of {α : Type} [DecidableEq α] : ∀ {l m : List α}, l.Nodup → (∀ x ∈ l, x ∈ m) → m.length = l.length → m.Perm l
  | [], m, _, _, e => by
    have : m = [] := List.length_eq_zero_iff.mp e
    rw [this]
  | x :: l, m, nd, h, e => by
    have hx := h x List.mem_cons_self
    obtain ⟨n1, n2⟩ := List.nodup_cons.mp nd
    have p := List.perm_cons_erase hx
    have ih := perm_of (m := m.erase x) n2 (fun y hy => (List.mem_erase_of_ne (by rintro rfl; exact n1 hy)).mpr (h y (List.mem_cons_of_mem _ hy))) (by rw [List.length_erase_of_mem hx, e]; rfl)
    exact p.trans (ih.cons x)
def keyT (e : Int × Value) : Str := match e.2 with | .str x _ => x | _ => Str.empty
structure SetD (P : Program) (w : World) (D : SD) (l : List Str) : Prop where
  ok : TxOk P w D l
  nd : l.Nodup
  ts : ∀ e ∈ D.1.toList, ∃ k u, e.2 = Value.str k u
  few : l.length < scanBound
  ris : Ris D.2.2.place.toList
  led : w.params.followText "set-order" = true ∨ D.2.2.led = true
/-- the texts l, in some order, are the set at a -/
def SetX (P : Program) (w : World) (h : Heap) (a : Addr) (l : List Str) : Prop := ∃ D : SD, h.get? a = some (sObj "set" D) ∧ SetD P w D l
section
variable {P : Program} {w : World} {A : Around} {E : Value → Shared → Prop} {s : Shared} {a : Addr} {l : List Str}
theorem SetD.perm {D : SD} (d : SetD P w D l) : (D.1.toList.map keyT).Perm l := by
  refine perm_of d.nd (fun k hk => ?_) (by rw [List.length_map, Array.length_toList]; exact d.ok.sz)
  obtain ⟨e, he, q⟩ := (d.ok.mem k).mp hk
  refine List.mem_map.mpr ⟨e, he, ?_⟩
  obtain ⟨x, u, ex⟩ := d.ts e he
  rw [ex] at q
  unfold keyT
  rw [ex]
  exact (strKind P w).inj (.str x u) x k (is_str x u) q
theorem fresh_d (w : World) : SetD P w (#[], 0, .fresh 0 0 (!w.params.followText "set-order")) [] where
  ok := TxOk.nil rfl
  nd := List.nodup_nil
  ts := fun e he => by simp at he
  few := by decide
  ris := List.Pairwise.nil
  led := by
    cases q : w.params.followText "set-order"
    · exact .inr (by rw [show (!false) = true from rfl]; rfl)
    · exact .inl rfl
theorem tail_ris {ep : Nat} {es1 : Array (Int × Value)} {t2 : SetTable} {wd : Bool} (r : Ris t2.place.toList) : Ris (tailTx ep es1 t2 wd).2.2.place.toList := by
  unfold tailTx
  split
  · exact relayAll_ris _ _ _
  · exact r
theorem tail_led {ep : Nat} {es1 : Array (Int × Value)} {t2 : SetTable} {wd : Bool} : (tailTx ep es1 t2 wd).2.2.led = t2.led := by
  unfold tailTx
  split
  · exact relayAll_led _ _ _
  · rfl
theorem tail_mem {ep : Nat} {es1 : Array (Int × Value)} {t2 : SetTable} {wd : Bool} {e : Int × Value} (h : e ∈ (tailTx ep es1 t2 wd).1.toList) : e ∈ es1.toList := by
  unfold tailTx at h
  split at h
  · exact (relayAll_perm _ _ _).mem_iff.mp h
  · exact h
theorem add_ris {D : SD} {hs : Int} {v : Value} (r : Ris D.2.2.place.toList) : Ris (addTx hs v D).2.2.place.toList := by
  have r1 := layNew_ris D.2.2 D.1 hs v r
  unfold addTx
  refine tail_ris ?_
  split
  · exact r1
  · exact r1
theorem add_led {D : SD} {hs : Int} {v : Value} : (addTx hs v D).2.2.led = D.2.2.led := by
  have r1 := layNew_led D.2.2 D.1 hs v
  unfold addTx
  refine tail_led.trans ?_
  split
  · exact r1
  · exact r1
theorem add_ts {D : SD} {hs : Int} {x : Str} {t : Tok} (h : ∀ e ∈ D.1.toList, ∃ k u, e.2 = Value.str k u) : ∀ e ∈ (addTx hs (.str x t) D).1.toList, ∃ k u, e.2 = Value.str k u := by
  have p1 := layNew_perm D.2.2 D.1 hs (.str x t)
  intro e he
  unfold addTx at he
  have m := p1.mem_iff.mp (tail_mem he)
  rw [Array.toList_push] at m
  rcases List.mem_append.mp m with m | m
  · exact h e m
  · rw [List.mem_singleton.mp m]; exact ⟨x, t, rfl⟩
/-- what is added -/
def insS (k : Str) (l : List Str) : List Str := if k ∈ l then l else k :: l
theorem setX_add {k : Str} {u : Tok} {Q : Value → Shared → Prop} (R : SetX P w s.heap a l) (room : l.length + 1 < scanBound)
    (hQ : ∀ h', Heap.SameBut a s.heap h' → SetX P w h' a (insS k l) → Q .none { s with heap := h', toks := s.toks + 1 }) :
    wpAny (model P w) A (call (.builtin "set.add") [.ref a, .str k u]) Q E s := by
  obtain ⟨D, ho, d⟩ := R
  have hT : s.TypeIs (.ref a) "set" := ⟨_, ho, rfl⟩
  refine wpAny_call_entry F.slot_set_add hT F.entry_set_add ?_ (F.args_set_add_2 _ _)
  unfold Builtin.«set.add» Builtin.Frozenset.oneOther
  simp only [List.isEmpty_nil, bind_assoc]
  unfold Builtin.Frozenset.addrOf setAdd
  refine wpAny_bind (wpAny_pure ?_)
  try dsimp only
  refine wpAny_bind (wpAny_pure ?_)
  try dsimp only
  refine wpAny_bind (wpAny_holding (wpAny_bind ((strKind P w).pyHash (is_str k u) ?_)))
  have fin : ∀ (b : Bool) (h' : Heap), Heap.SameBut a s.heap h' → SetX P w h' a (insS k l) →
      wpAny (model P w) A.in1 (ret Value.none) (fun r s' => ∃ v, r = .done (.ret v) ∧ Q v s') E { s with heap := h', toks := s.toks + 1 } := fun b h' sb x => wpAny_pure ⟨_, rfl, hQ h' sb x⟩
  by_cases hk : k ∈ l
  · have e0 : insS k l = l := if_pos hk
    obtain ⟨es, ep, t⟩ := D
    have hd : (sObj "set" (es, ep, t)).data = .set es ep t := rfl
    obtain ⟨e, he, q⟩ := (d.ok.mem k).mp hk
    have hb0 : es.size < scanBound := by
      have : es.size = l.length := d.ok.sz
      rw [this]; exact d.few
    have hf : t.fits es.size = true := d.ok.fit
    have hel : ElemsOf (strKind P w) es.toList := d.ok.el
    obtain ⟨j, hj⟩ : ∃ j, List.findIdx? (fun e => (strKind P w).is k e.2) es.toList = some j := by
      cases hr : List.findIdx? (fun e => (strKind P w).is k e.2) es.toList with
      | some j => exact ⟨j, rfl⟩
      | none =>
        have c := List.findIdx?_eq_none_iff.mp hr e he
        rw [q] at c
        cases c
    unfold setAddHashed setAddHashedIn
    refine wpAny_holding (wpAny_bind (wpAny_setState_of ho hd hf ?_))
    dsimp only
    rw [byScan_of rfl hb0 hel]
    simp only [↓reduceIte]
    unfold setAddByScan
    refine wpAny_bind ?_
    refine wpAny_bind (wpAny_rule ?_)
    refine wpAny_bind (wpAny_setScan_of (knd := strKind P w) (k := k) (is_str k u) ho hd hf hel ?_)
    rw [hj]
    dsimp only
    exact wpAny_pure (wpAny_pure (fin false s.heap (Heap.SameBut.refl a s.heap) (by rw [e0]; exact ⟨_, ho, d⟩)))
  · have e0 : insS k l = k :: l := if_neg hk
    refine add_x (s := { s with toks := s.toks + 1 }) ho d.ok hk room (fin true _ (Heap.SameBut.update s.heap a _) ?_)
    rw [e0]
    exact ⟨_, get_upd _ ho rfl, add_ok u d.ok, List.nodup_cons.mpr ⟨hk, d.nd⟩, add_ts d.ts, room, add_ris d.ris, by rw [add_led]; exact d.led⟩
theorem strs_of : ∀ (vs : List Value), (∀ v ∈ vs, ∃ k u, v = Value.str k u) → StrsAre vs (vs.map strOf)
  | [], _ => .nil
  | v :: l, h => by
    obtain ⟨k, u, rfl⟩ := h v List.mem_cons_self
    exact .cons k u (strs_of l fun u hu => h u (List.mem_cons_of_mem _ hu))
theorem setX_sorted {Q : Value → Shared → Prop} (R : SetX P w s.heap a l) (hh : A.handled = none) (h64 : l.length < 64)
    (hQ : ∀ s' p (out : Array Value) (c : Nat) (ys : List Str), (∀ b o, s.heap.get? b = some o → s'.heap.get? b = some o) → s'.gens = s.gens → s'.os = s.os → s.heap.objs.size ≤ p →
      s'.heap.get? p = some (seqObj "list" out c) → StrsAre out.toList ys → ys.Perm l → sortedS ys = true → Q (.ref p) s') :
    wpAny (model P w) A (call (.builtin "sorted") [.ref a]) Q E s := by
  obtain ⟨D, ho, d⟩ := R
  obtain ⟨es, ep, t⟩ := D
  have hb : es.size < scanBound := by
    have : es.size = l.length := d.ok.sz
    rw [this]; exact d.few
  refine Calls.call_function_entry kind_sorted plain_sorted entry_sorted (args_sorted1 _) ?_
  unfold Builtin.«sorted»
  refine wpAny_bind (m := checkCount "sorted" 1 1 _) (wpAny_pure ?_)
  refine wpAny_bind (collect_set (A := A.in1) hh ⟨_, ho, rfl, rfl⟩ d.ok.fit hb d.ris d.led fun s1 vs k1 hz g1 o1 pm => ?_)
  have hvl : vs.length = l.length := by rw [pm.length_eq, List.length_map, Array.length_toList]; exact d.ok.sz
  have all : ∀ v ∈ vs, ∃ k u, v = Value.str k u := fun v hv => by
    obtain ⟨e, he, q⟩ := List.mem_map.mp (pm.mem_iff.mp hv)
    obtain ⟨k, u, h1⟩ := d.ts e he
    exact ⟨k, u, by rw [← q]; exact h1⟩
  have hS := strs_of vs all
  have pk : (vs.map strOf).Perm l := by
    refine List.Perm.trans ?_ d.perm
    have q := pm.map strOf
    rw [List.map_map] at q
    refine q.trans (List.Perm.of_eq (List.map_congr_left fun e he => ?_))
    obtain ⟨k, u, h1⟩ := d.ts e he
    show strOf e.2 = keyT e
    unfold keyT
    rw [h1]
    rfl
  refine wpAny_bind (wpAny_newList ?_ (by rw [hvl, sizeLine_eq]; omega))
  have hoL : (s1.heap.push (seqObj "list" vs.toArray 0)).get? s1.heap.objs.size = some (seqObj "list" vs.toArray 0) := Heap.get?_push_size _ rfl
  refine wpAny_bind (wpAny_holding (wpAny_call_entry slot_list_sort ⟨_, hoL, rfl⟩ entry_list_sort (list_sort_treeK strKind_oneLt hoL hS.keysOf (fun v₁ v₂ rest e => keyKind_strs (by rw [← e]; exact hS)) (by rw [hvl]; exact h64) fun st' a1 a2 => ⟨_, rfl, ?_⟩) (args_list_sort _)))
  obtain ⟨ys, y1, y2, y3⟩ := sorted_out_str hS a1 a2
  obtain ⟨c, hc⟩ := sortedHeap_at (vs := vs) (out := (arrOf st').map (·.2)) hoL
  refine wpAny_pure ⟨_, rfl, hQ _ s1.heap.objs.size _ c ys (fun b u e => ?_) g1 o1 hz hc y1 (y2.trans pk) y3⟩
  have q := k1 b u e
  have hlt := Heap.lt_size q
  show (sortedHeap (s1.heap.push (seqObj "list" vs.toArray 0)) s1.heap.objs.size vs _).get? b = some u
  rw [sortedHeap_old (Nat.ne_of_lt hlt) (by rw [size_push']; exact Nat.lt_succ_of_lt hlt)]
  exact Heap.get?_push_of_some _ q
end
end G
/-! own rules: sets of texts over the layer; {e for x in a for y in b if ..} -/
noncomputable section
namespace G
open PySem PySem.Spec PyProof.Rows L2 PySem.Froz PpSet
/-- the set of the texts l at a -/
def SetXO (P : Program) (w : World) (a : Addr) (l : List Str) : HO := .ext fun h => SetX P w h a l
theorem setXO_new {w : World} {P : Program} {H : Hp} {h : Heap} {a : Addr} {l : List Str} (R : SetX P w h a l) : ObjOk P w H h a (SetXO P w a l) := by
  obtain ⟨D, ho, d⟩ := id R
  exact ⟨R, ⟨_, ho⟩, fun h1 h2 p k => by
    obtain ⟨D, ho, d⟩ := p
    exact ⟨D, k _ ho, d⟩⟩
section
variable {X : Cx}
theorem setXO_get {pins : List (Addr × Obj)} {σ : L2.St} {H : Hp} {s : Shared} {a : Addr} {l : List Str} (I : Inv X pins σ H s) (ha : H a = some (SetXO X.prog X.w a l)) : SetX X.prog X.w s.heap a l := (I.hok a _ ha).1
theorem addX_ok {pins : List (Addr × Obj)} {σ : L2.St} {H : Hp} {s : Shared} {E : Value → Shared → Prop} {D : Addr} {l : List Str} {y : Str} {t : Tok} {Q : Value → Shared → Prop} (I : Inv X pins σ H s) (hD : H D = some (SetXO X.prog X.w D l)) (room : l.length + 1 < scanBound)
    (h : ∀ s', Inv X pins σ (upd H D (SetXO X.prog X.w D (insS y l))) s' → Q .none s') : wpAny (model X.prog X.w) X.A (call (.builtin "set.add") [.ref D, .str y t]) Q E s := by
  have R := setXO_get I hD
  refine setX_add R room fun h' sb new => ?_
  obtain ⟨D', ho, _⟩ := id new
  exact h _ (I.write (e := D) (t' := s.toks + 1) (by rw [hD]; trivial) (.inl rfl) (fun b u hb hu => (sb.2 b hb).trans hu) ⟨_, ho⟩ (setXO_new new))
def rSortedX (P : Program) (w : World) : List V → Hp → VK → Prop := fun vs H Q => ∃ (a : Addr) (l : List Str), vs = [V.ref a] ∧ H a = some (SetXO P w a l) ∧ l.length < 64 ∧
  ∀ (ys : List Str) (p : Addr), ys.Perm l → sortedS ys = true → H p = none → Q (.ref p) (upd H p (.lst (ys.map V.str)))
theorem cr_sortedX (hc : X.calm = true) : CallR X (.builtin "sorted") (rSortedX X.prog X.w) := by
  intro pins s σ H vs us Q I r h
  obtain ⟨a, l, rfl, ha, h64, q⟩ := h
  have R := setXO_get I ha
  rw [Vals.ref1 r]
  refine setX_sorted R (I.ok.hd hc) h64 fun s' p out c ys k g o hp hg hi hm hs => ?_
  have hlen : (ys.map V.str).length ≤ sizeLine := by rw [List.length_map, hm.length_eq, sizeLine_eq]; omega
  have hn : H p = none := I.hok.fresh hp
  have J : Inv X pins σ (upd H p (.lst (ys.map V.str))) { s with heap := s'.heap, gens := s'.gens, drawn := s'.drawn, toks := s'.toks } :=
    I.call (ch := []) (Un.laid k hp hn) (I.hok.laid k hp ⟨hlen, out.toList, c, vals_of_strs hi, hg⟩) (by rw [g]; exact I.bare) (fun _ z => nomatch z)
  have e : s' = { s with heap := s'.heap, gens := s'.gens, drawn := s'.drawn, toks := s'.toks } := by
    cases s'
    cases s
    cases o
    rfl
  rw [e]
  exact ⟨.ref p, _, J, rfl, q ys p hm hs hn⟩
end

/-! ### {elt for t0 in i0 if .. for t1 in i1 if ..} -/
theorem turnS_out (elt t0 i0 t1 i1 : Expr) (ifs0 ifs1 : List Expr) (scope : Scope) (pos : Pos) (it acc : Value) (env : Env) :
    compTurn (.SetComp elt [⟨t0, i0, ifs0, 0⟩, ⟨t1, i1, ifs1, 0⟩] scope pos) 0 it acc env = (do
      standAt i0.pos
      match ← pyNext it with
      | none => pure (.done .next)
      | some v =>
        letOwnedTupleGo t0 it v
        assign t0 env v
        let mut ok := true
        for c in ifs0 do
          if ok then ok ← isTrue c env (eval c env)
        if ok then
          let x ← eval i1 env
          standAt i1.pos
          let x ← foldedSetIterable i1 env x
          let _ ← runOwn (.compStart (.SetComp elt [⟨t0, i0, ifs0, 0⟩, ⟨t1, i1, ifs1, 0⟩] scope pos) 1 (← holding [x] (pyIter x)) acc env) env
        again (.compLoop (.SetComp elt [⟨t0, i0, ifs0, 0⟩, ⟨t1, i1, ifs1, 0⟩] scope pos) 0 it acc env)) := by rfl
theorem turnS_in (elt t0 i0 t1 i1 : Expr) (ifs0 ifs1 : List Expr) (scope : Scope) (pos : Pos) (it acc : Value) (env : Env) :
    compTurn (.SetComp elt [⟨t0, i0, ifs0, 0⟩, ⟨t1, i1, ifs1, 0⟩] scope pos) 1 it acc env = (do
      standAt i1.pos
      match ← pyNext it with
      | none => pure (.done .next)
      | some v =>
        letOwnedTupleGo t1 it v
        assign t1 env v
        let mut ok := true
        for c in ifs1 do
          if ok then ok ← isTrue c env (eval c env)
        if ok then
          (do let v ← eval elt env; standAt elt.pos; let _ ← call (.builtin "set.add") [acc, v])
        again (.compLoop (.SetComp elt [⟨t0, i0, ifs0, 0⟩, ⟨t1, i1, ifs1, 0⟩] scope pos) 1 it acc env)) := by rfl
section
variable {prog : Program} {w : World} {A : Around} {R : Result → Shared → Prop} {s : Shared} {elt t0 i0 t1 i1 : Expr} {ifs0 ifs1 : List Expr} {scope : Scope} {pos : Pos} {it acc : Value} {env : Env}
theorem loopS_out (hs : ∀ x, foldedSetIterable i1 env x = pure x) (I : Nat → Shared → Prop)
    (turn : ∀ n s, I n s → wpAny (model prog w) A (pyNext it) (fun r s₁ => match r with
      | none => R (.ok .next) s₁
      | some v => wpAny (model prog w) A (letOwnedTupleGo t0 it v) (fun _ s₁' => wpAny (model prog w) A (assign t0 env v) (fun _ s₂ =>
          wpAny (model prog w) A (forIn ifs0 true fun c r => if r = true then do let ok ← isTrue c env (eval c env); pure (ForInStep.yield ok) else pure (ForInStep.yield r)) (fun ok s₃ =>
            if ok = true then wpAny (model prog w) A (eval i1 env) (fun x s₄ => wpAny (model prog w) A (pyIter x) (fun it1 s₅ =>
              codeAny (model prog w) A (.compStart (.SetComp elt [⟨t0, i0, ifs0, 0⟩, ⟨t1, i1, ifs1, 0⟩] scope pos) 1 it1 acc env) (fun r s' => match r with
                | .ok _ => ∃ m, m < n ∧ I m s'
                | .error _ => False) s₅) (notedBy (model prog w) A env fun e s' => R (.error e) s') s₄) (notedBy (model prog w) A env fun e s' => R (.error e) s') s₃
            else ∃ m, m < n ∧ I m s₃) (notedBy (model prog w) A env fun e s' => R (.error e) s') s₂) (notedBy (model prog w) A env fun e s' => R (.error e) s') s₁') (notedBy (model prog w) A env fun e s' => R (.error e) s') s₁) (notedBy (model prog w) A env fun e s' => R (.error e) s') s)
    (n : Nat) (h : I n s) :
    codeAny (model prog w) A (.compLoop (.SetComp elt [⟨t0, i0, ifs0, 0⟩, ⟨t1, i1, ifs1, 0⟩] scope pos) 0 it acc env) R s := by
  refine codeAny_loop rfl I (fun n s hI => ?_) n h
  show wpAny _ A ((compTurn (.SetComp elt [⟨t0, i0, ifs0, 0⟩, ⟨t1, i1, ifs1, 0⟩] scope pos) 0 it acc env).onRaise (fun x => do noteFrame x env; theTreesLotGoes x)) _ _ s
  refine wpAny_noted ?_
  rw [turnS_out]
  refine wpAny_bind (wpAny_standAt (wpAny_bind (wpAny_mono (turn n s hI) (fun r s₁ h₁ => ?_) fun _ _ h' => h')))
  cases r with
  | none => exact wpAny_pure h₁
  | some v =>
    refine wpAny_bind (wpAny_mono h₁ (fun _ s₁' h₁' => ?_) fun _ _ h' => h')
    refine wpAny_bind (wpAny_mono h₁' (fun _ s₂ h₂ => wpAny_bind (wpAny_mono h₂ (fun ok s₃ h₃ => ?_) fun _ _ h' => h')) fun _ _ h' => h')
    cases ok with
    | false => exact wpAny_pure ⟨rfl, h₃⟩
    | true =>
      refine wpAny_bind (wpAny_mono h₃ (fun x s₄ h₄ => ?_) fun _ _ h' => h')
      refine wpAny_bind (wpAny_standAt (wpAny_bind (wpAny_of_eq (hs x) (wpAny_bind (wpAny_holding (wpAny_mono h₄ (fun it1 s₅ h₅ => ?_) fun _ _ h' => h'))))))
      refine wpAny_bind (wpAny_runOwn ?_)
      rw [Around.mark_none]
      refine codeAny_mono h₅ fun r s' hr => ?_
      cases r with
      | ok f =>
        first
          | exact wpAny_pure ⟨rfl, hr⟩
          | exact wpAny_bind (wpAny_pure (wpAny_pure ⟨rfl, hr⟩))
      | error e => exact hr.elim
theorem loopS_in (I : Nat → Shared → Prop)
    (turn : ∀ n s, I n s → wpAny (model prog w) A (pyNext it) (fun r s₁ => match r with
      | none => R (.ok .next) s₁
      | some v => wpAny (model prog w) A (letOwnedTupleGo t1 it v) (fun _ s₁' => wpAny (model prog w) A (assign t1 env v) (fun _ s₂ =>
          wpAny (model prog w) A (forIn ifs1 true fun c r => if r = true then do let ok ← isTrue c env (eval c env); pure (ForInStep.yield ok) else pure (ForInStep.yield r)) (fun ok s₃ =>
            if ok = true then wpAny (model prog w) A (eval elt env) (fun x s₄ =>
              wpAny (model prog w) A (call (.builtin "set.add") [acc, x]) (fun _ s₅ => ∃ m, m < n ∧ I m s₅) (notedBy (model prog w) A env fun e s' => R (.error e) s') s₄) (notedBy (model prog w) A env fun e s' => R (.error e) s') s₃
            else ∃ m, m < n ∧ I m s₃) (notedBy (model prog w) A env fun e s' => R (.error e) s') s₂) (notedBy (model prog w) A env fun e s' => R (.error e) s') s₁') (notedBy (model prog w) A env fun e s' => R (.error e) s') s₁) (notedBy (model prog w) A env fun e s' => R (.error e) s') s)
    (n : Nat) (h : I n s) :
    codeAny (model prog w) A (.compLoop (.SetComp elt [⟨t0, i0, ifs0, 0⟩, ⟨t1, i1, ifs1, 0⟩] scope pos) 1 it acc env) R s := by
  refine codeAny_loop rfl I (fun n s hI => ?_) n h
  show wpAny _ A ((compTurn (.SetComp elt [⟨t0, i0, ifs0, 0⟩, ⟨t1, i1, ifs1, 0⟩] scope pos) 1 it acc env).onRaise (fun x => do noteFrame x env; theTreesLotGoes x)) _ _ s
  refine wpAny_noted ?_
  rw [turnS_in]
  refine wpAny_bind (wpAny_standAt (wpAny_bind (wpAny_mono (turn n s hI) (fun r s₁ h₁ => ?_) fun _ _ h' => h')))
  cases r with
  | none => exact wpAny_pure h₁
  | some v =>
    refine wpAny_bind (wpAny_mono h₁ (fun _ s₁' h₁' => ?_) fun _ _ h' => h')
    refine wpAny_bind (wpAny_mono h₁' (fun _ s₂ h₂ => wpAny_bind (wpAny_mono h₂ (fun ok s₃ h₃ => ?_) fun _ _ h' => h')) fun _ _ h' => h')
    cases ok with
    | false => exact wpAny_pure ⟨rfl, h₃⟩
    | true =>
      exact wpAny_bind (wpAny_bind (wpAny_mono h₃ (fun x s₄ h₄ => wpAny_bind (wpAny_standAt (wpAny_bind (wpAny_mono h₄ (fun _ s₅ h₅ => wpAny_pure (wpAny_pure ⟨rfl, h₅⟩)) fun _ _ h' => h')))) fun _ _ h' => h'))
theorem startS_in (h0 : codeAny (model prog w) A (.compLoop (.SetComp elt [⟨t0, i0, ifs0, 0⟩, ⟨t1, i1, ifs1, 0⟩] scope pos) 1 it acc env) R s)
    (h : wpAny (model prog w) A (pyIter it) (fun it' s' => codeAny (model prog w) A (.compLoop (.SetComp elt [⟨t0, i0, ifs0, 0⟩, ⟨t1, i1, ifs1, 0⟩] scope pos) 1 it' acc env) R s')
      (notedBy (model prog w) A env fun x s' => R (.error x) s') s) :
    codeAny (model prog w) A (.compStart (.SetComp elt [⟨t0, i0, ifs0, 0⟩, ⟨t1, i1, ifs1, 0⟩] scope pos) 1 it acc env) R s := by
  refine codeAny_of_tree ?_
  show wpAny _ _ ((compStart (.SetComp elt [⟨t0, i0, ifs0, 0⟩, ⟨t1, i1, ifs1, 0⟩] scope pos) 1 it acc env).onRaise (fun x => do noteFrame x env; standAt theWindowsPlace)) _ _ s
  refine wpAny_notedAt ?_
  unfold compStart
  show wpAny _ _ (ask >>= _) _ _ s
  refine wpAny_bind (wpAny_askSetting (wpAny_ite ?_))
  split
  · first
      | exact wpAny_bind (wpAny_pure (wpAny_pure (And.intro rfl h0)))
      | exact wpAny_pure (And.intro rfl h0)
  · first
      | exact wpAny_bind (wpAny_rule (wpAny_bind (wpAny_standAt (wpAny_bind (wpAny_mono h (fun it' s' h' => wpAny_pure (And.intro rfl h')) fun _ _ x => x)))))
      | (refine wpAny_bind (wpAny_rule ?_); show wpAny _ _ (standAt i1.pos >>= _) _ _ s; exact wpAny_bind (wpAny_standAt (wpAny_bind (wpAny_mono h (fun it' s' h' => wpAny_pure (And.intro rfl h')) fun _ _ x => x))))
end
section
variable {X : Cx}
/-- the reading: D the new set, of texts -/
def tSc2 (P : Program) (w : World) (wi : TI) (g : TG) (tt : TT) (wi1 : TI) (g1 : TG) (tt1 : TT) (te : TE) (vs vs1 : List Nat) : TE := fun σ H Q => wi σ H fun J H1 => ∀ D, H1 D = none → ∃ W : Nat → Nat → Hp → Prop, (∃ m, W 0 m (upd H1 D (SetXO P w D []))) ∧ ∀ i m H, W i m H →
  (J.stop i H ∧ Q (.ref D) H) ∨ (J.go i H ∧ ∃ Nx : Hp → Prop, (∀ H', Nx H' → ∃ m', m' < m ∧ W (i + 1) m' H') ∧ ∀ x H', J.yld i H x H' → g x (wipe σ vs) H' fun σ2 H2 => wipe σ2 vs = wipe σ vs ∧ tt σ2 H2 fun b H3 =>
    if b = true then wi1 σ2 H3 fun J1 H4 => ∃ W1 : Nat → Nat → Hp → Prop, (∃ m, W1 0 m H4) ∧ ∀ j k H, W1 j k H →
      (J1.stop j H ∧ Nx H) ∨ (J1.go j H ∧ ∃ Nx1 : Hp → Prop, (∀ H', Nx1 H' → ∃ k', k' < k ∧ W1 (j + 1) k' H') ∧ ∀ x H', J1.yld j H x H' → g1 x (wipe σ2 vs1) H' fun σ3 H5 => wipe σ3 vs1 = wipe σ2 vs1 ∧ tt1 σ3 H5 fun b H6 =>
        if b = true then te σ3 H6 fun y H7 => ∃ (c : Str) (l : List Str), y = .str c ∧ H7 D = some (SetXO P w D l) ∧ l.length + 1 < scanBound ∧ Nx1 (upd H7 D (SetXO P w D (insS c l))) else Nx1 H6)
    else Nx H3)
theorem sc2_core {pins : List (Addr × Obj)} {s : Shared} {σ : L2.St} {H : Hp} {Q : VK} {pos' : Pos} {use : Option (Value → Sem Unit)} {Qf : Value → Shared → Prop} {elt tg iter tg1 iter1 : Expr} {ifs ifs1 : List Expr} {scope : Scope} {own : List (Str × Nat)} {vs1 : List Nat} {pos : Pos} {wi wi1 : TI} {g g1 : TG} {tt tt1 : TT} {te : TE}
    (hc : X.calm = true) (hN : X.N.Nodup) (hi : PI X tg iter wi) (ok : BlkOk X.N X.env.scope scope own) (hv : ∀ i ∈ vs1, i ∈ own.map (·.2))
    (hg : ∀ (s : Shared) (H : Hp) (C : Addr) (cl : List (Str × Addr)) (fp : List Addr), PG (X.blk s H scope (compEnvC scope cl C X.env) fp) tg g) (ht : ∀ (s : Shared) (H : Hp) (C : Addr) (cl : List (Str × Addr)) (fp : List Addr), PTs (X.blk s H scope (compEnvC scope cl C X.env) fp) ifs tt)
    (hi1 : ∀ (s : Shared) (H : Hp) (C : Addr) (cl : List (Str × Addr)) (fp : List Addr), PI (X.blk s H scope (compEnvC scope cl C X.env) fp) tg1 iter1 wi1)
    (hg1 : ∀ (s : Shared) (H : Hp) (C : Addr) (cl : List (Str × Addr)) (fp : List Addr), PG (X.blk s H scope (compEnvC scope cl C X.env) fp) tg1 g1)
    (ht1 : ∀ (s : Shared) (H : Hp) (C : Addr) (cl : List (Str × Addr)) (fp : List Addr), PTs (X.blk s H scope (compEnvC scope cl C X.env) fp) ifs1 tt1)
    (he : ∀ (s : Shared) (H : Hp) (C : Addr) (cl : List (Str × Addr)) (fp : List Addr), PE (X.blk s H scope (compEnvC scope cl C X.env) fp) elt te)
    (hs : ∀ x, foldedSetIterable iter X.env x = pure x) (hs1 : ∀ env x, foldedSetIterable iter1 env x = pure x)
    (I : Inv X pins σ H s) (h : tSc2 X.prog X.w wi g tt wi1 g1 tt1 te (own.map (·.2)) vs1 σ H Q)
    (hRR : ∀ D C s' m H', Inv X pins σ H' s' → Q (.ref D) H' → s'.heap.Ns C m → FpOk X pins H' C → compPost (model X.prog X.w) X.A X.xe use Qf (.ref D) C (.ok .next) s') :
    wpAny (model X.prog X.w) X.A (comprehension (.SetComp elt [⟨tg, iter, ifs, 0⟩, ⟨tg1, iter1, ifs1, 0⟩] scope pos) scope X.env pos' (newSet (.type "set")) false (eval iter X.env) use) Qf X.xe s := by
  have hfree : ∀ y ∈ scope.names, y.2 = .free → ∃ c, X.env.cells.lookup y.1 = some c := fun y hy e => by
    rcases ok.free y hy e with k | k
    · exact I.ok.has _ (.inl k)
    · exact I.ok.has _ (.inr k)
  refine wpAny_comprehension_free (use := use) rfl hs (closure_ok hfree) ok.kind (fun y hy e => by rw [ok.uniq y hy, e])
    (thn (hi.run pins s σ H _ I h) fun xv s1 hx => thn hx fun itv s2 h2 => ?_)
  obtain ⟨it, fp, tn, J, H2, e, I2, T, st2, f2, q⟩ := h2
  subst e
  refine newSet_ok (newEnv_comp ?_)
  generalize hD : s2.heap.objs.size = D
  have hDn : H2 D = none := I2.hok.fresh (Nat.le_of_eq hD)
  obtain ⟨W, ⟨m0, w0⟩, turn⟩ := q D hDn
  generalize hs3 : ({ s2 with heap := s2.heap.push { cls := .type "set", dict := none, data := .set #[] 0 (.fresh 0 0 (!X.w.params.followText "set-order")) } } : Shared) = s3
  have I3 : Inv X pins σ (upd H2 D (SetXO X.prog X.w D [])) s3 := by
    rw [← hs3]
    refine I2.laid (t' := s2.toks) (fun b o e => Heap.get?_push_of_some _ e) (Nat.le_of_eq hD) ?_
    rw [← hD]
    exact setXO_new ⟨_, Heap.get?_push_size _ rfl, fresh_d X.w⟩
  have h3 : s3.heap = s2.heap.push { cls := .type "set", dict := none, data := .set #[] 0 (.fresh 0 0 (!X.w.params.followText "set-order")) } := by rw [← hs3]
  have sz : ∀ b ∈ fp, b < s2.heap.objs.size := fun b hb => by
    obtain ⟨o, e, _⟩ := T.obj _ _ st2 b hb
    exact Heap.lt_size e
  have f3 : ∀ b ∈ fp, FpOk X pins (upd H2 D (SetXO X.prog X.w D [])) b ∧ b < s3.heap.objs.size := fun b hb => by
    have hlt := sz b hb
    refine ⟨⟨?_, (f2 b hb).2⟩, by rw [h3, Heap.size_push]; exact Nat.lt_succ_of_lt hlt⟩
    rw [upd_ne (by rw [← hD]; exact Nat.ne_of_lt hlt)]
    exact (f2 b hb).1
  have st3 : tn 0 s3.heap := T.keep _ _ _ st2 fun b _ o e => by rw [h3]; exact Heap.get?_push_of_some _ e
  have I4 := block_start I3 ok hN f3
  generalize hH3 : upd H2 D (SetXO X.prog X.w D []) = H3 at I3 I4 w0 f3
  have pg := hg s3 H3 s3.heap.objs.size (cellsFrom (s3.heap.objs.size + 1) scope.names (cloFrom X.env.cells scope.names [])) fp
  have pt := ht s3 H3 s3.heap.objs.size (cellsFrom (s3.heap.objs.size + 1) scope.names (cloFrom X.env.cells scope.names [])) fp
  have pe := he s3 H3 s3.heap.objs.size (cellsFrom (s3.heap.objs.size + 1) scope.names (cloFrom X.env.cells scope.names [])) fp
  have pi1 := hi1 s3 H3 s3.heap.objs.size (cellsFrom (s3.heap.objs.size + 1) scope.names (cloFrom X.env.cells scope.names [])) fp
  have pg1 := hg1 s3 H3 s3.heap.objs.size (cellsFrom (s3.heap.objs.size + 1) scope.names (cloFrom X.env.cells scope.names [])) fp
  have pt1 := ht1 s3 H3 s3.heap.objs.size (cellsFrom (s3.heap.objs.size + 1) scope.names (cloFrom X.env.cells scope.names [])) fp
  show codeAny _ _ (.compStart (.SetComp elt [⟨tg, iter, ifs, 0⟩, ⟨tg1, iter1, ifs1, 0⟩] scope pos) 0 (.ref it) (.ref D) (compEnvC scope (cellsFrom (s3.heap.objs.size + 1) scope.names (cloFrom X.env.cells scope.names [])) s3.heap.objs.size X.env)) (compPost (model X.prog X.w) X.A X.xe use Qf (.ref D) s3.heap.objs.size) { s3 with heap := pushCells (s3.heap.push { cls := .type "dict", data := .dict #[] }) scope.names }
  have nfp : ∀ b ∈ fp, H3 b = none := fun b hb => (f3 b hb).1.1
  generalize hce : compEnvC scope (cellsFrom (s3.heap.objs.size + 1) scope.names (cloFrom X.env.cells scope.names [])) s3.heap.objs.size X.env = ce at I4 pg pt pe pi1 pg1 pt1 ⊢
  have cL : ce.locals = s3.heap.objs.size := by subst hce; rfl
  generalize hs4 : ({ s3 with heap := pushCells (s3.heap.push { cls := .type "dict", data := .dict #[] }) scope.names } : Shared) = s4 at I4 ⊢
  have st4 : tn 0 s4.heap := T.keep _ _ _ st3 fun b _ o e => by rw [← hs4]; exact pushCells_keeps _ _ _ _ (Heap.get?_push_of_some _ e)
  have stat : ∀ {σ' : L2.St} {H' : Hp} {s' : Shared}, Inv (X.blk s3 H3 scope ce fp) [] σ' H' s' → (∀ b ∈ fp, H' b = none) → ∀ b ∈ fp, FpOk (X.blk s3 H3 scope ce fp) [] H' b := fun {σ' H' s'} I' hn b hb =>
    ⟨hn b hb, (I'.ok.exf b hb).1, I'.ok.exfs b hb, .inl hb, fun x c e => (I'.ok.exf b hb).2 x c e, fun p hp => absurd (show p ∈ ([] : List (Addr × Obj)) ++ [] from hp) (by simp)⟩
  have loop : codeAny (model X.prog X.w) X.A (.compLoop (.SetComp elt [⟨tg, iter, ifs, 0⟩, ⟨tg1, iter1, ifs1, 0⟩] scope pos) 0 (.ref it) (.ref D) ce) (compPost (model X.prog X.w) X.A X.xe use Qf (.ref D) s3.heap.objs.size) s4 := by
    refine loopS_out (hs1 ce) (fun n s' => ∃ i H', Inv (X.blk s3 H3 scope ce fp) [] (wipe σ (own.map (·.2))) H' s' ∧ tn i s'.heap ∧ (∀ b ∈ fp, H' b = none) ∧ W i n H') ?_ m0 ⟨0, H3, I4, st4, nfp, w0⟩
    rintro n s5 ⟨i, H5, I5, st5, n5, w5⟩
    rcases turn i n H5 w5 with ⟨stop, qq⟩ | ⟨go, Nx, hNx, step⟩
    · have td := T.done (X.blk s3 H3 scope ce fp) rfl rfl rfl hc i [] s5 _ H5 (fun _ _ => False) I5 (stat I5 n5) st5 stop
      refine thnF td fun r s6 ⟨hr, I6⟩ => ?_
      subst hr
      have I7 : Inv X pins σ H5 s6 := I3.call' (ch := fp) I6.os I6.base I6.hok I6.bare fun b hb => ⟨(f3 b hb).1.2.2.2.1, (f3 b hb).1.2.1, (f3 b hb).1.2.2.2.2.1, (f3 b hb).1.2.2.2.2.2⟩
      have nC : H5 s3.heap.objs.size = none := by
        have z : H5 ce.locals = none := I6.free
        rw [cL] at z
        exact z
      obtain ⟨m, hn, _⟩ := I6.loc
      have hn : s6.heap.Ns ce.locals m := hn
      rw [cL] at hn
      exact hRR D s3.heap.objs.size s6 m H5 I7 qq hn (I3.fpOk (Nat.le_refl _) nC)
    · have ti := T.item (X.blk s3 H3 scope ce fp) rfl rfl rfl hc i [] s5 _ H5 (fun _ _ => False) I5 (stat I5 n5) st5 go
      refine thnF ti fun r s6 ⟨u, hr, h6⟩ => ?_
      subst hr
      refine thnF h6 fun _ s7 ⟨x, H7, I7, r7, y7, st7, n7⟩ => ?_
      have I7' := I7.pinned (stat I7 n7) (T.obj _ _ st7)
      refine thnF (pg.run _ s7 _ H7 x u _ I7' r7 (step x H7 y7)) fun _ s8 ⟨σ8, H8, I8, hw8, q8⟩ => ?_
      refine thnF (pt.run _ s8 σ8 H8 _ I8 q8) fun b s9 ⟨H9, I9, q9⟩ => ?_
      have fin : ∀ {σ9 : L2.St} {s' : Shared} {H' : Hp}, Inv (X.blk s3 H3 scope ce fp) ([] ++ pinsAt fp s7.heap) σ9 H' s' → (wipe σ (own.map (·.2))).length = σ9.length → (∀ (j : Nat) v, (wipe σ (own.map (·.2)))[j]? = some (some v) → σ9[j]? = some (some v)) → Nx H' →
          ∃ m, m < n ∧ ∃ i H', Inv (X.blk s3 H3 scope ce fp) [] (wipe σ (own.map (·.2))) H' s' ∧ tn i s'.heap ∧ (∀ b ∈ fp, H' b = none) ∧ W i m H' := fun {σ9 s' H'} I' hl hk nx => by
        obtain ⟨m', hm, w'⟩ := hNx H' nx
        have pin' : ∀ b ∈ fp, ∀ o, s7.heap.get? b = some o → s'.heap.get? b = some o ∧ H' b = none := fun b hb o e =>
          let z := I'.pin (b, o) (List.mem_append_right _ (List.mem_append_right _ (mem_pinsAt hb e)))
          ⟨z.1, z.2.1⟩
        refine ⟨m', hm, i + 1, H', (I'.unpinned (pins := [])).weak hl hk, T.keep _ _ _ st7 fun b hb o e => (pin' b hb o e).1, fun b hb => ?_, w'⟩
        obtain ⟨o, e, _⟩ := T.obj _ _ st7 b hb
        exact (pin' b hb o e).2
      have hl8 : (wipe σ (own.map (·.2))).length = σ8.length := by rw [← hw8, wipe_length]
      have hk8 : ∀ (j : Nat) v, (wipe σ (own.map (·.2)))[j]? = some (some v) → σ8[j]? = some (some v) := fun j v e => by
        rw [← hw8] at e
        exact (wipe_some e).1
      have hk9 : ∀ (j : Nat) v, (wipe σ (own.map (·.2)))[j]? = some (some v) → (wipe σ8 vs1)[j]? = some (some v) := fun j v e => by
        rw [← hw8] at e
        obtain ⟨e1, e2⟩ := wipe_some e
        rw [wipe_out fun z => e2 (hv j z)]
        exact e1
      cases b with
      | false =>
        simp only [Bool.false_eq_true, if_false] at q9 ⊢
        exact fin I9 hl8 hk8 q9
      | true =>
        simp only [if_true] at q9 ⊢
        refine thnF (pi1.run _ s9 σ8 H9 _ I9 q9) fun xv s10 hx => thnF hx fun itv s11 h11 => ?_
        obtain ⟨it1, fp1, tn1, J1, H11, e1, I11, T1, st11, f11, W1, ⟨m1, w1⟩, turn1⟩ := h11
        subst e1
        have stat1 : ∀ {H' : Hp}, (∀ b ∈ fp1, H' b = none) → ∀ b ∈ fp1, FpOk (X.blk s3 H3 scope ce fp) ([] ++ pinsAt fp s7.heap) H' b := fun hn b hb => ⟨hn b hb, (f11 b hb).2⟩
        have loop1 : codeAny (model X.prog X.w) X.A (.compLoop (.SetComp elt [⟨tg, iter, ifs, 0⟩, ⟨tg1, iter1, ifs1, 0⟩] scope pos) 1 (.ref it1) (.ref D) ce)
            (fun r s' => match r with
              | .ok _ => ∃ m, m < n ∧ ∃ i H', Inv (X.blk s3 H3 scope ce fp) [] (wipe σ (own.map (·.2))) H' s' ∧ tn i s'.heap ∧ (∀ b ∈ fp, H' b = none) ∧ W i m H'
              | .error _ => False) s11 := by
          refine loopS_in (fun k s' => ∃ j H', Inv (X.blk s3 H3 scope ce fp) ([] ++ pinsAt fp s7.heap) (wipe σ8 vs1) H' s' ∧ tn1 j s'.heap ∧ (∀ b ∈ fp1, H' b = none) ∧ W1 j k H') ?_ m1 ⟨0, H11, I11.weak (wipe_length _ _) (fun j v e => (wipe_some e).1), st11, fun b hb => (f11 b hb).1, w1⟩
          rintro k s12 ⟨j, H12, I12, st12, n12, w12⟩
          rcases turn1 j k H12 w12 with ⟨stop1, nx1⟩ | ⟨go1, Nx1, hNx1, step1⟩
          · refine thnF (T1.done (X.blk s3 H3 scope ce fp) rfl rfl rfl hc j _ s12 (wipe σ8 vs1) H12 (fun _ _ => False) I12 (stat1 n12) st12 stop1) fun r s13 ⟨hr, I13⟩ => ?_
            subst hr
            exact fin I13 (hl8.trans (wipe_length σ8 vs1).symm) hk9 nx1
          · refine thnF (T1.item (X.blk s3 H3 scope ce fp) rfl rfl rfl hc j _ s12 (wipe σ8 vs1) H12 (fun _ _ => False) I12 (stat1 n12) st12 go1) fun r s13 ⟨u1, hr, h13⟩ => ?_
            subst hr
            refine thnF h13 fun _ s14 ⟨x1, H14, I14, r14, y14, st14, n14⟩ => ?_
            have I14' := I14.pinned (stat1 n14) (T1.obj _ _ st14)
            refine thnF (pg1.run _ s14 (wipe σ8 vs1) H14 x1 u1 _ I14' r14 (step1 x1 H14 y14)) fun _ s15 ⟨σ15, H15, I15, hw15, q15⟩ => ?_
            refine thnF (pt1.run _ s15 σ15 H15 _ I15 q15) fun b1 s16 ⟨H16, I16, q16⟩ => ?_
            have fin1 : ∀ {s' : Shared} {H' : Hp}, Inv (X.blk s3 H3 scope ce fp) (([] ++ pinsAt fp s7.heap) ++ pinsAt fp1 s14.heap) σ15 H' s' → Nx1 H' → ∃ m, m < k ∧ ∃ j H', Inv (X.blk s3 H3 scope ce fp) ([] ++ pinsAt fp s7.heap) (wipe σ8 vs1) H' s' ∧ tn1 j s'.heap ∧ (∀ b ∈ fp1, H' b = none) ∧ W1 j m H' := fun {s' H'} I' nx => by
              obtain ⟨m', hm, w'⟩ := hNx1 H' nx
              have pin' : ∀ b ∈ fp1, ∀ o, s14.heap.get? b = some o → s'.heap.get? b = some o ∧ H' b = none := fun b hb o e =>
                let z := I'.pin (b, o) (List.mem_append_right _ (List.mem_append_right _ (mem_pinsAt hb e)))
                ⟨z.1, z.2.1⟩
              refine ⟨m', hm, j + 1, H', I'.unpinned.weak (by rw [← hw15, wipe_length]) (fun j v e => by rw [← hw15] at e; exact (wipe_some e).1), T1.keep _ _ _ st14 fun b hb o e => (pin' b hb o e).1, fun b hb => ?_, w'⟩
              obtain ⟨o, e, _⟩ := T1.obj _ _ st14 b hb
              exact (pin' b hb o e).2
            cases b1 with
            | false =>
              simp only [Bool.false_eq_true, if_false] at q16 ⊢
              exact fin1 I16 q16
            | true =>
              simp only [if_true] at q16 ⊢
              refine thnF (pe.run _ s16 σ15 H16 _ I16 q16) fun z s17 ⟨yv, H17, I17, r17, cc, l, ey, hD17, hz17, nx⟩ => ?_
              subst ey
              obtain ⟨tk, rfl⟩ := r17
              exact addX_ok (X := X.blk s3 H3 scope ce fp) I17 hD17 hz17 fun s18 I18 => fin1 I18 nx
        exact startS_in loop1 (T1.self X.A 0 _ _ _ st11 loop1)
  exact codeAny_compStart_set loop (T.self X.A 0 _ _ _ st4 loop)
theorem pe_sc2 {elt tg iter tg1 iter1 : Expr} {ifs ifs1 : List Expr} {scope : Scope} {own : List (Str × Nat)} {vs1 : List Nat} {pos : Pos} {wi wi1 : TI} {g g1 : TG} {tt tt1 : TT} {te : TE}
    (hc : X.calm = true) (hN : X.N.Nodup) (hi : PI X tg iter wi) (ok : BlkOk X.N X.env.scope scope own) (hv : ∀ i ∈ vs1, i ∈ own.map (·.2))
    (hg : ∀ (s : Shared) (H : Hp) (C : Addr) (cl : List (Str × Addr)) (fp : List Addr), PG (X.blk s H scope (compEnvC scope cl C X.env) fp) tg g) (ht : ∀ (s : Shared) (H : Hp) (C : Addr) (cl : List (Str × Addr)) (fp : List Addr), PTs (X.blk s H scope (compEnvC scope cl C X.env) fp) ifs tt)
    (hi1 : ∀ (s : Shared) (H : Hp) (C : Addr) (cl : List (Str × Addr)) (fp : List Addr), PI (X.blk s H scope (compEnvC scope cl C X.env) fp) tg1 iter1 wi1)
    (hg1 : ∀ (s : Shared) (H : Hp) (C : Addr) (cl : List (Str × Addr)) (fp : List Addr), PG (X.blk s H scope (compEnvC scope cl C X.env) fp) tg1 g1)
    (ht1 : ∀ (s : Shared) (H : Hp) (C : Addr) (cl : List (Str × Addr)) (fp : List Addr), PTs (X.blk s H scope (compEnvC scope cl C X.env) fp) ifs1 tt1)
    (he : ∀ (s : Shared) (H : Hp) (C : Addr) (cl : List (Str × Addr)) (fp : List Addr), PE (X.blk s H scope (compEnvC scope cl C X.env) fp) elt te)
    (hs : ∀ x, foldedSetIterable iter X.env x = pure x := by intro _; rfl) (hs1 : ∀ env x, foldedSetIterable iter1 env x = pure x := by intro _ _; rfl) :
    PE X (.SetComp elt [⟨tg, iter, ifs, 0⟩, ⟨tg1, iter1, ifs1, 0⟩] scope pos) (tSc2 X.prog X.w wi g tt wi1 g1 tt1 te (own.map (·.2)) vs1) := by
  refine ⟨fun pins s σ H Q I h => ?_⟩
  rw [eval_SetComp]
  refine sc2_core hc hN hi ok hv hg ht hi1 hg1 ht1 he hs hs1 I h fun D C s' m H' I' q hn f => ⟨m, hn, fun h'' sb => ?_⟩
  obtain ⟨f0, f1, f2, f3, f4, f5⟩ := f
  exact ⟨.ref D, H', I'.turned (t' := s'.toks) (fun b o hb e => (sb.2 b hb).trans e) f0 f1 f3 f4 f5, rfl, q⟩
theorem ps_setSc2 {elt tg iter tg1 iter1 : Expr} {ifs ifs1 : List Expr} {scope : Scope} {own : List (Str × Nat)} {vs1 : List Nat} {i : Nat} {y : Str} {py spos pos : Pos} {wi wi1 : TI} {g g1 : TG} {tt tt1 : TT} {te : TE}
    (hc : X.calm = true) (hN : X.N.Nodup) (hy : X.N[i]? = some y) (hyl : X.env.scope.names.lookup y = some .local)
    (hsw : swapsWith (.SetComp elt [⟨tg, iter, ifs, 0⟩, ⟨tg1, iter1, ifs1, 0⟩] scope pos) (some (.Name y py)) spos.line X.env = pure true) (hi : PI X tg iter wi) (ok : BlkOk X.N X.env.scope scope own) (hv : ∀ i ∈ vs1, i ∈ own.map (·.2))
    (hg : ∀ (s : Shared) (H : Hp) (C : Addr) (cl : List (Str × Addr)) (fp : List Addr), PG (X.blk s H scope (compEnvC scope cl C X.env) fp) tg g) (ht : ∀ (s : Shared) (H : Hp) (C : Addr) (cl : List (Str × Addr)) (fp : List Addr), PTs (X.blk s H scope (compEnvC scope cl C X.env) fp) ifs tt)
    (hi1 : ∀ (s : Shared) (H : Hp) (C : Addr) (cl : List (Str × Addr)) (fp : List Addr), PI (X.blk s H scope (compEnvC scope cl C X.env) fp) tg1 iter1 wi1)
    (hg1 : ∀ (s : Shared) (H : Hp) (C : Addr) (cl : List (Str × Addr)) (fp : List Addr), PG (X.blk s H scope (compEnvC scope cl C X.env) fp) tg1 g1)
    (ht1 : ∀ (s : Shared) (H : Hp) (C : Addr) (cl : List (Str × Addr)) (fp : List Addr), PTs (X.blk s H scope (compEnvC scope cl C X.env) fp) ifs1 tt1)
    (he : ∀ (s : Shared) (H : Hp) (C : Addr) (cl : List (Str × Addr)) (fp : List Addr), PE (X.blk s H scope (compEnvC scope cl C X.env) fp) elt te)
    (hs : ∀ x, foldedSetIterable iter X.env x = pure x := by intro _; rfl) (hs1 : ∀ env x, foldedSetIterable iter1 env x = pure x := by intro _ _; rfl) :
    PS X (.Assign [.Name y py] (.SetComp elt [⟨tg, iter, ifs, 0⟩, ⟨tg1, iter1, ifs1, 0⟩] scope pos) spos) (tAsg (tSc2 X.prog X.w wi g tt wi1 g1 tt1 te (own.map (·.2)) vs1) (gName i)) := by
  refine ⟨fun pins s σ H D I h => ?_⟩
  rw [exec_Assign_Name_used _ _ _ _ hsw]
  refine wpAny_bind (wpAny_standAt (wpAny_bind ?_))
  show wpAny _ X.A (do let _ ← comprehension (.SetComp elt [⟨tg, iter, ifs, 0⟩, ⟨tg1, iter1, ifs1, 0⟩] scope pos) scope X.env (firstIterPos [⟨tg, iter, ifs, 0⟩, ⟨tg1, iter1, ifs1, 0⟩] pos) (newSet (.type "set")) false (eval iter X.env) (some (assign (.Name y py) X.env))) _ _ s
  have h : tSc2 X.prog X.w wi g tt wi1 g1 tt1 te (own.map (·.2)) vs1 σ H (fun x H1 => gName i x σ H1 D.nx) := h
  refine wpAny_bind (thn (sc2_core (Qf := fun _ s' => SP X pins D .next s') hc hN hi ok hv hg ht hi1 hg1 ht1 he hs hs1 I h fun L C s' m H' I' q hn f => ?_) fun _ s' hq => wpAny_pure (wpAny_pure hq))
  show wpAny _ _ (assign (.Name y py) X.env (.ref L)) _ _ _
  refine wpAny_assign_Name (store_ok2 (v := V.ref L) I' hN hy (.inl hyl) rfl (fun s2 I2 ⟨a, sb, ha⟩ => ?_) (.inr hyl))
  obtain ⟨f0, f1, f2, f3, f4, f5⟩ := f
  have haC : C ≠ a := by
    rcases ha with z | z
    · rw [z]; exact f1
    · exact fun e => f4 y a z e.symm
  refine ⟨m, hn.sameBut sb haC, fun h3 sb3 => ?_⟩
  exact ⟨_, H', I2.turned (t' := s2.toks) (fun b o hb e => (sb3.2 b hb).trans e) f0 f1 f3 f4 f5, q⟩
theorem swS_true {elt : Expr} {gs : List Comprehension} {scope : Scope} {pos py : Pos} {y : Str} {l : Nat} {env : Env} (hk : env.scope.kind = .function) (hy : env.scope.names.lookup y = some .local) (hl : (py.line == pos.line) = true)
    (ha : (scope.names.any fun (n, k) => n == y && (k == .local || k == .cell)) = false) : swapsWith (.SetComp elt gs scope pos) (some (.Name y py)) l env = pure true := by
  have ky : env.kindOf y = some .local := hy
  have hb : env.blockKind = .function := by unfold Env.blockKind; rw [hk]; rfl
  unfold swapsWith
  simp only [hb, ky, ha, Expr.pos, hl]
  rfl
end
/-! ### walks of the two sources -/
theorem sc2W {P : Program} {w : World} {J : It} {xs : List V} {Sd : Hp → Prop} (wk : Wk J xs Sd) {g : TG} {tt : TT} {wi1 : TI} {g1 : TG} {tt1 : TT} {te : TE} {vs vs1 : List Nat} {σ : L2.St} {H1 : Hp} {D : Addr} {Qd : Hp → Prop}
    (Pv : Nat → Hp → Prop) (h0 : Pv 0 (upd H1 D (SetXO P w D []))) (hst : ∀ i H, i ≤ xs.length → Pv i H → Sd H)
    (hs : ∀ i x H, xs[i]? = some x → Pv i H → g x (wipe σ vs) H fun σ2 H2 => wipe σ2 vs = wipe σ vs ∧ tt σ2 H2 fun b H3 =>
      if b = true then wi1 σ2 H3 fun J1 H4 => ∃ W1 : Nat → Nat → Hp → Prop, (∃ m, W1 0 m H4) ∧ ∀ j k H, W1 j k H →
        (J1.stop j H ∧ Pv (i + 1) H) ∨ (J1.go j H ∧ ∃ Nx1 : Hp → Prop, (∀ H', Nx1 H' → ∃ k', k' < k ∧ W1 (j + 1) k' H') ∧ ∀ x H', J1.yld j H x H' → g1 x (wipe σ2 vs1) H' fun σ3 H5 => wipe σ3 vs1 = wipe σ2 vs1 ∧ tt1 σ3 H5 fun b H6 =>
          if b = true then te σ3 H6 fun y H7 => ∃ (c : Str) (l : List Str), y = .str c ∧ H7 D = some (SetXO P w D l) ∧ l.length + 1 < scanBound ∧ Nx1 (upd H7 D (SetXO P w D (insS c l))) else Nx1 H6)
      else Pv (i + 1) H3)
    (hd : ∀ H, Pv xs.length H → Qd H) :
    ∃ W : Nat → Nat → Hp → Prop, (∃ m, W 0 m (upd H1 D (SetXO P w D []))) ∧ ∀ i m H, W i m H →
      (J.stop i H ∧ Qd H) ∨ (J.go i H ∧ ∃ Nx : Hp → Prop, (∀ H', Nx H' → ∃ m', m' < m ∧ W (i + 1) m' H') ∧ ∀ x H', J.yld i H x H' → g x (wipe σ vs) H' fun σ2 H2 => wipe σ2 vs = wipe σ vs ∧ tt σ2 H2 fun b H3 =>
        if b = true then wi1 σ2 H3 fun J1 H4 => ∃ W1 : Nat → Nat → Hp → Prop, (∃ m, W1 0 m H4) ∧ ∀ j k H, W1 j k H →
          (J1.stop j H ∧ Nx H) ∨ (J1.go j H ∧ ∃ Nx1 : Hp → Prop, (∀ H', Nx1 H' → ∃ k', k' < k ∧ W1 (j + 1) k' H') ∧ ∀ x H', J1.yld j H x H' → g1 x (wipe σ2 vs1) H' fun σ3 H5 => wipe σ3 vs1 = wipe σ2 vs1 ∧ tt1 σ3 H5 fun b H6 =>
            if b = true then te σ3 H6 fun y H7 => ∃ (c : Str) (l : List Str), y = .str c ∧ H7 D = some (SetXO P w D l) ∧ l.length + 1 < scanBound ∧ Nx1 (upd H7 D (SetXO P w D (insS c l))) else Nx1 H6)
        else Nx H3) := by
  refine ⟨fun i m H => m = xs.length - i ∧ i ≤ xs.length ∧ Pv i H, ⟨xs.length, rfl, Nat.zero_le _, h0⟩, ?_⟩
  rintro i m H ⟨rfl, hi, pv⟩
  have sd := hst i H hi pv
  rcases Nat.lt_or_ge i xs.length with lt | ge
  · refine .inr ⟨wk.go i H sd lt, Pv (i + 1), fun H' q => ⟨xs.length - (i + 1), by omega, rfl, lt, q⟩, ?_⟩
    intro x H' y
    obtain ⟨rfl, hx⟩ := wk.yld i H x H' sd lt y
    exact hs i x _ hx pv
  · have e : i = xs.length := by omega
    subst e
    exact .inl ⟨wk.stop _ H sd ge, hd H pv⟩
/-- the second source's loop -/
theorem sc2I {P : Program} {w : World} {J : It} {xs : List V} {Sd : Hp → Prop} (wk : Wk J xs Sd) {g : TG} {tt : TT} {te : TE} {vs : List Nat} {σ : L2.St} {H1 : Hp} {D : Addr} {Nx : Hp → Prop}
    (Pv : Nat → Hp → Prop) (h0 : Pv 0 H1) (hst : ∀ i H, i ≤ xs.length → Pv i H → Sd H)
    (hs : ∀ i x H, xs[i]? = some x → Pv i H → g x (wipe σ vs) H fun σ3 H5 => wipe σ3 vs = wipe σ vs ∧ tt σ3 H5 fun b H6 =>
      if b = true then te σ3 H6 fun y H7 => ∃ (c : Str) (l : List Str), y = .str c ∧ H7 D = some (SetXO P w D l) ∧ l.length + 1 < scanBound ∧ Pv (i + 1) (upd H7 D (SetXO P w D (insS c l))) else Pv (i + 1) H6)
    (hd : ∀ H, Pv xs.length H → Nx H) :
    ∃ W1 : Nat → Nat → Hp → Prop, (∃ m, W1 0 m H1) ∧ ∀ j k H, W1 j k H →
      (J.stop j H ∧ Nx H) ∨ (J.go j H ∧ ∃ Nx1 : Hp → Prop, (∀ H', Nx1 H' → ∃ k', k' < k ∧ W1 (j + 1) k' H') ∧ ∀ x H', J.yld j H x H' → g x (wipe σ vs) H' fun σ3 H5 => wipe σ3 vs = wipe σ vs ∧ tt σ3 H5 fun b H6 =>
        if b = true then te σ3 H6 fun y H7 => ∃ (c : Str) (l : List Str), y = .str c ∧ H7 D = some (SetXO P w D l) ∧ l.length + 1 < scanBound ∧ Nx1 (upd H7 D (SetXO P w D (insS c l))) else Nx1 H6) := by
  refine ⟨fun i m H => m = xs.length - i ∧ i ≤ xs.length ∧ Pv i H, ⟨xs.length, rfl, Nat.zero_le _, h0⟩, ?_⟩
  rintro i m H ⟨rfl, hi, pv⟩
  have sd := hst i H hi pv
  rcases Nat.lt_or_ge i xs.length with lt | ge
  · refine .inr ⟨wk.go i H sd lt, Pv (i + 1), fun H' q => ⟨xs.length - (i + 1), by omega, rfl, lt, q⟩, ?_⟩
    intro x H' y
    obtain ⟨rfl, hx⟩ := wk.yld i H x H' sd lt y
    exact hs i x _ hx pv
  · have e : i = xs.length := by omega
    subst e
    exact .inl ⟨wk.stop _ H sd ge, hd H pv⟩
/-- a dict comprehension -/
theorem dcW {J : It} {xs : List V} {Sd : Hp → Prop} (wk : Wk J xs Sd) {g : TG} {tt : TT} {tk tv : TE} {vs : List Nat} {σ : L2.St} {H1 : Hp} {D : Addr} {Qd : Hp → Prop}
    (Pv : Nat → Hp → Prop) (h0 : Pv 0 (upd H1 D (.dK []))) (hst : ∀ i H, i ≤ xs.length → Pv i H → Sd H)
    (hs : ∀ i x H, xs[i]? = some x → Pv i H → g x (wipe σ vs) H fun σ2 H2 => wipe σ2 vs = wipe σ vs ∧ tt σ2 H2 fun b H3 =>
      if b = true then tk σ2 H3 fun y H4 => tv σ2 H4 fun z H5 => ∃ kvs k, y = kV k ∧ H5 D = some (.dK kvs) ∧ kvs.length < sizeLine ∧ Pv (i + 1) (upd H5 D (.dK (putK kvs k z))) else Pv (i + 1) H3)
    (hd : ∀ H, Pv xs.length H → Qd H) :
    ∃ W : Nat → Nat → Hp → Prop, (∃ m, W 0 m (upd H1 D (.dK []))) ∧ ∀ i m H, W i m H →
      (J.stop i H ∧ Qd H) ∨ (J.go i H ∧ ∃ Nx : Hp → Prop, (∀ H', Nx H' → ∃ m', m' < m ∧ W (i + 1) m' H') ∧ ∀ x H', J.yld i H x H' →
        g x (wipe σ vs) H' fun σ2 H2 => wipe σ2 vs = wipe σ vs ∧ tt σ2 H2 fun b H3 =>
        if b = true then tk σ2 H3 fun y H4 => tv σ2 H4 fun z H5 => ∃ kvs k, y = kV k ∧ H5 D = some (.dK kvs) ∧ kvs.length < sizeLine ∧ Nx (upd H5 D (.dK (putK kvs k z))) else Nx H3) := by
  refine ⟨fun i m H => m = xs.length - i ∧ i ≤ xs.length ∧ Pv i H, ⟨xs.length, rfl, Nat.zero_le _, h0⟩, ?_⟩
  rintro i m H ⟨rfl, hi, pv⟩
  have sd := hst i H hi pv
  rcases Nat.lt_or_ge i xs.length with lt | ge
  · refine .inr ⟨wk.go i H sd lt, Pv (i + 1), fun H' q => ⟨xs.length - (i + 1), by omega, rfl, lt, q⟩, ?_⟩
    intro x H' y
    obtain ⟨rfl, hx⟩ := wk.yld i H x H' sd lt y
    exact hs i x _ hx pv
  · have e : i = xs.length := by omega
    subst e
    exact .inl ⟨wk.stop _ H sd ge, hd H pv⟩
theorem lt64 {n c k : Nat} (h : n + 64 < c) (hk : k ≤ 64 := by decide) : n + k < c := Nat.lt_of_le_of_lt (Nat.add_le_add_left hk n) h
/-- a dict comprehension over enumerate of a tuple that stands still -/
theorem dcE {K : PySem.W.Frag} {a : Addr} {xs : List V} {g : TG} {tt : TT} {tk tv : TE} {vs : List Nat} {σ : L2.St} {H1 : Hp} {D : Addr} {Qd : Hp → Prop}
    (Pv : Nat → Hp → Prop) (h0 : Pv 0 (upd H1 D (.dK []))) (hst : ∀ i H, i ≤ xs.length → Pv i H → SqT K H a xs)
    (hs : ∀ i x H T, xs[i]? = some x → Pv i H → H T = none → g (.ref T) (wipe σ vs) (upd H T (.tup [.int (i : Nat), x])) fun σ2 H2 => wipe σ2 vs = wipe σ vs ∧ tt σ2 H2 fun b H3 =>
      if b = true then tk σ2 H3 fun y H4 => tv σ2 H4 fun z H5 => ∃ kvs k, y = kV k ∧ H5 D = some (.dK kvs) ∧ kvs.length < sizeLine ∧ Pv (i + 1) (upd H5 D (.dK (putK kvs k z))) else Pv (i + 1) H3)
    (hd : ∀ H, Pv xs.length H → Qd H) :
    ∃ W : Nat → Nat → Hp → Prop, (∃ m, W 0 m (upd H1 D (.dK []))) ∧ ∀ i m H, W i m H →
      ((ItE K a).stop i H ∧ Qd H) ∨ ((ItE K a).go i H ∧ ∃ Nx : Hp → Prop, (∀ H', Nx H' → ∃ m', m' < m ∧ W (i + 1) m' H') ∧ ∀ x H', (ItE K a).yld i H x H' →
        g x (wipe σ vs) H' fun σ2 H2 => wipe σ2 vs = wipe σ vs ∧ tt σ2 H2 fun b H3 =>
        if b = true then tk σ2 H3 fun y H4 => tv σ2 H4 fun z H5 => ∃ kvs k, y = kV k ∧ H5 D = some (.dK kvs) ∧ kvs.length < sizeLine ∧ Nx (upd H5 D (.dK (putK kvs k z))) else Nx H3) := by
  refine ⟨fun i m H => m = xs.length - i ∧ i ≤ xs.length ∧ Pv i H, ⟨xs.length, rfl, Nat.zero_le _, h0⟩, ?_⟩
  rintro i m H ⟨rfl, hi, pv⟩
  have sd := hst i H hi pv
  rcases Nat.lt_or_ge i xs.length with lt | ge
  · refine .inr ⟨⟨xs, xs[i], sd, by simp [lt]⟩, Pv (i + 1), fun H' q => ⟨xs.length - (i + 1), by omega, rfl, lt, q⟩, ?_⟩
    rintro v H' ⟨T, x, rfl, nT, rfl, hx⟩
    exact hs i x H T (hx xs sd) pv nT
  · have e : i = xs.length := by omega
    subst e
    exact .inl ⟨⟨xs, sd, ge⟩, hd H pv⟩
theorem wk_keys (d : Addr) (o : Obj) (kvs : List (Key × V)) : Wk (Itk d o kvs) (kvs.map fun kv => kV kv.1) (fun H => H d = some (.frz o (.dK kvs))) :=
  ⟨fun i H h l => ⟨h, by rw [List.length_map] at l; exact l⟩, fun i H h l => ⟨h, by rw [List.length_map] at l; exact l⟩, fun i H v H' _ _ y => by
    obtain ⟨e, k, u, h, rfl⟩ := y
    exact ⟨e, by rw [List.getElem?_map, h]; rfl⟩⟩
/-- a key that is new stands behind -/
theorem putK_new {kvs : List (Key × V)} {k : Key} {v : V} (h : k ∉ kvs.map (·.1)) : putK kvs k v = kvs ++ [(k, v)] := by
  unfold putK
  rw [if_neg]
  intro a
  obtain ⟨kv, hm, e⟩ := List.any_eq_true.mp a
  exact h (List.mem_map.mpr ⟨kv, hm, of_decide_eq_true e⟩)
section
variable {X : Cx} {K : PySem.W.Frag} {tg e : Expr} {te : TE}
theorem pi_tupK (hK : X.K = K) (he : PE X e te) : PI X tg e (iTup K te) := hK ▸ pi_tup he
theorem pi_listK (hK : X.K = K) (he : PE X e te) : PI X tg e (iList K te) := hK ▸ pi_list he
def rTupOf (K : PySem.W.Frag) : List V → Hp → VK → Prop := fun xs H Q => ∃ p ys, xs = [.ref p] ∧ ((SqL K H p ys ∧ ∀ l, H l = none → Q (.ref l) (upd H l (.tup ys))) ∨ (SqT K H p ys ∧ Q (.ref p) H))
theorem cr_tupK (hK : X.K = K) : CallR X (.type "tuple") (rTupOf K) := hK ▸ call_tuple_of
def rLstOf (K : PySem.W.Frag) : List V → Hp → VK → Prop := fun xs H Q => ∃ p ys, xs = [.ref p] ∧ (SqL K H p ys ∨ SqT K H p ys) ∧ ∀ l, H l = none → Q (.ref l) (upd H l (.lst ys))
theorem cr_lstK (hK : X.K = K) : CallR X (.type "list") (rLstOf K) := hK ▸ call_list_of
end
end G
/-! own rules: repr and str of an instance by the class's own methods -/
namespace G
open PySem PySem.Spec PyProof.Rows L2
section
variable {X : Cx} {CX : CXT} {k : Nat} {C f : Addr} {fd : FuncData} {ps : List Str} {sp : Sp} {E : XK}
/-- what comes back is a text -/
theorem txt_back {pins : List (Addr × Obj)} {σ : L2.St} {H : Hp} {s : Shared} {A : Around} {a : Addr} {Q : VK} (hA : A.frames = X.A.frames) (Fn : FnOk X.prog X.w X.K X.mg X.base CX k f fd ps sp) (hr : Room k A) (hb : Binds X.K fd ps [])
    (hx : Passes CX X E) (I : Inv X pins σ H s) (hs : sp [.ref a] H (fun v H' => ∃ z : Str, v = .str z ∧ Q (.str z) H') E) :
    wpAny (model X.prog X.w) A (call (.ref f) [.ref a]) (PySem.W.StrBack (EP X pins σ Q)) X.xe s := by
  have hl : [Value.ref a].length = ps.length := Fn.len _ _ _ _ hs
  have e0 := I.env0
  have e1 : Env0 X.prog X.w X.K X.mg X.base A X.stack s H := ⟨by rw [hA]; exact e0.frames, e0.mod, e0.bs, e0.bsz, e0.funs, e0.frf, e0.hok, e0.bare⟩
  have bt := hb s [Value.ref a] I.kIn (by simpa using hl)
  refine wpAny_call (codeAny_mono (Fn.run A X.stack s H ⟨[.ref a], []⟩ [.ref a] [.ref a] _ E hr e1 (by simpa using bt) (.cons rfl .nil) hs) ?_)
  intro r s' hq
  match r, hq with
  | .error e, hq => exact (hx pins σ H s e s' I hq)
  | .ok (.ret w), hq =>
    obtain ⟨v, H', I', rv, z, rfl, q⟩ := I.after hq
    obtain ⟨t, rfl⟩ := rv
    exact ⟨.str z, H', I', ⟨_, rfl⟩, q⟩
  | .ok .next, hq => exact hq.elim
  | .ok .brk, hq => exact hq.elim
  | .ok .cont, hq => exact hq.elim
theorem call_repr_inst (h1 : PySem.W.findIn X.K (.ref C) "__repr__" = some (some (.ref f))) (h2 : PySem.W.isFn X.K (.ref f) = true)
    (Fn : FnOk X.prog X.w X.K X.mg X.base CX k f fd ps sp) (hr : Room (k + 1) X.A) (hb : Binds X.K fd ps []) (hx : Passes CX X E) :
    CallR X (.builtin "repr") (fun xs H Q => ∃ (a dx : Addr) (fs : List (Str × V)), xs = [.ref a] ∧ H a = some (.ins C dx fs) ∧ sp [.ref a] H (fun v H' => ∃ z : Str, v = .str z ∧ Q (.str z) H') E) := by
  intro pins s σ H xs us Q I r h
  obtain ⟨a, dx, fs, rfl, ha, hs⟩ := h
  obtain ⟨u, rfl, r1⟩ := vals1 r
  obtain rfl : u = Value.ref a := r1
  obtain ⟨mA, J, _⟩ := ins_get I.hok ha
  obtain ⟨od, J, _⟩ := J.look
  obtain ⟨m, hF⟩ := I.fr
  exact PySem.W.repr_K hr.in1.units0 hF I.ok.mod.kin J h1 h2 (txt_back rfl Fn hr.in1 hb hx I hs)
theorem call_str_inst (h1 : PySem.W.findIn X.K (.ref C) "__str__" = some (some (.ref f))) (h2 : PySem.W.isFn X.K (.ref f) = true)
    (Fn : FnOk X.prog X.w X.K X.mg X.base CX k f fd ps sp) (hr : Room (k + 2) X.A) (hb : Binds X.K fd ps []) (hx : Passes CX X E) :
    CallR X (.type "str") (fun xs H Q => ∃ (a dx : Addr) (fs : List (Str × V)), xs = [.ref a] ∧ H a = some (.ins C dx fs) ∧ sp [.ref a] H (fun v H' => ∃ z : Str, v = .str z ∧ Q (.str z) H') E) := by
  intro pins s σ H xs us Q I r h
  obtain ⟨a, dx, fs, rfl, ha, hs⟩ := h
  obtain ⟨u, rfl, r1⟩ := vals1 r
  obtain rfl : u = Value.ref a := r1
  obtain ⟨mA, J, _⟩ := ins_get I.hok ha
  obtain ⟨od, J, _⟩ := J.look
  exact PySem.W.kso_call hr.in1.in1.units0 I.kIn J h1 h2 (txt_back rfl Fn hr.in1.in1 hb hx I hs)
end
end G
namespace G
open PySem PySem.Spec PyProof.Rows L2
/-! ### methods by their names, with values or with keywords alone -/
/-- the method m of the class at C: all that a call wants -/
def MetC (P : Program) (w : World) (K : PySem.W.Frag) (mg : Str → Option Value) (base : Heap) (CX : CXT) (k : Nat) (C : Addr) (m : Str)
    (dvs : List V) (sp : Sp) : Prop :=
  ∃ f fd ps ds, Cls K C ∧ Meth K C m f ∧ FnOk P w K mg base CX k f fd ps sp ∧ Binds K fd ps ds ∧ Vals dvs ds
/-- .. with the keywords ks alone -/
def MetN (P : Program) (w : World) (K : PySem.W.Frag) (mg : Str → Option Value) (base : Heap) (CX : CXT) (k : Nat) (C : Addr) (m : Str)
    (ks : List Str) (gV : List V → List V → List V) (sp : Sp) : Prop :=
  ∃ f fd ps g, Cls K C ∧ Meth K C m f ∧ FnOk P w K mg base CX k f fd ps sp ∧ KBn K fd ps 1 ks g gV
def tMethN (C : Addr) (m : Str) (n : Nat) (sp : Sp) (gV : List V → List V → List V) (E : XK) (ta : TE) (tk : TA) : TE := fun σ H Q => ta σ H fun x H1 => ∃ a dx fs, x = .ref a ∧ H1 a = some (.ins C dx fs) ∧ fs.lookup m = none ∧
  tk σ H1 fun zs H2 => zs.length = n ∧ sp (gV [x] zs) H2 Q E
section
variable {X : Cx} {CX : CXT} {k j : Nat} {C : Addr} {sp : Sp} {dvs : List V} {ks : List Str} {gV : List V → List V → List V}
variable {E : XK} {m : Str} {pos apos : Pos} {o e : Expr} {es : List Expr} {kws : List Keyword} {ta : TE} {t tk : TA}
/-- o.m(e, ..) -/
theorem pe_met {pl : Sem Bool} (c : MetC X.prog X.w X.K X.mg X.base CX k C m dvs sp) (hr : Room k X.A) (hx : Passes CX X E) (he : PE X o ta) (ha : PA X (e :: es) t)
    (hst : starEach (e :: es) X.env = (false, eval e X.env) :: starEach es X.env := by rfl) (hpl : (backTo pos (starEach es X.env)).any (·.1) = false := by rfl)
    (ht : eval (.Call (.Attribute o m apos) (e :: es) [] pos) X.env = (do
      let ov ← eval o X.env
      standAt apos.atName
      let (f, first) ← holding [ov] (getMethod ov m pl)
      callWith pos f first (backTo pos (starEach (e :: es) X.env)) (backToKw pos (keywordEach [] X.env))) := by rfl) :
    PE X (.Call (.Attribute o m apos) (e :: es) [] pos) (tMeth C m sp dvs E ta t) := by
  obtain ⟨f, fd, ps, ds, cl, hm, F, hb, hd⟩ := c
  exact pe_meth (pl := pl) he cl hm F hr hb hd hx ha hst hpl ht
/-- o.m(k = v, ..) -/
theorem pe_metN {pl : Sem Bool} (c : MetN X.prog X.w X.K X.mg X.base CX k C m ks gV sp) (hr : Room k X.A) (hx : Passes CX X E) (he : PE X o ta) (hkw : PK X kws tk)
    (hall : (backToKw pos (keywordEach kws X.env)).all (·.1.isSome) = true := by rfl) (hks : (backToKw pos (keywordEach kws X.env)).filterMap (·.1) = ks := by rfl)
    (hpl : ((backTo pos (starEach [] X.env)).any (·.1) || (backToKw pos (keywordEach kws X.env)).any (·.1.isNone)) = false := by rfl)
    (ht : eval (.Call (.Attribute o m apos) [] kws pos) X.env = (do
      let ov ← eval o X.env
      standAt apos.atName
      let (f, first) ← holding [ov] (getMethod ov m pl)
      callWith pos f first (backTo pos (starEach [] X.env)) (backToKw pos (keywordEach kws X.env))) := by rfl) :
    PE X (.Call (.Attribute o m apos) [] kws pos) (tMethN C m ks.length sp gV E ta tk) := by
  obtain ⟨f, fd, ps, g, cl, hm, F, hb⟩ := c
  refine ⟨fun pins s σ H Q I h => ?_⟩
  refine PySem.W.methodCall_KW (pl := pl) (thn (he.run pins s σ H _ I h) fun u s1 ⟨x, H1, I1, rx, a, dx, fs, ex, ea, l, q⟩ => ?_) ht
  subst ex
  obtain rfl : u = Value.ref a := rx
  refine getmeth_ok I1 ea cl hm l ?_
  refine PySem.W.callWith_KW0 (first := [.ref a]) (h₀ := X.base) I.ok.mod.kin hm.kp hall ?_ hpl
  refine thn (hkw.run pos pins s1 σ H1 _ I1 q) fun ws s2 ⟨zs, H2, I2, rz, l2, q2⟩ => ⟨I2.kIn, ?_⟩
  rw [hks]
  exact run_fnN (us := [.ref a]) (vs := [.ref a]) F hr hb hx I2 (.cons rfl .nil) rz rfl l2 q2
end
end G
/-! own rules: a class called by a local name, classmethods with values or with keywords -/
namespace G
open PySem PySem.Spec PyProof.Rows L2 ClX
/-! ### a class called by a local name -/
def tMakeL (i : Nat) (C : Addr) (sp : Sp) (dvs : List V) (E : XK) (t : TA) : TE := fun σ H Q => σ[i]? = some (some (.ref C)) ∧ tMake C sp dvs E t σ H Q
section
variable {X : Cx} {CX : CXT} {k i : Nat} {C : Addr} {sp : Sp} {dvs : List V} {E : XK} {x x0 : Str} {p pos : Pos} {e : Expr} {es : List Expr} {t : TA}
theorem pe_mkL (c : CalC X.prog X.w X.K X.mg X.base CX k x0 C dvs sp) (hr : Room (k + 1) X.A) (hx : Passes CX X E) (hN : X.N[i]? = some x) (hv : Vis X.env.scope x)
    (ha : PA X (e :: es) t) (hdb : (x == ("__debug__" : Str)) = false := by decide) (hcd : (x == ("__classdict__" : Str)) = false := by decide)
    (he : starEach (e :: es) X.env = (false, eval e X.env) :: starEach es X.env := by rfl)
    (hpl : (backTo pos (starEach es X.env)).any (·.1) = false := by rfl) :
    PE X (.Call (.Name x p) (e :: es) [] pos) (tMakeL i C sp dvs E t) := by
  obtain ⟨f, fd, ps, ds, M, Fn, hm, hb, hd⟩ := c
  refine ⟨fun pins s σ H Q I h => ?_⟩
  obtain ⟨hs, ht⟩ := h
  refine wpAny_Call_Name_kw (thn ((pe_var (pos := p) hN hv hdb hcd).run pins s σ H (fun v H1 => v = .ref C ∧ H1 = H) I ⟨.ref C, hs, rfl, rfl⟩) fun u s1 ⟨v, H1, I1, r1, q1⟩ => ?_)
  obtain ⟨rfl, rfl⟩ := q1
  cases r1
  refine PySem.W.callWith_K (h₀ := X.base) I.ok.mod.kin M.kp (thn (ha.run pos pins s1 σ _ _ I1 ht) fun us s2 ⟨vs, H2, I2, r, q⟩ => ⟨I2.kIn, ?_⟩) he hpl
  exact run_make M Fn hr hb hd hx I2 r q
end
/-! ### classmethods -/
/-- the classmethod m of the class at C, called with all its arguments, or with the keywords ks alone -/
def CmeC (P : Program) (w : World) (K : PySem.W.Frag) (mg : Str → Option Value) (base : Heap) (CX : CXT) (k : Nat) (C : Addr) (m : Str)
    (ks : List Str) (gV : List V → List V → List V) (sp : Sp) : Prop :=
  ∃ p f fd ps g, CRead K C (.type "type") ∧ CMet K C (.type "type") m p f ∧ CInst K C m p f ∧ FnOk P w K mg base CX k f fd ps sp ∧ Binds K fd ps [] ∧ KBn K fd ps 1 ks g gV
def tCMethN (C : Addr) (n : Nat) (sp : Sp) (gV : List V → List V → List V) (E : XK) (ta : TE) (tk : TA) : TE := fun σ H Q => ta σ H fun x H1 => x = .ref C ∧
  tk σ H1 fun zs H2 => zs.length = n ∧ sp (gV [.ref C] zs) H2 Q E
section
variable {X : Cx} {CX : CXT} {k : Nat} {C : Addr} {sp : Sp} {ks : List Str} {gV : List V → List V → List V}
variable {E : XK} {m : Str} {pos apos : Pos} {o e : Expr} {es : List Expr} {kws : List Keyword} {ta : TE} {t tk : TA}
/-- C.m(e, ..) -/
theorem pe_cme {pl : Sem Bool} (c : CmeC X.prog X.w X.K X.mg X.base CX k C m ks gV sp) (hr : Room k X.A) (hx : Passes CX X E) (he : PE X o ta) (ha : PA X (e :: es) t)
    (hst : starEach (e :: es) X.env = (false, eval e X.env) :: starEach es X.env := by rfl) (hpl : (backTo pos (starEach es X.env)).any (·.1) = false := by rfl)
    (ht : eval (.Call (.Attribute o m apos) (e :: es) [] pos) X.env = (do
      let ov ← eval o X.env
      standAt apos.atName
      let (f, first) ← holding [ov] (getMethod ov m pl)
      callWith pos f first (backTo pos (starEach (e :: es) X.env)) (backToKw pos (keywordEach [] X.env))) := by rfl) :
    PE X (.Call (.Attribute o m apos) (e :: es) [] pos) (tCMeth C (fun vs H Q E => sp (vs ++ []) H Q E) E ta t) := by
  obtain ⟨p, f, fd, ps, g, rd, cm, ci, F, hb, hk⟩ := c
  exact pe_cmeth (pl := pl) he rd cm (F.raw hb .nil) hr hx ha hst hpl ht
/-- o.m(e, ..), o an instance of the class -/
theorem pe_ime {pl : Sem Bool} (c : CmeC X.prog X.w X.K X.mg X.base CX k C m ks gV sp) (hr : Room k X.A) (hx : Passes CX X E) (he : PE X o ta) (ha : PA X (e :: es) t)
    (hst : starEach (e :: es) X.env = (false, eval e X.env) :: starEach es X.env := by rfl) (hpl : (backTo pos (starEach es X.env)).any (·.1) = false := by rfl)
    (ht : eval (.Call (.Attribute o m apos) (e :: es) [] pos) X.env = (do
      let ov ← eval o X.env
      standAt apos.atName
      let (f, first) ← holding [ov] (getMethod ov m pl)
      callWith pos f first (backTo pos (starEach (e :: es) X.env)) (backToKw pos (keywordEach [] X.env))) := by rfl) :
    PE X (.Call (.Attribute o m apos) (e :: es) [] pos) (tIMethD C m (fun vs H Q E => sp (vs ++ []) H Q E) E ta t) := by
  obtain ⟨p, f, fd, ps, g, rd, cm, ci, F, hb, hk⟩ := c
  exact pe_imethD (pl := pl) he ci (F.raw hb .nil) hr hx ha hst hpl ht
/-- C.m(k = v, ..) -/
theorem pe_cmeN {pl : Sem Bool} (c : CmeC X.prog X.w X.K X.mg X.base CX k C m ks gV sp) (hr : Room k X.A) (hx : Passes CX X E) (he : PE X o ta) (hkw : PK X kws tk)
    (hall : (backToKw pos (keywordEach kws X.env)).all (·.1.isSome) = true := by rfl) (hks : (backToKw pos (keywordEach kws X.env)).filterMap (·.1) = ks := by rfl)
    (hpl : ((backTo pos (starEach [] X.env)).any (·.1) || (backToKw pos (keywordEach kws X.env)).any (·.1.isNone)) = false := by rfl)
    (ht : eval (.Call (.Attribute o m apos) [] kws pos) X.env = (do
      let ov ← eval o X.env
      standAt apos.atName
      let (f, first) ← holding [ov] (getMethod ov m pl)
      callWith pos f first (backTo pos (starEach [] X.env)) (backToKw pos (keywordEach kws X.env))) := by rfl) :
    PE X (.Call (.Attribute o m apos) [] kws pos) (tCMethN C ks.length sp gV E ta tk) := by
  obtain ⟨p, f, fd, ps, g, rd, cm, ci, F, hb, hk⟩ := c
  refine ⟨fun pins s σ H Q I h => ?_⟩
  refine PySem.W.methodCall_KW (pl := pl) (thn (he.run pins s σ H _ I h) fun u s1 ⟨x, H1, I1, rx, ex, q⟩ => ?_) ht
  subst ex
  obtain rfl : u = Value.ref C := rx
  refine getmethcm_ok I1 rd cm fun s2 I2 => ?_
  refine PySem.W.callWith_of hpl (PySem.W.keeps_M (self := .ref C) cm.fi) (evalArgs_kw2_nil hall ?_)
  refine thn (hkw.run pos _ s2 σ H1 _ I2 q) fun ws s3 ⟨zs, H2, I3, rz, l2, q2⟩ => ⟨⟨pin_at I3, I3.kIn⟩, ?_⟩
  rw [hks]
  have r2 := hk.rel (show Vals [V.ref C] [Value.ref C] from .cons rfl .nil) rz
  have z : wpAny (model X.prog X.w) X.A (call (.ref s1.heap.objs.size) ([] ++ []) (ks.zip ws)) (EP X ((s1.heap.objs.size, PySem.W.methodObj (.ref f) (.ref C)) :: pins) σ Q) X.xe s3 := by
    refine wpAny_call (PySem.W.method_call (pin_at I3) (codeAny_mono (F.run X.A X.stack s3 H2 ⟨[.ref C], ks.zip ws⟩ (g [.ref C] ws) (gV [.ref C] zs) Q E hr I3.env0 (hk.to s3 [.ref C] ws I3.kIn rfl (rz.length.symm.trans l2)) r2 q2) fun r s' hq => ?_))
    cases r with
    | error e => exact hx _ σ H2 s3 e s' I3 hq
    | ok fl =>
      cases fl with
      | ret u => exact I3.after hq
      | next => exact False.elim hq
      | brk => exact False.elim hq
      | cont => exact False.elim hq
  exact thn z fun _ _ y => unpinE y
end
/-! ### what the head tells of a classmethod -/
def cmeB (c m : Str) (K : PySem.W.Frag) : Bool :=
  (PySem.W.readsIn K (He.ga K c) (.type "type") && decide (PySem.W.specialIn K (.ref (He.ga K c)) "__getattribute__" = some (some (.builtin "type.__getattribute__")))) &&
  ((match PySem.W.findCls K (.ref (He.ga K c)) (.type "type") m with
    | some (.get (.builtin g) (.ref p) .none (.ref D)) => decide (g = "classmethod.__get__") && (decide (p = prA K c m) && decide (D = He.ga K c))
    | _ => false) &&
  ((match PySem.W.recIn K (prA K c m) "classmethod" with
    | some (.ref g :: _) => decide (g = grA K (prA K c m) "classmethod")
    | _ => false) &&
  (PySem.W.fnIn K (grA K (prA K c m) "classmethod") &&
  (PySem.W.plainGet K (He.ga K c) Str.empty &&
  (PySem.W.isClsIn K (He.ga K c) &&
  (decide (PySem.W.findIn K (.ref (He.ga K c)) m = some (some (.ref (prA K c m)))) &&
  (decide (PySem.W.typeIn K (.ref (prA K c m)) = some (.type "classmethod")) &&
  (decide (PySem.W.specialIn K (.ref (prA K c m)) "__get__" = some (some (.builtin "classmethod.__get__"))) &&
  (decide (PySem.W.takesIn K (.ref (prA K c m)) = some false) &&
  (PySem.W.keepIn K (.ref (grA K (prA K c m) "classmethod")) &&
  !PySem.W.copiedNames.contains m))))))))))
theorem cme_of {c m : Str} {K : PySem.W.Frag} (h : cmeB c m K = true) : CRead K (He.ga K c) (.type "type") ∧ CMet K (He.ga K c) (.type "type") m (prA K c m) (grA K (prA K c m) "classmethod") ∧
    CInst K (He.ga K c) m (prA K c m) (grA K (prA K c m) "classmethod") ∧ PySem.W.keepIn K (.ref (grA K (prA K c m) "classmethod")) = true := by
  obtain ⟨h1, h⟩ := He.ba h
  obtain ⟨h2, h⟩ := He.ba h
  obtain ⟨h3, h⟩ := He.ba h
  obtain ⟨h4, h⟩ := He.ba h
  obtain ⟨h5, h⟩ := He.ba h
  obtain ⟨h6, h⟩ := He.ba h
  obtain ⟨h7, h⟩ := He.ba h
  obtain ⟨h8, h⟩ := He.ba h
  obtain ⟨h9, h⟩ := He.ba h
  obtain ⟨h10, h⟩ := He.ba h
  obtain ⟨h12, h11⟩ := He.ba h
  obtain ⟨a1, a2⟩ := He.ba h1
  have rc : ∃ rest, PySem.W.recIn K (prA K c m) "classmethod" = some (.ref (grA K (prA K c m) "classmethod") :: rest) := by
    split at h3
    · rename_i g r e
      exact ⟨r, by rw [e, of_decide_eq_true h3]⟩
    · cases h3
  refine ⟨⟨a1, of_decide_eq_true a2⟩, ⟨?_, rc, h4⟩, ⟨h5, h6, of_decide_eq_true h7, of_decide_eq_true h8, of_decide_eq_true h9, of_decide_eq_true h10, by simpa using h11, rc, h4⟩, h12⟩
  split at h2
  · rename_i g p D e
    obtain ⟨k1, k⟩ := He.ba h2
    obtain ⟨k2, k3⟩ := He.ba k
    rw [e, of_decide_eq_true k1, of_decide_eq_true k2, of_decide_eq_true k3]
  · cases h2
end G
/-! own rules: try .. except (A, B, C) as e -/
namespace G
open PySem PySem.Spec PyProof.Rows L2
/-- an error that flies still flies where the heap has grown -/
theorem flies_on {base h h' : Heap} {l : List Env} {e : Addr} {Z : Obj → Prop} (f : HandSPX.FlyingZ base l e Z h)
    (k : ∀ b o, h.get? b = some o → h'.get? b = some o) : HandSPX.FlyingZ base l e Z h' := by
  obtain ⟨f1, f2, f3, oe, vs, T, oT, ts, t1, t2, t3, t4, t5, t6, t7, t8⟩ := f
  exact ⟨fun b o q => k b o (f1 b o q), f2, f3.of_keeps fun b o q _ => ⟨o, k b o q, rfl⟩, oe, vs, T, oT, ts, k _ _ t1, t2, t3, t4, t5, t6, k _ _ t7, t8⟩
/-- the ends of a suite whose name of the error, in slot i, goes behind it -/
def gone (i : Nat) (D : Ends) : Ends where
  nx := fun σ H => D.nx (σ.set i none) H
  rt := D.rt
  bk := fun σ H => D.bk (σ.set i none) H
  ct := fun σ H => D.ct (σ.set i none) H
/-- what one clause wishes of an error of the body; w tells whether its test takes a class -/
def wBy (w : Value → Option Bool) (i : Nat) (ts : Addr → Value → Option Addr → TS) (Wout : WX) (D : Ends) : WX := fun cls d σ H =>
  ∃ b, w cls = some b ∧ (b = true → ∀ a, H a = none → ts a cls d (gone i D) (σ.set i (some (.ref a))) H) ∧ (b = false → Wout cls d σ H)
/-- the test of a clause runs: a value, the heap at most longer, and it tells of the error what w tells of its class -/
def TestBy (X : Cx) (te : Expr) (w : Value → Option Bool) : Prop :=
  ∀ (a : Addr) (oe : Obj) (pn : List (Addr × Obj)) (s : Shared) (σ : L2.St) (H : Hp) (Q : Value → Shared → Prop) (E : Value → Shared → Prop),
    Inv (X.suite a ((a, oe) :: pn)) [] σ H s →
    (∀ (c : Value) (h' : Heap), (∀ b o, s.heap.get? b = some o → h'.get? b = some o) →
      (∀ (cls : Value) (b : Bool), w cls = some b → PySem.W.Looks (model X.prog X.w) h' (typeOf (.ref a)) cls → PySem.W.Looks (model X.prog X.w) h' (excMatches (.ref a) c) b) →
      Q c { s with heap := h' }) →
    wpAny (model X.prog X.w) (X.A.mark (some (.ref a))) (eval te X.env) Q E s
section
variable {X : Cx} {n : Str} {i : Nat} {te : Expr} {w : Value → Option Bool} {body suite : List Stmt} {b₀ : Stmt} {pos pos' : Pos} {tb : WX → TS} {ts : Addr → Value → Option Addr → TS} {Wout : WX}
theorem ps_try_by (stk : X.stack = X.env :: X.outer) (frm : X.env.frame = some X.env.locals) (nod : X.N.Nodup) (at_ : X.N[i]? = some n) (lcl : X.env.kindOf n = some .local)
    (test : TestBy X te w) (out : Takes X Wout)
    (hb : ∀ (W : WX) (pn : List (Addr × Obj)) (xe : Value → Shared → Prop), Takes (X.tr pn xe) W → PassesOwn (model X.prog X.w) X.A X.env xe → PSs (X.tr pn xe) body (tb W))
    (hsu : ∀ (a : Addr) (oe : Obj) (cls : Value) (d : Option Addr) (pn : List (Addr × Obj)), Zc cls d oe → (∃ vs, oe.data = .fields vs) → PSs (X.suite a ((a, oe) :: pn)) (b₀ :: suite) (ts a cls d)) :
    PS X (.Try body [.ExceptHandler (some te) (some n) (b₀ :: suite) pos'] [] [] pos) (fun D σ H => tb (wBy w i ts Wout D) D σ H) := by
  constructor
  intro pins s σ H D I h
  have good := I.ok
  have frs0 : X.A.frames = some (X.env :: X.outer) := good.frames.trans (by rw [stk])
  apply wpAny_Try_except
  let hd : List ExceptHandler := [.ExceptHandler (some te) (some n) (b₀ :: suite) pos']
  let after : Value → Shared → Prop := fun e s₁ => wpAny (model X.prog X.w) X.A (noteFrame e X.env) (fun _ s₂ =>
    wpAny (model X.prog X.w) X.A (setFlight e none) (fun _ s₃ => wpAny (model X.prog X.w) X.A (handleBy e X.env hd) (SP X pins D) X.xe s₃) X.xe s₂) X.xe s₁
  have caught : Takes (X.tr (X.pn ++ pins) after) (wBy w i ts Wout D) := by
    rintro u s' ⟨a, B, sI, pins', σ', H', cls, d, rfl, J', nb, up, sky, na, os, ag, b, wb, yes, no⟩
    have J : Inv X pins σ' H' sI := J'.ofTry good
    rw [show (X.tr (X.pn ++ pins) after).stack = X.env :: X.outer from stk] at sky
    apply Sky.land Zc.steady frs0 frm sky
    intro h3 fl up3
    have J3 := J.landed (s' := { s' with heap := h3 }) nb fl.1 (up.trans up3) os ag
    obtain ⟨o3, v3, g3, z3, d3⟩ := fl.there
    have apart : ∀ (hh : Heap) (o : Obj) (vs : Array Value), hh.FunFrames B (X.env :: X.outer) → hh.get? a = some o → o.data = .fields vs → a ∉ frs (X.env :: X.outer) := by
      intro hh o vs ff e1 e2 hm
      obtain ⟨_, o', e', nf⟩ := ff.mem hm
      obtain rfl : o = o' := Option.some.inj (e1.symm.trans e')
      exact nf vs e2
    have off := apart h3 o3 v3 fl.2.2.1 g3 d3
    have offL : a ≠ X.env.locals := by
      rintro rfl
      exact off (List.mem_filterMap.mpr ⟨X.env, List.mem_cons_self, frm⟩)
    have offF : a ∉ X.fs := by
      intro hm
      obtain ⟨e, he, q⟩ := List.mem_filterMap.mp hm
      exact off (List.mem_filterMap.mpr ⟨e, List.mem_cons_of_mem _ he, q⟩)
    apply wpAny_handleBy_cons (codeAny_handlers_test ?_) (by intro q; cases q)
    apply test a o3 (X.pn ++ pins) { s' with heap := h3 } σ' H' _ _ (J3.suite g3 d3 na offL offF)
    intro c h4 k4 tell
    have fl4 := flies_on fl k4
    have up4 : sI.heap.UpToSlots h4 := (up.trans up3).trans (Heap.UpToSlots.of_keeps k4)
    have g4 : h4.get? a = some o3 := k4 a o3 g3
    have kind : PySem.W.Looks (model X.prog X.w) h4 (typeOf (.ref a)) cls := fun A Q E s k q => wpAny_typeOf_ref (k _ _ g4) (by rw [z3.1]; exact q)
    apply (tell cls b wb kind).here
    cases b with
    | false =>
      show wpAny _ X.A (handleBy (.ref a) X.env []) _ _ _
      apply wpAny_handleBy_nil
      obtain ⟨_, _, _, oe, vs, T, oT, tt, p1, p2, p3, p4, _⟩ := id fl4
      unfold PySem.passOn
      refine wpAny_bind (wpAny_field p1 p3 p4 ?_)
      rw [if_neg (by simp)]
      have leave : wpAny (model X.prog X.w) X.A (setFlight (.ref a) X.env.frame) (fun _ s4 => wpAny (model X.prog X.w) X.A (throw (.ref a) : Sem Flow) (SP X pins D) X.xe s4) X.xe { s' with heap := h4 } := by
        rw [frm]
        apply HandSPX.setFlight_upZ fl4
        intro h5 held up5
        apply wpAny_throw
        apply out
        exact ⟨a, B, sI, pins, σ', H', cls, d, rfl, J, nb, up4.trans up5, .inr (.inr (by rw [stk]; exact held)), na, os, ag, no rfl⟩
      first
        | exact wpAny_bind (wpAny_pure (wpAny_bind leave))
        | exact wpAny_bind leave
    | true =>
      apply codeAny_handlers_suite_as
      apply HandSPX.lands_againZ fl4
      intro h5 fl5 up5
      have J5 := J.landed (s' := { s' with heap := h5 }) nb fl5.1 (up4.trans up5) os ag
      obtain ⟨o5, v5, g5, z5, d5⟩ := fl5.there
      have S5 := J5.suite g5 d5 na offL offF
      apply store_ok (X := X.suite a ((a, o5) :: (X.pn ++ pins))) (v := .ref a) S5 nod at_ (.inl lcl) rfl ?_ (.inr lcl)
      intro s6 S6
      refine wpAny_mono ((hsu a o5 cls d (X.pn ++ pins) z5 ⟨_, d5⟩).run [] s6 _ H' _ S6 (yes rfl a na)) (fun f s7 sp => ?_) (fun _ _ z => z.elim)
      have away : ∀ {σ7 : L2.St} {H7 : Hp} {Q : Shared → Prop}, Inv (X.suite a ((a, o5) :: (X.pn ++ pins))) [] σ7 H7 s7 → (∀ s8, Inv X pins (σ7.set i none) H7 s8 → Q s8) →
          wpAny (model X.prog X.w) X.A (do bindName X.env n .none; unbindBehindTheSuite X.env n pos') (fun _ s8 => Q s8) X.xe s7 :=
        fun {σ7 H7 Q} S7 q => gone_ok (S7.unsuite good) nod at_ lcl q
      match f, sp with
      | .next, ⟨σ7, H7, S7, q7⟩ => exact away S7 fun s8 J8 => ⟨_, _, J8, q7⟩
      | .brk, ⟨σ7, H7, S7, q7⟩ => exact away S7 fun s8 J8 => ⟨_, _, J8, q7⟩
      | .cont, ⟨σ7, H7, S7, q7⟩ => exact away S7 fun s8 J8 => ⟨_, _, J8, q7⟩
      | .ret u, ⟨v7, σ7, H7, S7, r7, q7⟩ => exact away S7 fun s8 J8 => ⟨_, _, _, J8, r7, q7⟩
  refine wpAny_mono ((hb (wBy w i ts Wout D) (X.pn ++ pins) after caught PassesOwn.looking).run [] s σ H D (I.toTry _) h) (fun f s1 sp => ?_) (fun _ _ z => z)
  match f, sp with
  | .next, ⟨σ1, H1, J1, q1⟩ => exact wpAny_execs_nil ⟨σ1, H1, J1.ofTry good, q1⟩
  | .brk, ⟨σ1, H1, J1, q1⟩ => exact ⟨σ1, H1, J1.ofTry good, q1⟩
  | .cont, ⟨σ1, H1, J1, q1⟩ => exact ⟨σ1, H1, J1.ofTry good, q1⟩
  | .ret u, ⟨v1, σ1, H1, J1, r1, q1⟩ => exact ⟨v1, σ1, H1, J1.ofTry good, r1, q1⟩
/-- (A, B, C), three classes of the module -/
theorem test_three {x1 x2 x3 : Str} {C1 C2 C3 : Addr} {p1 p2 p3 pos : Pos} {k} (m1 : X.mg x1 = some (.ref C1)) (m2 : X.mg x2 = some (.ref C2)) (m3 : X.mg x3 = some (.ref C3))
    (g1 : Gl X x1 := by rfl) (g2 : Gl X x2 := by rfl) (g3 : Gl X x3 := by rfl)
    (d1 : (x1 == ("__debug__" : Str)) = false := by decide) (d2 : (x2 == ("__debug__" : Str)) = false := by decide) (d3 : (x3 == ("__debug__" : Str)) = false := by decide) :
    TestBy X (.Tuple [.Name x1 p1, .Name x2 p2, .Name x3 p3] k pos) (fun cls => PySem.W.exmAny X.K cls [.ref C1, .ref C2, .ref C3]) := by
  intro a oe pn s σ H Q E I go
  apply wpAny_Tuple_spliced
  apply Calls.spliced_cons (ld_glob (X := X.suite a ((a, oe) :: pn)) I g1 m1 ?_ d1)
  apply Calls.spliced_cons (ld_glob (X := X.suite a ((a, oe) :: pn)) I g2 m2 ?_ d2)
  apply Calls.spliced_cons (ld_glob (X := X.suite a ((a, oe) :: pn)) I g3 m3 ?_ d3)
  apply Calls.spliced_nil
  refine ⟨(show 3 ≤ sizeLine by decide), ?_⟩
  apply go
  · exact fun b o e => Heap.get?_push_of_some _ e
  · intro cls b wb kind
    exact PySem.W.exm_tup3 (PySem.W.Frag.In.keeps I.kIn fun b o e => Heap.get?_push_of_some _ e) kind (Heap.get?_push_size _ rfl) wb
end
end G
/-! own rules: errors of the module's own classes as values: made by position and by name, their attributes, isinstance -/
namespace G
open PySem PySem.Spec PyProof.Rows L2
/-! ### the bases -/
structure BaseE (B newId initId : String) (tl : List Value) : Prop where
  F : ExcBaseFacts B newId initId tl
  sf : StoreFacts B tl "object.__setattr__" "object"
def tlE (x : String) : List Value := [.type x, .type "Exception", .type "BaseException", .type "object"]
theorem base_VE : BaseE "ValueError" "ValueError.__new__" "ValueError.__init__" (tlE "ValueError") :=
  ⟨PySem.F.excBase_ValueError, PySem.F.store_ValueError⟩
theorem base_LE : BaseE "LookupError" "LookupError.__new__" "LookupError.__init__" (tlE "LookupError") :=
  ⟨PySem.F.excBase_LookupError, PySem.F.store_LookupError⟩
theorem base_AE : BaseE "ArithmeticError" "ArithmeticError.__new__" "ArithmeticError.__init__" (tlE "ArithmeticError") :=
  ⟨PySem.F.excBase_ArithmeticError, PySem.F.store_ArithmeticError⟩

/-! ### C(e, .., k = v, ..) by BaseException.__new__ and the own __init__ -/
section
variable {prog : Program} {w : World} {A : Around} {h : Heap} {g : Array GenState} {d : Drawn} {t : Nat} {os : OsState}
variable {nm q : Str} {C N : Addr} {bs bm tl rest : List Value} {kw : List (Str × Value)} {hdct : Bool} {sn : List Str} {sub : List Value} {ab : Bool} {col : Option Bool} {dd : Option Addr}
variable {k0 k1 k2 k3 k5 : Option Value} {B newId initId : String}
theorem made_check {M : Model} {E : Value → Shared → Prop} {Q : Unit → Shared → Prop} (b : BaseE B newId initId tl) (x : ∀ n : String, bm.contains (.type n) = tl.contains (.type n))
    (hC : h.get? C = some (excClassObj nm q C N bs bm hdct sn sub ab col dd k0 k1 k2 k3 k5 newId)) (hq : Q () ⟨h, g, d, t, os⟩) :
    wpAny M A (checkBuiltinCall newId ⟨.ref C :: rest, kw⟩) Q E ⟨h, g, d, t, os⟩ := by
  have z : (Value.ref C :: bm).contains (.type B) = true := by
    rw [List.contains_cons, x, b.F.hasB, Bool.or_true]
  have st := b.F.noStar
  simp only [checkBuiltinCall, b.F.newKind, b.F.newSplit, b.F.newRow]
  repeat (first
    | refine wpAny_loadPart_at hC ?_
    | (refine wpAny_isSubtype_exc hC ?_; rw [z])
    | refine wpAny_staticBase_exc hC ?_
    | refine wpAny_madeBy_exc hC ?_
    | simp only [bne_self_eq_false, Bool.false_eq_true, if_false]
    | wp_step)
  exact hq
theorem made_new {R : Result → Shared → Prop} (b : BaseE B newId initId tl) (x : ∀ n : String, bm.contains (.type n) = tl.contains (.type n))
    (hC : h.get? C = some (excClassObj nm q C N bs bm hdct sn sub ab col dd k0 k1 k2 k3 k5 newId)) (hz : rest.length ≤ sizeLine)
    (hq : R (.ok (.ret (.ref (h.objs.size + 1)))) ⟨(h.push (PySem.W.kdv_tup rest)).push (PySem.HandSPX.excO C h.objs.size), g, d, t, os⟩) :
    codeAny (model prog w) A (.builtin newId ⟨.ref C :: rest, kw⟩) R ⟨h, g, d, t, os⟩ := by
  have e0 := b.F.ends
  have z : ∀ n : String, (Value.ref C :: bm).contains (.type n) = tl.contains (.type n) := fun n => by
    rw [List.contains_cons, x]
    rfl
  have zB := (z B).trans b.F.hasB
  have zA := (z "AttributeError").trans b.F.noAttr
  have zN := (z "NameError").trans b.F.noName
  refine codeAny_builtinAt b.F.entry ?_
  unfold Builtin.«BaseException.__new__»
  refine PySem.wpAt_bind ?_
  show PySem.wpAt _ _ _ (stack >>= _) _ _ _
  refine PySem.wpAt_bind (PySem.wpAt_stack fun p below => PySem.wpAt_of_wpAny ?_)
  wp_walk
  refine PySem.wpAt_of_wpAny ?_
  rw [b.F.owner]
  repeat (first
    | with_reducible refine wpAny_madeHere_exc b.F.canon hC ?_
    | with_reducible refine wpAny_loadPart_at hC ?_
    | (with_reducible refine wpAny_isSubtype_exc hC ?_; first | rw [zB] | rw [zA] | rw [zN])
    | wp_step)
  show R _ _
  rw [Heap.size_push]
  exact hq
theorem made_type {E : Value → Shared → Prop} {fI : Addr} {Q : Fin → Shared → Prop} (b : BaseE B newId initId tl) (x : ∀ n : String, bm.contains (.type n) = tl.contains (.type n))
    (hC : h.get? C = some (excClassObj nm q C N bs bm hdct sn sub ab col dd k0 k1 k2 k3 k5 newId)) (hz : rest.length ≤ sizeLine)
    (hi : PySem.W.Looks (model prog w) h (typeLookup (.ref C) "__init__") (some (.ref fI)))
    (hb : ∀ self, PySem.W.Looks (model prog w) h (bindSpecial (.ref fI) self) (.ref fI, [self]))
    (hq : codeAny (model prog w) A (.call (.ref fI) ⟨.ref (h.objs.size + 1) :: rest, kw⟩)
      (fun r s' => match r with
        | .ok (.ret v) => v = .none ∧ Q (.done (.ret (.ref (h.objs.size + 1)))) s'
        | .ok _ => False
        | .error e => E e s') ⟨(h.push (PySem.W.kdv_tup rest)).push (PySem.HandSPX.excO C h.objs.size), g, d, t, os⟩) :
    wpAny (model prog w) A (Builtin.«type.__call__» ⟨.ref C :: rest, kw⟩) Q E ⟨h, g, d, t, os⟩ := by
  repeat (first
    | with_reducible refine wpAny_loadPart_at hC ?_
    | with_reducible refine wpAny_madeBy_exc hC ?_
    | wp_step)
  refine codeAny_call_builtin_code (Code.quiet_builtin _ b.F.quiet) (made_check b x hC ?_)
  refine made_new b x hC hz ?_
  show wpAny _ _ _ _ _ _
  have k : ∀ y o, h.get? y = some o → ((h.push (PySem.W.kdv_tup rest)).push (PySem.HandSPX.excO C h.objs.size)).get? y = some o :=
    fun y o e => Heap.get?_push_of_some _ (Heap.get?_push_of_some _ e)
  have c1 := k _ _ hC
  have g1 : ((h.push (PySem.W.kdv_tup rest)).push (PySem.HandSPX.excO C h.objs.size)).get? (h.objs.size + 1) = some (PySem.HandSPX.excO C h.objs.size) := by heap_get
  have self : (Value.ref C :: bm).contains (.ref C) = true := by simp
  have i1 := hi.keeps k
  have b1 := (hb (.ref (h.objs.size + 1))).keeps k
  unfold isInstance
  repeat (first
    | with_reducible refine wpAny_loadPart_at g1 ?_
    | (with_reducible refine wpAny_isSubtype_exc c1 ?_; rw [self])
    | wp_step)
  show wpAny _ _ (typeLookup (.ref C) _) _ _ _
  refine i1.at ?_
  refine wpAny_holding (wpAny_bind (b1.at ?_))
  refine wpAny_bind (wpAny_call (codeAny_mono hq fun r s' z => ?_))
  match r, z with
  | .error e, z => exact z
  | .ok .next, z => exact z.elim
  | .ok .brk, z => exact z.elim
  | .ok .cont, z => exact z.elim
  | .ok (.ret v), z =>
    obtain ⟨rfl, z⟩ := z
    first
      | exact wpAny_pure (wpAny_pure z)
      | (wp_walk; exact z)
theorem made_call {R : Result → Shared → Prop} {fI : Addr} (b : BaseE B newId initId tl) (x : ∀ n : String, bm.contains (.type n) = tl.contains (.type n))
    (hC : h.get? C = some (excClassObj nm q C N bs bm hdct sn sub ab col dd k0 k1 k2 k3 k5 newId)) (hz : rest.length ≤ sizeLine)
    (hi : PySem.W.Looks (model prog w) h (typeLookup (.ref C) "__init__") (some (.ref fI)))
    (hb : ∀ self, PySem.W.Looks (model prog w) h (bindSpecial (.ref fI) self) (.ref fI, [self]))
    (hq : codeAny (model prog w) (A.under (.builtin "type.__call__" ⟨.ref C :: rest, kw⟩)) (.call (.ref fI) ⟨.ref (h.objs.size + 1) :: rest, kw⟩)
      (PySem.W.InitBack (h.objs.size + 1) R) ⟨(h.push (PySem.W.kdv_tup rest)).push (PySem.HandSPX.excO C h.objs.size), g, d, t, os⟩) :
    codeAny (model prog w) A (.call (.ref C) ⟨rest, kw⟩) R ⟨h, g, d, t, os⟩ := by
  have f1 := tc_lookup
  have f2 := tc_bind (.ref C)
  have f3 := tc_sub
  have ty : (⟨h, g, d, t, os⟩ : Shared).TypeIs (.ref C) "type" := ⟨_, hC, rfl⟩
  refine codeAny_of_tree ?_
  show wpAny _ _ (callAny (.ref C) _) _ _ _
  repeat (any_goals (first
    | assumption
    | with_reducible refine wpAny_loadPart_at hC ?_
    | wp_step))
  refine ⟨rfl, ?_⟩
  have ck : ∀ {A : Around} {E : Value → Shared → Prop} {Q : Unit → Shared → Prop}, Q () ⟨h, g, d, t, os⟩ →
      wpAny (model prog w) A (checkBuiltinCall "type.__call__" ⟨.ref C :: rest, kw⟩) Q E ⟨h, g, d, t, os⟩ := fun {A E Q} hq => by
    simp only [checkBuiltinCall, tc_kind, tc_split]
    repeat (any_goals (first
      | assumption
      | with_reducible refine wpAny_loadPart_at hC ?_
      | with_reducible refine wpAny_onRaise ?_
      | with_reducible refine wpAny_map ?_
      | wp_step))
  refine codeAny_call_builtin_at (Code.quiet_builtin _ (by decide +kernel)) entry_typeCall (ck (made_type b x hC hz hi hb ?_))
  refine codeAny_mono hq fun r s' z => ?_
  match r, z with
  | .error e, z => exact z
  | .ok .next, z => exact z
  | .ok .brk, z => exact z
  | .ok .cont, z => exact z
  | .ok (.ret v), z => exact z
end

/-! ### what the written part says of an own class of errors -/
structure ErC (K : PySem.W.Frag) (C : Addr) (newId : String) (tl : List Value) : Prop where
  ei : PySem.W.excInitIn K C tl newId = true
  eo : PySem.W.excOver K C tl = true
  sa : PySem.W.findIn K (.ref C) "__setattr__" = some (some (.builtin "object.__setattr__"))
  kC : PySem.W.keepIn K (.ref C) = true
  xf : XfC K C
  ex : ExcC K C
def erB (c : Str) (newId : String) (tl : List Value) (K : PySem.W.Frag) : Bool :=
  PySem.W.excInitIn K (He.ga K c) tl newId && (PySem.W.excOver K (He.ga K c) tl &&
  (decide (PySem.W.findIn K (.ref (He.ga K c)) "__setattr__" = some (some (.builtin "object.__setattr__"))) &&
  (PySem.W.keepIn K (.ref (He.ga K c)) && (xfB K (He.ga K c) &&
  (decide (PySem.W.findIn K (.ref (He.ga K c)) "__class__" = some (some (.builtin "object.__class__"))) &&
  (decide (PySem.W.specialIn K (.builtin "object.__class__") "__get__" = some (some (.builtin "getset_descriptor.__get__"))) &&
  (decide (PySem.W.takesIn K (.builtin "object.__class__") = some true) &&
  decide (PySem.W.mroIn K (He.ga K c) (.type "object") = some true))))))))
theorem er_of {c : Str} {newId : String} {tl : List Value} {K : PySem.W.Frag} (h : erB c newId tl K = true) : ErC K (He.ga K c) newId tl := by
  obtain ⟨h1, h⟩ := He.ba h
  obtain ⟨h2, h⟩ := He.ba h
  obtain ⟨h3, h⟩ := He.ba h
  obtain ⟨h4, h⟩ := He.ba h
  obtain ⟨h5, h⟩ := He.ba h
  obtain ⟨h6, h⟩ := He.ba h
  obtain ⟨h7, h⟩ := He.ba h
  obtain ⟨h8, h9⟩ := He.ba h
  have x := xfB_ok h5
  exact ⟨h1, h2, of_decide_eq_true h3, h4, x, ⟨x.ga, x.gg, x.exC, x.hdC, of_decide_eq_true h6, of_decide_eq_true h7, of_decide_eq_true h8, of_decide_eq_true h9⟩⟩

/-! ### self.f = y -/
section
variable {X : Cx} {pins : List (Addr × Obj)} {σ : L2.St} {H : Hp} {s : Shared} {a C : Addr} {f : Str} {y : V} {u : Value} {fs : List (Str × V)} {tl : List Value} {B newId initId : String}
variable {Q : Unit → Shared → Prop} {E : Value → Shared → Prop} {A : Around}
open Builtin.ObjectAttr in
theorem err_set1 (b : BaseE B newId initId tl) (T : ErC X.K C newId tl) (I : Inv X pins σ H s) (e : H a = some (exo a C none))
    (hno : PySem.W.findIn X.K (.ref C) f = some none) (ry : RelV y u)
    (h : ∀ dx s', H dx = none → dx ≠ a → Inv X pins σ (upd (upd H dx (exd dx [(f, y)])) a (exo a C (some dx))) s' → Q () s') :
    wpAny (model X.prog X.w) A (setAttr (.ref a) f u) Q E s := by
  obtain ⟨cd, hc, hh⟩ := PySem.W.any_some T.xf.hdC
  obtain ⟨t1, ho⟩ := exo_at I.hok e
  obtain ⟨hp, g, d, t, os⟩ := s
  have J : PySem.W.InstAt hp a { cls := .ref C, dict := none, data := .fields #[.ref t1, .none, .none, .none, .bool false, .none] } C none := ⟨ho, rfl, rfl, trivial⟩
  have kin := I.kIn
  have cls : PySem.W.Looks (model X.prog X.w) hp (classData C) cd := PySem.W.looks_clsIn kin hc
  have fin : ∀ h' tk' dx, (∀ b o, b ≠ a → hp.get? b = some o → h'.get? b = some o) → hp.objs.size ≤ dx → dx ≠ a →
      h'.get? a = some { cls := .ref C, dict := some dx, data := .fields #[.ref t1, .none, .none, .none, .bool false, .none] } →
      h'.Ns1 dx (fun z => if z = f then some u else none) → Q () ⟨h', g, d, tk', os⟩ := fun h' tk' dx k hl hne hx hn => by
    have nd : H dx = none := I.hok.fresh hl
    have ltd : ∀ {c : Addr} {o : Obj}, hp.get? c = some o → c ≠ dx := fun q => Nat.ne_of_lt (Nat.lt_of_lt_of_le (Heap.lt_size q) hl)
    have nea : ∀ {c : Addr}, H c = none → c ≠ a := fun n z => by rw [z, e] at n; cases n
    refine h dx _ nd hne (I.un (t' := tk') ?_ ?_)
    · constructor
      · intro c o q n _ _
        exact k c o (nea n) q
      · intro c o q n _ _
        exact ⟨o.slots, k c o (nea n) q⟩
      · intro c o q n _
        rw [upd_ne (nea n), upd_ne (ltd q)]
        exact n
      · intro c o q _
        by_cases z : c = a
        · exact ⟨_, z ▸ hx⟩
        · exact ⟨o, k c o z q⟩
      · intro c xs q
        rw [upd_ne (at_ne e q exo_tup), upd_ne (ne_of_none q nd)]
        exact q
      · intro c o v q
        rw [upd_ne (at_ne e q exo_frz), upd_ne (ne_of_none q nd)]
        exact q
      · intro c ps q
        refine ⟨#[], ?_⟩
        rw [upd_ne (at_ne e q exo_tbl), upd_ne (ne_of_none q nd), q, Array.append_empty]
    · intro c o q
      by_cases z : c = a
      · subst z
        rw [upd_same] at q
        cases q
        exact exo_ok hx
      · rw [upd_ne z] at q
        by_cases z2 : c = dx
        · subst z2
          rw [upd_same] at q
          cases q
          exact exd_ok hn (relO_put (fs := []) ry fun g => True.intro)
        · rw [upd_ne z2] at q
          refine (I.hok c o q).stay (fun c' v hc' y' => k c' v ?_ y') (fun c' hc' => ?_) (fun c' xs hc' => ?_)
          · rcases hc' with w | w
            · rw [w]; exact z
            · exact at_ne e w exo_own
          · rw [upd_ne (at_ne e hc' exo_own), upd_ne (ne_of_none hc' nd)]
            exact hc'
          · rw [upd_ne (at_ne e hc' exo_tup), upd_ne (ne_of_none hc' nd)]
            exact hc'
  have hax : a ≠ hp.objs.size := Nat.ne_of_lt (Heap.lt_size ho)
  have tk0 : PySem.W.takerIn X.K C f = some none := by
    unfold PySem.W.takerIn
    rw [hno]
    rfl
  refine PySem.W.set_plain kin J T.sa (PySem.W.osa_openX (s := ⟨hp, g, d, t + 1, os⟩) b.sf kin J T.eo tk0 fun b0 => ?_)
  show wpAny _ _ (storeInOwnDict (.ref a) (.ref C) (.str f _) f u b0) _ _ _
  obtain ⟨n1, n2, n3, n4, n5, n6, n7, n8, n9, n10, n11⟩ := cd
  dsimp only at hh
  subst hh
  unfold storeInOwnDict ownDictForStores
  repeat (first
    | with_reducible refine PySem.HandSPX.store_in_new ?_ ?_
    | with_reducible refine wpAny_loadPart_at ho ?_
    | with_reducible refine cls.at ?_
    | wp_step)
  · exact ⟨_, #[], _, (Heap.get?_update_ne _ _ _ _ hax.symm).trans (Heap.get?_push_at rfl rfl), rfl, fun e he => absurd he (by simp), fun _ => rfl⟩
  · intro h' tk' hn' hs
    have hx : (hp.push { cls := .type "dict", data := .dict #[] }).get? a = some { cls := .ref C, dict := none, data := .fields #[.ref t1, .none, .none, .none, .bool false, .none] } := Heap.get?_push_of_some _ ho
    refine fin h' tk' hp.objs.size (fun c o hb ho' => ?_) (Nat.le_refl _) hax.symm ?_ hn'
    · exact (hs.2 c (Nat.ne_of_lt (Heap.lt_size ho'))).trans ((Heap.get?_update_ne _ _ _ _ hb).trans (Heap.get?_push_of_some _ ho'))
    · exact (hs.2 a hax).trans (Heap.get?_update_self _ hx rfl)
end
end G
/-! own rules: errors of the module's own classes as values, second part -/
namespace G
open PySem PySem.Spec PyProof.Rows L2
/-! ### self.f = y, a further one; the statement -/
section
variable {X : Cx} {pins : List (Addr × Obj)} {σ : L2.St} {H : Hp} {s : Shared} {a dx C : Addr} {f : Str} {y : V} {u : Value} {fs : List (Str × V)} {tl : List Value} {B newId initId : String}
open Builtin.ObjectAttr in
theorem err_set2 {Q : Unit → Shared → Prop} {E : Value → Shared → Prop} {A : Around} (b : BaseE B newId initId tl) (T : ErC X.K C newId tl) (I : Inv X pins σ H s)
    (e : H a = some (exo a C (some dx))) (ed : H dx = some (exd dx fs)) (hl : fs.length ≤ 900) (hno : PySem.W.findIn X.K (.ref C) f = some none) (ry : RelV y u)
    (h : ∀ s', Inv X pins σ (upd H dx (exd dx ((f, y) :: fs))) s' → Q () s') : wpAny (model X.prog X.w) A (setAttr (.ref a) f u) Q E s := by
  obtain ⟨cd, hc, hh⟩ := PySem.W.any_some T.xf.hdC
  obtain ⟨t1, ho⟩ := exo_at I.hok e
  obtain ⟨mA, hns, rel⟩ := exd_at I.hok ed
  have hw := within_of rel
  obtain ⟨hp, g, d, t, os⟩ := s
  obtain ⟨oD, _, _, hoD, _, _⟩ := hns.count hw
  have J : PySem.W.InstAt hp a { cls := .ref C, dict := some dx, data := .fields #[.ref t1, .none, .none, .none, .bool false, .none] } C (some oD) := ⟨ho, rfl, rfl, hoD⟩
  have kin := I.kIn
  have cls : PySem.W.Looks (model X.prog X.w) hp (classData C) cd := PySem.W.looks_clsIn kin hc
  have hz : (fs.map (·.1)).length ≤ 1000 := by rw [List.length_map]; omega
  have tk0 : PySem.W.takerIn X.K C f = some none := by
    unfold PySem.W.takerIn
    rw [hno]
    rfl
  refine PySem.W.set_plain kin J T.sa (PySem.W.osa_openX (s := ⟨hp, g, d, t + 1, os⟩) b.sf kin J T.eo tk0 fun b0 => ?_)
  show wpAny _ _ (storeInOwnDict (.ref a) (.ref C) (.str f _) f u b0) _ _ _
  obtain ⟨n1, n2, n3, n4, n5, n6, n7, n8, n9, n10, n11⟩ := cd
  dsimp only at hh
  subst hh
  unfold storeInOwnDict ownDictForStores
  repeat (first
    | with_reducible refine PySem.OEX.store_in_old hns hw hz ?_
    | with_reducible refine wpAny_loadPart_at ho ?_
    | with_reducible refine cls.at ?_
    | wp_step)
  intro h' tk' hn hs
  have hd : ∃ o, h'.get? dx = some o := let ⟨o, _, _, z, _⟩ := hn; ⟨o, z⟩
  exact h _ (I.write (t' := tk') (x := dx) (e := dx) (o := exd dx ((f, y) :: fs)) (by rw [ed]; exact True.intro) (.inl rfl)
    (fun c o hc z => (hs.2 c hc).trans z) hd (exd_ok hn (relO_put ry rel)))
/-- self.f = e, at an error of the class at C -/
def tErrSet (C : Addr) (f : Str) (to te : TE) : TS := fun D σ H => te σ H fun y H1 => to σ H1 fun x H2 => ∃ a : Addr, x = .ref a ∧
  ((H2 a = some (exo a C none) ∧ ∀ dx, H2 dx = none → dx ≠ a → D.nx σ (upd (upd H2 dx (exd dx [(f, y)])) a (exo a C (some dx)))) ∨
    ∃ (dx : Addr) (fs : List (Str × V)), H2 a = some (exo a C (some dx)) ∧ H2 dx = some (exd dx fs) ∧ fs.length ≤ 900 ∧ D.nx σ (upd H2 dx (exd dx ((f, y) :: fs))))
theorem ps_errset {o e : Expr} {to te : TE} {p' pos : Pos} (b : BaseE B newId initId tl) (T : ErC X.K C newId tl) (hno : PySem.W.findIn X.K (.ref C) f = some none) (ho : PE X o to) (he : PE X e te)
    (hs : swapsWith e (some (.Attribute o f p')) pos.line X.env = pure false := by rfl) : PS X (.Assign [.Attribute o f p'] e pos) (tErrSet C f to te) := by
  refine ⟨fun pins s σ H D I h => ?_⟩
  refine plainObj_wpAny_Assign_Attribute (thn (he.run pins s σ H _ I h) ?_) hs
  rintro v s1 ⟨y, H1, I1, r1, q1⟩
  refine thn (ho.run pins s1 σ H1 _ I1 q1) ?_
  rintro u s2 ⟨x, H2, I2, r2, a, rfl, q⟩
  obtain rfl : u = Value.ref a := r2
  rcases q with ⟨ea, q⟩ | ⟨dx, fs, ea, ed, hl, q⟩
  · exact err_set1 b T I2 ea hno r1 fun dx s' n ne J => ⟨σ, _, J, q dx n ne⟩
  · exact err_set2 b T I2 ea ed hl hno r1 fun s' J => ⟨σ, _, J, q⟩
end

/-! ### an error stands -/
/-- x is an error of the class at C with the attributes fs -/
def ErrAt (H : Hp) (x : V) (C : Addr) (fs : List (Str × V)) : Prop := ∃ (a : Addr) (d : Option Addr), x = .ref a ∧ H a = some (exo a C d) ∧
  match d with
  | none => fs = []
  | some dx => H dx = some (exd dx fs)
theorem ErrAt.same {H H' : Hp} {x : V} {C : Addr} {fs : List (Str × V)} (e : ErrAt H x C fs) (s : Same H H') : ErrAt H' x C fs := by
  obtain ⟨a, d, rfl, ea, q⟩ := e
  refine ⟨a, d, rfl, s _ _ ea, ?_⟩
  cases d with
  | none => exact q
  | some dx => exact s _ _ q
theorem noL_exo {a C : Addr} {d : Option Addr} : noL (exo a C d) = true := rfl
theorem noL_exd {a : Addr} {fs : List (Str × V)} : noL (exd a fs) = true := rfl
theorem ErrAt.pl {H H' : Hp} {p : Addr} {x : V} {C : Addr} {fs : List (Str × V)} (e : ErrAt H x C fs) (s : Pl p H H') (h : PoolAt H p) : ErrAt H' x C fs := by
  obtain ⟨a, d, rfl, ea, q⟩ := e
  refine ⟨a, d, rfl, s.obj h ea noL_exo, ?_⟩
  cases d with
  | none => exact q
  | some dx => exact s.obj h q noL_exd
/-- what __init__ with n arguments does -/
def spE (C : Addr) (n : Nat) (gF : List V → List (Str × V)) : Sp := fun vs H Q _ => ∃ (a : Addr) (ws : List V), vs = .ref a :: ws ∧ ws.length = n ∧ H a = some (exo a C none) ∧
  ∀ H2, (∀ b o, b ≠ a → H b = some o → H2 b = some o) → ErrAt H2 (.ref a) C (gF ws) → Q .non H2
/-- the module's name x is the class at C of errors; its __init__ takes n values and keeps gF of them -/
def ErI (P : Program) (w : World) (K : PySem.W.Frag) (mg : Str → Option Value) (base : Heap) (x : Str) (C : Addr) (n : Nat) (ks : List Str) (gV : List V → List V) (gF : List V → List (Str × V)) : Prop :=
  ∃ B newId initId tl fI fd ps g, BaseE B newId initId tl ∧ ErC K C newId tl ∧ PySem.W.findIn K (.ref C) "__init__" = some (some (.ref fI)) ∧
    PySem.W.typeIn K (.ref fI) = some (.type "function") ∧ FnOk P w K mg base CX0 1 fI fd ps (spE C n gF) ∧ mg x = some (.ref C) ∧ Binds K fd ps [] ∧
    KBn K fd ps 1 ks g (fun vs zs => vs ++ gV zs)
section
variable {X : Cx} {C : Addr} {n : Nat} {gF : List V → List (Str × V)} {x : Str} {ks : List Str} {gV : List V → List V}
/-- C(e, ..) -/
def tErr (C : Addr) (n : Nat) (gF : List V → List (Str × V)) (ta : TA) : TE := fun σ H Q => ta σ H fun vs H1 => vs.length = n ∧ ∀ y H2, Same H1 H2 → ErrAt H2 y C (gF vs) → Q y H2
/-- C(k = e, ..) -/
def tErrN (C : Addr) (n m : Nat) (gV : List V → List V) (gF : List V → List (Str × V)) (tk : TA) : TE := fun σ H Q => tk σ H fun zs H1 => zs.length = m ∧ (gV zs).length = n ∧
  ∀ y H2, Same H1 H2 → ErrAt H2 y C (gF (gV zs)) → Q y H2
theorem run_err {pins : List (Addr × Obj)} {σ : L2.St} {H : Hp} {s : Shared} {Q : VK} {us full : List Value} {vs : List V} {kw : List (Str × Value)} {fI : Addr} {fd : FuncData} {ps : List Str} {B newId initId : String} {tl : List Value}
    (b : BaseE B newId initId tl) (T : ErC X.K C newId tl) (iC : PySem.W.findIn X.K (.ref C) "__init__" = some (some (.ref fI))) (tI : PySem.W.typeIn X.K (.ref fI) = some (.type "function"))
    (F : FnOk X.prog X.w X.K X.mg X.base CX0 1 fI fd ps (spE C n gF)) (hr : Room 2 X.A) (I : Inv X pins σ H s) (hz : us.length ≤ sizeLine) (hn : vs.length = n)
    (hb : ∀ s' a, X.K.In s'.heap → BindsTo s' fd ⟨.ref a :: us, kw⟩ (ps.zip (.ref a :: full))) (r : Vals vs full)
    (h : ∀ y H2, Same H H2 → ErrAt H2 y C (gF vs) → Q y H2) : wpAny (model X.prog X.w) X.A (call (.ref C) us kw) (EP X pins σ Q) X.xe s := by
  obtain ⟨hp, g, d, tk, os⟩ := s
  obtain ⟨nm, N, q, bs, bm, hd, sn, sub, ab, col, dd, k0, k1, k2, k3, k5, hC, hT⟩ := PySem.W.excInit_of I.kIn T.ei
  have kk : ∀ c o, hp.get? c = some o → ((hp.push (PySem.W.kdv_tup us)).push (PySem.HandSPX.excO C hp.objs.size)).get? c = some o :=
    fun c o e => Heap.get?_push_of_some _ (Heap.get?_push_of_some _ e)
  have hsz : hp.objs.size ≤ hp.objs.size + 1 := Nat.le_succ _
  have hnone : H (hp.objs.size + 1) = none := I.hok.fresh hsz
  have hget : ((hp.push (PySem.W.kdv_tup us)).push (PySem.HandSPX.excO C hp.objs.size)).get? (hp.objs.size + 1) = some (PySem.HandSPX.excO C hp.objs.size) := by heap_get
  have I2 : Inv X pins σ (upd H (hp.objs.size + 1) (exo (hp.objs.size + 1) C none)) ⟨(hp.push (PySem.W.kdv_tup us)).push (PySem.HandSPX.excO C hp.objs.size), g, d, tk, os⟩ :=
    I.laid (t' := tk) (a := hp.objs.size + 1) (o := exo (hp.objs.size + 1) C none) kk hsz (exo_ok hget)
  have hq : spE C n gF (.ref (hp.objs.size + 1) :: vs) (upd H (hp.objs.size + 1) (exo (hp.objs.size + 1) C none)) (fun v H2 => v = .non ∧ Q (.ref (hp.objs.size + 1)) H2) (fun _ _ _ => False) := by
    refine ⟨_, vs, rfl, hn, upd_same, fun H2 k e => ⟨rfl, h _ H2 (fun c o z => ?_) e⟩⟩
    have nc : c ≠ hp.objs.size + 1 := fun w => by rw [w, hnone] at z; cases z
    exact k c o nc (by rw [upd_ne nc]; exact z)
  refine wpAny_call (made_call b hT hC hz (PySem.W.looks_findIn I.kIn iC) (fun self => PySem.W.bind_fn I.kIn self tI) ?_)
  refine codeAny_mono (F.run _ X.stack _ _ _ (Value.ref (hp.objs.size + 1) :: full) (V.ref (hp.objs.size + 1) :: vs) _ (fun _ _ _ => False) (hr.make C us kw) (I2.env0.make C us kw) (hb _ _ I2.kIn) (.cons rfl r) hq) ?_
  intro r s' hq'
  match r, hq' with
  | .error er, hq' => exact pass0 (X := X) pins σ _ _ er s' I2 hq'
  | .ok (.ret u), hq' =>
    obtain ⟨v, H', I3, rv, rfl, q3⟩ := I2.after hq'
    exact ⟨rv, ⟨.ref (hp.objs.size + 1), H', I3, rfl, q3⟩⟩
  | .ok .next, hq' => exact hq'.elim
  | .ok .brk, hq' => exact hq'.elim
  | .ok .cont, hq' => exact hq'.elim
end
end G
/-! own rules: errors of the module's own classes as values, third part: the calls, isinstance, attributes; list.count -/
namespace G
open PySem PySem.Spec PyProof.Rows L2
/-! ### C(e, ..), C(k = e, ..), C() -/
/-- two keywords in the other order, or as they are -/
def gsw (sw : Bool) {α : Type} (l : List α) : List α := if sw then l.drop 1 ++ l.take 1 else l
theorem gsw_rel {sw : Bool} {vs : List V} {us : List Value} (r : Vals vs us) : Vals (gsw sw vs) (gsw sw us) := by
  cases sw
  · exact r
  · exact vals_app (vals_drop 1 r) (vals_take 1 r)
/-- the module's name x is the class at C of errors; its __init__ takes n values and keeps gF of them -/
def ErK (P : Program) (w : World) (K : PySem.W.Frag) (mg : Str → Option Value) (base : Heap) (x : Str) (C : Addr) (n : Nat) (ks : List Str) (sw : Bool) (gF : List V → List (Str × V)) : Prop :=
  ∃ B newId initId tl fI fd ps, BaseE B newId initId tl ∧ ErC K C newId tl ∧ PySem.W.findIn K (.ref C) "__init__" = some (some (.ref fI)) ∧
    PySem.W.typeIn K (.ref fI) = some (.type "function") ∧ FnOk P w K mg base CX0 1 fI fd ps (spE C n gF) ∧ mg x = some (.ref C) ∧ Binds K fd ps [] ∧
    ∀ s us ws, K.In s.heap → us.length = 1 → ws.length = ks.length → BindsTo s fd ⟨us, ks.zip ws⟩ (ps.zip (us ++ gsw sw ws))
section
variable {X : Cx} {C : Addr} {n : Nat} {gF : List V → List (Str × V)} {x : Str} {ks : List Str} {sw : Bool} {p pos : Pos} {e : Expr} {es : List Expr} {kws : List Keyword} {ta tk : TA}
theorem pe_err (c : ErK X.prog X.w X.K X.mg X.base x C n ks sw gF) (hr : Room 2 X.A) (ha : PA X (e :: es) ta) (hn : n ≤ 2) (hg : Gl X x := by rfl) (hdb : (x == ("__debug__" : Str)) = false := by decide)
    (he : starEach (e :: es) X.env = (false, eval e X.env) :: starEach es X.env := by rfl) (hpl : (backTo pos (starEach es X.env)).any (·.1) = false := by rfl) :
    PE X (.Call (.Name x p) (e :: es) [] pos) (tErr C n gF ta) := by
  obtain ⟨B, newId, initId, tl, fI, fd, ps, b, T, iC, tI, F, hm, hb, _⟩ := c
  refine ⟨fun pins s σ H Q I h => ?_⟩
  refine wpAny_Call_Name_kw (ld_glob I hg hm ?_ hdb)
  refine PySem.W.callWith_K (h₀ := X.base) I.ok.mod.kin T.kC (thn (ha.run pos pins s σ H _ I h) ?_) he hpl
  rintro us s1 ⟨vs, H1, I1, r, l, q⟩
  have lu : us.length = n := r.length.symm.trans l
  refine ⟨I1.kIn, run_err b T iC tI F hr I1 (Nat.le_trans (Nat.le_of_eq lu) (by rw [sizeLine_eq]; omega)) l (fun s' a X' => ?_) r q⟩
  have z := hb s' (.ref a :: us) X' (by
    have := F.len (V.ref a :: vs) (upd H1 a (exo a C none)) (fun _ _ => True) (fun _ _ _ => True) ⟨a, vs, rfl, l, upd_same, fun _ _ _ => trivial⟩
    rw [List.length_cons] at this
    simp only [List.append_nil, List.length_cons]
    omega)
  simpa using z
theorem pe_errN (c : ErK X.prog X.w X.K X.mg X.base x C n ks sw gF) (hr : Room 2 X.A) (hkw : PK X kws tk) (hg : Gl X x := by rfl) (hall : (backToKw pos (keywordEach kws X.env)).all (·.1.isSome) = true := by rfl)
    (hks : (backToKw pos (keywordEach kws X.env)).filterMap (·.1) = ks := by rfl) (hdb : (x == ("__debug__" : Str)) = false := by decide)
    (hpl : ((backTo pos (starEach [] X.env)).any (·.1) || (backToKw pos (keywordEach kws X.env)).any (·.1.isNone)) = false := by rfl) :
    PE X (.Call (.Name x p) [] kws pos) (tErrN C n ks.length (fun zs => gsw sw zs) gF tk) := by
  obtain ⟨B, newId, initId, tl, fI, fd, ps, b, T, iC, tI, F, hm, _, hb⟩ := c
  refine ⟨fun pins s σ H Q I h => ?_⟩
  refine wpAny_Call_Name_kw (ld_glob I hg hm ?_ hdb)
  refine PySem.W.callWith_KW0 (h₀ := X.base) I.ok.mod.kin T.kC hall ?_ hpl
  refine thn (hkw.run pos pins s σ H _ I h) ?_
  rintro ws s2 ⟨zs, H2, I2, rz, l1, l2, q2⟩
  refine ⟨I2.kIn, ?_⟩
  rw [hks]
  exact run_err b T iC tI F hr I2 (Nat.zero_le _) l2 (fun s' a X' => hb s' [.ref a] ws X' rfl (rz.length.symm.trans l1)) (gsw_rel rz) q2
/-- C(), C without an own __init__ -/
theorem pe_err0 {B newId initId : String} {tl : List Value} (F : ExcBaseFacts B newId initId tl) (q : PySem.W.excIn X.K C tl newId = true) (kC : PySem.W.keepIn X.K (.ref C) = true) (hm : ∃ u, X.mg x = some u ∧ RelV (.ref C) u)
    (hg : Gl X x := by rfl) (hdb : (x == ("__debug__" : Str)) = false := by decide) :
    PE X (.Call (.Name x p) [] [] pos) (fun σ H Q => ∀ y H2, Same H H2 → ErrAt H2 y C [] → Q y H2) := by
  obtain ⟨u, hm, ru⟩ := hm
  obtain rfl : u = Value.ref C := ru
  refine ⟨fun pins s σ H Q I h => ?_⟩
  refine wpAny_Call_Name_kw (ld_glob I hg hm ?_ hdb)
  refine PySem.W.callWith_K0 I.kIn kC ?_
  obtain ⟨bm, N, nm, qn, bs, hdct, sn, sub, ab, col, dd, k0, k1, k2, k3, k5, mN, hC, hN, hni, T⟩ := exc_obj I.kIn q
  refine wpAny_call_exc_subT F T hC hN hni (fun h' e hm' => ?_) (Nat.zero_le _)
  obtain ⟨hk, hnew, t1, he, _⟩ := hm'
  have hn : H e = none := I.hok.gone hnew
  refine ⟨.ref e, upd H e (exo e C none), I.laidN (t' := s.toks) (h' := h') hk hnew hn (exo_ok he), rfl, h _ _ (fun b o z => ?_) ⟨e, none, rfl, upd_same, rfl⟩⟩
  rw [upd_ne (fun w => by rw [w, hn] at z; cases z)]
  exact z
end

/-! ### the own __init__ -/
section
variable {P : Program} {w : World} {K : PySem.W.Frag} {mg : Str → Option Value} {base : Heap} {C fI : Addr} {fd : FuncData} {qual f g : Str} {params : Arguments} {body : List Stmt} {scope : Scope} {B newId initId : String} {tl : List Value}
def gF1 (f : Str) (ws : List V) : List (Str × V) := [(f, ws.headD .non)]
def gF2 (f g : Str) (ws : List V) : List (Str × V) := [(g, (ws.drop 1).headD .non), (f, ws.headD .non)]
theorem par_vis {ps N : List Str} {scope : Scope} (S : FnScope N ps scope) {n : Str} (h : n ∈ ps) : Vis scope n :=
  (S.par n h).elim (fun z => .inl z) fun z => .inr (.inl z)
theorem ok_err1 {p1 p2 p3 p4 : Pos} (b : BaseE B newId initId tl) (T : ErC K C newId tl) (hno : PySem.W.findIn K (.ref C) f = some none) (F : FunD K "__init__" qual params body scope [] [] fI fd)
    (S : FnScope ["self", f] ["self", f] scope) (hb : body = [.Assign [.Attribute (.Name "self" p1) f p2] (.Name f p3) p4])
    (hd : (f == ("__debug__" : Str)) = false := by decide) (hcd : (f == ("__classdict__" : Str)) = false := by decide) : FnOk P w K mg base CX0 1 fI fd ["self", f] (spE C 1 (gF1 f)) := by
  subst hb
  refine F.ok S (fun vs H Q E h => ?_) (fun cdv A outer s H vs Q E hr h => ?_)
  · obtain ⟨a, ws, rfl, l, _⟩ := h
    show ws.length + 1 = 2
    rw [l]
  · obtain ⟨a, ws, rfl, l, ha, q⟩ := h
    obtain ⟨v, rfl⟩ : ∃ v, ws = [v] := by
      match ws, l with
      | [v], _ => exact ⟨v, rfl⟩
    refine ⟨_, PSs.nox (pss_one (ps_errset b T hno (pe_var (i := 0) rfl (par_vis S (by simp))) (pe_var (i := 1) rfl (par_vis S (by simp)) hd hcd))), ?_⟩
    refine ⟨v, rfl, .ref a, rfl, a, rfl, .inl ⟨ha, fun dx nd ne => q _ (fun c o hc hn => ?_) ⟨a, some dx, rfl, upd_same, ?_⟩⟩⟩
    · rw [upd_ne hc, upd_ne (fun w => by rw [w, nd] at hn; cases hn)]
      exact hn
    · show upd (upd H dx _) a _ dx = _
      rw [upd_ne ne, upd_same]
      rfl
theorem ok_err2 {p1 p2 p3 p4 q1 q2 q3 q4 : Pos} (b : BaseE B newId initId tl) (T : ErC K C newId tl) (hno : PySem.W.findIn K (.ref C) f = some none) (hno2 : PySem.W.findIn K (.ref C) g = some none)
    (F : FunD K "__init__" qual params body scope [] [] fI fd) (S : FnScope ["self", f, g] ["self", f, g] scope)
    (hb : body = [.Assign [.Attribute (.Name "self" p1) f p2] (.Name f p3) p4, .Assign [.Attribute (.Name "self" q1) g q2] (.Name g q3) q4])
    (hd : (f == ("__debug__" : Str)) = false := by decide) (hcd : (f == ("__classdict__" : Str)) = false := by decide) (hd2 : (g == ("__debug__" : Str)) = false := by decide) (hcd2 : (g == ("__classdict__" : Str)) = false := by decide) : FnOk P w K mg base CX0 1 fI fd ["self", f, g] (spE C 2 (gF2 f g)) := by
  subst hb
  refine F.ok S (fun vs H Q E h => ?_) (fun cdv A outer s H vs Q E hr h => ?_)
  · obtain ⟨a, ws, rfl, l, _⟩ := h
    show ws.length + 1 = 3
    rw [l]
  · obtain ⟨a, ws, rfl, l, ha, q⟩ := h
    obtain ⟨v, u, rfl⟩ : ∃ v u, ws = [v, u] := by
      match ws, l with
      | [v, u], _ => exact ⟨v, u, rfl⟩
    refine ⟨_, PSs.nox (pss_cons (ps_errset b T hno (pe_var (i := 0) rfl (par_vis S (by simp))) (pe_var (i := 1) rfl (par_vis S (by simp)) hd hcd))
      (pss_one (ps_errset b T hno2 (pe_var (i := 0) rfl (par_vis S (by simp))) (pe_var (i := 2) rfl (par_vis S (by simp)) hd2 hcd2)))), ?_⟩
    refine ⟨v, rfl, .ref a, rfl, a, rfl, .inl ⟨ha, fun dx nd ne => ?_⟩⟩
    refine ⟨u, rfl, .ref a, rfl, a, rfl, .inr ⟨dx, [(f, v)], upd_same, ?_, (show 1 ≤ 900 by decide), q _ (fun c o hc hn => ?_) ⟨a, some dx, rfl, ?_, ?_⟩⟩⟩
    · rw [upd_ne ne, upd_same]
    · have nc : c ≠ dx := fun w => by rw [w, nd] at hn; cases hn
      rw [upd_ne nc, upd_ne hc, upd_ne nc]
      exact hn
    · rw [upd_ne ne.symm, upd_same]
    · show upd _ dx _ dx = _
      rw [upd_same]
      rfl
theorem erK_of {x : Str} {n : Nat} {ks ps : List Str} {sw : Bool} {gF : List V → List (Str × V)} (b : BaseE B newId initId tl) (T : ErC K C newId tl) (iC : PySem.W.findIn K (.ref C) "__init__" = some (some (.ref fI)))
    (tI : PySem.W.isFn K (.ref fI) = true) (F : FunD K "__init__" qual params body scope [] [] fI fd) (ok : FnOk P w K mg base CX0 1 fI fd ps (spE C n gF)) (hm : ∃ u, mg x = some u ∧ RelV (.ref C) u)
    (h1 : ∀ (kV doc pm : Value) (an : Option Addr) (cdv ct : Value) (us : List Value), us.length = ps.length → bindArgs (PySem.W.fnOf "__init__" qual params body scope .none kV doc pm an cdv ct) ⟨us, []⟩ = pure (ps.zip us))
    (h2 : ∀ (kV doc pm : Value) (an : Option Addr) (cdv ct : Value) (us ws : List Value), us.length = 1 → ws.length = ks.length → bindArgs (PySem.W.fnOf "__init__" qual params body scope .none kV doc pm an cdv ct) ⟨us, ks.zip ws⟩ = pure (ps.zip (us ++ gsw sw ws))) :
    ErK P w K mg base x C n ks sw gF := by
  obtain ⟨u, hm, ru⟩ := hm
  obtain rfl : u = Value.ref C := ru
  refine ⟨B, newId, initId, tl, fI, fd, ps, b, T, iC, beq_iff_eq.mp tI, ok, hm, F.bindsN h1, fun s us ws X l1 l2 => BindsTo.of_looks fun M => ?_⟩
  obtain ⟨oc, od, dV, kV, doc, pm, an, cdv, ct, osl, rfl, lk, hcd, hD, hK⟩ := F.ex
  rcases hD with ⟨_, rfl⟩ | ⟨e, _⟩
  · exact PySem.W.Looks.of_pure (h2 kV doc pm an cdv ct us ws l1 l2)
  · exact absurd rfl e
end

/-! ### isinstance -/
section
open PySem.W
variable {K : Frag} {x D : Addr} {ox : Obj} {od : Option Obj}
theorem find_cls (c : ExcC K D) : findObj K D od "__class__" = some (.bind (.builtin "getset_descriptor.__get__") (.builtin "object.__class__")) := by
  obtain ⟨cd, hcd, _⟩ := any_some c.hd
  have so : (clsIn K D).isSome = true := by rw [hcd]; rfl
  cases od with
  | none => exact findObj_dataN so c.ha c.hn c.ht
  | some o => exact findObj_data so c.ha c.hn c.ht
open PySem.F in
theorem err_cls {prog : Program} {w : World} {A : Around} {E : Value → Shared → Prop} {s : Shared} {Q : Option Value → Shared → Prop} (c : ExcC K D) (X : K.In s.heap) (I : InstAt s.heap x ox D od)
    (h : Q (some (.ref D)) { s with toks := s.toks + 1 }) : wpAny (model prog w) A (getAttr? (.ref x) "__class__") Q E s := by
  obtain ⟨hp, g, d, t, os⟩ := s
  have ty := I.type (M := model prog w)
  have fd := looks_find (M := model prog w) X I (find_cls c)
  have ba : Looks (model prog w) hp (isInstance (.ref x) (.type "BaseException")) true := ty.andThen (looks_subIn X c.hs)
  have n0 : (false && onTheHeap (Value.builtin "BaseException.__getattribute__")) = false := rfl
  have n1 : (onTheHeap (Value.ref D) && Value.builtin "BaseException.__getattribute__" == Value.builtin "object.__getattribute__") = false := by
    rw [show (Value.builtin "BaseException.__getattribute__" == Value.builtin "object.__getattribute__") = false by decide +kernel]
    rfl
  unfold getAttr? getAttrBy? getAttrBy
  refine wpAny_bind (wpAny_mkText (wpAny_bind (wpAny_attempt (wpAny_holding (wpAny_bind (ty.at ?_))))))
  refine wpAny_bind ((looks_findIn X c.hg).at ?_)
  show wpAny _ _ (if (onTheHeap (Value.ref D) && Value.builtin "BaseException.__getattribute__" == Value.builtin "object.__getattribute__") = true then _ else _) _ _ _
  rw [n1, if_neg Bool.false_ne_true]
  unfold getAttrByItsOwn hookBefore
  refine wpAny_bind ?_
  rw [if_pos (show onTheHeap (Value.ref D) = true from rfl)]
  refine (looks_findIn X c.hk).at (wpAny_bind (wpAny_attempt (wpAny_holding ?_)))
  unfold callGetattribute
  rw [n0, if_neg Bool.false_ne_true]
  unfold boundAndCalled
  rw [excAttr_ValueError.ga.bind (.ref x)]
  refine wpAny_bind (wpAny_pure ?_)
  show wpAny _ _ (call (.builtin "BaseException.__getattribute__") [.ref x, .str "__class__" t]) _ _ _
  refine wpAny_call (codeAny_call_builtin excAttr_ValueError.ga.plain entry_bexc_ga ?_)
  refine @check_slot (model prog w) _ _ ⟨hp, g, d, t + 1, os⟩ "BaseException.__getattribute__" "BaseException" "__getattribute__" (.ref x) [.str "__class__" t] [] _
    (by decide +kernel) (by decide +kernel) ba (args_bexc_ga (.ref x) (.str "__class__" t)) ?_
  unfold Builtin.«object.__getattribute__»
  refine wpAny_bind (wpAny_of_eq (a := ((Value.ref x : Value), [Value.str "__class__" t])) (by first | rfl | (simp only [slotArgs]; rfl)) ?_)
  refine wpAny_bind (wpAny_pure (wpAny_bind (ty.at (wpAny_bind (fd.at ?_)))))
  show wpAny _ _ (holding [Value.builtin "object.__class__"] (call (.builtin "getset_descriptor.__get__") [.builtin "object.__class__", .ref x, .ref D]) >>= ret) _ _ _
  refine wpAny_bind (wpAny_holding (wpAny_call (class_get (s := ⟨hp, g, d, t + 1, os⟩) (ox := ox) (od := od) X I c.hm ?_)))
  refine wpAny_pure ?_
  show wpAny _ _ (handedOut (.ref D)) _ _ _
  rw [handedOut_of (v := .ref D) rfl]
  first
    | exact wpAny_pure (wpAny_pure h)
    | exact wpAny_pure h
    | exact wpAny_pure (wpAny_bind (wpAny_pure (wpAny_pure h)))
theorem err_kitx (c : ExcC K D) : KitX K (.ref x) (.ref D) (fun h => ∃ ox od, InstAt h x ox D od) := by
  obtain ⟨cd, hcd, _⟩ := any_some c.hd
  unfold clsIn at hcd
  split at hcd
  · rename_i c' d' cd' sl' ho
    refine ⟨?_, ?_, ?_, ?_⟩
    · rintro M h _ ⟨ox, od, I⟩
      exact I.type
    · intro M h X _ A' Q' E' s' k q
      unfold isType loadHead
      exact wpAny_bind (wpAny_loadPart (k _ _ (X _ _ ho)) (wpAny_pure q))
    · intro h tp dd its n sl X htp
      refine Bool.eq_false_iff.mpr fun q => ?_
      have e : D = tp := Value.ref.inj (beq_iff_eq.mp q)
      subst e
      have z := (X _ _ ho).symm.trans htp
      cases z
    · rintro prog w A E Q s X ⟨ox, od, I⟩ k
      exact err_cls c X I k
  · cases hcd
end
theorem ErrAt.inst {X : Cx} {pins : List (Addr × Obj)} {σ : L2.St} {H : Hp} {s : Shared} {x : V} {C : Addr} {fs : List (Str × V)} (I : Inv X pins σ H s) (e : ErrAt H x C fs) :
    ∃ a ox od, x = .ref a ∧ PySem.W.InstAt s.heap a ox C od := by
  obtain ⟨a, d, rfl, ea, q⟩ := e
  obtain ⟨t1, ho⟩ := exo_at I.hok ea
  cases d with
  | none => exact ⟨a, _, none, rfl, ho, rfl, rfl, trivial⟩
  | some dx =>
    obtain ⟨mA, ⟨oD, _, _, hoD, _⟩, _⟩ := exd_at I.hok q
    exact ⟨a, _, some oD, rfl, ho, rfl, rfl, hoD⟩
/-- isinstance(e, c), e an error of the i-th of the classes cl: f i -/
def rIsJ (n : Nat) (cl : Nat → Addr) (c : V) (f : Nat → Bool) : List V → Hp → VK → Prop := fun xs H Q => ∃ (x : V) (i : Nat) (fs : List (Str × V)), xs = [x, c] ∧ i < n ∧ ErrAt H x (cl i) fs ∧ Q (.bl (f i)) H
theorem cr_isJ {X : Cx} {n : Nat} {cl : Nat → Addr} {c : V} {cv : Value} {f : Nat → Bool} (hc : ∀ u, RelV c u → u = cv) (hx : ∀ i < n, ExcC X.K (cl i)) (hk : ∀ i < n, PySem.W.kitOne X.K (.ref (cl i)) cv = some (f i)) :
    CallR X (.builtin "isinstance") (rIsJ n cl c f) := by
  intro pins s σ H xs us Q I r h
  obtain ⟨x, i, fs, rfl, hi, e, q⟩ := h
  cases r with
  | cons rx rr =>
    cases rr with
    | cons rt rr =>
      cases rr
      obtain rfl := hc _ rt
      obtain ⟨a, ox, od, rfl, J⟩ := e.inst I
      obtain rfl := (show _ = Value.ref a from rx)
      exact PySem.W.kia_one (err_kitx (hx i hi)) I.kIn ⟨ox, od, J⟩ (hk i hi) (fun z => nomatch z) fun tk => ⟨.bl (f i), H, I.kept (t' := tk) fun _ _ z => z, rfl, q⟩

/-! ### e.f -/
def tErrFld (n : Nat) (cl : Nat → Addr) (ok : Nat → Bool) (f : Str) (te : TE) : TE := fun σ H Q => te σ H fun x H1 => ∃ (i : Nat) (fs : List (Str × V)) (v : V), ErrAt H1 x (cl i) fs ∧ i < n ∧ ok i = true ∧ fs.lookup f = some v ∧ Q v H1
theorem pe_errfld {X : Cx} {n : Nat} {cl : Nat → Addr} {ok : Nat → Bool} {f : Str} {e : Expr} {te : TE} {pos : Pos} (hx : ∀ i < n, XfC X.K (cl i)) (hno : ∀ i < n, ok i = true → PySem.W.findIn X.K (.ref (cl i)) f = some none)
    (he : PE X e te) (hb : attributeBase e f X.env (eval e X.env) = eval e X.env := by rfl) : PE X (.Attribute e f pos) (tErrFld n cl ok f te) := by
  refine ⟨fun pins s σ H Q I h => ?_⟩
  refine attr_of hb (thn (he.run pins s σ H _ I h) ?_)
  rintro u s1 ⟨x, H1, I1, rx, i, fs, v, ⟨a, d, rfl, ea, q0⟩, hi, ho, hl, q⟩
  obtain rfl : u = Value.ref a := rx
  obtain ⟨t1, hoe⟩ := exo_at I1.hok ea
  cases d with
  | none =>
    rw [show fs = [] from q0] at hl
    cases hl
  | some dx =>
    obtain ⟨mA, hns, hr⟩ := exd_at I1.hok q0
    obtain ⟨oD, hoD, look⟩ := lookIn_ns hns
    obtain ⟨u, hu, ru⟩ := RelO.some_of (v := v) (o := mA f) (by rw [← hl]; exact hr f)
    have J : PySem.W.InstAt s1.heap a { cls := .ref (cl i), dict := some dx, data := .fields #[.ref t1, .none, .none, .none, .bool false, .none] } (cl i) (some oD) := ⟨hoe, rfl, rfl, hoD⟩
    have T := hx i hi
    exact HandSPX.exc_get I1.kIn J T.ga T.gg T.exC (PySem.W.findObj_own T.hdC (hno i hi ho) rfl (by rw [look, hu])) (handed_of ru) ⟨v, H1, I1.tok _, ru, q⟩

/-! ### list.count, flat items -/
def rCount (K : PySem.W.Frag) : V → List V → Hp → VK → Prop := fun x xs H Q => ∃ (a : Addr) (ys : List V) (y : V), x = V.ref a ∧ xs = [y] ∧ SqL K H a ys ∧ flatV y = true ∧ ys.all flatV = true ∧
  Q (.int (ys.countP fun z => eqV z y : Nat)) H
theorem count_rel {y : V} : ∀ {ys : List V} {us : List Value}, Vals ys us → ys.all flatV = true → us.countP (eqU y) = ys.countP fun z => eqV z y
  | [], _, r, _ => by cases r; rfl
  | z :: zs, _, r, h => by
    cases r with
    | cons r1 r2 =>
      rw [List.all_cons, Bool.and_eq_true] at h
      rw [List.countP_cons, List.countP_cons, count_rel r2 h.2, eqU_of r1 h.1]
theorem mt_count {X : Cx} : MtR X "list.count" (rCount X.K) := by
  intro pins s σ H x xs v us Q I rx rxs h
  obtain ⟨a, ys, y, rfl, rfl, hs, fy, fys, q⟩ := h
  cases rx
  cases rxs with
  | cons ry rt =>
    rename_i uy ut
    cases rt
    obtain ⟨its, rv, ⟨⟨c1, c2, c3, c4⟩, n, ho, hc, hdn, hd⟩, hlen⟩ := I.list hs
    simp only at hc hd
    subst hc hd
    refine call_meets PySem.F.slot_list_count ⟨_, ho, rfl⟩ PySem.F.entry_list_count (PySem.F.args_list_count_2 _ _) (SeqAt.list_countAt a its.toArray n c2 c4 uy (eqU y))
      ⟨ho, fun u' hu' => mem_eqAt ry fy rv fys u' (by simpa using hu'), ?_⟩
    rw [show its.toArray.toList = its from rfl, count_rel rv fys]
    exact ⟨.int _, H, I.tok _, ⟨_, rfl⟩, q⟩
end G
/-! own rules: repr of data with dicts; what stands as data on the abstract heap alone -/
namespace G
open PySem PySem.Spec PyProof.Rows L2
mutual
inductive Dq (H : Hp) : V → PyData → Prop
  | non : Dq H .non .none
  | bl (b : Bool) : Dq H (.bl b) (.bool b)
  | int (i : Int) : Dq H (.int i) (.int i)
  | str (x : Str) : Dq H (.str x) (.str x)
  | lst {a : Addr} {xs : List V} {ds : List PyData} : H a = some (.lst xs) → DqAll H xs ds → Dq H (.ref a) (.list ds)
  | tup {a : Addr} {xs : List V} {ds : List PyData} : H a = some (.tup xs) → DqAll H xs ds → Dq H (.ref a) (.tuple ds)
  | dct {a : Addr} {kvs : List (Key × V)} {ds : List (PyData × PyData)} : H a = some (.dK kvs) → DqAll H (kvs.map fun p => kV p.1) (ds.map (·.1)) →
      DqAll H (kvs.map (·.2)) (ds.map (·.2)) → Dq H (.ref a) (.dict ds)
inductive DqAll (H : Hp) : List V → List PyData → Prop
  | nil : DqAll H [] []
  | cons {v : V} {vs : List V} {d : PyData} {ds : List PyData} : Dq H v d → DqAll H vs ds → DqAll H (v :: vs) (d :: ds)
end
theorem dk_vals {P : Program} {w : World} : ∀ {kvs : List (Key × V)} {vs : List (Key × Value)} {es : List DictEntry}, KV kvs vs → PySem.Pairs (mixKind P w) es vs →
    Vals (kvs.map fun p => kV p.1) (es.map (·.key)) ∧ Vals (kvs.map (·.2)) (es.map (·.val))
  | [], _, _, r, q => by
    cases r
    cases q
    exact ⟨.nil, .nil⟩
  | p :: kvs, _, _, r, q => by
    cases r with
    | cons h t =>
      cases q with
      | @cons e0 _ _ _ h1 h2 t2 =>
        obtain ⟨i1, i2⟩ := dk_vals t t2
        refine ⟨.cons ?_ i1, .cons ?_ i2⟩
        · show RelV (kV p.1) e0.key
          rw [h.1]
          rcases keyIs_shape h1 with ⟨i, tk, e1, e2⟩ | ⟨x, tk, e1, e2⟩
          · rw [e1, e2]
            exact ⟨tk, rfl⟩
          · rw [e1, e2]
            exact ⟨tk, rfl⟩
        · show RelV p.2 e0.val
          rw [h2]
          exact h.2
section
variable {X : Cx} {pins : List (Addr × Obj)} {σ : L2.St} {H : Hp} {s : Shared}
mutual
theorem Dq.reads (I : Inv X pins σ H s) (hsm : H sysModules = none) : ∀ {v : V} {d : PyData}, Dq H v d → ∀ {u : Value}, RelV v u → ∃ as, Reads s.heap u d as ∧ sysModules ∉ as
  | _, _, .non, _, r => by
    cases r
    exact ⟨_, Reads.none, by simp⟩
  | _, _, .bl b, _, r => by
    cases r
    exact ⟨_, Reads.bool b, by simp⟩
  | _, _, .int i, _, r => by
    obtain ⟨t, rfl⟩ := r
    exact ⟨_, Reads.int i t, by simp⟩
  | _, _, .str x, _, r => by
    obtain ⟨t, rfl⟩ := r
    exact ⟨_, Reads.str x t, by simp⟩
  | _, _, .lst (a := a) e ha, _, r => by
    cases r
    obtain ⟨_, its, n, rv, ho⟩ := (show ObjOk X.prog X.w H s.heap a (.lst _) from I.hok a _ e)
    obtain ⟨as, hr, hn⟩ := DqAll.reads I hsm ha rv
    refine ⟨_, Reads.list ho rfl rfl (by simpa using hr), ?_⟩
    intro hm
    rcases List.mem_cons.mp hm with e1 | e1
    · rw [e1, e] at hsm
      cases hsm
    · exact hn e1
  | _, _, .tup (a := a) e ha, _, r => by
    cases r
    obtain ⟨_, its, rv, o, ho, hc, n, hd⟩ := (show ObjOk X.prog X.w H s.heap a (.tup _) from I.hok a _ e)
    obtain ⟨as, hr, hn⟩ := DqAll.reads I hsm ha rv
    exact ⟨_, Reads.tuple ho hc hd (by simpa using hr), hn⟩
  | _, _, .dct (a := a) (kvs := kvs) e hk hv, _, r => by
    cases r
    obtain ⟨_, _, vs, rk, o, es, ep, ho, hx, hd, _, hp, _⟩ := (show ObjOk X.prog X.w H s.heap a (.dK kvs) from I.hok a _ e)
    obtain ⟨r1, r2⟩ := dk_vals rk hp
    obtain ⟨as, h1, n1⟩ := DqAll.reads I hsm hk r1
    obtain ⟨bs, h2, n2⟩ := DqAll.reads I hsm hv r2
    refine ⟨_, Reads.dict ho hx.1 hd h1 h2, ?_⟩
    intro hm
    rw [List.cons_append] at hm
    rcases List.mem_cons.mp hm with e1 | e1
    · rw [e1, e] at hsm
      cases hsm
    · rcases List.mem_append.mp e1 with e2 | e2
      · exact n1 e2
      · exact n2 e2
theorem DqAll.reads (I : Inv X pins σ H s) (hsm : H sysModules = none) : ∀ {vs : List V} {ds : List PyData}, DqAll H vs ds → ∀ {us : List Value}, Vals vs us → ∃ as, ReadsAll s.heap us ds as ∧ sysModules ∉ as
  | _, _, .nil, _, r => by
    cases r
    exact ⟨_, ReadsAll.nil, by simp⟩
  | _, _, .cons h1 h2, _, r => by
    cases r with
    | cons r1 r2 =>
      obtain ⟨as, q1, n1⟩ := Dq.reads I hsm h1 r1
      obtain ⟨bs, q2, n2⟩ := DqAll.reads I hsm h2 r2
      refine ⟨_, ReadsAll.cons q1 q2, fun hm => ?_⟩
      rcases List.mem_append.mp hm with e | e
      · exact n1 e
      · exact n2 e
end
end
mutual
theorem Dq.same {H H' : Hp} (s : Same H H') : ∀ {v : V} {d : PyData}, Dq H v d → Dq H' v d
  | _, _, .non => .non
  | _, _, .bl b => .bl b
  | _, _, .int i => .int i
  | _, _, .str x => .str x
  | _, _, .lst e ha => .lst (s _ _ e) (DqAll.same s ha)
  | _, _, .tup e ha => .tup (s _ _ e) (DqAll.same s ha)
  | _, _, .dct e hk hv => .dct (s _ _ e) (DqAll.same s hk) (DqAll.same s hv)
theorem DqAll.same {H H' : Hp} (s : Same H H') : ∀ {vs : List V} {ds : List PyData}, DqAll H vs ds → DqAll H' vs ds
  | _, _, .nil => .nil
  | _, _, .cons h1 h2 => .cons (Dq.same s h1) (DqAll.same s h2)
end
theorem sm_free {X : Cx} (h : (X.K.lookup sysModules).isSome = true) {pins : List (Addr × Obj)} {σ : L2.St} {H : Hp} {s : Shared} (I : Inv X pins σ H s) : H sysModules = none := by
  obtain ⟨o, e⟩ := Option.isSome_iff_exists.mp h
  exact (I.bs _ _ (I.ok.mod.kin _ _ e)).2
def rReprQ : List V → Hp → VK → Prop := fun xs H Q => ∃ (x : V) (d : PyData), xs = [x] ∧ Dq H x d ∧
  d.showable = true ∧ d.depth ≤ 60 ∧ d.shown.length ≤ sizeLine ∧ Q (.str d.shown) H
theorem call_reprQ {X : Cx} (hgd : X.A.guards = some []) (hu : X.A.units + 64 < cLine) (hm : (X.K.lookup sysModules).isSome = true) : CallR X (.builtin "repr") rReprQ := by
  intro pins s σ H xs us Q I r h
  obtain ⟨x, d, rfl, hd, hs, hdp, hz, q⟩ := h
  obtain ⟨u, rfl, rx⟩ := vals1 r
  obtain ⟨as, rd, hn⟩ := Dq.reads I (sm_free hm I) hd rx
  cases rx' : x with
  | ref a =>
    subst rx'
    obtain rfl : u = Value.ref a := rx
    exact repr_of_reads' rd hs (fun _ => hn) hgd (by omega) (fun _ _ e => e)
      (fun h' t tk hk => ⟨.str d.shown, H, I.kept hk, ⟨_, rfl⟩, q⟩) hz
  | non => subst rx'; cases hd; cases rx; exact PySem.P.repr_of_none ⟨.str _, H, I.tok _, ⟨_, rfl⟩, q⟩
  | bl b => subst rx'; cases hd; cases rx; exact PySem.P.repr_of_bool ⟨.str _, H, I.tok _, ⟨_, rfl⟩, by simpa only [PyData.shown] using q⟩
  | int i =>
    subst rx'; cases hd; obtain ⟨t, rfl⟩ := rx
    exact PySem.P.repr_of_int (by simpa only [PyData.showable, decide_eq_true_eq] using hs) ⟨.str _, H, I.tok _, ⟨_, rfl⟩, by simpa only [PyData.shown] using q⟩
  | str z =>
    subst rx'; cases hd; obtain ⟨t, rfl⟩ := rx
    exact PySem.P.repr_of_str ⟨.str _, H, I.tok _, ⟨_, rfl⟩, by simpa only [PyData.shown] using q⟩ (by simpa only [PyData.shown] using hz)
  | byt b => subst rx'; cases hd
  | flt b => subst rx'; cases hd
  | ty n => subst rx'; cases hd
end G
/-! what texts of lists and tuples measure -/
namespace G
open PySem PySem.Spec PyProof.Rows L2
theorem mz_from {B : Nat} : ∀ (ts : List Str) (k : Nat) (acc : Str), (∀ t ∈ ts, t.length ≤ B) → (textFrom k acc ts).length ≤ acc.length + (B + 2) * ts.length
  | [], k, acc, _ => Nat.le_add_right _ _
  | t :: ts, k, acc, h => by
    have h1 := h t List.mem_cons_self
    have h2 := mz_from ts (k + 1) (acc ++ (if k > 0 then ", " else "" : String) ++ t) fun y hy => h y (List.mem_cons_of_mem _ hy)
    have h3 : (acc ++ ((if k > 0 then ", " else "" : String) : Str) ++ t).length ≤ acc.length + 2 + t.length := by
      rw [cat_len, cat_len]
      have : (((if k > 0 then ", " else "" : String) : Str)).length ≤ 2 := by
        split
        · decide +kernel
        · decide +kernel
      omega
    show (textFrom (k + 1) (acc ++ (if k > 0 then ", " else "" : String) ++ t) ts).length ≤ _
    rw [List.length_cons, Nat.mul_add]
    omega
theorem mz_list {B : Nat} {ts : List Str} (h : ∀ t ∈ ts, t.length ≤ B) : (listText ts).length ≤ (B + 2) * ts.length + 2 := by
  have h1 := mz_from ts 0 (Str.ofString "[") h
  unfold listText
  have e1 : (Str.ofString "[").length = 1 := by decide +kernel
  have e2 : (Str.ofString "]").length = 1 := by decide +kernel
  show (textFrom 0 (Str.ofString "[") ts ++ Str.ofString "]").length ≤ _
  rw [cat_len]
  omega
theorem mz_join {B : Nat} : ∀ ts : List Str, (∀ t ∈ ts, t.length ≤ B) → (Str.join (Str.ofString ", ") ts).length ≤ (B + 2) * ts.length
  | [], _ => Nat.zero_le _
  | [t], h => by
    have := h t List.mem_cons_self
    show t.length ≤ (B + 2) * 1
    omega
  | t :: u :: r, h => by
    have h1 := h t List.mem_cons_self
    have h2 := mz_join (B := B) (u :: r) fun y hy => h y (List.mem_cons_of_mem _ hy)
    show (t ++ Str.ofString ", " ++ Str.join (Str.ofString ", ") (u :: r)).length ≤ (B + 2) * ((u :: r).length + 1)
    rw [cat_len, cat_len, show (Str.ofString ", ").length = 2 from by decide +kernel, Nat.mul_add]
    omega
theorem mz_tuple {B : Nat} {ts : List Str} (h : ∀ t ∈ ts, t.length ≤ B) : (tupleText ts).length ≤ (B + 2) * ts.length + 3 := by
  have h1 := mz_join ts h
  unfold tupleText
  have e1 : (Str.ofString "(").length = 1 := by decide +kernel
  have e2 : (Str.ofString ",)").length = 2 := by decide +kernel
  have e3 : (Str.ofString ")").length = 1 := by decide +kernel
  split
  · show (Str.ofString "(" ++ Str.join (Str.ofString ", ") ts ++ Str.ofString ",)").length ≤ _
    rw [cat_len, cat_len]
    omega
  · show (Str.ofString "(" ++ Str.join (Str.ofString ", ") ts ++ Str.ofString ")").length ≤ _
    rw [cat_len, cat_len]
    omega
theorem shownAll_map : ∀ ds : List PyData, PyData.shownAll ds = ds.map PyData.shown
  | [] => rfl
  | d :: ds => by rw [PyData.shownAll, shownAll_map ds]; rfl
theorem showableAll_of : ∀ {ds : List PyData}, (∀ d ∈ ds, d.showable = true) → PyData.showableAll ds = true
  | [], _ => rfl
  | d :: ds, h => by
    rw [PyData.showableAll, h d List.mem_cons_self, showableAll_of fun x hx => h x (List.mem_cons_of_mem _ hx)]
    rfl
theorem depthAll_of {n : Nat} : ∀ {ds : List PyData}, (∀ d ∈ ds, d.depth ≤ n) → PyData.depthAll ds ≤ n
  | [], _ => Nat.zero_le _
  | d :: ds, h => by
    rw [PyData.depthAll]
    exact Nat.max_le.mpr ⟨h d List.mem_cons_self, depthAll_of fun x hx => h x (List.mem_cons_of_mem _ hx)⟩
/-- showable, not too deep, not too long -/
structure ShD (n B : Nat) (d : PyData) : Prop where
  sh : d.showable = true
  dp : d.depth ≤ n
  ln : d.shown.length ≤ B
theorem shD_list {n B : Nat} {ds : List PyData} (h : ∀ d ∈ ds, ShD n B d) : ShD (n + 1) ((B + 2) * ds.length + 2) (.list ds) := by
  refine ⟨showableAll_of fun d hd => (h d hd).sh, Nat.succ_le_succ (depthAll_of fun d hd => (h d hd).dp), ?_⟩
  have e : (PyData.list ds).shown = listText (ds.map PyData.shown) := by rw [PyData.shown, shownAll_map]
  rw [e]
  have a := mz_list (B := B) (ts := ds.map PyData.shown) fun t ht => by
    obtain ⟨d, hd, rfl⟩ := List.mem_map.mp ht
    exact (h d hd).ln
  rw [List.length_map] at a
  exact a
theorem shD_tup {n B : Nat} {ds : List PyData} (h : ∀ d ∈ ds, ShD n B d) : ShD (n + 1) ((B + 2) * ds.length + 3) (.tuple ds) := by
  refine ⟨showableAll_of fun d hd => (h d hd).sh, Nat.succ_le_succ (depthAll_of fun d hd => (h d hd).dp), ?_⟩
  have e : (PyData.tuple ds).shown = tupleText (ds.map PyData.shown) := by rw [PyData.shown, shownAll_map]
  rw [e]
  have a := mz_tuple (B := B) (ts := ds.map PyData.shown) fun t ht => by
    obtain ⟨d, hd, rfl⟩ := List.mem_map.mp ht
    exact (h d hd).ln
  rw [List.length_map] at a
  exact a
theorem ShD.mono {n B m C : Nat} {d : PyData} (h : ShD n B d) (a : n ≤ m) (b : B ≤ C) : ShD m C d := ⟨h.sh, Nat.le_trans h.dp a, Nat.le_trans h.ln b⟩
theorem DqAll.app {H : Hp} : ∀ {xs ys : List V} {ds es : List PyData}, DqAll H xs ds → DqAll H ys es → DqAll H (xs ++ ys) (ds ++ es)
  | _, _, _, _, .nil, h => h
  | _, _, _, _, .cons h1 h2, h => .cons h1 (DqAll.app h2 h)
theorem DqAll.rep {H : Hp} {x : V} {d : PyData} (h : Dq H x d) : ∀ n, DqAll H (List.replicate n x) (List.replicate n d)
  | 0 => .nil
  | n + 1 => .cons h (DqAll.rep h n)
end G
namespace G
open PySem PySem.Spec PyProof.Rows L2
def top (i : Nat) : Stmt := PySem.Challenge.pw_gatecrowds_k01_constants_and_errors.main.body.getD i (.Pass ⟨0, 0, 0, 0⟩)
abbrev s_InvalidName___init__ : Stmt := inClass (top 2) 0
abbrev n_InvalidName___init__ : List Str := ["self", "given"]
theorem sc_InvalidName___init__ : FnScope n_InvalidName___init__ ["self", "given"] (defScope s_InvalidName___init__) := ⟨rfl, rfl, rfl, by decide +kernel, rfl, by decide +kernel, by decide +kernel⟩
abbrev s_InvalidText___init__ : Stmt := inClass (top 3) 0
abbrev n_InvalidText___init__ : List Str := ["self", "given"]
theorem sc_InvalidText___init__ : FnScope n_InvalidText___init__ ["self", "given"] (defScope s_InvalidText___init__) := ⟨rfl, rfl, rfl, by decide +kernel, rfl, by decide +kernel, by decide +kernel⟩
abbrev s_InvalidFlag___init__ : Stmt := inClass (top 4) 0
abbrev n_InvalidFlag___init__ : List Str := ["self", "given"]
theorem sc_InvalidFlag___init__ : FnScope n_InvalidFlag___init__ ["self", "given"] (defScope s_InvalidFlag___init__) := ⟨rfl, rfl, rfl, by decide +kernel, rfl, by decide +kernel, by decide +kernel⟩
abbrev s_InvalidNumber___init__ : Stmt := inClass (top 5) 0
abbrev n_InvalidNumber___init__ : List Str := ["self", "given"]
theorem sc_InvalidNumber___init__ : FnScope n_InvalidNumber___init__ ["self", "given"] (defScope s_InvalidNumber___init__) := ⟨rfl, rfl, rfl, by decide +kernel, rfl, by decide +kernel, by decide +kernel⟩
abbrev s_InvalidThing___init__ : Stmt := inClass (top 6) 0
abbrev n_InvalidThing___init__ : List Str := ["self", "given"]
theorem sc_InvalidThing___init__ : FnScope n_InvalidThing___init__ ["self", "given"] (defScope s_InvalidThing___init__) := ⟨rfl, rfl, rfl, by decide +kernel, rfl, by decide +kernel, by decide +kernel⟩
abbrev s_InvalidChoice___init__ : Stmt := inClass (top 7) 0
abbrev n_InvalidChoice___init__ : List Str := ["self", "given"]
theorem sc_InvalidChoice___init__ : FnScope n_InvalidChoice___init__ ["self", "given"] (defScope s_InvalidChoice___init__) := ⟨rfl, rfl, rfl, by decide +kernel, rfl, by decide +kernel, by decide +kernel⟩
abbrev s_InvalidWish___init__ : Stmt := inClass (top 8) 0
abbrev n_InvalidWish___init__ : List Str := ["self", "given"]
theorem sc_InvalidWish___init__ : FnScope n_InvalidWish___init__ ["self", "given"] (defScope s_InvalidWish___init__) := ⟨rfl, rfl, rfl, by decide +kernel, rfl, by decide +kernel, by decide +kernel⟩
abbrev s_InvalidSet___init__ : Stmt := inClass (top 9) 0
abbrev n_InvalidSet___init__ : List Str := ["self", "given"]
theorem sc_InvalidSet___init__ : FnScope n_InvalidSet___init__ ["self", "given"] (defScope s_InvalidSet___init__) := ⟨rfl, rfl, rfl, by decide +kernel, rfl, by decide +kernel, by decide +kernel⟩
abbrev s_InvalidIndex___init__ : Stmt := inClass (top 10) 0
abbrev n_InvalidIndex___init__ : List Str := ["self", "given"]
theorem sc_InvalidIndex___init__ : FnScope n_InvalidIndex___init__ ["self", "given"] (defScope s_InvalidIndex___init__) := ⟨rfl, rfl, rfl, by decide +kernel, rfl, by decide +kernel, by decide +kernel⟩
abbrev s_NotASystem___init__ : Stmt := inClass (top 11) 0
abbrev n_NotASystem___init__ : List Str := ["self", "given"]
theorem sc_NotASystem___init__ : FnScope n_NotASystem___init__ ["self", "given"] (defScope s_NotASystem___init__) := ⟨rfl, rfl, rfl, by decide +kernel, rfl, by decide +kernel, by decide +kernel⟩
abbrev s_InvalidGates___init__ : Stmt := inClass (top 12) 0
abbrev n_InvalidGates___init__ : List Str := ["self", "index"]
theorem sc_InvalidGates___init__ : FnScope n_InvalidGates___init__ ["self", "index"] (defScope s_InvalidGates___init__) := ⟨rfl, rfl, rfl, by decide +kernel, rfl, by decide +kernel, by decide +kernel⟩
abbrev s_InvalidKinds___init__ : Stmt := inClass (top 13) 0
abbrev n_InvalidKinds___init__ : List Str := ["self", "index"]
theorem sc_InvalidKinds___init__ : FnScope n_InvalidKinds___init__ ["self", "index"] (defScope s_InvalidKinds___init__) := ⟨rfl, rfl, rfl, by decide +kernel, rfl, by decide +kernel, by decide +kernel⟩
abbrev s_InvalidRows___init__ : Stmt := inClass (top 14) 0
abbrev n_InvalidRows___init__ : List Str := ["self", "index"]
theorem sc_InvalidRows___init__ : FnScope n_InvalidRows___init__ ["self", "index"] (defScope s_InvalidRows___init__) := ⟨rfl, rfl, rfl, by decide +kernel, rfl, by decide +kernel, by decide +kernel⟩
abbrev s_InvalidMembers___init__ : Stmt := inClass (top 15) 0
abbrev n_InvalidMembers___init__ : List Str := ["self", "index"]
theorem sc_InvalidMembers___init__ : FnScope n_InvalidMembers___init__ ["self", "index"] (defScope s_InvalidMembers___init__) := ⟨rfl, rfl, rfl, by decide +kernel, rfl, by decide +kernel, by decide +kernel⟩
abbrev s_InvalidNumbers___init__ : Stmt := inClass (top 16) 0
abbrev n_InvalidNumbers___init__ : List Str := ["self", "index"]
theorem sc_InvalidNumbers___init__ : FnScope n_InvalidNumbers___init__ ["self", "index"] (defScope s_InvalidNumbers___init__) := ⟨rfl, rfl, rfl, by decide +kernel, rfl, by decide +kernel, by decide +kernel⟩
abbrev s_InvalidRun___init__ : Stmt := inClass (top 17) 0
abbrev n_InvalidRun___init__ : List Str := ["self", "index"]
theorem sc_InvalidRun___init__ : FnScope n_InvalidRun___init__ ["self", "index"] (defScope s_InvalidRun___init__) := ⟨rfl, rfl, rfl, by decide +kernel, rfl, by decide +kernel, by decide +kernel⟩
abbrev s_InvalidThings___init__ : Stmt := inClass (top 18) 0
abbrev n_InvalidThings___init__ : List Str := ["self", "index"]
theorem sc_InvalidThings___init__ : FnScope n_InvalidThings___init__ ["self", "index"] (defScope s_InvalidThings___init__) := ⟨rfl, rfl, rfl, by decide +kernel, rfl, by decide +kernel, by decide +kernel⟩
abbrev s_InvalidChanges___init__ : Stmt := inClass (top 19) 0
abbrev n_InvalidChanges___init__ : List Str := ["self", "index"]
theorem sc_InvalidChanges___init__ : FnScope n_InvalidChanges___init__ ["self", "index"] (defScope s_InvalidChanges___init__) := ⟨rfl, rfl, rfl, by decide +kernel, rfl, by decide +kernel, by decide +kernel⟩
abbrev s_UnknownName___init__ : Stmt := inClass (top 21) 0
abbrev n_UnknownName___init__ : List Str := ["self", "given"]
theorem sc_UnknownName___init__ : FnScope n_UnknownName___init__ ["self", "given"] (defScope s_UnknownName___init__) := ⟨rfl, rfl, rfl, by decide +kernel, rfl, by decide +kernel, by decide +kernel⟩
abbrev s_UnknownHand___init__ : Stmt := inClass (top 22) 0
abbrev n_UnknownHand___init__ : List Str := ["self", "given"]
theorem sc_UnknownHand___init__ : FnScope n_UnknownHand___init__ ["self", "given"] (defScope s_UnknownHand___init__) := ⟨rfl, rfl, rfl, by decide +kernel, rfl, by decide +kernel, by decide +kernel⟩
abbrev s_InUse___init__ : Stmt := inClass (top 23) 0
abbrev n_InUse___init__ : List Str := ["self", "index"]
theorem sc_InUse___init__ : FnScope n_InUse___init__ ["self", "index"] (defScope s_InUse___init__) := ⟨rfl, rfl, rfl, by decide +kernel, rfl, by decide +kernel, by decide +kernel⟩
abbrev s_TooMany___init__ : Stmt := inClass (top 25) 0
abbrev n_TooMany___init__ : List Str := ["self", "limit"]
theorem sc_TooMany___init__ : FnScope n_TooMany___init__ ["self", "limit"] (defScope s_TooMany___init__) := ⟨rfl, rfl, rfl, by decide +kernel, rfl, by decide +kernel, by decide +kernel⟩
abbrev s_Alone___init__ : Stmt := inClass (top 26) 0
abbrev n_Alone___init__ : List Str := ["self", "given"]
theorem sc_Alone___init__ : FnScope n_Alone___init__ ["self", "given"] (defScope s_Alone___init__) := ⟨rfl, rfl, rfl, by decide +kernel, rfl, by decide +kernel, by decide +kernel⟩
abbrev s_Waits___init__ : Stmt := inClass (top 27) 0
abbrev n_Waits___init__ : List Str := ["self", "hand"]
theorem sc_Waits___init__ : FnScope n_Waits___init__ ["self", "hand"] (defScope s_Waits___init__) := ⟨rfl, rfl, rfl, by decide +kernel, rfl, by decide +kernel, by decide +kernel⟩
abbrev s_Ended___init__ : Stmt := inClass (top 28) 0
abbrev n_Ended___init__ : List Str := ["self", "hand"]
theorem sc_Ended___init__ : FnScope n_Ended___init__ ["self", "hand"] (defScope s_Ended___init__) := ⟨rfl, rfl, rfl, by decide +kernel, rfl, by decide +kernel, by decide +kernel⟩
abbrev s_Broken___init__ : Stmt := inClass (top 30) 0
abbrev n_Broken___init__ : List Str := ["self", "index", "shown"]
theorem sc_Broken___init__ : FnScope n_Broken___init__ ["self", "index", "shown"] (defScope s_Broken___init__) := ⟨rfl, rfl, rfl, by decide +kernel, rfl, by decide +kernel, by decide +kernel⟩
abbrev s__law_pool : Stmt := top 39
abbrev n__law_pool : List Str := ["_law_script", "_law_k", "_law_cell", "_law_digits"]
theorem sc__law_pool : FnScope n__law_pool ["_law_script", "_law_k"] (defScope s__law_pool) := ⟨rfl, rfl, rfl, by decide +kernel, rfl, by decide +kernel, by decide +kernel⟩
abbrev s__law_draw : Stmt := top 40
abbrev n__law_draw : List Str := ["_law_pool_here", "_law_most", "_law_digit"]
theorem sc__law_draw : FnScope n__law_draw ["_law_pool_here", "_law_most"] (defScope s__law_draw) := ⟨rfl, rfl, rfl, by decide +kernel, rfl, by decide +kernel, by decide +kernel⟩
abbrev s__law_place : Stmt := top 41
abbrev n__law_place : List Str := ["_law_e", "_law_own", "_law_bases", "_law_at"]
theorem sc__law_place : FnScope n__law_place ["_law_e"] (defScope s__law_place) := ⟨rfl, rfl, rfl, by decide +kernel, rfl, by decide +kernel, by decide +kernel⟩
abbrev s__law_kept : Stmt := top 42
abbrev n__law_kept : List Str := ["_law_e", "_law_at"]
theorem sc__law_kept : FnScope n__law_kept ["_law_e", "_law_at"] (defScope s__law_kept) := ⟨rfl, rfl, rfl, by decide +kernel, rfl, by decide +kernel, by decide +kernel⟩
abbrev s__law_thing : Stmt := top 43
abbrev n__law_thing : List Str := ["_law_pool_here", "_law_way", "_law_size", "_law_things"]
theorem sc__law_thing : FnScope n__law_thing ["_law_pool_here"] (defScope s__law_thing) := ⟨rfl, rfl, rfl, by decide +kernel, rfl, by decide +kernel, by decide +kernel⟩
abbrev s__law_made : Stmt := top 44
abbrev n__law_made : List Str := ["_law_odd", "_law_more", "_law_some"]
theorem sc__law_made : FnScope n__law_made ["_law_odd", "_law_more"] (defScope s__law_made) := ⟨rfl, rfl, rfl, by decide +kernel, rfl, by decide +kernel, by decide +kernel⟩
abbrev s__law_made_by_name : Stmt := top 45
abbrev n__law_made_by_name : List Str := ["_law_odd", "_law_more", "_law_some"]
theorem sc__law_made_by_name : FnScope n__law_made_by_name ["_law_odd", "_law_more"] (defScope s__law_made_by_name) := ⟨rfl, rfl, rfl, by decide +kernel, rfl, by decide +kernel, by decide +kernel⟩
abbrev s__law_right : Stmt := top 46
abbrev n__law_right : List Str := ["_law_pool_here", "_law_odd", "_law_more", "_law_some", "_law_e", "_law_k"]
theorem sc__law_right : FnScope n__law_right ["_law_pool_here"] (defScope s__law_right) := ⟨rfl, rfl, rfl, by decide +kernel, rfl, by decide +kernel, by decide +kernel⟩
abbrev s_law : Stmt := top 47
abbrev n_law : List Str := ["_law_script", "_law_limits", "_law_k", "_law_pool_here", "_law_turn"]
theorem sc_law : FnScope n_law ["_law_script"] (defScope s_law) := ⟨rfl, rfl, rfl, by decide +kernel, rfl, by decide +kernel, by decide +kernel⟩
/-- the keyword-only default x of the def at f, if it is an object -/
def kwdAt (f : Str × Option Str) (x : Str) (K : PySem.W.Frag) : Addr := match K.lookup (He.fAd K f) with
  | some ⟨_, _, .func fd, _⟩ => (match fd.kwdefaults with
    | .ref D => (match PySem.W.nsIn K D x with
      | some (some (.ref a)) => a
      | _ => 0)
    | _ => 0)
  | _ => 0
/-- the classes of errors, in their order -/
def nmE (i : Nat) : Str := (["InvalidName", "InvalidText", "InvalidFlag", "InvalidNumber", "InvalidThing", "InvalidChoice", "InvalidWish", "InvalidSet", "InvalidIndex", "NotASystem", "InvalidGates", "InvalidKinds", "InvalidRows", "InvalidMembers", "InvalidNumbers", "InvalidRun", "InvalidThings", "InvalidChanges", "UnknownName", "UnknownHand", "InUse", "TooMany", "Alone", "Waits", "Ended", "NothingToUndo", "Broken"] : List Str).getD i ""
def exB (c : Str) (K : PySem.W.Frag) : Bool := xfB K (He.ga K c) &&
  (decide (PySem.W.findIn K (.ref (He.ga K c)) "__class__" = some (some (.builtin "object.__class__"))) &&
  (decide (PySem.W.specialIn K (.builtin "object.__class__") "__get__" = some (some (.builtin "getset_descriptor.__get__"))) &&
  (decide (PySem.W.takesIn K (.builtin "object.__class__") = some true) &&
  decide (PySem.W.mroIn K (He.ga K c) (.type "object") = some true))))
theorem ex_of {c : Str} {K : PySem.W.Frag} (h : exB c K = true) : ExcC K (He.ga K c) ∧ XfC K (He.ga K c) := by
  obtain ⟨h5, h⟩ := He.ba h
  obtain ⟨h6, h⟩ := He.ba h
  obtain ⟨h7, h⟩ := He.ba h
  obtain ⟨h8, h9⟩ := He.ba h
  have x := xfB_ok h5
  exact ⟨⟨x.ga, x.gg, x.exC, x.hdC, of_decide_eq_true h6, of_decide_eq_true h7, of_decide_eq_true h8, of_decide_eq_true h9⟩, x⟩
def er0B (c : Str) (b : String) (K : PySem.W.Frag) : Bool := PySem.W.excIn K (He.ga K c) (tlE b) (b ++ ".__new__") && PySem.W.keepIn K (.ref (He.ga K c))
theorem er0_of {c : Str} {b : String} {K : PySem.W.Frag} (h : er0B c b K = true) : PySem.W.excIn K (He.ga K c) (tlE b) (b ++ ".__new__") = true ∧ PySem.W.keepIn K (.ref (He.ga K c)) = true := He.ba h
theorem all_of {n : Nat} {f : Nat → Bool} {p : Nat → Prop} (h : (List.range n).all f = true) (g : ∀ i, f i = true → p i) : ∀ i < n, p i :=
  fun i hi => g i (List.all_eq_true.mp h i (List.mem_range.mpr hi))
def d_InvalidName___init__ : He.DefD := ⟨("InvalidName", some "__init__"), "__init__", "InvalidName.__init__", defArgs s_InvalidName___init__, defBody s_InvalidName___init__, defScope s_InvalidName___init__, [], []⟩
def d_InvalidText___init__ : He.DefD := ⟨("InvalidText", some "__init__"), "__init__", "InvalidText.__init__", defArgs s_InvalidText___init__, defBody s_InvalidText___init__, defScope s_InvalidText___init__, [], []⟩
def d_InvalidFlag___init__ : He.DefD := ⟨("InvalidFlag", some "__init__"), "__init__", "InvalidFlag.__init__", defArgs s_InvalidFlag___init__, defBody s_InvalidFlag___init__, defScope s_InvalidFlag___init__, [], []⟩
def d_InvalidNumber___init__ : He.DefD := ⟨("InvalidNumber", some "__init__"), "__init__", "InvalidNumber.__init__", defArgs s_InvalidNumber___init__, defBody s_InvalidNumber___init__, defScope s_InvalidNumber___init__, [], []⟩
def d_InvalidThing___init__ : He.DefD := ⟨("InvalidThing", some "__init__"), "__init__", "InvalidThing.__init__", defArgs s_InvalidThing___init__, defBody s_InvalidThing___init__, defScope s_InvalidThing___init__, [], []⟩
def d_InvalidChoice___init__ : He.DefD := ⟨("InvalidChoice", some "__init__"), "__init__", "InvalidChoice.__init__", defArgs s_InvalidChoice___init__, defBody s_InvalidChoice___init__, defScope s_InvalidChoice___init__, [], []⟩
def d_InvalidWish___init__ : He.DefD := ⟨("InvalidWish", some "__init__"), "__init__", "InvalidWish.__init__", defArgs s_InvalidWish___init__, defBody s_InvalidWish___init__, defScope s_InvalidWish___init__, [], []⟩
def d_InvalidSet___init__ : He.DefD := ⟨("InvalidSet", some "__init__"), "__init__", "InvalidSet.__init__", defArgs s_InvalidSet___init__, defBody s_InvalidSet___init__, defScope s_InvalidSet___init__, [], []⟩
def d_InvalidIndex___init__ : He.DefD := ⟨("InvalidIndex", some "__init__"), "__init__", "InvalidIndex.__init__", defArgs s_InvalidIndex___init__, defBody s_InvalidIndex___init__, defScope s_InvalidIndex___init__, [], []⟩
def d_NotASystem___init__ : He.DefD := ⟨("NotASystem", some "__init__"), "__init__", "NotASystem.__init__", defArgs s_NotASystem___init__, defBody s_NotASystem___init__, defScope s_NotASystem___init__, [], []⟩
def d_InvalidGates___init__ : He.DefD := ⟨("InvalidGates", some "__init__"), "__init__", "InvalidGates.__init__", defArgs s_InvalidGates___init__, defBody s_InvalidGates___init__, defScope s_InvalidGates___init__, [], []⟩
def d_InvalidKinds___init__ : He.DefD := ⟨("InvalidKinds", some "__init__"), "__init__", "InvalidKinds.__init__", defArgs s_InvalidKinds___init__, defBody s_InvalidKinds___init__, defScope s_InvalidKinds___init__, [], []⟩
def d_InvalidRows___init__ : He.DefD := ⟨("InvalidRows", some "__init__"), "__init__", "InvalidRows.__init__", defArgs s_InvalidRows___init__, defBody s_InvalidRows___init__, defScope s_InvalidRows___init__, [], []⟩
def d_InvalidMembers___init__ : He.DefD := ⟨("InvalidMembers", some "__init__"), "__init__", "InvalidMembers.__init__", defArgs s_InvalidMembers___init__, defBody s_InvalidMembers___init__, defScope s_InvalidMembers___init__, [], []⟩
def d_InvalidNumbers___init__ : He.DefD := ⟨("InvalidNumbers", some "__init__"), "__init__", "InvalidNumbers.__init__", defArgs s_InvalidNumbers___init__, defBody s_InvalidNumbers___init__, defScope s_InvalidNumbers___init__, [], []⟩
def d_InvalidRun___init__ : He.DefD := ⟨("InvalidRun", some "__init__"), "__init__", "InvalidRun.__init__", defArgs s_InvalidRun___init__, defBody s_InvalidRun___init__, defScope s_InvalidRun___init__, [], []⟩
def d_InvalidThings___init__ : He.DefD := ⟨("InvalidThings", some "__init__"), "__init__", "InvalidThings.__init__", defArgs s_InvalidThings___init__, defBody s_InvalidThings___init__, defScope s_InvalidThings___init__, [], []⟩
def d_InvalidChanges___init__ : He.DefD := ⟨("InvalidChanges", some "__init__"), "__init__", "InvalidChanges.__init__", defArgs s_InvalidChanges___init__, defBody s_InvalidChanges___init__, defScope s_InvalidChanges___init__, [], []⟩
def d_UnknownName___init__ : He.DefD := ⟨("UnknownName", some "__init__"), "__init__", "UnknownName.__init__", defArgs s_UnknownName___init__, defBody s_UnknownName___init__, defScope s_UnknownName___init__, [], []⟩
def d_UnknownHand___init__ : He.DefD := ⟨("UnknownHand", some "__init__"), "__init__", "UnknownHand.__init__", defArgs s_UnknownHand___init__, defBody s_UnknownHand___init__, defScope s_UnknownHand___init__, [], []⟩
def d_InUse___init__ : He.DefD := ⟨("InUse", some "__init__"), "__init__", "InUse.__init__", defArgs s_InUse___init__, defBody s_InUse___init__, defScope s_InUse___init__, [], []⟩
def d_TooMany___init__ : He.DefD := ⟨("TooMany", some "__init__"), "__init__", "TooMany.__init__", defArgs s_TooMany___init__, defBody s_TooMany___init__, defScope s_TooMany___init__, [], []⟩
def d_Alone___init__ : He.DefD := ⟨("Alone", some "__init__"), "__init__", "Alone.__init__", defArgs s_Alone___init__, defBody s_Alone___init__, defScope s_Alone___init__, [], []⟩
def d_Waits___init__ : He.DefD := ⟨("Waits", some "__init__"), "__init__", "Waits.__init__", defArgs s_Waits___init__, defBody s_Waits___init__, defScope s_Waits___init__, [], []⟩
def d_Ended___init__ : He.DefD := ⟨("Ended", some "__init__"), "__init__", "Ended.__init__", defArgs s_Ended___init__, defBody s_Ended___init__, defScope s_Ended___init__, [], []⟩
def d_Broken___init__ : He.DefD := ⟨("Broken", some "__init__"), "__init__", "Broken.__init__", defArgs s_Broken___init__, defBody s_Broken___init__, defScope s_Broken___init__, [], []⟩
def d__law_pool : He.DefD := ⟨("_law_pool", none), "_law_pool", "_law_pool", defArgs s__law_pool, defBody s__law_pool, defScope s__law_pool, [], []⟩
def d__law_draw : He.DefD := ⟨("_law_draw", none), "_law_draw", "_law_draw", defArgs s__law_draw, defBody s__law_draw, defScope s__law_draw, [], []⟩
def d__law_place : He.DefD := ⟨("_law_place", none), "_law_place", "_law_place", defArgs s__law_place, defBody s__law_place, defScope s__law_place, [], []⟩
def d__law_kept : He.DefD := ⟨("_law_kept", none), "_law_kept", "_law_kept", defArgs s__law_kept, defBody s__law_kept, defScope s__law_kept, [], []⟩
def d__law_thing : He.DefD := ⟨("_law_thing", none), "_law_thing", "_law_thing", defArgs s__law_thing, defBody s__law_thing, defScope s__law_thing, [], []⟩
def d__law_made : He.DefD := ⟨("_law_made", none), "_law_made", "_law_made", defArgs s__law_made, defBody s__law_made, defScope s__law_made, [], []⟩
def d__law_made_by_name : He.DefD := ⟨("_law_made_by_name", none), "_law_made_by_name", "_law_made_by_name", defArgs s__law_made_by_name, defBody s__law_made_by_name, defScope s__law_made_by_name, [], []⟩
def d__law_right : He.DefD := ⟨("_law_right", none), "_law_right", "_law_right", defArgs s__law_right, defBody s__law_right, defScope s__law_right, [], []⟩
def d_law : He.DefD := ⟨("law", none), "law", "law", defArgs s_law, defBody s_law, defScope s_law, [], []⟩
structure Tx (K : PySem.W.Frag) (mg : Str → Option Value) : Prop where
  f_len : mg "len" = none
  f_int : mg "int" = none
  f_sum : mg "sum" = none
  f_abs : mg "abs" = none
  f_divmod : mg "divmod" = none
  f_isinstance : mg "isinstance" = none
  f_ValueError : mg "ValueError" = none
  f_LookupError : mg "LookupError" = none
  f_ArithmeticError : mg "ArithmeticError" = none
  f_list : mg "list" = none
  f_range : mg "range" = none
  f_repr : mg "repr" = none
  f_max : mg "max" = none
  f_min : mg "min" = none
  f_all : mg "all" = none
  g_MOST_GATES : ∃ u, mg "MOST_GATES" = some u ∧ RelV (.int 3) u
  g_MOST_KINDS : ∃ u, mg "MOST_KINDS" = some u ∧ RelV (.int 4) u
  g_MOST_ROWS : ∃ u, mg "MOST_ROWS" = some u ∧ RelV (.int 10) u
  g_MOST_VALUE : ∃ u, mg "MOST_VALUE" = some u ∧ RelV (.int 3) u
  g_MOST_SETS : ∃ u, mg "MOST_SETS" = some u ∧ RelV (.int 2000) u
  g_MOST_HANDS : ∃ u, mg "MOST_HANDS" = some u ∧ RelV (.int 1000) u
  g_MOST_CHANGES : ∃ u, mg "MOST_CHANGES" = some u ∧ RelV (.int 6) u
  g_WrongValue : ∃ u, mg "WrongValue" = some u ∧ RelV (.ref (He.ga K "WrongValue")) u
  g_InvalidName : ∃ u, mg "InvalidName" = some u ∧ RelV (.ref (He.ga K "InvalidName")) u
  g_InvalidText : ∃ u, mg "InvalidText" = some u ∧ RelV (.ref (He.ga K "InvalidText")) u
  g_InvalidFlag : ∃ u, mg "InvalidFlag" = some u ∧ RelV (.ref (He.ga K "InvalidFlag")) u
  g_InvalidNumber : ∃ u, mg "InvalidNumber" = some u ∧ RelV (.ref (He.ga K "InvalidNumber")) u
  g_InvalidThing : ∃ u, mg "InvalidThing" = some u ∧ RelV (.ref (He.ga K "InvalidThing")) u
  g_InvalidChoice : ∃ u, mg "InvalidChoice" = some u ∧ RelV (.ref (He.ga K "InvalidChoice")) u
  g_InvalidWish : ∃ u, mg "InvalidWish" = some u ∧ RelV (.ref (He.ga K "InvalidWish")) u
  g_InvalidSet : ∃ u, mg "InvalidSet" = some u ∧ RelV (.ref (He.ga K "InvalidSet")) u
  g_InvalidIndex : ∃ u, mg "InvalidIndex" = some u ∧ RelV (.ref (He.ga K "InvalidIndex")) u
  g_NotASystem : ∃ u, mg "NotASystem" = some u ∧ RelV (.ref (He.ga K "NotASystem")) u
  g_InvalidGates : ∃ u, mg "InvalidGates" = some u ∧ RelV (.ref (He.ga K "InvalidGates")) u
  g_InvalidKinds : ∃ u, mg "InvalidKinds" = some u ∧ RelV (.ref (He.ga K "InvalidKinds")) u
  g_InvalidRows : ∃ u, mg "InvalidRows" = some u ∧ RelV (.ref (He.ga K "InvalidRows")) u
  g_InvalidMembers : ∃ u, mg "InvalidMembers" = some u ∧ RelV (.ref (He.ga K "InvalidMembers")) u
  g_InvalidNumbers : ∃ u, mg "InvalidNumbers" = some u ∧ RelV (.ref (He.ga K "InvalidNumbers")) u
  g_InvalidRun : ∃ u, mg "InvalidRun" = some u ∧ RelV (.ref (He.ga K "InvalidRun")) u
  g_InvalidThings : ∃ u, mg "InvalidThings" = some u ∧ RelV (.ref (He.ga K "InvalidThings")) u
  g_InvalidChanges : ∃ u, mg "InvalidChanges" = some u ∧ RelV (.ref (He.ga K "InvalidChanges")) u
  g_WrongName : ∃ u, mg "WrongName" = some u ∧ RelV (.ref (He.ga K "WrongName")) u
  g_UnknownName : ∃ u, mg "UnknownName" = some u ∧ RelV (.ref (He.ga K "UnknownName")) u
  g_UnknownHand : ∃ u, mg "UnknownHand" = some u ∧ RelV (.ref (He.ga K "UnknownHand")) u
  g_InUse : ∃ u, mg "InUse" = some u ∧ RelV (.ref (He.ga K "InUse")) u
  g_NoAnswer : ∃ u, mg "NoAnswer" = some u ∧ RelV (.ref (He.ga K "NoAnswer")) u
  g_TooMany : ∃ u, mg "TooMany" = some u ∧ RelV (.ref (He.ga K "TooMany")) u
  g_Alone : ∃ u, mg "Alone" = some u ∧ RelV (.ref (He.ga K "Alone")) u
  g_Waits : ∃ u, mg "Waits" = some u ∧ RelV (.ref (He.ga K "Waits")) u
  g_Ended : ∃ u, mg "Ended" = some u ∧ RelV (.ref (He.ga K "Ended")) u
  g_NothingToUndo : ∃ u, mg "NothingToUndo" = some u ∧ RelV (.ref (He.ga K "NothingToUndo")) u
  g_Broken : ∃ u, mg "Broken" = some u ∧ RelV (.ref (He.ga K "Broken")) u
  n__law_pool : mg "_law_pool" = some (.ref (He.ga K "_law_pool"))
  n__law_draw : mg "_law_draw" = some (.ref (He.ga K "_law_draw"))
  n__law_place : mg "_law_place" = some (.ref (He.ga K "_law_place"))
  n__law_kept : mg "_law_kept" = some (.ref (He.ga K "_law_kept"))
  n__law_thing : mg "_law_thing" = some (.ref (He.ga K "_law_thing"))
  n__law_made : mg "_law_made" = some (.ref (He.ga K "_law_made"))
  n__law_made_by_name : mg "_law_made_by_name" = some (.ref (He.ga K "_law_made_by_name"))
  n__law_right : mg "_law_right" = some (.ref (He.ga K "_law_right"))
  n_law : mg "law" = some (.ref (He.ga K "law"))
  er_InvalidName : ErC K (He.ga K "InvalidName") "ValueError.__new__" (tlE "ValueError")
  in_InvalidName : PySem.W.findIn K (.ref (He.ga K "InvalidName")) "__init__" = some (some (.ref (He.ma K (He.ga K "InvalidName") "__init__"))) ∧ PySem.W.isFn K (.ref (He.ma K (He.ga K "InvalidName") "__init__")) = true
  no_InvalidName_given : PySem.W.findIn K (.ref (He.ga K "InvalidName")) "given" = some none
  er_InvalidText : ErC K (He.ga K "InvalidText") "ValueError.__new__" (tlE "ValueError")
  in_InvalidText : PySem.W.findIn K (.ref (He.ga K "InvalidText")) "__init__" = some (some (.ref (He.ma K (He.ga K "InvalidText") "__init__"))) ∧ PySem.W.isFn K (.ref (He.ma K (He.ga K "InvalidText") "__init__")) = true
  no_InvalidText_given : PySem.W.findIn K (.ref (He.ga K "InvalidText")) "given" = some none
  er_InvalidFlag : ErC K (He.ga K "InvalidFlag") "ValueError.__new__" (tlE "ValueError")
  in_InvalidFlag : PySem.W.findIn K (.ref (He.ga K "InvalidFlag")) "__init__" = some (some (.ref (He.ma K (He.ga K "InvalidFlag") "__init__"))) ∧ PySem.W.isFn K (.ref (He.ma K (He.ga K "InvalidFlag") "__init__")) = true
  no_InvalidFlag_given : PySem.W.findIn K (.ref (He.ga K "InvalidFlag")) "given" = some none
  er_InvalidNumber : ErC K (He.ga K "InvalidNumber") "ValueError.__new__" (tlE "ValueError")
  in_InvalidNumber : PySem.W.findIn K (.ref (He.ga K "InvalidNumber")) "__init__" = some (some (.ref (He.ma K (He.ga K "InvalidNumber") "__init__"))) ∧ PySem.W.isFn K (.ref (He.ma K (He.ga K "InvalidNumber") "__init__")) = true
  no_InvalidNumber_given : PySem.W.findIn K (.ref (He.ga K "InvalidNumber")) "given" = some none
  er_InvalidThing : ErC K (He.ga K "InvalidThing") "ValueError.__new__" (tlE "ValueError")
  in_InvalidThing : PySem.W.findIn K (.ref (He.ga K "InvalidThing")) "__init__" = some (some (.ref (He.ma K (He.ga K "InvalidThing") "__init__"))) ∧ PySem.W.isFn K (.ref (He.ma K (He.ga K "InvalidThing") "__init__")) = true
  no_InvalidThing_given : PySem.W.findIn K (.ref (He.ga K "InvalidThing")) "given" = some none
  er_InvalidChoice : ErC K (He.ga K "InvalidChoice") "ValueError.__new__" (tlE "ValueError")
  in_InvalidChoice : PySem.W.findIn K (.ref (He.ga K "InvalidChoice")) "__init__" = some (some (.ref (He.ma K (He.ga K "InvalidChoice") "__init__"))) ∧ PySem.W.isFn K (.ref (He.ma K (He.ga K "InvalidChoice") "__init__")) = true
  no_InvalidChoice_given : PySem.W.findIn K (.ref (He.ga K "InvalidChoice")) "given" = some none
  er_InvalidWish : ErC K (He.ga K "InvalidWish") "ValueError.__new__" (tlE "ValueError")
  in_InvalidWish : PySem.W.findIn K (.ref (He.ga K "InvalidWish")) "__init__" = some (some (.ref (He.ma K (He.ga K "InvalidWish") "__init__"))) ∧ PySem.W.isFn K (.ref (He.ma K (He.ga K "InvalidWish") "__init__")) = true
  no_InvalidWish_given : PySem.W.findIn K (.ref (He.ga K "InvalidWish")) "given" = some none
  er_InvalidSet : ErC K (He.ga K "InvalidSet") "ValueError.__new__" (tlE "ValueError")
  in_InvalidSet : PySem.W.findIn K (.ref (He.ga K "InvalidSet")) "__init__" = some (some (.ref (He.ma K (He.ga K "InvalidSet") "__init__"))) ∧ PySem.W.isFn K (.ref (He.ma K (He.ga K "InvalidSet") "__init__")) = true
  no_InvalidSet_given : PySem.W.findIn K (.ref (He.ga K "InvalidSet")) "given" = some none
  er_InvalidIndex : ErC K (He.ga K "InvalidIndex") "ValueError.__new__" (tlE "ValueError")
  in_InvalidIndex : PySem.W.findIn K (.ref (He.ga K "InvalidIndex")) "__init__" = some (some (.ref (He.ma K (He.ga K "InvalidIndex") "__init__"))) ∧ PySem.W.isFn K (.ref (He.ma K (He.ga K "InvalidIndex") "__init__")) = true
  no_InvalidIndex_given : PySem.W.findIn K (.ref (He.ga K "InvalidIndex")) "given" = some none
  er_NotASystem : ErC K (He.ga K "NotASystem") "ValueError.__new__" (tlE "ValueError")
  in_NotASystem : PySem.W.findIn K (.ref (He.ga K "NotASystem")) "__init__" = some (some (.ref (He.ma K (He.ga K "NotASystem") "__init__"))) ∧ PySem.W.isFn K (.ref (He.ma K (He.ga K "NotASystem") "__init__")) = true
  no_NotASystem_given : PySem.W.findIn K (.ref (He.ga K "NotASystem")) "given" = some none
  er_InvalidGates : ErC K (He.ga K "InvalidGates") "ValueError.__new__" (tlE "ValueError")
  in_InvalidGates : PySem.W.findIn K (.ref (He.ga K "InvalidGates")) "__init__" = some (some (.ref (He.ma K (He.ga K "InvalidGates") "__init__"))) ∧ PySem.W.isFn K (.ref (He.ma K (He.ga K "InvalidGates") "__init__")) = true
  no_InvalidGates_index : PySem.W.findIn K (.ref (He.ga K "InvalidGates")) "index" = some none
  er_InvalidKinds : ErC K (He.ga K "InvalidKinds") "ValueError.__new__" (tlE "ValueError")
  in_InvalidKinds : PySem.W.findIn K (.ref (He.ga K "InvalidKinds")) "__init__" = some (some (.ref (He.ma K (He.ga K "InvalidKinds") "__init__"))) ∧ PySem.W.isFn K (.ref (He.ma K (He.ga K "InvalidKinds") "__init__")) = true
  no_InvalidKinds_index : PySem.W.findIn K (.ref (He.ga K "InvalidKinds")) "index" = some none
  er_InvalidRows : ErC K (He.ga K "InvalidRows") "ValueError.__new__" (tlE "ValueError")
  in_InvalidRows : PySem.W.findIn K (.ref (He.ga K "InvalidRows")) "__init__" = some (some (.ref (He.ma K (He.ga K "InvalidRows") "__init__"))) ∧ PySem.W.isFn K (.ref (He.ma K (He.ga K "InvalidRows") "__init__")) = true
  no_InvalidRows_index : PySem.W.findIn K (.ref (He.ga K "InvalidRows")) "index" = some none
  er_InvalidMembers : ErC K (He.ga K "InvalidMembers") "ValueError.__new__" (tlE "ValueError")
  in_InvalidMembers : PySem.W.findIn K (.ref (He.ga K "InvalidMembers")) "__init__" = some (some (.ref (He.ma K (He.ga K "InvalidMembers") "__init__"))) ∧ PySem.W.isFn K (.ref (He.ma K (He.ga K "InvalidMembers") "__init__")) = true
  no_InvalidMembers_index : PySem.W.findIn K (.ref (He.ga K "InvalidMembers")) "index" = some none
  er_InvalidNumbers : ErC K (He.ga K "InvalidNumbers") "ValueError.__new__" (tlE "ValueError")
  in_InvalidNumbers : PySem.W.findIn K (.ref (He.ga K "InvalidNumbers")) "__init__" = some (some (.ref (He.ma K (He.ga K "InvalidNumbers") "__init__"))) ∧ PySem.W.isFn K (.ref (He.ma K (He.ga K "InvalidNumbers") "__init__")) = true
  no_InvalidNumbers_index : PySem.W.findIn K (.ref (He.ga K "InvalidNumbers")) "index" = some none
  er_InvalidRun : ErC K (He.ga K "InvalidRun") "ValueError.__new__" (tlE "ValueError")
  in_InvalidRun : PySem.W.findIn K (.ref (He.ga K "InvalidRun")) "__init__" = some (some (.ref (He.ma K (He.ga K "InvalidRun") "__init__"))) ∧ PySem.W.isFn K (.ref (He.ma K (He.ga K "InvalidRun") "__init__")) = true
  no_InvalidRun_index : PySem.W.findIn K (.ref (He.ga K "InvalidRun")) "index" = some none
  er_InvalidThings : ErC K (He.ga K "InvalidThings") "ValueError.__new__" (tlE "ValueError")
  in_InvalidThings : PySem.W.findIn K (.ref (He.ga K "InvalidThings")) "__init__" = some (some (.ref (He.ma K (He.ga K "InvalidThings") "__init__"))) ∧ PySem.W.isFn K (.ref (He.ma K (He.ga K "InvalidThings") "__init__")) = true
  no_InvalidThings_index : PySem.W.findIn K (.ref (He.ga K "InvalidThings")) "index" = some none
  er_InvalidChanges : ErC K (He.ga K "InvalidChanges") "ValueError.__new__" (tlE "ValueError")
  in_InvalidChanges : PySem.W.findIn K (.ref (He.ga K "InvalidChanges")) "__init__" = some (some (.ref (He.ma K (He.ga K "InvalidChanges") "__init__"))) ∧ PySem.W.isFn K (.ref (He.ma K (He.ga K "InvalidChanges") "__init__")) = true
  no_InvalidChanges_index : PySem.W.findIn K (.ref (He.ga K "InvalidChanges")) "index" = some none
  er_UnknownName : ErC K (He.ga K "UnknownName") "LookupError.__new__" (tlE "LookupError")
  in_UnknownName : PySem.W.findIn K (.ref (He.ga K "UnknownName")) "__init__" = some (some (.ref (He.ma K (He.ga K "UnknownName") "__init__"))) ∧ PySem.W.isFn K (.ref (He.ma K (He.ga K "UnknownName") "__init__")) = true
  no_UnknownName_given : PySem.W.findIn K (.ref (He.ga K "UnknownName")) "given" = some none
  er_UnknownHand : ErC K (He.ga K "UnknownHand") "LookupError.__new__" (tlE "LookupError")
  in_UnknownHand : PySem.W.findIn K (.ref (He.ga K "UnknownHand")) "__init__" = some (some (.ref (He.ma K (He.ga K "UnknownHand") "__init__"))) ∧ PySem.W.isFn K (.ref (He.ma K (He.ga K "UnknownHand") "__init__")) = true
  no_UnknownHand_given : PySem.W.findIn K (.ref (He.ga K "UnknownHand")) "given" = some none
  er_InUse : ErC K (He.ga K "InUse") "LookupError.__new__" (tlE "LookupError")
  in_InUse : PySem.W.findIn K (.ref (He.ga K "InUse")) "__init__" = some (some (.ref (He.ma K (He.ga K "InUse") "__init__"))) ∧ PySem.W.isFn K (.ref (He.ma K (He.ga K "InUse") "__init__")) = true
  no_InUse_index : PySem.W.findIn K (.ref (He.ga K "InUse")) "index" = some none
  er_TooMany : ErC K (He.ga K "TooMany") "ArithmeticError.__new__" (tlE "ArithmeticError")
  in_TooMany : PySem.W.findIn K (.ref (He.ga K "TooMany")) "__init__" = some (some (.ref (He.ma K (He.ga K "TooMany") "__init__"))) ∧ PySem.W.isFn K (.ref (He.ma K (He.ga K "TooMany") "__init__")) = true
  no_TooMany_limit : PySem.W.findIn K (.ref (He.ga K "TooMany")) "limit" = some none
  er_Alone : ErC K (He.ga K "Alone") "ArithmeticError.__new__" (tlE "ArithmeticError")
  in_Alone : PySem.W.findIn K (.ref (He.ga K "Alone")) "__init__" = some (some (.ref (He.ma K (He.ga K "Alone") "__init__"))) ∧ PySem.W.isFn K (.ref (He.ma K (He.ga K "Alone") "__init__")) = true
  no_Alone_given : PySem.W.findIn K (.ref (He.ga K "Alone")) "given" = some none
  er_Waits : ErC K (He.ga K "Waits") "ArithmeticError.__new__" (tlE "ArithmeticError")
  in_Waits : PySem.W.findIn K (.ref (He.ga K "Waits")) "__init__" = some (some (.ref (He.ma K (He.ga K "Waits") "__init__"))) ∧ PySem.W.isFn K (.ref (He.ma K (He.ga K "Waits") "__init__")) = true
  no_Waits_hand : PySem.W.findIn K (.ref (He.ga K "Waits")) "hand" = some none
  er_Ended : ErC K (He.ga K "Ended") "ArithmeticError.__new__" (tlE "ArithmeticError")
  in_Ended : PySem.W.findIn K (.ref (He.ga K "Ended")) "__init__" = some (some (.ref (He.ma K (He.ga K "Ended") "__init__"))) ∧ PySem.W.isFn K (.ref (He.ma K (He.ga K "Ended") "__init__")) = true
  no_Ended_hand : PySem.W.findIn K (.ref (He.ga K "Ended")) "hand" = some none
  ei_NothingToUndo : PySem.W.excIn K (He.ga K "NothingToUndo") (tlE "ArithmeticError") "ArithmeticError.__new__" = true ∧ PySem.W.keepIn K (.ref (He.ga K "NothingToUndo")) = true
  er_Broken : ErC K (He.ga K "Broken") "ArithmeticError.__new__" (tlE "ArithmeticError")
  in_Broken : PySem.W.findIn K (.ref (He.ga K "Broken")) "__init__" = some (some (.ref (He.ma K (He.ga K "Broken") "__init__"))) ∧ PySem.W.isFn K (.ref (He.ma K (He.ga K "Broken") "__init__")) = true
  no_Broken_index : PySem.W.findIn K (.ref (He.ga K "Broken")) "index" = some none
  no_Broken_shown : PySem.W.findIn K (.ref (He.ga K "Broken")) "shown" = some none
  ex_all : ∀ i < 27, ExcC K (He.ga K (nmE i)) ∧ XfC K (He.ga K (nmE i))
  nf_given : ∀ i < 27, ([0, 1, 2, 3, 4, 5, 6, 7, 8, 9, 18, 19, 22].contains i) = true → PySem.W.findIn K (.ref (He.ga K (nmE i))) "given" = some none
  nf_hand : ∀ i < 27, ([23, 24].contains i) = true → PySem.W.findIn K (.ref (He.ga K (nmE i))) "hand" = some none
  nf_index : ∀ i < 27, ([10, 11, 12, 13, 14, 15, 16, 17, 20, 26].contains i) = true → PySem.W.findIn K (.ref (He.ga K (nmE i))) "index" = some none
  nf_limit : ∀ i < 27, ([21].contains i) = true → PySem.W.findIn K (.ref (He.ga K (nmE i))) "limit" = some none
  nf_shown : ∀ i < 27, ([26].contains i) = true → PySem.W.findIn K (.ref (He.ga K (nmE i))) "shown" = some none
  k_InvalidName : ∀ i < 27, PySem.W.kitOne K (.ref (He.ga K (nmE i))) (.ref (He.ga K "InvalidName")) = some ((fun i => decide (i = 0)) i)
  k_InvalidText : ∀ i < 27, PySem.W.kitOne K (.ref (He.ga K (nmE i))) (.ref (He.ga K "InvalidText")) = some ((fun i => decide (i = 1)) i)
  k_InvalidFlag : ∀ i < 27, PySem.W.kitOne K (.ref (He.ga K (nmE i))) (.ref (He.ga K "InvalidFlag")) = some ((fun i => decide (i = 2)) i)
  k_InvalidNumber : ∀ i < 27, PySem.W.kitOne K (.ref (He.ga K (nmE i))) (.ref (He.ga K "InvalidNumber")) = some ((fun i => decide (i = 3)) i)
  k_InvalidThing : ∀ i < 27, PySem.W.kitOne K (.ref (He.ga K (nmE i))) (.ref (He.ga K "InvalidThing")) = some ((fun i => decide (i = 4)) i)
  k_InvalidChoice : ∀ i < 27, PySem.W.kitOne K (.ref (He.ga K (nmE i))) (.ref (He.ga K "InvalidChoice")) = some ((fun i => decide (i = 5)) i)
  k_InvalidWish : ∀ i < 27, PySem.W.kitOne K (.ref (He.ga K (nmE i))) (.ref (He.ga K "InvalidWish")) = some ((fun i => decide (i = 6)) i)
  k_InvalidSet : ∀ i < 27, PySem.W.kitOne K (.ref (He.ga K (nmE i))) (.ref (He.ga K "InvalidSet")) = some ((fun i => decide (i = 7)) i)
  k_InvalidIndex : ∀ i < 27, PySem.W.kitOne K (.ref (He.ga K (nmE i))) (.ref (He.ga K "InvalidIndex")) = some ((fun i => decide (i = 8)) i)
  k_NotASystem : ∀ i < 27, PySem.W.kitOne K (.ref (He.ga K (nmE i))) (.ref (He.ga K "NotASystem")) = some ((fun i => decide (i = 9)) i)
  k_InvalidGates : ∀ i < 27, PySem.W.kitOne K (.ref (He.ga K (nmE i))) (.ref (He.ga K "InvalidGates")) = some ((fun i => decide (i = 10)) i)
  k_InvalidKinds : ∀ i < 27, PySem.W.kitOne K (.ref (He.ga K (nmE i))) (.ref (He.ga K "InvalidKinds")) = some ((fun i => decide (i = 11)) i)
  k_InvalidRows : ∀ i < 27, PySem.W.kitOne K (.ref (He.ga K (nmE i))) (.ref (He.ga K "InvalidRows")) = some ((fun i => decide (i = 12)) i)
  k_InvalidMembers : ∀ i < 27, PySem.W.kitOne K (.ref (He.ga K (nmE i))) (.ref (He.ga K "InvalidMembers")) = some ((fun i => decide (i = 13)) i)
  k_InvalidNumbers : ∀ i < 27, PySem.W.kitOne K (.ref (He.ga K (nmE i))) (.ref (He.ga K "InvalidNumbers")) = some ((fun i => decide (i = 14)) i)
  k_InvalidRun : ∀ i < 27, PySem.W.kitOne K (.ref (He.ga K (nmE i))) (.ref (He.ga K "InvalidRun")) = some ((fun i => decide (i = 15)) i)
  k_InvalidThings : ∀ i < 27, PySem.W.kitOne K (.ref (He.ga K (nmE i))) (.ref (He.ga K "InvalidThings")) = some ((fun i => decide (i = 16)) i)
  k_InvalidChanges : ∀ i < 27, PySem.W.kitOne K (.ref (He.ga K (nmE i))) (.ref (He.ga K "InvalidChanges")) = some ((fun i => decide (i = 17)) i)
  k_UnknownName : ∀ i < 27, PySem.W.kitOne K (.ref (He.ga K (nmE i))) (.ref (He.ga K "UnknownName")) = some ((fun i => decide (i = 18)) i)
  k_UnknownHand : ∀ i < 27, PySem.W.kitOne K (.ref (He.ga K (nmE i))) (.ref (He.ga K "UnknownHand")) = some ((fun i => decide (i = 19)) i)
  k_InUse : ∀ i < 27, PySem.W.kitOne K (.ref (He.ga K (nmE i))) (.ref (He.ga K "InUse")) = some ((fun i => decide (i = 20)) i)
  k_TooMany : ∀ i < 27, PySem.W.kitOne K (.ref (He.ga K (nmE i))) (.ref (He.ga K "TooMany")) = some ((fun i => decide (i = 21)) i)
  k_Alone : ∀ i < 27, PySem.W.kitOne K (.ref (He.ga K (nmE i))) (.ref (He.ga K "Alone")) = some ((fun i => decide (i = 22)) i)
  k_Waits : ∀ i < 27, PySem.W.kitOne K (.ref (He.ga K (nmE i))) (.ref (He.ga K "Waits")) = some ((fun i => decide (i = 23)) i)
  k_Ended : ∀ i < 27, PySem.W.kitOne K (.ref (He.ga K (nmE i))) (.ref (He.ga K "Ended")) = some ((fun i => decide (i = 24)) i)
  k_NothingToUndo : ∀ i < 27, PySem.W.kitOne K (.ref (He.ga K (nmE i))) (.ref (He.ga K "NothingToUndo")) = some ((fun i => decide (i = 25)) i)
  k_Broken : ∀ i < 27, PySem.W.kitOne K (.ref (He.ga K (nmE i))) (.ref (He.ga K "Broken")) = some ((fun i => decide (i = 26)) i)
  k_WrongValue : ∀ i < 27, PySem.W.kitOne K (.ref (He.ga K (nmE i))) (.ref (He.ga K "WrongValue")) = some ((fun i => decide (i < 18)) i)
  k_WrongName : ∀ i < 27, PySem.W.kitOne K (.ref (He.ga K (nmE i))) (.ref (He.ga K "WrongName")) = some ((fun i => decide (17 < i) && decide (i < 21)) i)
  k_NoAnswer : ∀ i < 27, PySem.W.kitOne K (.ref (He.ga K (nmE i))) (.ref (He.ga K "NoAnswer")) = some ((fun i => decide (20 < i)) i)
  k_ArithmeticError : ∀ i < 27, PySem.W.kitOne K (.ref (He.ga K (nmE i))) (.type "ArithmeticError") = some ((fun i => decide (20 < i)) i)
  k_LookupError : ∀ i < 27, PySem.W.kitOne K (.ref (He.ga K (nmE i))) (.type "LookupError") = some ((fun i => decide (17 < i) && decide (i < 21)) i)
  k_ValueError : ∀ i < 27, PySem.W.kitOne K (.ref (He.ga K (nmE i))) (.type "ValueError") = some ((fun i => decide (i < 18)) i)
  sm : (K.lookup sysModules).isSome = true
  d_InvalidName___init__ : ∃ fd, FunD K d_InvalidName___init__.name d_InvalidName___init__.qual d_InvalidName___init__.params d_InvalidName___init__.body d_InvalidName___init__.scope (d_InvalidName___init__.dvs K) (d_InvalidName___init__.kws K) (He.fAd K d_InvalidName___init__.at_) fd
  d_InvalidText___init__ : ∃ fd, FunD K d_InvalidText___init__.name d_InvalidText___init__.qual d_InvalidText___init__.params d_InvalidText___init__.body d_InvalidText___init__.scope (d_InvalidText___init__.dvs K) (d_InvalidText___init__.kws K) (He.fAd K d_InvalidText___init__.at_) fd
  d_InvalidFlag___init__ : ∃ fd, FunD K d_InvalidFlag___init__.name d_InvalidFlag___init__.qual d_InvalidFlag___init__.params d_InvalidFlag___init__.body d_InvalidFlag___init__.scope (d_InvalidFlag___init__.dvs K) (d_InvalidFlag___init__.kws K) (He.fAd K d_InvalidFlag___init__.at_) fd
  d_InvalidNumber___init__ : ∃ fd, FunD K d_InvalidNumber___init__.name d_InvalidNumber___init__.qual d_InvalidNumber___init__.params d_InvalidNumber___init__.body d_InvalidNumber___init__.scope (d_InvalidNumber___init__.dvs K) (d_InvalidNumber___init__.kws K) (He.fAd K d_InvalidNumber___init__.at_) fd
  d_InvalidThing___init__ : ∃ fd, FunD K d_InvalidThing___init__.name d_InvalidThing___init__.qual d_InvalidThing___init__.params d_InvalidThing___init__.body d_InvalidThing___init__.scope (d_InvalidThing___init__.dvs K) (d_InvalidThing___init__.kws K) (He.fAd K d_InvalidThing___init__.at_) fd
  d_InvalidChoice___init__ : ∃ fd, FunD K d_InvalidChoice___init__.name d_InvalidChoice___init__.qual d_InvalidChoice___init__.params d_InvalidChoice___init__.body d_InvalidChoice___init__.scope (d_InvalidChoice___init__.dvs K) (d_InvalidChoice___init__.kws K) (He.fAd K d_InvalidChoice___init__.at_) fd
  d_InvalidWish___init__ : ∃ fd, FunD K d_InvalidWish___init__.name d_InvalidWish___init__.qual d_InvalidWish___init__.params d_InvalidWish___init__.body d_InvalidWish___init__.scope (d_InvalidWish___init__.dvs K) (d_InvalidWish___init__.kws K) (He.fAd K d_InvalidWish___init__.at_) fd
  d_InvalidSet___init__ : ∃ fd, FunD K d_InvalidSet___init__.name d_InvalidSet___init__.qual d_InvalidSet___init__.params d_InvalidSet___init__.body d_InvalidSet___init__.scope (d_InvalidSet___init__.dvs K) (d_InvalidSet___init__.kws K) (He.fAd K d_InvalidSet___init__.at_) fd
  d_InvalidIndex___init__ : ∃ fd, FunD K d_InvalidIndex___init__.name d_InvalidIndex___init__.qual d_InvalidIndex___init__.params d_InvalidIndex___init__.body d_InvalidIndex___init__.scope (d_InvalidIndex___init__.dvs K) (d_InvalidIndex___init__.kws K) (He.fAd K d_InvalidIndex___init__.at_) fd
  d_NotASystem___init__ : ∃ fd, FunD K d_NotASystem___init__.name d_NotASystem___init__.qual d_NotASystem___init__.params d_NotASystem___init__.body d_NotASystem___init__.scope (d_NotASystem___init__.dvs K) (d_NotASystem___init__.kws K) (He.fAd K d_NotASystem___init__.at_) fd
  d_InvalidGates___init__ : ∃ fd, FunD K d_InvalidGates___init__.name d_InvalidGates___init__.qual d_InvalidGates___init__.params d_InvalidGates___init__.body d_InvalidGates___init__.scope (d_InvalidGates___init__.dvs K) (d_InvalidGates___init__.kws K) (He.fAd K d_InvalidGates___init__.at_) fd
  d_InvalidKinds___init__ : ∃ fd, FunD K d_InvalidKinds___init__.name d_InvalidKinds___init__.qual d_InvalidKinds___init__.params d_InvalidKinds___init__.body d_InvalidKinds___init__.scope (d_InvalidKinds___init__.dvs K) (d_InvalidKinds___init__.kws K) (He.fAd K d_InvalidKinds___init__.at_) fd
  d_InvalidRows___init__ : ∃ fd, FunD K d_InvalidRows___init__.name d_InvalidRows___init__.qual d_InvalidRows___init__.params d_InvalidRows___init__.body d_InvalidRows___init__.scope (d_InvalidRows___init__.dvs K) (d_InvalidRows___init__.kws K) (He.fAd K d_InvalidRows___init__.at_) fd
  d_InvalidMembers___init__ : ∃ fd, FunD K d_InvalidMembers___init__.name d_InvalidMembers___init__.qual d_InvalidMembers___init__.params d_InvalidMembers___init__.body d_InvalidMembers___init__.scope (d_InvalidMembers___init__.dvs K) (d_InvalidMembers___init__.kws K) (He.fAd K d_InvalidMembers___init__.at_) fd
  d_InvalidNumbers___init__ : ∃ fd, FunD K d_InvalidNumbers___init__.name d_InvalidNumbers___init__.qual d_InvalidNumbers___init__.params d_InvalidNumbers___init__.body d_InvalidNumbers___init__.scope (d_InvalidNumbers___init__.dvs K) (d_InvalidNumbers___init__.kws K) (He.fAd K d_InvalidNumbers___init__.at_) fd
  d_InvalidRun___init__ : ∃ fd, FunD K d_InvalidRun___init__.name d_InvalidRun___init__.qual d_InvalidRun___init__.params d_InvalidRun___init__.body d_InvalidRun___init__.scope (d_InvalidRun___init__.dvs K) (d_InvalidRun___init__.kws K) (He.fAd K d_InvalidRun___init__.at_) fd
  d_InvalidThings___init__ : ∃ fd, FunD K d_InvalidThings___init__.name d_InvalidThings___init__.qual d_InvalidThings___init__.params d_InvalidThings___init__.body d_InvalidThings___init__.scope (d_InvalidThings___init__.dvs K) (d_InvalidThings___init__.kws K) (He.fAd K d_InvalidThings___init__.at_) fd
  d_InvalidChanges___init__ : ∃ fd, FunD K d_InvalidChanges___init__.name d_InvalidChanges___init__.qual d_InvalidChanges___init__.params d_InvalidChanges___init__.body d_InvalidChanges___init__.scope (d_InvalidChanges___init__.dvs K) (d_InvalidChanges___init__.kws K) (He.fAd K d_InvalidChanges___init__.at_) fd
  d_UnknownName___init__ : ∃ fd, FunD K d_UnknownName___init__.name d_UnknownName___init__.qual d_UnknownName___init__.params d_UnknownName___init__.body d_UnknownName___init__.scope (d_UnknownName___init__.dvs K) (d_UnknownName___init__.kws K) (He.fAd K d_UnknownName___init__.at_) fd
  d_UnknownHand___init__ : ∃ fd, FunD K d_UnknownHand___init__.name d_UnknownHand___init__.qual d_UnknownHand___init__.params d_UnknownHand___init__.body d_UnknownHand___init__.scope (d_UnknownHand___init__.dvs K) (d_UnknownHand___init__.kws K) (He.fAd K d_UnknownHand___init__.at_) fd
  d_InUse___init__ : ∃ fd, FunD K d_InUse___init__.name d_InUse___init__.qual d_InUse___init__.params d_InUse___init__.body d_InUse___init__.scope (d_InUse___init__.dvs K) (d_InUse___init__.kws K) (He.fAd K d_InUse___init__.at_) fd
  d_TooMany___init__ : ∃ fd, FunD K d_TooMany___init__.name d_TooMany___init__.qual d_TooMany___init__.params d_TooMany___init__.body d_TooMany___init__.scope (d_TooMany___init__.dvs K) (d_TooMany___init__.kws K) (He.fAd K d_TooMany___init__.at_) fd
  d_Alone___init__ : ∃ fd, FunD K d_Alone___init__.name d_Alone___init__.qual d_Alone___init__.params d_Alone___init__.body d_Alone___init__.scope (d_Alone___init__.dvs K) (d_Alone___init__.kws K) (He.fAd K d_Alone___init__.at_) fd
  d_Waits___init__ : ∃ fd, FunD K d_Waits___init__.name d_Waits___init__.qual d_Waits___init__.params d_Waits___init__.body d_Waits___init__.scope (d_Waits___init__.dvs K) (d_Waits___init__.kws K) (He.fAd K d_Waits___init__.at_) fd
  d_Ended___init__ : ∃ fd, FunD K d_Ended___init__.name d_Ended___init__.qual d_Ended___init__.params d_Ended___init__.body d_Ended___init__.scope (d_Ended___init__.dvs K) (d_Ended___init__.kws K) (He.fAd K d_Ended___init__.at_) fd
  d_Broken___init__ : ∃ fd, FunD K d_Broken___init__.name d_Broken___init__.qual d_Broken___init__.params d_Broken___init__.body d_Broken___init__.scope (d_Broken___init__.dvs K) (d_Broken___init__.kws K) (He.fAd K d_Broken___init__.at_) fd
  d__law_pool : ∃ fd, FunD K d__law_pool.name d__law_pool.qual d__law_pool.params d__law_pool.body d__law_pool.scope (d__law_pool.dvs K) (d__law_pool.kws K) (He.fAd K d__law_pool.at_) fd
  d__law_draw : ∃ fd, FunD K d__law_draw.name d__law_draw.qual d__law_draw.params d__law_draw.body d__law_draw.scope (d__law_draw.dvs K) (d__law_draw.kws K) (He.fAd K d__law_draw.at_) fd
  d__law_place : ∃ fd, FunD K d__law_place.name d__law_place.qual d__law_place.params d__law_place.body d__law_place.scope (d__law_place.dvs K) (d__law_place.kws K) (He.fAd K d__law_place.at_) fd
  d__law_kept : ∃ fd, FunD K d__law_kept.name d__law_kept.qual d__law_kept.params d__law_kept.body d__law_kept.scope (d__law_kept.dvs K) (d__law_kept.kws K) (He.fAd K d__law_kept.at_) fd
  d__law_thing : ∃ fd, FunD K d__law_thing.name d__law_thing.qual d__law_thing.params d__law_thing.body d__law_thing.scope (d__law_thing.dvs K) (d__law_thing.kws K) (He.fAd K d__law_thing.at_) fd
  d__law_made : ∃ fd, FunD K d__law_made.name d__law_made.qual d__law_made.params d__law_made.body d__law_made.scope (d__law_made.dvs K) (d__law_made.kws K) (He.fAd K d__law_made.at_) fd
  d__law_made_by_name : ∃ fd, FunD K d__law_made_by_name.name d__law_made_by_name.qual d__law_made_by_name.params d__law_made_by_name.body d__law_made_by_name.scope (d__law_made_by_name.dvs K) (d__law_made_by_name.kws K) (He.fAd K d__law_made_by_name.at_) fd
  d__law_right : ∃ fd, FunD K d__law_right.name d__law_right.qual d__law_right.params d__law_right.body d__law_right.scope (d__law_right.dvs K) (d__law_right.kws K) (He.fAd K d__law_right.at_) fd
  d_law : ∃ fd, FunD K d_law.name d_law.qual d_law.params d_law.body d_law.scope (d_law.dvs K) (d_law.kws K) (He.fAd K d_law.at_) fd
def fa : List He.Fa := [.free "len", .free "int", .free "sum", .free "abs", .free "divmod", .free "isinstance", .free "ValueError", .free "LookupError", .free "ArithmeticError", .free "list", .free "range", .free "repr", .free "max", .free "min", .free "all", .int "MOST_GATES" 3, .int "MOST_KINDS" 4, .int "MOST_ROWS" 10, .int "MOST_VALUE" 3, .int "MOST_SETS" 2000, .int "MOST_HANDS" 1000, .int "MOST_CHANGES" 6, .glo "WrongValue", .glo "InvalidName", .glo "InvalidText", .glo "InvalidFlag", .glo "InvalidNumber", .glo "InvalidThing", .glo "InvalidChoice", .glo "InvalidWish", .glo "InvalidSet", .glo "InvalidIndex", .glo "NotASystem", .glo "InvalidGates", .glo "InvalidKinds", .glo "InvalidRows", .glo "InvalidMembers", .glo "InvalidNumbers", .glo "InvalidRun", .glo "InvalidThings", .glo "InvalidChanges", .glo "WrongName", .glo "UnknownName", .glo "UnknownHand", .glo "InUse", .glo "NoAnswer", .glo "TooMany", .glo "Alone", .glo "Waits", .glo "Ended", .glo "NothingToUndo", .glo "Broken", .glo "_law_pool", .glo "_law_draw", .glo "_law_place", .glo "_law_kept", .glo "_law_thing", .glo "_law_made", .glo "_law_made_by_name", .glo "_law_right", .glo "law"]
def fn : List He.DefD := [d_InvalidName___init__, d_InvalidText___init__, d_InvalidFlag___init__, d_InvalidNumber___init__, d_InvalidThing___init__, d_InvalidChoice___init__, d_InvalidWish___init__, d_InvalidSet___init__, d_InvalidIndex___init__, d_NotASystem___init__, d_InvalidGates___init__, d_InvalidKinds___init__, d_InvalidRows___init__, d_InvalidMembers___init__, d_InvalidNumbers___init__, d_InvalidRun___init__, d_InvalidThings___init__, d_InvalidChanges___init__, d_UnknownName___init__, d_UnknownHand___init__, d_InUse___init__, d_TooMany___init__, d_Alone___init__, d_Waits___init__, d_Ended___init__, d_Broken___init__, d__law_pool, d__law_draw, d__law_place, d__law_kept, d__law_thing, d__law_made, d__law_made_by_name, d__law_right, d_law]
def exs : List (PySem.W.Frag → Bool) := [erB "InvalidName" "ValueError.__new__" (tlE "ValueError"), mthB "InvalidName" "__init__", noB "InvalidName" "given", erB "InvalidText" "ValueError.__new__" (tlE "ValueError"), mthB "InvalidText" "__init__", noB "InvalidText" "given", erB "InvalidFlag" "ValueError.__new__" (tlE "ValueError"), mthB "InvalidFlag" "__init__", noB "InvalidFlag" "given", erB "InvalidNumber" "ValueError.__new__" (tlE "ValueError"), mthB "InvalidNumber" "__init__", noB "InvalidNumber" "given", erB "InvalidThing" "ValueError.__new__" (tlE "ValueError"), mthB "InvalidThing" "__init__", noB "InvalidThing" "given", erB "InvalidChoice" "ValueError.__new__" (tlE "ValueError"), mthB "InvalidChoice" "__init__", noB "InvalidChoice" "given", erB "InvalidWish" "ValueError.__new__" (tlE "ValueError"), mthB "InvalidWish" "__init__", noB "InvalidWish" "given", erB "InvalidSet" "ValueError.__new__" (tlE "ValueError"), mthB "InvalidSet" "__init__", noB "InvalidSet" "given", erB "InvalidIndex" "ValueError.__new__" (tlE "ValueError"), mthB "InvalidIndex" "__init__", noB "InvalidIndex" "given", erB "NotASystem" "ValueError.__new__" (tlE "ValueError"), mthB "NotASystem" "__init__", noB "NotASystem" "given", erB "InvalidGates" "ValueError.__new__" (tlE "ValueError"), mthB "InvalidGates" "__init__", noB "InvalidGates" "index", erB "InvalidKinds" "ValueError.__new__" (tlE "ValueError"), mthB "InvalidKinds" "__init__", noB "InvalidKinds" "index", erB "InvalidRows" "ValueError.__new__" (tlE "ValueError"), mthB "InvalidRows" "__init__", noB "InvalidRows" "index", erB "InvalidMembers" "ValueError.__new__" (tlE "ValueError"), mthB "InvalidMembers" "__init__", noB "InvalidMembers" "index", erB "InvalidNumbers" "ValueError.__new__" (tlE "ValueError"), mthB "InvalidNumbers" "__init__", noB "InvalidNumbers" "index", erB "InvalidRun" "ValueError.__new__" (tlE "ValueError"), mthB "InvalidRun" "__init__", noB "InvalidRun" "index", erB "InvalidThings" "ValueError.__new__" (tlE "ValueError"), mthB "InvalidThings" "__init__", noB "InvalidThings" "index", erB "InvalidChanges" "ValueError.__new__" (tlE "ValueError"), mthB "InvalidChanges" "__init__", noB "InvalidChanges" "index", erB "UnknownName" "LookupError.__new__" (tlE "LookupError"), mthB "UnknownName" "__init__", noB "UnknownName" "given", erB "UnknownHand" "LookupError.__new__" (tlE "LookupError"), mthB "UnknownHand" "__init__", noB "UnknownHand" "given", erB "InUse" "LookupError.__new__" (tlE "LookupError"), mthB "InUse" "__init__", noB "InUse" "index", erB "TooMany" "ArithmeticError.__new__" (tlE "ArithmeticError"), mthB "TooMany" "__init__", noB "TooMany" "limit", erB "Alone" "ArithmeticError.__new__" (tlE "ArithmeticError"), mthB "Alone" "__init__", noB "Alone" "given", erB "Waits" "ArithmeticError.__new__" (tlE "ArithmeticError"), mthB "Waits" "__init__", noB "Waits" "hand", erB "Ended" "ArithmeticError.__new__" (tlE "ArithmeticError"), mthB "Ended" "__init__", noB "Ended" "hand", er0B "NothingToUndo" "ArithmeticError", erB "Broken" "ArithmeticError.__new__" (tlE "ArithmeticError"), mthB "Broken" "__init__", noB "Broken" "index", noB "Broken" "shown", (fun K => (List.range 27).all fun i => exB (nmE i) K), (fun K => (List.range 27).all fun i => !([0, 1, 2, 3, 4, 5, 6, 7, 8, 9, 18, 19, 22].contains i) || noB (nmE i) "given" K), (fun K => (List.range 27).all fun i => !([23, 24].contains i) || noB (nmE i) "hand" K), (fun K => (List.range 27).all fun i => !([10, 11, 12, 13, 14, 15, 16, 17, 20, 26].contains i) || noB (nmE i) "index" K), (fun K => (List.range 27).all fun i => !([21].contains i) || noB (nmE i) "limit" K), (fun K => (List.range 27).all fun i => !([26].contains i) || noB (nmE i) "shown" K), (fun K => (List.range 27).all fun i => decide (PySem.W.kitOne K (.ref (He.ga K (nmE i))) (.ref (He.ga K "InvalidName")) = some ((fun i => decide (i = 0)) i))), (fun K => (List.range 27).all fun i => decide (PySem.W.kitOne K (.ref (He.ga K (nmE i))) (.ref (He.ga K "InvalidText")) = some ((fun i => decide (i = 1)) i))), (fun K => (List.range 27).all fun i => decide (PySem.W.kitOne K (.ref (He.ga K (nmE i))) (.ref (He.ga K "InvalidFlag")) = some ((fun i => decide (i = 2)) i))), (fun K => (List.range 27).all fun i => decide (PySem.W.kitOne K (.ref (He.ga K (nmE i))) (.ref (He.ga K "InvalidNumber")) = some ((fun i => decide (i = 3)) i))), (fun K => (List.range 27).all fun i => decide (PySem.W.kitOne K (.ref (He.ga K (nmE i))) (.ref (He.ga K "InvalidThing")) = some ((fun i => decide (i = 4)) i))), (fun K => (List.range 27).all fun i => decide (PySem.W.kitOne K (.ref (He.ga K (nmE i))) (.ref (He.ga K "InvalidChoice")) = some ((fun i => decide (i = 5)) i))), (fun K => (List.range 27).all fun i => decide (PySem.W.kitOne K (.ref (He.ga K (nmE i))) (.ref (He.ga K "InvalidWish")) = some ((fun i => decide (i = 6)) i))), (fun K => (List.range 27).all fun i => decide (PySem.W.kitOne K (.ref (He.ga K (nmE i))) (.ref (He.ga K "InvalidSet")) = some ((fun i => decide (i = 7)) i))), (fun K => (List.range 27).all fun i => decide (PySem.W.kitOne K (.ref (He.ga K (nmE i))) (.ref (He.ga K "InvalidIndex")) = some ((fun i => decide (i = 8)) i))), (fun K => (List.range 27).all fun i => decide (PySem.W.kitOne K (.ref (He.ga K (nmE i))) (.ref (He.ga K "NotASystem")) = some ((fun i => decide (i = 9)) i))), (fun K => (List.range 27).all fun i => decide (PySem.W.kitOne K (.ref (He.ga K (nmE i))) (.ref (He.ga K "InvalidGates")) = some ((fun i => decide (i = 10)) i))), (fun K => (List.range 27).all fun i => decide (PySem.W.kitOne K (.ref (He.ga K (nmE i))) (.ref (He.ga K "InvalidKinds")) = some ((fun i => decide (i = 11)) i))), (fun K => (List.range 27).all fun i => decide (PySem.W.kitOne K (.ref (He.ga K (nmE i))) (.ref (He.ga K "InvalidRows")) = some ((fun i => decide (i = 12)) i))), (fun K => (List.range 27).all fun i => decide (PySem.W.kitOne K (.ref (He.ga K (nmE i))) (.ref (He.ga K "InvalidMembers")) = some ((fun i => decide (i = 13)) i))), (fun K => (List.range 27).all fun i => decide (PySem.W.kitOne K (.ref (He.ga K (nmE i))) (.ref (He.ga K "InvalidNumbers")) = some ((fun i => decide (i = 14)) i))), (fun K => (List.range 27).all fun i => decide (PySem.W.kitOne K (.ref (He.ga K (nmE i))) (.ref (He.ga K "InvalidRun")) = some ((fun i => decide (i = 15)) i))), (fun K => (List.range 27).all fun i => decide (PySem.W.kitOne K (.ref (He.ga K (nmE i))) (.ref (He.ga K "InvalidThings")) = some ((fun i => decide (i = 16)) i))), (fun K => (List.range 27).all fun i => decide (PySem.W.kitOne K (.ref (He.ga K (nmE i))) (.ref (He.ga K "InvalidChanges")) = some ((fun i => decide (i = 17)) i))), (fun K => (List.range 27).all fun i => decide (PySem.W.kitOne K (.ref (He.ga K (nmE i))) (.ref (He.ga K "UnknownName")) = some ((fun i => decide (i = 18)) i))), (fun K => (List.range 27).all fun i => decide (PySem.W.kitOne K (.ref (He.ga K (nmE i))) (.ref (He.ga K "UnknownHand")) = some ((fun i => decide (i = 19)) i))), (fun K => (List.range 27).all fun i => decide (PySem.W.kitOne K (.ref (He.ga K (nmE i))) (.ref (He.ga K "InUse")) = some ((fun i => decide (i = 20)) i))), (fun K => (List.range 27).all fun i => decide (PySem.W.kitOne K (.ref (He.ga K (nmE i))) (.ref (He.ga K "TooMany")) = some ((fun i => decide (i = 21)) i))), (fun K => (List.range 27).all fun i => decide (PySem.W.kitOne K (.ref (He.ga K (nmE i))) (.ref (He.ga K "Alone")) = some ((fun i => decide (i = 22)) i))), (fun K => (List.range 27).all fun i => decide (PySem.W.kitOne K (.ref (He.ga K (nmE i))) (.ref (He.ga K "Waits")) = some ((fun i => decide (i = 23)) i))), (fun K => (List.range 27).all fun i => decide (PySem.W.kitOne K (.ref (He.ga K (nmE i))) (.ref (He.ga K "Ended")) = some ((fun i => decide (i = 24)) i))), (fun K => (List.range 27).all fun i => decide (PySem.W.kitOne K (.ref (He.ga K (nmE i))) (.ref (He.ga K "NothingToUndo")) = some ((fun i => decide (i = 25)) i))), (fun K => (List.range 27).all fun i => decide (PySem.W.kitOne K (.ref (He.ga K (nmE i))) (.ref (He.ga K "Broken")) = some ((fun i => decide (i = 26)) i))), (fun K => (List.range 27).all fun i => decide (PySem.W.kitOne K (.ref (He.ga K (nmE i))) (.ref (He.ga K "WrongValue")) = some ((fun i => decide (i < 18)) i))), (fun K => (List.range 27).all fun i => decide (PySem.W.kitOne K (.ref (He.ga K (nmE i))) (.ref (He.ga K "WrongName")) = some ((fun i => decide (17 < i) && decide (i < 21)) i))), (fun K => (List.range 27).all fun i => decide (PySem.W.kitOne K (.ref (He.ga K (nmE i))) (.ref (He.ga K "NoAnswer")) = some ((fun i => decide (20 < i)) i))), (fun K => (List.range 27).all fun i => decide (PySem.W.kitOne K (.ref (He.ga K (nmE i))) (.type "ArithmeticError") = some ((fun i => decide (20 < i)) i))), (fun K => (List.range 27).all fun i => decide (PySem.W.kitOne K (.ref (He.ga K (nmE i))) (.type "LookupError") = some ((fun i => decide (17 < i) && decide (i < 21)) i))), (fun K => (List.range 27).all fun i => decide (PySem.W.kitOne K (.ref (He.ga K (nmE i))) (.type "ValueError") = some ((fun i => decide (i < 18)) i))), (fun K => (K.lookup sysModules).isSome)]
def gets : List GetD := []
theorem tx_of {K : PySem.W.Frag} {h : Heap} {mg : Str → Option Value} (X : K.In h) (G : h.Ns mainGlobals mg) (cg : SaysG fa fn gets exs K) : Tx K mg := by
  have c := cg.d
  exact {
    f_len := He.free_ok X G (c.fact 0 rfl)
    f_int := He.free_ok X G (c.fact 1 rfl)
    f_sum := He.free_ok X G (c.fact 2 rfl)
    f_abs := He.free_ok X G (c.fact 3 rfl)
    f_divmod := He.free_ok X G (c.fact 4 rfl)
    f_isinstance := He.free_ok X G (c.fact 5 rfl)
    f_ValueError := He.free_ok X G (c.fact 6 rfl)
    f_LookupError := He.free_ok X G (c.fact 7 rfl)
    f_ArithmeticError := He.free_ok X G (c.fact 8 rfl)
    f_list := He.free_ok X G (c.fact 9 rfl)
    f_range := He.free_ok X G (c.fact 10 rfl)
    f_repr := He.free_ok X G (c.fact 11 rfl)
    f_max := He.free_ok X G (c.fact 12 rfl)
    f_min := He.free_ok X G (c.fact 13 rfl)
    f_all := He.free_ok X G (c.fact 14 rfl)
    g_MOST_GATES := (He.int_ok X G (c.fact 15 rfl)).elim fun t e => ⟨_, e, t, rfl⟩
    g_MOST_KINDS := (He.int_ok X G (c.fact 16 rfl)).elim fun t e => ⟨_, e, t, rfl⟩
    g_MOST_ROWS := (He.int_ok X G (c.fact 17 rfl)).elim fun t e => ⟨_, e, t, rfl⟩
    g_MOST_VALUE := (He.int_ok X G (c.fact 18 rfl)).elim fun t e => ⟨_, e, t, rfl⟩
    g_MOST_SETS := (He.int_ok X G (c.fact 19 rfl)).elim fun t e => ⟨_, e, t, rfl⟩
    g_MOST_HANDS := (He.int_ok X G (c.fact 20 rfl)).elim fun t e => ⟨_, e, t, rfl⟩
    g_MOST_CHANGES := (He.int_ok X G (c.fact 21 rfl)).elim fun t e => ⟨_, e, t, rfl⟩
    g_WrongValue := ⟨_, He.glo_ok X G (c.fact 22 rfl), rfl⟩
    g_InvalidName := ⟨_, He.glo_ok X G (c.fact 23 rfl), rfl⟩
    g_InvalidText := ⟨_, He.glo_ok X G (c.fact 24 rfl), rfl⟩
    g_InvalidFlag := ⟨_, He.glo_ok X G (c.fact 25 rfl), rfl⟩
    g_InvalidNumber := ⟨_, He.glo_ok X G (c.fact 26 rfl), rfl⟩
    g_InvalidThing := ⟨_, He.glo_ok X G (c.fact 27 rfl), rfl⟩
    g_InvalidChoice := ⟨_, He.glo_ok X G (c.fact 28 rfl), rfl⟩
    g_InvalidWish := ⟨_, He.glo_ok X G (c.fact 29 rfl), rfl⟩
    g_InvalidSet := ⟨_, He.glo_ok X G (c.fact 30 rfl), rfl⟩
    g_InvalidIndex := ⟨_, He.glo_ok X G (c.fact 31 rfl), rfl⟩
    g_NotASystem := ⟨_, He.glo_ok X G (c.fact 32 rfl), rfl⟩
    g_InvalidGates := ⟨_, He.glo_ok X G (c.fact 33 rfl), rfl⟩
    g_InvalidKinds := ⟨_, He.glo_ok X G (c.fact 34 rfl), rfl⟩
    g_InvalidRows := ⟨_, He.glo_ok X G (c.fact 35 rfl), rfl⟩
    g_InvalidMembers := ⟨_, He.glo_ok X G (c.fact 36 rfl), rfl⟩
    g_InvalidNumbers := ⟨_, He.glo_ok X G (c.fact 37 rfl), rfl⟩
    g_InvalidRun := ⟨_, He.glo_ok X G (c.fact 38 rfl), rfl⟩
    g_InvalidThings := ⟨_, He.glo_ok X G (c.fact 39 rfl), rfl⟩
    g_InvalidChanges := ⟨_, He.glo_ok X G (c.fact 40 rfl), rfl⟩
    g_WrongName := ⟨_, He.glo_ok X G (c.fact 41 rfl), rfl⟩
    g_UnknownName := ⟨_, He.glo_ok X G (c.fact 42 rfl), rfl⟩
    g_UnknownHand := ⟨_, He.glo_ok X G (c.fact 43 rfl), rfl⟩
    g_InUse := ⟨_, He.glo_ok X G (c.fact 44 rfl), rfl⟩
    g_NoAnswer := ⟨_, He.glo_ok X G (c.fact 45 rfl), rfl⟩
    g_TooMany := ⟨_, He.glo_ok X G (c.fact 46 rfl), rfl⟩
    g_Alone := ⟨_, He.glo_ok X G (c.fact 47 rfl), rfl⟩
    g_Waits := ⟨_, He.glo_ok X G (c.fact 48 rfl), rfl⟩
    g_Ended := ⟨_, He.glo_ok X G (c.fact 49 rfl), rfl⟩
    g_NothingToUndo := ⟨_, He.glo_ok X G (c.fact 50 rfl), rfl⟩
    g_Broken := ⟨_, He.glo_ok X G (c.fact 51 rfl), rfl⟩
    n__law_pool := He.glo_ok X G (c.fact 52 rfl)
    n__law_draw := He.glo_ok X G (c.fact 53 rfl)
    n__law_place := He.glo_ok X G (c.fact 54 rfl)
    n__law_kept := He.glo_ok X G (c.fact 55 rfl)
    n__law_thing := He.glo_ok X G (c.fact 56 rfl)
    n__law_made := He.glo_ok X G (c.fact 57 rfl)
    n__law_made_by_name := He.glo_ok X G (c.fact 58 rfl)
    n__law_right := He.glo_ok X G (c.fact 59 rfl)
    n_law := He.glo_ok X G (c.fact 60 rfl)
    d_InvalidName___init__ := c.def_ 0 rfl
    d_InvalidText___init__ := c.def_ 1 rfl
    d_InvalidFlag___init__ := c.def_ 2 rfl
    d_InvalidNumber___init__ := c.def_ 3 rfl
    d_InvalidThing___init__ := c.def_ 4 rfl
    d_InvalidChoice___init__ := c.def_ 5 rfl
    d_InvalidWish___init__ := c.def_ 6 rfl
    d_InvalidSet___init__ := c.def_ 7 rfl
    d_InvalidIndex___init__ := c.def_ 8 rfl
    d_NotASystem___init__ := c.def_ 9 rfl
    d_InvalidGates___init__ := c.def_ 10 rfl
    d_InvalidKinds___init__ := c.def_ 11 rfl
    d_InvalidRows___init__ := c.def_ 12 rfl
    d_InvalidMembers___init__ := c.def_ 13 rfl
    d_InvalidNumbers___init__ := c.def_ 14 rfl
    d_InvalidRun___init__ := c.def_ 15 rfl
    d_InvalidThings___init__ := c.def_ 16 rfl
    d_InvalidChanges___init__ := c.def_ 17 rfl
    d_UnknownName___init__ := c.def_ 18 rfl
    d_UnknownHand___init__ := c.def_ 19 rfl
    d_InUse___init__ := c.def_ 20 rfl
    d_TooMany___init__ := c.def_ 21 rfl
    d_Alone___init__ := c.def_ 22 rfl
    d_Waits___init__ := c.def_ 23 rfl
    d_Ended___init__ := c.def_ 24 rfl
    d_Broken___init__ := c.def_ 25 rfl
    d__law_pool := c.def_ 26 rfl
    d__law_draw := c.def_ 27 rfl
    d__law_place := c.def_ 28 rfl
    d__law_kept := c.def_ 29 rfl
    d__law_thing := c.def_ 30 rfl
    d__law_made := c.def_ 31 rfl
    d__law_made_by_name := c.def_ 32 rfl
    d__law_right := c.def_ 33 rfl
    d_law := c.def_ 34 rfl
    er_InvalidName := er_of (cg.more 0 rfl)
    in_InvalidName := mth_of (cg.more 1 rfl)
    no_InvalidName_given := no_of (cg.more 2 rfl)
    er_InvalidText := er_of (cg.more 3 rfl)
    in_InvalidText := mth_of (cg.more 4 rfl)
    no_InvalidText_given := no_of (cg.more 5 rfl)
    er_InvalidFlag := er_of (cg.more 6 rfl)
    in_InvalidFlag := mth_of (cg.more 7 rfl)
    no_InvalidFlag_given := no_of (cg.more 8 rfl)
    er_InvalidNumber := er_of (cg.more 9 rfl)
    in_InvalidNumber := mth_of (cg.more 10 rfl)
    no_InvalidNumber_given := no_of (cg.more 11 rfl)
    er_InvalidThing := er_of (cg.more 12 rfl)
    in_InvalidThing := mth_of (cg.more 13 rfl)
    no_InvalidThing_given := no_of (cg.more 14 rfl)
    er_InvalidChoice := er_of (cg.more 15 rfl)
    in_InvalidChoice := mth_of (cg.more 16 rfl)
    no_InvalidChoice_given := no_of (cg.more 17 rfl)
    er_InvalidWish := er_of (cg.more 18 rfl)
    in_InvalidWish := mth_of (cg.more 19 rfl)
    no_InvalidWish_given := no_of (cg.more 20 rfl)
    er_InvalidSet := er_of (cg.more 21 rfl)
    in_InvalidSet := mth_of (cg.more 22 rfl)
    no_InvalidSet_given := no_of (cg.more 23 rfl)
    er_InvalidIndex := er_of (cg.more 24 rfl)
    in_InvalidIndex := mth_of (cg.more 25 rfl)
    no_InvalidIndex_given := no_of (cg.more 26 rfl)
    er_NotASystem := er_of (cg.more 27 rfl)
    in_NotASystem := mth_of (cg.more 28 rfl)
    no_NotASystem_given := no_of (cg.more 29 rfl)
    er_InvalidGates := er_of (cg.more 30 rfl)
    in_InvalidGates := mth_of (cg.more 31 rfl)
    no_InvalidGates_index := no_of (cg.more 32 rfl)
    er_InvalidKinds := er_of (cg.more 33 rfl)
    in_InvalidKinds := mth_of (cg.more 34 rfl)
    no_InvalidKinds_index := no_of (cg.more 35 rfl)
    er_InvalidRows := er_of (cg.more 36 rfl)
    in_InvalidRows := mth_of (cg.more 37 rfl)
    no_InvalidRows_index := no_of (cg.more 38 rfl)
    er_InvalidMembers := er_of (cg.more 39 rfl)
    in_InvalidMembers := mth_of (cg.more 40 rfl)
    no_InvalidMembers_index := no_of (cg.more 41 rfl)
    er_InvalidNumbers := er_of (cg.more 42 rfl)
    in_InvalidNumbers := mth_of (cg.more 43 rfl)
    no_InvalidNumbers_index := no_of (cg.more 44 rfl)
    er_InvalidRun := er_of (cg.more 45 rfl)
    in_InvalidRun := mth_of (cg.more 46 rfl)
    no_InvalidRun_index := no_of (cg.more 47 rfl)
    er_InvalidThings := er_of (cg.more 48 rfl)
    in_InvalidThings := mth_of (cg.more 49 rfl)
    no_InvalidThings_index := no_of (cg.more 50 rfl)
    er_InvalidChanges := er_of (cg.more 51 rfl)
    in_InvalidChanges := mth_of (cg.more 52 rfl)
    no_InvalidChanges_index := no_of (cg.more 53 rfl)
    er_UnknownName := er_of (cg.more 54 rfl)
    in_UnknownName := mth_of (cg.more 55 rfl)
    no_UnknownName_given := no_of (cg.more 56 rfl)
    er_UnknownHand := er_of (cg.more 57 rfl)
    in_UnknownHand := mth_of (cg.more 58 rfl)
    no_UnknownHand_given := no_of (cg.more 59 rfl)
    er_InUse := er_of (cg.more 60 rfl)
    in_InUse := mth_of (cg.more 61 rfl)
    no_InUse_index := no_of (cg.more 62 rfl)
    er_TooMany := er_of (cg.more 63 rfl)
    in_TooMany := mth_of (cg.more 64 rfl)
    no_TooMany_limit := no_of (cg.more 65 rfl)
    er_Alone := er_of (cg.more 66 rfl)
    in_Alone := mth_of (cg.more 67 rfl)
    no_Alone_given := no_of (cg.more 68 rfl)
    er_Waits := er_of (cg.more 69 rfl)
    in_Waits := mth_of (cg.more 70 rfl)
    no_Waits_hand := no_of (cg.more 71 rfl)
    er_Ended := er_of (cg.more 72 rfl)
    in_Ended := mth_of (cg.more 73 rfl)
    no_Ended_hand := no_of (cg.more 74 rfl)
    ei_NothingToUndo := er0_of (cg.more 75 rfl)
    er_Broken := er_of (cg.more 76 rfl)
    in_Broken := mth_of (cg.more 77 rfl)
    no_Broken_index := no_of (cg.more 78 rfl)
    no_Broken_shown := no_of (cg.more 79 rfl)
    ex_all := all_of (cg.more 80 rfl) fun i => ex_of
    nf_given := all_of (cg.more 81 rfl) fun i h ho => by rw [ho] at h; exact no_of h
    nf_hand := all_of (cg.more 82 rfl) fun i h ho => by rw [ho] at h; exact no_of h
    nf_index := all_of (cg.more 83 rfl) fun i h ho => by rw [ho] at h; exact no_of h
    nf_limit := all_of (cg.more 84 rfl) fun i h ho => by rw [ho] at h; exact no_of h
    nf_shown := all_of (cg.more 85 rfl) fun i h ho => by rw [ho] at h; exact no_of h
    k_InvalidName := all_of (cg.more 86 rfl) fun i => of_decide_eq_true
    k_InvalidText := all_of (cg.more 87 rfl) fun i => of_decide_eq_true
    k_InvalidFlag := all_of (cg.more 88 rfl) fun i => of_decide_eq_true
    k_InvalidNumber := all_of (cg.more 89 rfl) fun i => of_decide_eq_true
    k_InvalidThing := all_of (cg.more 90 rfl) fun i => of_decide_eq_true
    k_InvalidChoice := all_of (cg.more 91 rfl) fun i => of_decide_eq_true
    k_InvalidWish := all_of (cg.more 92 rfl) fun i => of_decide_eq_true
    k_InvalidSet := all_of (cg.more 93 rfl) fun i => of_decide_eq_true
    k_InvalidIndex := all_of (cg.more 94 rfl) fun i => of_decide_eq_true
    k_NotASystem := all_of (cg.more 95 rfl) fun i => of_decide_eq_true
    k_InvalidGates := all_of (cg.more 96 rfl) fun i => of_decide_eq_true
    k_InvalidKinds := all_of (cg.more 97 rfl) fun i => of_decide_eq_true
    k_InvalidRows := all_of (cg.more 98 rfl) fun i => of_decide_eq_true
    k_InvalidMembers := all_of (cg.more 99 rfl) fun i => of_decide_eq_true
    k_InvalidNumbers := all_of (cg.more 100 rfl) fun i => of_decide_eq_true
    k_InvalidRun := all_of (cg.more 101 rfl) fun i => of_decide_eq_true
    k_InvalidThings := all_of (cg.more 102 rfl) fun i => of_decide_eq_true
    k_InvalidChanges := all_of (cg.more 103 rfl) fun i => of_decide_eq_true
    k_UnknownName := all_of (cg.more 104 rfl) fun i => of_decide_eq_true
    k_UnknownHand := all_of (cg.more 105 rfl) fun i => of_decide_eq_true
    k_InUse := all_of (cg.more 106 rfl) fun i => of_decide_eq_true
    k_TooMany := all_of (cg.more 107 rfl) fun i => of_decide_eq_true
    k_Alone := all_of (cg.more 108 rfl) fun i => of_decide_eq_true
    k_Waits := all_of (cg.more 109 rfl) fun i => of_decide_eq_true
    k_Ended := all_of (cg.more 110 rfl) fun i => of_decide_eq_true
    k_NothingToUndo := all_of (cg.more 111 rfl) fun i => of_decide_eq_true
    k_Broken := all_of (cg.more 112 rfl) fun i => of_decide_eq_true
    k_WrongValue := all_of (cg.more 113 rfl) fun i => of_decide_eq_true
    k_WrongName := all_of (cg.more 114 rfl) fun i => of_decide_eq_true
    k_NoAnswer := all_of (cg.more 115 rfl) fun i => of_decide_eq_true
    k_ArithmeticError := all_of (cg.more 116 rfl) fun i => of_decide_eq_true
    k_LookupError := all_of (cg.more 117 rfl) fun i => of_decide_eq_true
    k_ValueError := all_of (cg.more 118 rfl) fun i => of_decide_eq_true
    sm := cg.more 119 rfl
  }
abbrev R : PySem.W.OpenRow := PySem.W.OpenLaw.row PySem.Challenge.rw_gatecrowds_k01_constants_and_errors
abbrev hk : PySem.W.Hook := hookG 6 fa fn gets exs
def ob (s : PySem.W.SharedT) : AlG := obsKG 6 fa fn gets exs (HandSHeadRun.getT s)
theorem ob_eq (s : PySem.W.SharedT) : ob s = hk.obs s.abs := obsKG_eq (HandSHeadRun.getT_eq s)
def names : List PySem.Str := (["WrongValue", "InvalidName", "InvalidText", "InvalidFlag", "InvalidNumber", "InvalidThing", "InvalidChoice", "InvalidWish", "InvalidSet", "InvalidIndex", "NotASystem", "InvalidGates", "InvalidKinds", "InvalidRows", "InvalidMembers", "InvalidNumbers", "InvalidRun", "InvalidThings", "InvalidChanges", "WrongName"] : List PySem.Str) ++ (["UnknownName", "UnknownHand", "InUse", "NoAnswer", "TooMany", "Alone", "Waits", "Ended", "NothingToUndo", "Broken", "MOST_GATES", "MOST_KINDS", "MOST_ROWS", "MOST_VALUE", "MOST_SETS", "MOST_HANDS", "MOST_CHANGES", "_law_pool", "_law_draw", "_law_place"] : List PySem.Str) ++ (["_law_kept", "_law_thing", "_law_made", "_law_made_by_name", "_law_right"] : List PySem.Str)
theorem run (w : World) : HandSHeadRun.RunEq R (PySem.W.view R.prog [47]) hk ob 20000 names w := by
  intro os
  kernel_rfl
end G
/-! ### small tactics -/
local macro_rules | `(tactic| walk_at "g hp") => `(tactic| first
  | assumption
  | exact L2.upd_same
  | (refine G.upd_get (by assumption) ?_; walk_at "g hp")
  | (refine G.same_get (by assumption) ?_; walk_at "g hp")
  | (refine G.Pl.obj (by assumption) (by walk_at "g pool") ?_ rfl; walk_at "g hp")
  | (refine G.Pl.get (by assumption) ?_ (by walk_at "g ne"); walk_at "g hp"))
local macro_rules | `(tactic| walk_at "g but") => `(tactic| first
  | assumption
  | exact G.But.refl _ _
  | exact L2.Same.refl _
  | (refine G.But.at ?_; walk_at "g but")
  | (refine G.But.new ?_ (by assumption); walk_at "g but")
  | (refine L2.Same.new ?_ (by assumption); walk_at "g but")
  | (refine G.Pl.new ?_ (by assumption); walk_at "g but")
  | (refine G.Pl.own ?_ (by assumption) (by walk_at "g ne"); walk_at "g but")
  | (refine G.Pl.same ?_ (by assumption); walk_at "g but")
  | (refine G.Pl.trans ?_ (by assumption); walk_at "g but")
  | (refine G.But.same ?_ (by assumption); walk_at "g but")
  | (refine G.But.of ?_; walk_at "g but")
  | (refine L2.Same.trans ?_ (by assumption); walk_at "g but")
  | (refine G.Pl.refl ?_; walk_at "g pool"))
local macro_rules | `(tactic| walk_at "g ne") => `(tactic| first
  | assumption
  | (refine G.PoolAt.ne_new ?_ (by assumption); walk_at "g pool"))
local macro_rules | `(tactic| walk_at "g pool") => `(tactic| first
  | assumption
  | exact G.Pl.pool (by assumption)
  | (refine G.PoolAt.new ?_ (by assumption); walk_at "g pool")
  | (refine G.PoolAt.same ?_ (by assumption); walk_at "g pool"))
local macro_rules | `(tactic| walk_at "g and") => `(tactic| first
  | (show (_ : Int) < _; omega)
  | exact rfl
  | assumption
  | exact L2.upd_same
  | exact ⟨_, rfl⟩
  | exact L2.ClsV.ty _
  | exact L2.ClsV.own _
  | exact L2.TyX.base (L2.TyOf.str _)
  | exact L2.TyX.base (L2.TyOf.int _)
  | exact L2.TyX.base (L2.TyOf.bl _)
  | exact L2.TyX.base L2.TyOf.non
  | exact L2.kit_ty (by decide +kernel)
  | exact L2.SqL.of (by walk_at "g hp")
  | exact L2.SqT.of (by walk_at "g hp")
  | exact Or.inl (by assumption)
  | exact Or.inr (by assumption)
  | exact Or.inr ((show ∀ H, L2.SqT _ H _ _ by assumption) _)
  | exact (show ∀ H, L2.SqT _ H _ _ by assumption) _
  | exact G.sqT_ty (by assumption)
  | exact G.sqT_ty ((show ∀ H, L2.SqT _ H _ _ by assumption) _)
  | exact Or.inl (L2.SqL.of (by walk_at "g hp"))
  | exact Or.inr (L2.SqT.of (by walk_at "g hp"))
  | walk_at "g pool"
  | (show (_ : Int) < _; decide)
  | (show (_ : Int) < _; omega)
  | (show (_ : Int) ≤ _; omega)
  | exact ⟨by decide, by decide, by decide⟩
  | exact ⟨by decide, by decide⟩
  | exact ⟨by omega, by omega⟩
  | exact Or.inl ⟨by omega, by omega⟩
  | exact Or.inr ⟨by omega, by omega⟩
  | (show (_ : Int) ≤ _; decide)
  | (show (_ : Nat) ≤ _; exact Nat.le_of_ble_eq_true rfl)
  | (show (_ : Nat) < _; exact Nat.le_of_ble_eq_true rfl)
  | (show (_ : Nat) ≤ _; omega)
  | (show (_ : Nat) ≤ _; simp only [G.cat_len]; omega)
  | walk_at "g hp")
local macro_rules | `(tactic| walk_at "rd") => `(tactic| repeat (first
  | (apply And.intro; (focus (walk_at "g and")))
  | (refine L2.iteT ?_)
  | (refine Or.inl ⟨_, rfl, ?_⟩)
  | (refine Or.inr ⟨_, rfl, ?_⟩)
  | (refine L2.iteF ?_)
  | (refine G.iteKT (by decide +kernel) ?_)
  | (refine G.iteKF (by decide +kernel) ?_)
  | (apply Exists.intro (α := L2.V))
  | (apply Exists.intro (α := Int))
  | (apply Exists.intro (α := PySem.Str))
  | (apply Exists.intro (α := Bool))
  | (apply Exists.intro (α := PySem.Value))
  | (apply Exists.intro (α := PySem.Addr))
  | (apply Exists.intro (α := List L2.V))
  | (apply Exists.intro (α := List (PySem.Str × L2.V)))
  | (apply Exists.intro (α := Nat))
  | (apply Exists.intro (α := List PySem.Str))
  | (apply Exists.intro (α := List Bool))
  | (apply Exists.intro (α := List Nat))
  ))

namespace G
open PySem PySem.Spec PyProof.Rows L2
/-! ### the draws -/
theorem cut_take (xs : List V) (k : Nat) : cutV xs none (some (k : Int)) = xs.take k := by
  unfold cutV
  rw [HT.sIx_none, HT.sIx_nat]
  simp only [List.drop_zero, Nat.sub_zero]
  rcases Nat.le_total k xs.length with h | h
  · rw [Nat.min_eq_left h]
  · rw [Nat.min_eq_right h, List.take_of_length_le (Nat.le_refl _), List.take_of_length_le h]
section
variable {P : Program} {w : World} {K : PySem.W.Frag} {mg : Str → Option Value} {base : Heap} {CX : CXT}
def spPool (K : PySem.W.Frag) : Sp := fun vs H Q _ => ∃ (a : Addr) (ns : List Int) (k : Int), vs = [.ref a, .int k] ∧ SqL K H a (ns.map V.int) ∧
  ns.length ≤ 63 ∧ 0 ≤ k ∧ k ≤ 100 ∧ ∀ H' p, Same H H' → H p = none → PoolAt H' p → Q (.ref p) H'
theorem ok_pool {f : Addr} {fd : FuncData} {dvs : List V} {kws : List (Str × V)} (T : Tx K mg)
    (F : FunD K "_law_pool" "_law_pool" (defArgs s__law_pool) (defBody s__law_pool) (defScope s__law_pool) dvs kws f fd) :
    FnG P w K mg base CX 1 f fd ["_law_script", "_law_k"] (spPool K) := by
  refine okG F sc__law_pool (fun vs H Q E h => ?_) (fun cdv A outer s H vs Q E hr hgd h => ?_)
  · obtain ⟨a, ns, k, rfl, _⟩ := h
    rfl
  · obtain ⟨a, ns, k, rfl, ha, hl, k0, k1, q⟩ := h
    have hu := hr.units
    refine ⟨_, PSs.nox (pss_cons (ps_set (i := 2) sc__law_pool.nd rfl (Or.inl rfl) (pe_ifExp (pt_cmpR op_lt (pv 1) (pe_callB call_len_seq rfl T.f_len (by decide +kernel) (pa_cons (pv 0) pa_nil)) (nomark _)) (pe_ix ix_list (pv 0) (pv 1) (fun _ _ => rfl)) (pe_op op_add (pe_op op_mod (pe_callTy call_int1 rfl T.f_int (by decide +kernel) (pa_cons (pe_callB (cr_sum rfl) rfl T.f_sum (by decide +kernel) (pa_cons (pe_slice sl_list (pv 0) po_none (po_some pe_int)) pa_nil)) pa_nil)) pe_int) (pe_op op_mul (pe_op op_mul pe_int (pv 1)) (pv 1)))))
    (pss_cons (ps_set (i := 3) sc__law_pool.nd rfl (Or.inl rfl) (pe_ifExp (pt_cmpR op_ge (pe_callB call_abs rfl T.f_abs (by decide +kernel) (pa_cons (pv 2) pa_nil)) (pe_op op_pow pe_int pe_int) (nomark _)) (pe_callB call_abs rfl T.f_abs (by decide +kernel) (pa_cons (pv 2) pa_nil)) pe_int))
    (pss_one (ps_ret (pe_lst (pa_cons (pe_op op_mod (pe_callTy call_int1 rfl T.f_int (by decide +kernel) (pa_cons (pv 2) pa_nil)) pe_int) (pa_cons (pe_op op_add (pe_op op_mod (pe_callTy call_int1 rfl T.f_int (by decide +kernel) (pa_cons (pe_op op_add (pv 2) (pe_op op_mul pe_int (pv 1))) pa_nil)) pe_int) pe_int) (pa_cons (pv 3) pa_nil)))))))), ?_⟩
    walk_at "rd"
    refine iteD (fun h1 => ?_) (fun h1 => ?_)
    · rw [List.length_map] at h1
      obtain ⟨v, hv⟩ : ∃ v, ns[k.toNat]? = some v := ⟨_, List.getElem?_eq_getElem (by omega)⟩
      walk_at "rd"
      apply And.intro
      · exact at_of (j := k.toNat) (v := V.int v) (by omega) (by rw [List.getElem?_map, hv]; rfl)
      walk_at "rd"
      refine iteD (fun h2 => ?_) (fun h2 => ?_)
      all_goals
        walk_at "rd"
        intro p np
        refine q _ p (by walk_at "g but") np ⟨_, _, _, upd_same, by omega, by omega, by omega, by omega, ?_⟩
        try split
        all_goals omega
    · walk_at "rd"
      intro l nl
      walk_at "rd"
      refine ⟨ns.take 4, rfl, SqL.of ?_, ?_⟩
      · rw [upd_same, show (4 : Int) = ((4 : Nat) : Int) from rfl, cut_take, List.map_take]
      walk_at "rd"
      refine iteD (fun h2 => ?_) (fun h2 => ?_)
      all_goals
        walk_at "rd"
        intro p np
        refine q _ p (by walk_at "g but") (upd_free np) ⟨_, _, _, upd_same, by omega, by omega, by omega, by omega, ?_⟩
        try split
        all_goals omega
def spDraw : Sp := fun vs H Q _ => ∃ (p : Addr) (m : Int), vs = [.ref p, .int m] ∧ 0 < m ∧ m < 1073741824 ∧ PoolAt H p ∧
  ∀ H' r, Pl p H H' → 0 ≤ r → r < m → Q (.int r) H'
theorem ok_draw {f : Addr} {fd : FuncData} {dvs : List V} {kws : List (Str × V)} (T : Tx K mg)
    (F : FunD K "_law_draw" "_law_draw" (defArgs s__law_draw) (defBody s__law_draw) (defScope s__law_draw) dvs kws f fd) :
    FnG P w K mg base CX 1 f fd ["_law_pool_here", "_law_most"] spDraw := by
  refine okG F sc__law_draw (fun vs H Q E h => ?_) (fun cdv A outer s H vs Q E hr hgd h => ?_)
  · obtain ⟨p, m, rfl, _⟩ := h
    rfl
  · obtain ⟨p, m, rfl, m0, m1, ⟨a, b, d, hp, a0, a1, b0, b1, d0⟩, q⟩ := h
    have hu := hr.units
    refine ⟨_, PSs.nox (pss_cons (ps_asg (pe_op op_mod (pe_callTy call_int1 rfl T.f_int (by decide +kernel) (pa_cons (pe_op op_add (pe_op op_add (pe_op op_mul (pe_ix ix_list (pv 0) pe_int (fun _ _ => rfl)) pe_int) (pe_ix ix_list (pv 0) pe_int (fun _ _ => rfl))) pe_int) pa_nil)) pe_int) (pg_sub (pv 0) pe_int set_list))
    (pss_cons (ps_asg (pe_op op_mod (pe_callTy call_int1 rfl T.f_int (by decide +kernel) (pa_cons (pe_op op_add (pe_op op_add (pe_op op_mul (pe_ix ix_list (pv 0) pe_int (fun _ _ => rfl)) pe_int) (pe_op op_fdiv (pe_ix ix_list (pv 0) pe_int (fun _ _ => rfl)) pe_int)) pe_int) pa_nil)) pe_int) (pg_sub (pv 0) pe_int set_list))
    (pss_cons (ps_if (pt_cmpR op_gt (pe_ix ix_list (pv 0) pe_int (fun _ _ => rfl)) pe_int (nomark _)) (pss_cons (ps_asg (pe_callB call_divmod rfl T.f_divmod (by decide +kernel) (pa_cons (pe_ix ix_list (pv 0) pe_int (fun _ _ => rfl)) (pa_cons (pv 1) pa_nil))) (pg_tup rfl (pgs_cons (pg_sub (pv 0) pe_int set_list) (pgs_cons (pg_name (i := 2) sc__law_draw.nd rfl (Or.inl rfl)) pgs_nil))))
    (pss_one (ps_ret (pv 2)))) pss_nil)
    (pss_one (ps_ret (pe_op op_mod (pe_callTy call_int1 rfl T.f_int (by decide +kernel) (pa_cons (pe_op op_add (pe_op op_fdiv (pe_ix ix_list (pv 0) pe_int (fun _ _ => rfl)) pe_int) (pe_op op_fdiv (pe_ix ix_list (pv 0) pe_int (fun _ _ => rfl)) pe_int)) pa_nil)) (pv 1))))))), ?_⟩
    walk_at "rd"
    refine iteD (fun h1 => ?_) (fun h1 => ?_)
    · walk_at "rd"
      intro t nt
      walk_at "rd"
      refine q _ _ ⟨by walk_at "g but", _, _, _, upd_same, ?_⟩ (Int.emod_nonneg _ (by omega)) (Int.emod_lt_of_pos _ m0)
      have := Int.ediv_nonneg d0 (Int.le_of_lt m0)
      refine ⟨?_, ?_, ?_, ?_, ?_⟩ <;> omega
    · walk_at "rd"
      refine q _ _ ⟨by walk_at "g but", _, _, _, upd_same, ?_⟩ (Int.emod_nonneg _ (by omega)) (Int.emod_lt_of_pos _ m0)
      refine ⟨?_, ?_, ?_, ?_, ?_⟩ <;> omega

theorem c_pool (T : Tx K mg) : Cal P w K mg base CX 1 "_law_pool" [] (spPool K) := by
  obtain ⟨fd, F⟩ := T.d__law_pool
  exact .mk F (ok_pool T F) T.n__law_pool fun _ _ _ _ _ _ us hl => match us, hl with | [_, _], _ => rfl
theorem c_draw (T : Tx K mg) : Cal P w K mg base CX 1 "_law_draw" [] spDraw := by
  obtain ⟨fd, F⟩ := T.d__law_draw
  exact .mk F (ok_draw T F) T.n__law_draw fun _ _ _ _ _ _ us hl => match us, hl with | [_, _], _ => rfl
end
theorem at_any {α : Type} {xs : List α} {z : Int} {j : Nat} {v : α} (e : z = (j : Int)) (h : xs[j]? = some v) : atI xs z = some v := by
  rw [e]
  exact atI_nat h
/-! ### the classes of errors -/
abbrev plE (K : PySem.W.Frag) (i : Nat) : Addr := He.ga K (nmE i)
section
variable {K : PySem.W.Frag} {mg : Str → Option Value}
theorem e_InvalidName_given {P : Program} {w : World} {base : Heap} (T : Tx K mg) : ErK P w K mg base "InvalidName" (He.ga K "InvalidName") 1 ["given"] false (gF1 "given") := by
  obtain ⟨fd, F⟩ := T.d_InvalidName___init__
  exact erK_of base_VE T.er_InvalidName T.in_InvalidName.1 T.in_InvalidName.2 F (ok_err1 base_VE T.er_InvalidName T.no_InvalidName_given F sc_InvalidName___init__ rfl) T.g_InvalidName (fun _ _ _ _ _ _ us hl => match us, hl with | [_, _], _ => rfl) (fun _ _ _ _ _ _ us ws l1 l2 => match us, ws, l1, l2 with | [_], [_], _, _ => rfl)
theorem e_InvalidName {P : Program} {w : World} {base : Heap} (T : Tx K mg) : ErK P w K mg base "InvalidName" (He.ga K "InvalidName") 1 ["given"] false (gF1 "given") := e_InvalidName_given T
theorem e_InvalidText_given {P : Program} {w : World} {base : Heap} (T : Tx K mg) : ErK P w K mg base "InvalidText" (He.ga K "InvalidText") 1 ["given"] false (gF1 "given") := by
  obtain ⟨fd, F⟩ := T.d_InvalidText___init__
  exact erK_of base_VE T.er_InvalidText T.in_InvalidText.1 T.in_InvalidText.2 F (ok_err1 base_VE T.er_InvalidText T.no_InvalidText_given F sc_InvalidText___init__ rfl) T.g_InvalidText (fun _ _ _ _ _ _ us hl => match us, hl with | [_, _], _ => rfl) (fun _ _ _ _ _ _ us ws l1 l2 => match us, ws, l1, l2 with | [_], [_], _, _ => rfl)
theorem e_InvalidText {P : Program} {w : World} {base : Heap} (T : Tx K mg) : ErK P w K mg base "InvalidText" (He.ga K "InvalidText") 1 ["given"] false (gF1 "given") := e_InvalidText_given T
theorem e_InvalidFlag_given {P : Program} {w : World} {base : Heap} (T : Tx K mg) : ErK P w K mg base "InvalidFlag" (He.ga K "InvalidFlag") 1 ["given"] false (gF1 "given") := by
  obtain ⟨fd, F⟩ := T.d_InvalidFlag___init__
  exact erK_of base_VE T.er_InvalidFlag T.in_InvalidFlag.1 T.in_InvalidFlag.2 F (ok_err1 base_VE T.er_InvalidFlag T.no_InvalidFlag_given F sc_InvalidFlag___init__ rfl) T.g_InvalidFlag (fun _ _ _ _ _ _ us hl => match us, hl with | [_, _], _ => rfl) (fun _ _ _ _ _ _ us ws l1 l2 => match us, ws, l1, l2 with | [_], [_], _, _ => rfl)
theorem e_InvalidFlag {P : Program} {w : World} {base : Heap} (T : Tx K mg) : ErK P w K mg base "InvalidFlag" (He.ga K "InvalidFlag") 1 ["given"] false (gF1 "given") := e_InvalidFlag_given T
theorem e_InvalidNumber_given {P : Program} {w : World} {base : Heap} (T : Tx K mg) : ErK P w K mg base "InvalidNumber" (He.ga K "InvalidNumber") 1 ["given"] false (gF1 "given") := by
  obtain ⟨fd, F⟩ := T.d_InvalidNumber___init__
  exact erK_of base_VE T.er_InvalidNumber T.in_InvalidNumber.1 T.in_InvalidNumber.2 F (ok_err1 base_VE T.er_InvalidNumber T.no_InvalidNumber_given F sc_InvalidNumber___init__ rfl) T.g_InvalidNumber (fun _ _ _ _ _ _ us hl => match us, hl with | [_, _], _ => rfl) (fun _ _ _ _ _ _ us ws l1 l2 => match us, ws, l1, l2 with | [_], [_], _, _ => rfl)
theorem e_InvalidNumber {P : Program} {w : World} {base : Heap} (T : Tx K mg) : ErK P w K mg base "InvalidNumber" (He.ga K "InvalidNumber") 1 ["given"] false (gF1 "given") := e_InvalidNumber_given T
theorem e_InvalidThing_given {P : Program} {w : World} {base : Heap} (T : Tx K mg) : ErK P w K mg base "InvalidThing" (He.ga K "InvalidThing") 1 ["given"] false (gF1 "given") := by
  obtain ⟨fd, F⟩ := T.d_InvalidThing___init__
  exact erK_of base_VE T.er_InvalidThing T.in_InvalidThing.1 T.in_InvalidThing.2 F (ok_err1 base_VE T.er_InvalidThing T.no_InvalidThing_given F sc_InvalidThing___init__ rfl) T.g_InvalidThing (fun _ _ _ _ _ _ us hl => match us, hl with | [_, _], _ => rfl) (fun _ _ _ _ _ _ us ws l1 l2 => match us, ws, l1, l2 with | [_], [_], _, _ => rfl)
theorem e_InvalidThing {P : Program} {w : World} {base : Heap} (T : Tx K mg) : ErK P w K mg base "InvalidThing" (He.ga K "InvalidThing") 1 ["given"] false (gF1 "given") := e_InvalidThing_given T
theorem e_InvalidChoice_given {P : Program} {w : World} {base : Heap} (T : Tx K mg) : ErK P w K mg base "InvalidChoice" (He.ga K "InvalidChoice") 1 ["given"] false (gF1 "given") := by
  obtain ⟨fd, F⟩ := T.d_InvalidChoice___init__
  exact erK_of base_VE T.er_InvalidChoice T.in_InvalidChoice.1 T.in_InvalidChoice.2 F (ok_err1 base_VE T.er_InvalidChoice T.no_InvalidChoice_given F sc_InvalidChoice___init__ rfl) T.g_InvalidChoice (fun _ _ _ _ _ _ us hl => match us, hl with | [_, _], _ => rfl) (fun _ _ _ _ _ _ us ws l1 l2 => match us, ws, l1, l2 with | [_], [_], _, _ => rfl)
theorem e_InvalidChoice {P : Program} {w : World} {base : Heap} (T : Tx K mg) : ErK P w K mg base "InvalidChoice" (He.ga K "InvalidChoice") 1 ["given"] false (gF1 "given") := e_InvalidChoice_given T
theorem e_InvalidWish_given {P : Program} {w : World} {base : Heap} (T : Tx K mg) : ErK P w K mg base "InvalidWish" (He.ga K "InvalidWish") 1 ["given"] false (gF1 "given") := by
  obtain ⟨fd, F⟩ := T.d_InvalidWish___init__
  exact erK_of base_VE T.er_InvalidWish T.in_InvalidWish.1 T.in_InvalidWish.2 F (ok_err1 base_VE T.er_InvalidWish T.no_InvalidWish_given F sc_InvalidWish___init__ rfl) T.g_InvalidWish (fun _ _ _ _ _ _ us hl => match us, hl with | [_, _], _ => rfl) (fun _ _ _ _ _ _ us ws l1 l2 => match us, ws, l1, l2 with | [_], [_], _, _ => rfl)
theorem e_InvalidWish {P : Program} {w : World} {base : Heap} (T : Tx K mg) : ErK P w K mg base "InvalidWish" (He.ga K "InvalidWish") 1 ["given"] false (gF1 "given") := e_InvalidWish_given T
theorem e_InvalidSet_given {P : Program} {w : World} {base : Heap} (T : Tx K mg) : ErK P w K mg base "InvalidSet" (He.ga K "InvalidSet") 1 ["given"] false (gF1 "given") := by
  obtain ⟨fd, F⟩ := T.d_InvalidSet___init__
  exact erK_of base_VE T.er_InvalidSet T.in_InvalidSet.1 T.in_InvalidSet.2 F (ok_err1 base_VE T.er_InvalidSet T.no_InvalidSet_given F sc_InvalidSet___init__ rfl) T.g_InvalidSet (fun _ _ _ _ _ _ us hl => match us, hl with | [_, _], _ => rfl) (fun _ _ _ _ _ _ us ws l1 l2 => match us, ws, l1, l2 with | [_], [_], _, _ => rfl)
theorem e_InvalidSet {P : Program} {w : World} {base : Heap} (T : Tx K mg) : ErK P w K mg base "InvalidSet" (He.ga K "InvalidSet") 1 ["given"] false (gF1 "given") := e_InvalidSet_given T
theorem e_InvalidIndex_given {P : Program} {w : World} {base : Heap} (T : Tx K mg) : ErK P w K mg base "InvalidIndex" (He.ga K "InvalidIndex") 1 ["given"] false (gF1 "given") := by
  obtain ⟨fd, F⟩ := T.d_InvalidIndex___init__
  exact erK_of base_VE T.er_InvalidIndex T.in_InvalidIndex.1 T.in_InvalidIndex.2 F (ok_err1 base_VE T.er_InvalidIndex T.no_InvalidIndex_given F sc_InvalidIndex___init__ rfl) T.g_InvalidIndex (fun _ _ _ _ _ _ us hl => match us, hl with | [_, _], _ => rfl) (fun _ _ _ _ _ _ us ws l1 l2 => match us, ws, l1, l2 with | [_], [_], _, _ => rfl)
theorem e_InvalidIndex {P : Program} {w : World} {base : Heap} (T : Tx K mg) : ErK P w K mg base "InvalidIndex" (He.ga K "InvalidIndex") 1 ["given"] false (gF1 "given") := e_InvalidIndex_given T
theorem e_NotASystem_given {P : Program} {w : World} {base : Heap} (T : Tx K mg) : ErK P w K mg base "NotASystem" (He.ga K "NotASystem") 1 ["given"] false (gF1 "given") := by
  obtain ⟨fd, F⟩ := T.d_NotASystem___init__
  exact erK_of base_VE T.er_NotASystem T.in_NotASystem.1 T.in_NotASystem.2 F (ok_err1 base_VE T.er_NotASystem T.no_NotASystem_given F sc_NotASystem___init__ rfl) T.g_NotASystem (fun _ _ _ _ _ _ us hl => match us, hl with | [_, _], _ => rfl) (fun _ _ _ _ _ _ us ws l1 l2 => match us, ws, l1, l2 with | [_], [_], _, _ => rfl)
theorem e_NotASystem {P : Program} {w : World} {base : Heap} (T : Tx K mg) : ErK P w K mg base "NotASystem" (He.ga K "NotASystem") 1 ["given"] false (gF1 "given") := e_NotASystem_given T
theorem e_InvalidGates_index {P : Program} {w : World} {base : Heap} (T : Tx K mg) : ErK P w K mg base "InvalidGates" (He.ga K "InvalidGates") 1 ["index"] false (gF1 "index") := by
  obtain ⟨fd, F⟩ := T.d_InvalidGates___init__
  exact erK_of base_VE T.er_InvalidGates T.in_InvalidGates.1 T.in_InvalidGates.2 F (ok_err1 base_VE T.er_InvalidGates T.no_InvalidGates_index F sc_InvalidGates___init__ rfl) T.g_InvalidGates (fun _ _ _ _ _ _ us hl => match us, hl with | [_, _], _ => rfl) (fun _ _ _ _ _ _ us ws l1 l2 => match us, ws, l1, l2 with | [_], [_], _, _ => rfl)
theorem e_InvalidGates {P : Program} {w : World} {base : Heap} (T : Tx K mg) : ErK P w K mg base "InvalidGates" (He.ga K "InvalidGates") 1 ["index"] false (gF1 "index") := e_InvalidGates_index T
theorem e_InvalidKinds_index {P : Program} {w : World} {base : Heap} (T : Tx K mg) : ErK P w K mg base "InvalidKinds" (He.ga K "InvalidKinds") 1 ["index"] false (gF1 "index") := by
  obtain ⟨fd, F⟩ := T.d_InvalidKinds___init__
  exact erK_of base_VE T.er_InvalidKinds T.in_InvalidKinds.1 T.in_InvalidKinds.2 F (ok_err1 base_VE T.er_InvalidKinds T.no_InvalidKinds_index F sc_InvalidKinds___init__ rfl) T.g_InvalidKinds (fun _ _ _ _ _ _ us hl => match us, hl with | [_, _], _ => rfl) (fun _ _ _ _ _ _ us ws l1 l2 => match us, ws, l1, l2 with | [_], [_], _, _ => rfl)
theorem e_InvalidKinds {P : Program} {w : World} {base : Heap} (T : Tx K mg) : ErK P w K mg base "InvalidKinds" (He.ga K "InvalidKinds") 1 ["index"] false (gF1 "index") := e_InvalidKinds_index T
theorem e_InvalidRows_index {P : Program} {w : World} {base : Heap} (T : Tx K mg) : ErK P w K mg base "InvalidRows" (He.ga K "InvalidRows") 1 ["index"] false (gF1 "index") := by
  obtain ⟨fd, F⟩ := T.d_InvalidRows___init__
  exact erK_of base_VE T.er_InvalidRows T.in_InvalidRows.1 T.in_InvalidRows.2 F (ok_err1 base_VE T.er_InvalidRows T.no_InvalidRows_index F sc_InvalidRows___init__ rfl) T.g_InvalidRows (fun _ _ _ _ _ _ us hl => match us, hl with | [_, _], _ => rfl) (fun _ _ _ _ _ _ us ws l1 l2 => match us, ws, l1, l2 with | [_], [_], _, _ => rfl)
theorem e_InvalidRows {P : Program} {w : World} {base : Heap} (T : Tx K mg) : ErK P w K mg base "InvalidRows" (He.ga K "InvalidRows") 1 ["index"] false (gF1 "index") := e_InvalidRows_index T
theorem e_InvalidMembers_index {P : Program} {w : World} {base : Heap} (T : Tx K mg) : ErK P w K mg base "InvalidMembers" (He.ga K "InvalidMembers") 1 ["index"] false (gF1 "index") := by
  obtain ⟨fd, F⟩ := T.d_InvalidMembers___init__
  exact erK_of base_VE T.er_InvalidMembers T.in_InvalidMembers.1 T.in_InvalidMembers.2 F (ok_err1 base_VE T.er_InvalidMembers T.no_InvalidMembers_index F sc_InvalidMembers___init__ rfl) T.g_InvalidMembers (fun _ _ _ _ _ _ us hl => match us, hl with | [_, _], _ => rfl) (fun _ _ _ _ _ _ us ws l1 l2 => match us, ws, l1, l2 with | [_], [_], _, _ => rfl)
theorem e_InvalidMembers {P : Program} {w : World} {base : Heap} (T : Tx K mg) : ErK P w K mg base "InvalidMembers" (He.ga K "InvalidMembers") 1 ["index"] false (gF1 "index") := e_InvalidMembers_index T
theorem e_InvalidNumbers_index {P : Program} {w : World} {base : Heap} (T : Tx K mg) : ErK P w K mg base "InvalidNumbers" (He.ga K "InvalidNumbers") 1 ["index"] false (gF1 "index") := by
  obtain ⟨fd, F⟩ := T.d_InvalidNumbers___init__
  exact erK_of base_VE T.er_InvalidNumbers T.in_InvalidNumbers.1 T.in_InvalidNumbers.2 F (ok_err1 base_VE T.er_InvalidNumbers T.no_InvalidNumbers_index F sc_InvalidNumbers___init__ rfl) T.g_InvalidNumbers (fun _ _ _ _ _ _ us hl => match us, hl with | [_, _], _ => rfl) (fun _ _ _ _ _ _ us ws l1 l2 => match us, ws, l1, l2 with | [_], [_], _, _ => rfl)
theorem e_InvalidNumbers {P : Program} {w : World} {base : Heap} (T : Tx K mg) : ErK P w K mg base "InvalidNumbers" (He.ga K "InvalidNumbers") 1 ["index"] false (gF1 "index") := e_InvalidNumbers_index T
theorem e_InvalidRun_index {P : Program} {w : World} {base : Heap} (T : Tx K mg) : ErK P w K mg base "InvalidRun" (He.ga K "InvalidRun") 1 ["index"] false (gF1 "index") := by
  obtain ⟨fd, F⟩ := T.d_InvalidRun___init__
  exact erK_of base_VE T.er_InvalidRun T.in_InvalidRun.1 T.in_InvalidRun.2 F (ok_err1 base_VE T.er_InvalidRun T.no_InvalidRun_index F sc_InvalidRun___init__ rfl) T.g_InvalidRun (fun _ _ _ _ _ _ us hl => match us, hl with | [_, _], _ => rfl) (fun _ _ _ _ _ _ us ws l1 l2 => match us, ws, l1, l2 with | [_], [_], _, _ => rfl)
theorem e_InvalidRun {P : Program} {w : World} {base : Heap} (T : Tx K mg) : ErK P w K mg base "InvalidRun" (He.ga K "InvalidRun") 1 ["index"] false (gF1 "index") := e_InvalidRun_index T
theorem e_InvalidThings_index {P : Program} {w : World} {base : Heap} (T : Tx K mg) : ErK P w K mg base "InvalidThings" (He.ga K "InvalidThings") 1 ["index"] false (gF1 "index") := by
  obtain ⟨fd, F⟩ := T.d_InvalidThings___init__
  exact erK_of base_VE T.er_InvalidThings T.in_InvalidThings.1 T.in_InvalidThings.2 F (ok_err1 base_VE T.er_InvalidThings T.no_InvalidThings_index F sc_InvalidThings___init__ rfl) T.g_InvalidThings (fun _ _ _ _ _ _ us hl => match us, hl with | [_, _], _ => rfl) (fun _ _ _ _ _ _ us ws l1 l2 => match us, ws, l1, l2 with | [_], [_], _, _ => rfl)
theorem e_InvalidThings {P : Program} {w : World} {base : Heap} (T : Tx K mg) : ErK P w K mg base "InvalidThings" (He.ga K "InvalidThings") 1 ["index"] false (gF1 "index") := e_InvalidThings_index T
theorem e_InvalidChanges_index {P : Program} {w : World} {base : Heap} (T : Tx K mg) : ErK P w K mg base "InvalidChanges" (He.ga K "InvalidChanges") 1 ["index"] false (gF1 "index") := by
  obtain ⟨fd, F⟩ := T.d_InvalidChanges___init__
  exact erK_of base_VE T.er_InvalidChanges T.in_InvalidChanges.1 T.in_InvalidChanges.2 F (ok_err1 base_VE T.er_InvalidChanges T.no_InvalidChanges_index F sc_InvalidChanges___init__ rfl) T.g_InvalidChanges (fun _ _ _ _ _ _ us hl => match us, hl with | [_, _], _ => rfl) (fun _ _ _ _ _ _ us ws l1 l2 => match us, ws, l1, l2 with | [_], [_], _, _ => rfl)
theorem e_InvalidChanges {P : Program} {w : World} {base : Heap} (T : Tx K mg) : ErK P w K mg base "InvalidChanges" (He.ga K "InvalidChanges") 1 ["index"] false (gF1 "index") := e_InvalidChanges_index T
theorem e_UnknownName_given {P : Program} {w : World} {base : Heap} (T : Tx K mg) : ErK P w K mg base "UnknownName" (He.ga K "UnknownName") 1 ["given"] false (gF1 "given") := by
  obtain ⟨fd, F⟩ := T.d_UnknownName___init__
  exact erK_of base_LE T.er_UnknownName T.in_UnknownName.1 T.in_UnknownName.2 F (ok_err1 base_LE T.er_UnknownName T.no_UnknownName_given F sc_UnknownName___init__ rfl) T.g_UnknownName (fun _ _ _ _ _ _ us hl => match us, hl with | [_, _], _ => rfl) (fun _ _ _ _ _ _ us ws l1 l2 => match us, ws, l1, l2 with | [_], [_], _, _ => rfl)
theorem e_UnknownName {P : Program} {w : World} {base : Heap} (T : Tx K mg) : ErK P w K mg base "UnknownName" (He.ga K "UnknownName") 1 ["given"] false (gF1 "given") := e_UnknownName_given T
theorem e_UnknownHand_given {P : Program} {w : World} {base : Heap} (T : Tx K mg) : ErK P w K mg base "UnknownHand" (He.ga K "UnknownHand") 1 ["given"] false (gF1 "given") := by
  obtain ⟨fd, F⟩ := T.d_UnknownHand___init__
  exact erK_of base_LE T.er_UnknownHand T.in_UnknownHand.1 T.in_UnknownHand.2 F (ok_err1 base_LE T.er_UnknownHand T.no_UnknownHand_given F sc_UnknownHand___init__ rfl) T.g_UnknownHand (fun _ _ _ _ _ _ us hl => match us, hl with | [_, _], _ => rfl) (fun _ _ _ _ _ _ us ws l1 l2 => match us, ws, l1, l2 with | [_], [_], _, _ => rfl)
theorem e_UnknownHand {P : Program} {w : World} {base : Heap} (T : Tx K mg) : ErK P w K mg base "UnknownHand" (He.ga K "UnknownHand") 1 ["given"] false (gF1 "given") := e_UnknownHand_given T
theorem e_InUse_index {P : Program} {w : World} {base : Heap} (T : Tx K mg) : ErK P w K mg base "InUse" (He.ga K "InUse") 1 ["index"] false (gF1 "index") := by
  obtain ⟨fd, F⟩ := T.d_InUse___init__
  exact erK_of base_LE T.er_InUse T.in_InUse.1 T.in_InUse.2 F (ok_err1 base_LE T.er_InUse T.no_InUse_index F sc_InUse___init__ rfl) T.g_InUse (fun _ _ _ _ _ _ us hl => match us, hl with | [_, _], _ => rfl) (fun _ _ _ _ _ _ us ws l1 l2 => match us, ws, l1, l2 with | [_], [_], _, _ => rfl)
theorem e_InUse {P : Program} {w : World} {base : Heap} (T : Tx K mg) : ErK P w K mg base "InUse" (He.ga K "InUse") 1 ["index"] false (gF1 "index") := e_InUse_index T
theorem e_TooMany_limit {P : Program} {w : World} {base : Heap} (T : Tx K mg) : ErK P w K mg base "TooMany" (He.ga K "TooMany") 1 ["limit"] false (gF1 "limit") := by
  obtain ⟨fd, F⟩ := T.d_TooMany___init__
  exact erK_of base_AE T.er_TooMany T.in_TooMany.1 T.in_TooMany.2 F (ok_err1 base_AE T.er_TooMany T.no_TooMany_limit F sc_TooMany___init__ rfl) T.g_TooMany (fun _ _ _ _ _ _ us hl => match us, hl with | [_, _], _ => rfl) (fun _ _ _ _ _ _ us ws l1 l2 => match us, ws, l1, l2 with | [_], [_], _, _ => rfl)
theorem e_TooMany {P : Program} {w : World} {base : Heap} (T : Tx K mg) : ErK P w K mg base "TooMany" (He.ga K "TooMany") 1 ["limit"] false (gF1 "limit") := e_TooMany_limit T
theorem e_Alone_given {P : Program} {w : World} {base : Heap} (T : Tx K mg) : ErK P w K mg base "Alone" (He.ga K "Alone") 1 ["given"] false (gF1 "given") := by
  obtain ⟨fd, F⟩ := T.d_Alone___init__
  exact erK_of base_AE T.er_Alone T.in_Alone.1 T.in_Alone.2 F (ok_err1 base_AE T.er_Alone T.no_Alone_given F sc_Alone___init__ rfl) T.g_Alone (fun _ _ _ _ _ _ us hl => match us, hl with | [_, _], _ => rfl) (fun _ _ _ _ _ _ us ws l1 l2 => match us, ws, l1, l2 with | [_], [_], _, _ => rfl)
theorem e_Alone {P : Program} {w : World} {base : Heap} (T : Tx K mg) : ErK P w K mg base "Alone" (He.ga K "Alone") 1 ["given"] false (gF1 "given") := e_Alone_given T
theorem e_Waits_hand {P : Program} {w : World} {base : Heap} (T : Tx K mg) : ErK P w K mg base "Waits" (He.ga K "Waits") 1 ["hand"] false (gF1 "hand") := by
  obtain ⟨fd, F⟩ := T.d_Waits___init__
  exact erK_of base_AE T.er_Waits T.in_Waits.1 T.in_Waits.2 F (ok_err1 base_AE T.er_Waits T.no_Waits_hand F sc_Waits___init__ rfl) T.g_Waits (fun _ _ _ _ _ _ us hl => match us, hl with | [_, _], _ => rfl) (fun _ _ _ _ _ _ us ws l1 l2 => match us, ws, l1, l2 with | [_], [_], _, _ => rfl)
theorem e_Waits {P : Program} {w : World} {base : Heap} (T : Tx K mg) : ErK P w K mg base "Waits" (He.ga K "Waits") 1 ["hand"] false (gF1 "hand") := e_Waits_hand T
theorem e_Ended_hand {P : Program} {w : World} {base : Heap} (T : Tx K mg) : ErK P w K mg base "Ended" (He.ga K "Ended") 1 ["hand"] false (gF1 "hand") := by
  obtain ⟨fd, F⟩ := T.d_Ended___init__
  exact erK_of base_AE T.er_Ended T.in_Ended.1 T.in_Ended.2 F (ok_err1 base_AE T.er_Ended T.no_Ended_hand F sc_Ended___init__ rfl) T.g_Ended (fun _ _ _ _ _ _ us hl => match us, hl with | [_, _], _ => rfl) (fun _ _ _ _ _ _ us ws l1 l2 => match us, ws, l1, l2 with | [_], [_], _, _ => rfl)
theorem e_Ended {P : Program} {w : World} {base : Heap} (T : Tx K mg) : ErK P w K mg base "Ended" (He.ga K "Ended") 1 ["hand"] false (gF1 "hand") := e_Ended_hand T
theorem e_Broken_shown_index {P : Program} {w : World} {base : Heap} (T : Tx K mg) : ErK P w K mg base "Broken" (He.ga K "Broken") 2 ["shown", "index"] true (gF2 "index" "shown") := by
  obtain ⟨fd, F⟩ := T.d_Broken___init__
  exact erK_of base_AE T.er_Broken T.in_Broken.1 T.in_Broken.2 F (ok_err2 base_AE T.er_Broken T.no_Broken_index T.no_Broken_shown F sc_Broken___init__ rfl) T.g_Broken (fun _ _ _ _ _ _ us hl => match us, hl with | [_, _, _], _ => rfl) (fun _ _ _ _ _ _ us ws l1 l2 => match us, ws, l1, l2 with | [_], [_, _], _, _ => rfl)
theorem e_Broken {P : Program} {w : World} {base : Heap} (T : Tx K mg) : ErK P w K mg base "Broken" (He.ga K "Broken") 2 ["shown", "index"] true (gF2 "index" "shown") := e_Broken_shown_index T
end
end G
local macro_rules | `(tactic| walk_at "g and") => `(tactic| first
  | exact G.ErrAt.same (by assumption) (by walk_at "g but")
  | exact Or.inl ⟨rfl, _, L2.SqL.of (by walk_at "g hp")⟩)

namespace G
open PySem PySem.Spec PyProof.Rows L2
section
variable {P : Program} {w : World} {K : PySem.W.Frag} {mg : Str → Option Value} {base : Heap} {CX : CXT}
def ownL (i : Nat) : List V := (List.range 27).map fun j => V.bl (decide (i = j))
theorem own_count : ∀ i, i < 27 → List.countP (fun z => eqV z (V.bl true)) (ownL i) = 1 := by decide +kernel
theorem own_idx {i : Nat} (hi : i < 27) : (ownL i)[i]? = some (V.bl true) := by
  unfold ownL
  rw [List.getElem?_map, List.getElem?_range hi]
  simp
theorem own_bef {i m : Nat} {z : V} (hm : m < i) (e : (ownL i)[m]? = some z) : eqV z (V.bl true) = false := by
  unfold ownL at e
  rw [List.getElem?_map] at e
  obtain ⟨j, hj, rfl⟩ := Option.map_eq_some_iff.mp e
  obtain ⟨h1, h2⟩ := List.getElem?_eq_some_iff.mp hj
  rw [List.getElem_range] at h2
  subst h2
  have : decide (i = m) = false := decide_eq_false (by omega)
  rw [this]
  rfl
def bD (a b c : Bool) : PyData := .list [.bool a, .bool b, .bool c]
theorem bD_eqv (a b c : Bool) : (!PyData.eqv (bD a b c) (bD a b c)) = false := by
  cases a <;> cases b <;> cases c <;> decide +kernel
theorem bD_shaped (a b c : Bool) : SeqAt.shaped (bD a b c) = true := by
  cases a <;> cases b <;> cases c <;> decide +kernel
theorem bD_at {K : PySem.W.Frag} {H : Hp} {l : Addr} {a b c : Bool} {ys : List V} (h : H l = some (.lst ys)) (e : ys = [.bl a, .bl b, .bl c]) : Dp K H (.ref l) (bD a b c) :=
  .lst (SqL.of (e ▸ h)) (.cons (.bl a) (.cons (.bl b) (.cons (.bl c) .nil)))
theorem mid9 {t1 t2 t3 t4 t5 t6 t7 t8 t9 t10 : TS} {D : Ends} {σ : L2.St} {H : Hp} (M : L2.St → Hp → Prop) (h2 : ∀ σ' H', M σ' H' → t10 D σ' H')
    (h1 : ∀ u : TS, (∀ σ' H', M σ' H' → u D σ' H') → tSeq t1 (tSeq t2 (tSeq t3 (tSeq t4 (tSeq t5 (tSeq t6 (tSeq t7 (tSeq t8 (tSeq t9 u)))))))) D σ H) :
    tSeq t1 (tSeq t2 (tSeq t3 (tSeq t4 (tSeq t5 (tSeq t6 (tSeq t7 (tSeq t8 (tSeq t9 t10)))))))) D σ H := h1 t10 h2
/-! ### the place of an error among the classes -/
def spPlace (K : PySem.W.Frag) : Sp := fun vs H Q _ => ∃ (x : V) (i : Nat) (fs : List (Str × V)), vs = [x] ∧ i < 27 ∧ ErrAt H x (plE K i) fs ∧ ∀ H', Same H H' → Q (.int i) H'
theorem ok_place {f : Addr} {fd : FuncData} {dvs : List V} {kws : List (Str × V)} (T : Tx K mg)
    (F : FunD K "_law_place" "_law_place" (defArgs s__law_place) (defBody s__law_place) (defScope s__law_place) dvs kws f fd) :
    FnG P w K mg base CX 1 f fd ["_law_e"] (spPlace K) := by
  refine okG F sc__law_place (fun vs H Q E h => ?_) (fun cdv A outer s H vs Q E hr hgd h => ?_)
  · obtain ⟨x, i, fs, rfl, _⟩ := h
    rfl
  · obtain ⟨x, i, fs, rfl, hi, he, q⟩ := h
    have hu := hr.units
    refine ⟨_, PSs.nox (pss_cons (ps_set (i := 1) sc__law_place.nd rfl (Or.inl rfl) (pe_lst (pa_cons (pe_callB (cr_isJ (n := 27) (cl := plE K) (c := (.ref (He.ga K "InvalidName"))) (f := fun i => decide (i = 0)) (fun u h => h) (fun i hi => (T.ex_all i hi).1) T.k_InvalidName) rfl T.f_isinstance (by decide +kernel) (pa_cons (pv 0) (pa_cons (pe_gl T.g_InvalidName) pa_nil))) (pa_cons (pe_callB (cr_isJ (n := 27) (cl := plE K) (c := (.ref (He.ga K "InvalidText"))) (f := fun i => decide (i = 1)) (fun u h => h) (fun i hi => (T.ex_all i hi).1) T.k_InvalidText) rfl T.f_isinstance (by decide +kernel) (pa_cons (pv 0) (pa_cons (pe_gl T.g_InvalidText) pa_nil))) (pa_cons (pe_callB (cr_isJ (n := 27) (cl := plE K) (c := (.ref (He.ga K "InvalidFlag"))) (f := fun i => decide (i = 2)) (fun u h => h) (fun i hi => (T.ex_all i hi).1) T.k_InvalidFlag) rfl T.f_isinstance (by decide +kernel) (pa_cons (pv 0) (pa_cons (pe_gl T.g_InvalidFlag) pa_nil))) pa_nil)))))
    (pss_cons (ps_set (i := 1) sc__law_place.nd rfl (Or.inl rfl) (pe_op op_cat (pv 1) (pe_lst (pa_cons (pe_callB (cr_isJ (n := 27) (cl := plE K) (c := (.ref (He.ga K "InvalidNumber"))) (f := fun i => decide (i = 3)) (fun u h => h) (fun i hi => (T.ex_all i hi).1) T.k_InvalidNumber) rfl T.f_isinstance (by decide +kernel) (pa_cons (pv 0) (pa_cons (pe_gl T.g_InvalidNumber) pa_nil))) (pa_cons (pe_callB (cr_isJ (n := 27) (cl := plE K) (c := (.ref (He.ga K "InvalidThing"))) (f := fun i => decide (i = 4)) (fun u h => h) (fun i hi => (T.ex_all i hi).1) T.k_InvalidThing) rfl T.f_isinstance (by decide +kernel) (pa_cons (pv 0) (pa_cons (pe_gl T.g_InvalidThing) pa_nil))) (pa_cons (pe_callB (cr_isJ (n := 27) (cl := plE K) (c := (.ref (He.ga K "InvalidChoice"))) (f := fun i => decide (i = 5)) (fun u h => h) (fun i hi => (T.ex_all i hi).1) T.k_InvalidChoice) rfl T.f_isinstance (by decide +kernel) (pa_cons (pv 0) (pa_cons (pe_gl T.g_InvalidChoice) pa_nil))) pa_nil))))))
    (pss_cons (ps_set (i := 1) sc__law_place.nd rfl (Or.inl rfl) (pe_op op_cat (pv 1) (pe_lst (pa_cons (pe_callB (cr_isJ (n := 27) (cl := plE K) (c := (.ref (He.ga K "InvalidWish"))) (f := fun i => decide (i = 6)) (fun u h => h) (fun i hi => (T.ex_all i hi).1) T.k_InvalidWish) rfl T.f_isinstance (by decide +kernel) (pa_cons (pv 0) (pa_cons (pe_gl T.g_InvalidWish) pa_nil))) (pa_cons (pe_callB (cr_isJ (n := 27) (cl := plE K) (c := (.ref (He.ga K "InvalidSet"))) (f := fun i => decide (i = 7)) (fun u h => h) (fun i hi => (T.ex_all i hi).1) T.k_InvalidSet) rfl T.f_isinstance (by decide +kernel) (pa_cons (pv 0) (pa_cons (pe_gl T.g_InvalidSet) pa_nil))) (pa_cons (pe_callB (cr_isJ (n := 27) (cl := plE K) (c := (.ref (He.ga K "InvalidIndex"))) (f := fun i => decide (i = 8)) (fun u h => h) (fun i hi => (T.ex_all i hi).1) T.k_InvalidIndex) rfl T.f_isinstance (by decide +kernel) (pa_cons (pv 0) (pa_cons (pe_gl T.g_InvalidIndex) pa_nil))) pa_nil))))))
    (pss_cons (ps_set (i := 1) sc__law_place.nd rfl (Or.inl rfl) (pe_op op_cat (pv 1) (pe_lst (pa_cons (pe_callB (cr_isJ (n := 27) (cl := plE K) (c := (.ref (He.ga K "NotASystem"))) (f := fun i => decide (i = 9)) (fun u h => h) (fun i hi => (T.ex_all i hi).1) T.k_NotASystem) rfl T.f_isinstance (by decide +kernel) (pa_cons (pv 0) (pa_cons (pe_gl T.g_NotASystem) pa_nil))) (pa_cons (pe_callB (cr_isJ (n := 27) (cl := plE K) (c := (.ref (He.ga K "InvalidGates"))) (f := fun i => decide (i = 10)) (fun u h => h) (fun i hi => (T.ex_all i hi).1) T.k_InvalidGates) rfl T.f_isinstance (by decide +kernel) (pa_cons (pv 0) (pa_cons (pe_gl T.g_InvalidGates) pa_nil))) (pa_cons (pe_callB (cr_isJ (n := 27) (cl := plE K) (c := (.ref (He.ga K "InvalidKinds"))) (f := fun i => decide (i = 11)) (fun u h => h) (fun i hi => (T.ex_all i hi).1) T.k_InvalidKinds) rfl T.f_isinstance (by decide +kernel) (pa_cons (pv 0) (pa_cons (pe_gl T.g_InvalidKinds) pa_nil))) pa_nil))))))
    (pss_cons (ps_set (i := 1) sc__law_place.nd rfl (Or.inl rfl) (pe_op op_cat (pv 1) (pe_lst (pa_cons (pe_callB (cr_isJ (n := 27) (cl := plE K) (c := (.ref (He.ga K "InvalidRows"))) (f := fun i => decide (i = 12)) (fun u h => h) (fun i hi => (T.ex_all i hi).1) T.k_InvalidRows) rfl T.f_isinstance (by decide +kernel) (pa_cons (pv 0) (pa_cons (pe_gl T.g_InvalidRows) pa_nil))) (pa_cons (pe_callB (cr_isJ (n := 27) (cl := plE K) (c := (.ref (He.ga K "InvalidMembers"))) (f := fun i => decide (i = 13)) (fun u h => h) (fun i hi => (T.ex_all i hi).1) T.k_InvalidMembers) rfl T.f_isinstance (by decide +kernel) (pa_cons (pv 0) (pa_cons (pe_gl T.g_InvalidMembers) pa_nil))) (pa_cons (pe_callB (cr_isJ (n := 27) (cl := plE K) (c := (.ref (He.ga K "InvalidNumbers"))) (f := fun i => decide (i = 14)) (fun u h => h) (fun i hi => (T.ex_all i hi).1) T.k_InvalidNumbers) rfl T.f_isinstance (by decide +kernel) (pa_cons (pv 0) (pa_cons (pe_gl T.g_InvalidNumbers) pa_nil))) pa_nil))))))
    (pss_cons (ps_set (i := 1) sc__law_place.nd rfl (Or.inl rfl) (pe_op op_cat (pv 1) (pe_lst (pa_cons (pe_callB (cr_isJ (n := 27) (cl := plE K) (c := (.ref (He.ga K "InvalidRun"))) (f := fun i => decide (i = 15)) (fun u h => h) (fun i hi => (T.ex_all i hi).1) T.k_InvalidRun) rfl T.f_isinstance (by decide +kernel) (pa_cons (pv 0) (pa_cons (pe_gl T.g_InvalidRun) pa_nil))) (pa_cons (pe_callB (cr_isJ (n := 27) (cl := plE K) (c := (.ref (He.ga K "InvalidThings"))) (f := fun i => decide (i = 16)) (fun u h => h) (fun i hi => (T.ex_all i hi).1) T.k_InvalidThings) rfl T.f_isinstance (by decide +kernel) (pa_cons (pv 0) (pa_cons (pe_gl T.g_InvalidThings) pa_nil))) (pa_cons (pe_callB (cr_isJ (n := 27) (cl := plE K) (c := (.ref (He.ga K "InvalidChanges"))) (f := fun i => decide (i = 17)) (fun u h => h) (fun i hi => (T.ex_all i hi).1) T.k_InvalidChanges) rfl T.f_isinstance (by decide +kernel) (pa_cons (pv 0) (pa_cons (pe_gl T.g_InvalidChanges) pa_nil))) pa_nil))))))
    (pss_cons (ps_set (i := 1) sc__law_place.nd rfl (Or.inl rfl) (pe_op op_cat (pv 1) (pe_lst (pa_cons (pe_callB (cr_isJ (n := 27) (cl := plE K) (c := (.ref (He.ga K "UnknownName"))) (f := fun i => decide (i = 18)) (fun u h => h) (fun i hi => (T.ex_all i hi).1) T.k_UnknownName) rfl T.f_isinstance (by decide +kernel) (pa_cons (pv 0) (pa_cons (pe_gl T.g_UnknownName) pa_nil))) (pa_cons (pe_callB (cr_isJ (n := 27) (cl := plE K) (c := (.ref (He.ga K "UnknownHand"))) (f := fun i => decide (i = 19)) (fun u h => h) (fun i hi => (T.ex_all i hi).1) T.k_UnknownHand) rfl T.f_isinstance (by decide +kernel) (pa_cons (pv 0) (pa_cons (pe_gl T.g_UnknownHand) pa_nil))) (pa_cons (pe_callB (cr_isJ (n := 27) (cl := plE K) (c := (.ref (He.ga K "InUse"))) (f := fun i => decide (i = 20)) (fun u h => h) (fun i hi => (T.ex_all i hi).1) T.k_InUse) rfl T.f_isinstance (by decide +kernel) (pa_cons (pv 0) (pa_cons (pe_gl T.g_InUse) pa_nil))) pa_nil))))))
    (pss_cons (ps_set (i := 1) sc__law_place.nd rfl (Or.inl rfl) (pe_op op_cat (pv 1) (pe_lst (pa_cons (pe_callB (cr_isJ (n := 27) (cl := plE K) (c := (.ref (He.ga K "TooMany"))) (f := fun i => decide (i = 21)) (fun u h => h) (fun i hi => (T.ex_all i hi).1) T.k_TooMany) rfl T.f_isinstance (by decide +kernel) (pa_cons (pv 0) (pa_cons (pe_gl T.g_TooMany) pa_nil))) (pa_cons (pe_callB (cr_isJ (n := 27) (cl := plE K) (c := (.ref (He.ga K "Alone"))) (f := fun i => decide (i = 22)) (fun u h => h) (fun i hi => (T.ex_all i hi).1) T.k_Alone) rfl T.f_isinstance (by decide +kernel) (pa_cons (pv 0) (pa_cons (pe_gl T.g_Alone) pa_nil))) (pa_cons (pe_callB (cr_isJ (n := 27) (cl := plE K) (c := (.ref (He.ga K "Waits"))) (f := fun i => decide (i = 23)) (fun u h => h) (fun i hi => (T.ex_all i hi).1) T.k_Waits) rfl T.f_isinstance (by decide +kernel) (pa_cons (pv 0) (pa_cons (pe_gl T.g_Waits) pa_nil))) (pa_cons (pe_callB (cr_isJ (n := 27) (cl := plE K) (c := (.ref (He.ga K "Ended"))) (f := fun i => decide (i = 24)) (fun u h => h) (fun i hi => (T.ex_all i hi).1) T.k_Ended) rfl T.f_isinstance (by decide +kernel) (pa_cons (pv 0) (pa_cons (pe_gl T.g_Ended) pa_nil))) pa_nil)))))))
    (pss_cons (ps_set (i := 1) sc__law_place.nd rfl (Or.inl rfl) (pe_op op_cat (pv 1) (pe_lst (pa_cons (pe_callB (cr_isJ (n := 27) (cl := plE K) (c := (.ref (He.ga K "NothingToUndo"))) (f := fun i => decide (i = 25)) (fun u h => h) (fun i hi => (T.ex_all i hi).1) T.k_NothingToUndo) rfl T.f_isinstance (by decide +kernel) (pa_cons (pv 0) (pa_cons (pe_gl T.g_NothingToUndo) pa_nil))) (pa_cons (pe_callB (cr_isJ (n := 27) (cl := plE K) (c := (.ref (He.ga K "Broken"))) (f := fun i => decide (i = 26)) (fun u h => h) (fun i hi => (T.ex_all i hi).1) T.k_Broken) rfl T.f_isinstance (by decide +kernel) (pa_cons (pv 0) (pa_cons (pe_gl T.g_Broken) pa_nil))) pa_nil)))))
    (pss_cons (ps_set (i := 2) sc__law_place.nd rfl (Or.inl rfl) (pe_lst (pa_cons (pe_callB (cr_isJ (n := 27) (cl := plE K) (c := (.ref (He.ga K "WrongValue"))) (f := fun i => decide (i < 18)) (fun u h => h) (fun i hi => (T.ex_all i hi).1) T.k_WrongValue) rfl T.f_isinstance (by decide +kernel) (pa_cons (pv 0) (pa_cons (pe_gl T.g_WrongValue) pa_nil))) (pa_cons (pe_callB (cr_isJ (n := 27) (cl := plE K) (c := (.ref (He.ga K "WrongName"))) (f := fun i => decide (17 < i) && decide (i < 21)) (fun u h => h) (fun i hi => (T.ex_all i hi).1) T.k_WrongName) rfl T.f_isinstance (by decide +kernel) (pa_cons (pv 0) (pa_cons (pe_gl T.g_WrongName) pa_nil))) (pa_cons (pe_callB (cr_isJ (n := 27) (cl := plE K) (c := (.ref (He.ga K "NoAnswer"))) (f := fun i => decide (20 < i)) (fun u h => h) (fun i hi => (T.ex_all i hi).1) T.k_NoAnswer) rfl T.f_isinstance (by decide +kernel) (pa_cons (pv 0) (pa_cons (pe_gl T.g_NoAnswer) pa_nil))) pa_nil)))))
    (pss_cons (ps_if (PW.pt (pw_or (pt_cmpR op_ne (pe_bm PySem.F.plainAttrs_list PySem.F.slot_list_count PySem.F.type_list_count mt_count (pv 1) (pa_cons pe_bl pa_nil)) pe_int (nomark _)) (pw_or1 (pt_cmpR (op_neD hu) (pv 2) (pe_op op_cat (pe_lst (pa_cons (pe_callB (cr_isJ (n := 27) (cl := plE K) (c := (.ty "ValueError")) (f := fun i => decide (i < 18)) (fun u h => h) (fun i hi => (T.ex_all i hi).1) T.k_ValueError) rfl T.f_isinstance (by decide +kernel) (pa_cons (pv 0) (pa_cons (pe_bltn (v := .ty "ValueError") (u := .type "ValueError") rfl T.f_ValueError (by decide +kernel) rfl) pa_nil))) (pa_cons (pe_callB (cr_isJ (n := 27) (cl := plE K) (c := (.ty "LookupError")) (f := fun i => decide (17 < i) && decide (i < 21)) (fun u h => h) (fun i hi => (T.ex_all i hi).1) T.k_LookupError) rfl T.f_isinstance (by decide +kernel) (pa_cons (pv 0) (pa_cons (pe_bltn (v := .ty "LookupError") (u := .type "LookupError") rfl T.f_LookupError (by decide +kernel) rfl) pa_nil))) pa_nil))) (pe_slice sl_list (pv 2) (po_some pe_int) po_none)) (nomark _))))) (pss_one (ps_ret (pe_un un_neg pe_int))) pss_nil)
    (pss_cons (ps_set (i := 3) sc__law_place.nd rfl (Or.inl rfl) (pe_bm PySem.F.plainAttrs_list PySem.F.slot_list_index PySem.F.type_list_index mt_index (pv 1) (pa_cons pe_bl pa_nil)))
    (pss_cons (ps_if (PW.pt (pw_or (pt_not (pt_cmpR op_eq (pe_callB (cr_isJ (n := 27) (cl := plE K) (c := (.ty "ArithmeticError")) (f := fun i => decide (20 < i)) (fun u h => h) (fun i hi => (T.ex_all i hi).1) T.k_ArithmeticError) rfl T.f_isinstance (by decide +kernel) (pa_cons (pv 0) (pa_cons (pe_bltn (v := .ty "ArithmeticError") (u := .type "ArithmeticError") rfl T.f_ArithmeticError (by decide +kernel) rfl) pa_nil))) (pe_ix ix_list (pv 2) pe_int (fun _ _ => rfl)) (nomark _))) (pw_or1 (pt_cmpR (op_neD hu) (pv 2) (pe_lst (pa_cons (pe_cmpR op_lt (pv 3) pe_int (nomark _)) (pa_cons (pe_chain op_lt op_lt pe_int (pv 3) pe_int) (pa_cons (pe_cmpR op_lt pe_int (pv 3) (nomark _)) pa_nil)))) (nomark _))))) (pss_one (ps_ret (pe_un un_neg pe_int))) pss_nil)
    (pss_one (ps_ret (pv 3)))))))))))))))), ?_⟩
    refine mid9 (fun σ' H' => ∃ l : Addr, σ' = [some x, some (.ref l), none, none] ∧ Same H H' ∧ H' l = some (.lst (ownL i))) ?_ ?_
    · have he0 := he
      have q0 := q
      clear he q
      rintro _ H1 ⟨l, rfl, s1, hl⟩
      have he1 : ErrAt H1 x (plE K i) fs := he0.same s1
      walk_at "rd"
      intro l18 n18
      walk_at "rd"
      refine G.iteKF ?_ ?_
      · show (!decide (V.int ((List.countP (fun z => eqV z (V.bl true)) (ownL i) : Nat) : Int) = V.int 1)) = false
        rw [own_count i hi]
        rfl
      walk_at "rd"
      intro l19 n19
      walk_at "rd"
      intro l20 n20
      walk_at "rd"
      intro l21 n21
      walk_at "rd"
      refine ⟨bD (decide (i < 18)) (decide (17 < i) && decide (i < 21)) (decide (20 < i)), bD (decide (i < 18)) (decide (17 < i) && decide (i < 21)) (decide (20 < i)),
        bD_at (by walk_at "g hp") rfl, bD_at (by walk_at "g hp") rfl, bD_shaped _ _ _, bD_shaped _ _ _, _, rfl, G.iteKF (bD_eqv _ _ _) ?_⟩
      walk_at "rd"
      refine ⟨own_idx hi, rfl, fun m z' hm e => own_bef hm e, ?_⟩
      walk_at "rd"
      refine G.iteKF ?_ ?_
      · simp
      walk_at "rd"
      have z1 : decide ((i : Int) < 18) = decide (i < 18) := by
        rw [decide_eq_decide]
        omega
      have z2 : decide ((i : Int) < 21) = decide (i < 21) := by
        rw [decide_eq_decide]
        omega
      have z3 : decide (20 < (i : Int)) = decide (20 < i) := by
        rw [decide_eq_decide]
        omega
      refine iteD (fun h1 => ?_) (fun h1 => ?_)
      · walk_at "rd"
        intro l22 n22
        walk_at "rd"
        refine ⟨bD (decide (i < 18)) (decide (17 < i) && decide (i < 21)) (decide (20 < i)), bD (decide (i < 18)) (decide (17 < i) && decide (i < 21)) (decide (20 < i)),
          bD_at (by walk_at "g hp") rfl, bD_at (ys := _) (by walk_at "g hp") (by dsimp only; rw [z1, z2, z3, show decide (17 < i) = true from decide_eq_true (by omega), Bool.true_and]), bD_shaped _ _ _, bD_shaped _ _ _, _, rfl, G.iteKF (bD_eqv _ _ _) ?_⟩
        walk_at "rd"
        exact q0 _ (by walk_at "g but")
      · walk_at "rd"
        intro l22 n22
        walk_at "rd"
        refine ⟨bD (decide (i < 18)) (decide (17 < i) && decide (i < 21)) (decide (20 < i)), bD (decide (i < 18)) (decide (17 < i) && decide (i < 21)) (decide (20 < i)),
          bD_at (by walk_at "g hp") rfl, bD_at (ys := _) (by walk_at "g hp") (by dsimp only; rw [z1, z3, show decide (17 < i) = false from decide_eq_false (by omega), Bool.false_and]), bD_shaped _ _ _, bD_shaped _ _ _, _, rfl, G.iteKF (bD_eqv _ _ _) ?_⟩
        walk_at "rd"
        exact q0 _ (by walk_at "g but")
    · intro u hu
      walk_at "rd"
      intro l1 n1
      walk_at "rd"
      intro l2 n2
      walk_at "rd"
      intro l3 n3
      walk_at "rd"
      intro l4 n4
      walk_at "rd"
      intro l5 n5
      walk_at "rd"
      intro l6 n6
      walk_at "rd"
      intro l7 n7
      walk_at "rd"
      intro l8 n8
      walk_at "rd"
      intro l9 n9
      walk_at "rd"
      intro l10 n10
      walk_at "rd"
      intro l11 n11
      walk_at "rd"
      intro l12 n12
      walk_at "rd"
      intro l13 n13
      walk_at "rd"
      intro l14 n14
      walk_at "rd"
      intro l15 n15
      walk_at "rd"
      intro l16 n16
      walk_at "rd"
      intro l17 n17
      walk_at "rd"
      exact hu _ _ ⟨l17, rfl, by walk_at "g but", upd_same⟩
theorem c_place (T : Tx K mg) : Cal P w K mg base CX 1 "_law_place" [] (spPlace K) := by
  obtain ⟨fd, F⟩ := T.d__law_place
  exact .mk F (ok_place T F) T.n__law_place fun _ _ _ _ _ _ us hl => match us, hl with | [_], _ => rfl
end
end G
namespace G
open PySem PySem.Spec PyProof.Rows L2
/-! ### a heap without the pool -/
def Hm (p : Addr) (H : Hp) : Hp := fun a => if a = p then none else H a
theorem Hm_get {p a : Addr} {H : Hp} {o : HO} (n : a ≠ p) (e : H a = some o) : Hm p H a = some o := by
  unfold Hm
  rw [if_neg n]
  exact e
theorem Hm_of {p : Addr} {H : Hp} : Same (Hm p H) H := fun a o e => by
  unfold Hm at e
  by_cases h : a = p
  · rw [if_pos h] at e
    cases e
  · rw [if_neg h] at e
    exact e
theorem Hm_but {p : Addr} {H H' : Hp} (b : But p H H') : Same (Hm p H) (Hm p H') := fun a o e => by
  unfold Hm at e
  by_cases h : a = p
  · rw [if_pos h] at e
    cases e
  · rw [if_neg h] at e
    exact Hm_get h (b a o h e)
theorem DqAll.get {H : Hp} : ∀ {vs : List V} {ds : List PyData}, DqAll H vs ds → ∀ {i : Nat} {v : V}, vs[i]? = some v → ∃ d, ds[i]? = some d ∧ Dq H v d
  | _, _, .nil, i, v, e => by simp at e
  | _, _, .cons h1 h2, 0, v, e => by
    simp at e
    subst e
    exact ⟨_, rfl, h1⟩
  | _, _, .cons h1 h2, i + 1, v, e => by
    simp at e
    obtain ⟨d, e2, q⟩ := DqAll.get h2 e
    exact ⟨d, by simpa using e2, q⟩
theorem DqAll.len {H : Hp} : ∀ {vs : List V} {ds : List PyData}, DqAll H vs ds → vs.length = ds.length
  | _, _, .nil => rfl
  | _, _, .cons h1 h2 => by rw [List.length_cons, List.length_cons, DqAll.len h2]
/-! ### small things -/
structure SmallD (d : PyData) : Prop where
  sh : d.showable = true
  dp : d.depth ≤ 2
  ln : d.shown.length ≤ 60
theorem small_int {i : Int} (h0 : -501 < i) (h1 : i < 501) : SmallD (.int i) := by
  have a : ∀ n : Fin 1001, (PyData.int ((n.val : Int) - 500)).showable = true ∧ (PyData.int ((n.val : Int) - 500)).shown.length ≤ 60 := by decide +kernel
  obtain ⟨n, hn⟩ : ∃ n : Fin 1001, ((n.val : Int) - 500) = i := ⟨⟨(i + 500).toNat, by omega⟩, by dsimp only; omega⟩
  have b := a n
  rw [hn] at b
  exact ⟨b.1, Nat.zero_le _, b.2⟩
def things (z : Int) : List PyData := [.none, .int 0, .bool true, .str "x", .tuple [], .list [.int 1], .dict [], .int (-1), .int (10 ^ 38), .tuple [.str "a", .none], .str "", .list [.list []], .dict [(.str "a", .int 1)], .int z]
theorem things_small {z : Int} (h0 : -501 < z) (h1 : z < 501) {i : Nat} {d : PyData} (e : (things z)[i]? = some d) : SmallD d := by
  have a : ∀ d ∈ (things 0).take 13, d.showable = true ∧ d.depth ≤ 2 ∧ d.shown.length ≤ 60 := by decide +kernel
  by_cases hi : i < 13
  · have e2 : ((things 0).take 13)[i]? = some d := by
      rw [← e]
      rw [List.getElem?_take, if_pos hi]
      show ((things 0).take 13 ++ [PyData.int 0])[i]? = ((things 0).take 13 ++ [PyData.int z])[i]?
      rw [List.getElem?_append_left hi, List.getElem?_append_left hi]
    obtain ⟨b1, b2, b3⟩ := a d (List.mem_of_getElem? e2)
    exact ⟨b1, b2, b3⟩
  · have hl := (List.getElem?_eq_some_iff.mp e).1
    have h13 : i = 13 := by
      have : (things z).length = 14 := rfl
      omega
    subst h13
    have : d = .int z := (Option.some.inj e).symm
    rw [this]
    exact small_int h0 h1
theorem pick {p : Addr} {H : Hp} {xs : List V} {z r : Int} {Q : VK} (all : DqAll (Hm p H) xs (things z)) (r0 : 0 ≤ r) (r1 : r < 14) (h0 : -501 < z) (h1 : z < 501)
    (q : ∀ v d, Dq (Hm p H) v d → SmallD d → Q v H) : atI xs r = some (xs.getD r.toNat .non) ∧ Q (xs.getD r.toNat .non) H := by
  have lt : r.toNat < xs.length := by
    rw [all.len]
    show r.toNat < 14
    omega
  have e : xs[r.toNat]? = some (xs.getD r.toNat .non) := by
    rw [List.getElem?_eq_getElem lt, List.getD_eq_getElem?_getD, List.getElem?_eq_getElem lt]
    rfl
  obtain ⟨d, e2, hd⟩ := all.get e
  exact ⟨at_any (j := r.toNat) (by omega) e, q _ d hd (things_small h0 h1 e2)⟩
section
variable {P : Program} {w : World} {K : PySem.W.Frag} {mg : Str → Option Value} {base : Heap} {CX : CXT}
def spThing : Sp := fun vs H Q _ => ∃ (p : Addr), vs = [.ref p] ∧ PoolAt H p ∧ ∀ H' x d, Pl p H H' → Dq (Hm p H') x d → SmallD d → Q x H'
theorem ok_thing {f : Addr} {fd : FuncData} {dvs : List V} {kws : List (Str × V)} (T : Tx K mg)
    (F : FunD K "_law_thing" "_law_thing" (defArgs s__law_thing) (defBody s__law_thing) (defScope s__law_thing) dvs kws f fd) :
    FnG P w K mg base CX0 2 f fd ["_law_pool_here"] spThing := by
  have c__law_draw : Cal P w K mg base CX0 1 "_law_draw" [] spDraw := c_draw T
  refine okG F sc__law_thing (fun vs H Q E h => ?_) (fun cdv A outer s H vs Q E hr hgd h => ?_)
  · obtain ⟨p, rfl, _⟩ := h
    rfl
  · obtain ⟨p, rfl, hp, q⟩ := h
    have hu := hr.units
    refine ⟨_, PSs.nox (pss_cons (ps_par (i := 1) (j := 2) rfl sc__law_thing.nd rfl rfl (by decide) rfl rfl (pa_cons (pe_cal c__law_draw (hr.mono (by decide)) hgd pass0 (pa_cons (pv 0) (pa_cons pe_int pa_nil))) (pa_cons (pe_op op_sub (pe_cal c__law_draw (hr.mono (by decide)) hgd pass0 (pa_cons (pv 0) (pa_cons pe_int pa_nil))) pe_int) pa_nil)) (by rfl))
    (pss_cons (ps_set (i := 3) sc__law_thing.nd rfl (Or.inl rfl) (pe_lst (pa_cons pe_non (pa_cons pe_int (pa_cons pe_bl (pa_cons pe_str (pa_cons (pe_tup pa_nil) (pa_cons (pe_lst (pa_cons pe_int pa_nil)) (pa_cons pe_dnewK (pa_cons (pe_un un_neg pe_int) (pa_cons (pe_op op_pow pe_int pe_int) (pa_cons (pe_tup (pa_cons pe_str (pa_cons pe_non pa_nil))) (pa_cons pe_str (pa_cons (pe_lst (pa_cons (pe_lst pa_nil) pa_nil)) (pa_cons (pe_disp (pps_cons pe_str pe_int pps_nil) rfl rfl (by decide) (by decide)) (pa_cons (pv 2) pa_nil))))))))))))))))
    (pss_one (ps_ret (pe_ix ix_list (pv 3) (pv 1) (fun _ _ => rfl)))))), ?_⟩
    walk_at "rd"
    intro H1 r p1 r0 r1
    have hp1 := p1.pool
    walk_at "rd"
    intro H2 z p2 z0 z1
    have hp2 := p2.pool
    walk_at "rd"
    intro t1 nt1
    walk_at "rd"
    intro l1 nl1
    walk_at "rd"
    intro d1 nd1
    walk_at "rd"
    intro t2 nt2
    walk_at "rd"
    intro l2 nl2
    walk_at "rd"
    intro l3 nl3
    walk_at "rd"
    intro d2 nd2
    walk_at "rd"
    refine ⟨[(.inr "a", .int 1)], rfl, by decide, ?_⟩
    rw [L2.upd_upd]
    walk_at "rd"
    intro l nl
    walk_at "rd"
    have ne1 : t1 ≠ p := PoolAt.ne_new hp2 nt1
    have ne2 : l1 ≠ p := PoolAt.ne_new hp2 (upd_free nl1)
    have ne3 : d1 ≠ p := PoolAt.ne_new hp2 (upd_free (upd_free nd1))
    have ne4 : t2 ≠ p := PoolAt.ne_new hp2 (upd_free (upd_free (upd_free nt2)))
    have ne5 : l2 ≠ p := PoolAt.ne_new hp2 (upd_free (upd_free (upd_free (upd_free nl2))))
    have ne6 : l3 ≠ p := PoolAt.ne_new hp2 (upd_free (upd_free (upd_free (upd_free (upd_free nl3)))))
    have ne7 : d2 ≠ p := PoolAt.ne_new hp2 (upd_free (upd_free (upd_free (upd_free (upd_free (upd_free nd2))))))
    refine pick (Q := Q) (p := p) (z := z - 500) (.cons .non (.cons (.int 0) (.cons (.bl true) (.cons (.str "x") (.cons (.tup (Hm_get ne1 (by walk_at "g hp")) .nil)
      (.cons (.lst (Hm_get ne2 (by walk_at "g hp")) (.cons (.int 1) .nil)) (.cons (.dct (kvs := []) (ds := []) (Hm_get ne3 (by walk_at "g hp")) .nil .nil) (.cons (.int (-1)) (.cons (.int (10 ^ 38))
      (.cons (.tup (Hm_get ne4 (by walk_at "g hp")) (.cons (.str "a") (.cons .non .nil))) (.cons (.str "") (.cons (.lst (Hm_get ne6 (by walk_at "g hp")) (.cons (.lst (Hm_get ne5 (by walk_at "g hp")) .nil) .nil))
      (.cons (.dct (kvs := [(.inr "a", .int 1)]) (ds := [(.str "a", .int 1)]) (Hm_get ne7 (by walk_at "g hp")) (.cons (.str "a") .nil) (.cons (.int 1) .nil)) (.cons (.int (z - 500)) .nil))))))))))))))
      r0 r1 (by omega) (by omega) fun v d hd sd => q _ v d (by walk_at "g but") hd sd
end
end G
namespace G
open PySem PySem.Spec PyProof.Rows L2
/-! ### what an error keeps -/
/-- the attributes of an error of the i-th class, made of o (and m) -/
def odF (i : Nat) (o m : V) : List (Str × V) :=
  if i < 10 then gF1 "given" [o] else if i < 18 then gF1 "index" [o] else if i < 20 then gF1 "given" [o] else if i < 21 then gF1 "index" [o] else
  if i < 22 then gF1 "limit" [o] else if i < 23 then gF1 "given" [o] else if i < 25 then gF1 "hand" [o] else if i < 26 then [] else gF2 "index" "shown" [o, m]
theorem od_given {i : Nat} {o m : V} (h : i < 10 ∨ i = 18 ∨ i = 19 ∨ i = 22) : ([0, 1, 2, 3, 4, 5, 6, 7, 8, 9, 18, 19, 22].contains i) = true ∧ (odF i o m).lookup ("given" : Str) = some o := by
  have a : ∀ i < 27, i < 10 ∨ i = 18 ∨ i = 19 ∨ i = 22 → ([0, 1, 2, 3, 4, 5, 6, 7, 8, 9, 18, 19, 22].contains i) = true := by decide
  have b : odF i o m = gF1 "given" [o] := by
    unfold odF
    repeat' split
    all_goals first | rfl | omega
  exact ⟨a i (by omega) h, by rw [b]; rfl⟩
theorem od_index {i : Nat} {o m : V} (h : (10 ≤ i ∧ i < 18) ∨ i = 20 ∨ i = 26) : ([10, 11, 12, 13, 14, 15, 16, 17, 20, 26].contains i) = true ∧ (odF i o m).lookup ("index" : Str) = some o := by
  have a : ∀ i < 27, (10 ≤ i ∧ i < 18) ∨ i = 20 ∨ i = 26 → ([10, 11, 12, 13, 14, 15, 16, 17, 20, 26].contains i) = true := by decide
  refine ⟨a i (by omega) h, ?_⟩
  unfold odF
  repeat' split
  all_goals first | rfl | omega
theorem od_limit {o m : V} : ([21].contains 21) = true ∧ (odF 21 o m).lookup ("limit" : Str) = some o := ⟨rfl, rfl⟩
theorem od_shown {o m : V} : ([26].contains 26) = true ∧ (odF 26 o m).lookup ("shown" : Str) = some m := ⟨rfl, rfl⟩
theorem od_hand {i : Nat} {o m : V} (h : i = 23 ∨ i = 24) : ([23, 24].contains i) = true ∧ (odF i o m).lookup ("hand" : Str) = some o := by
  rcases h with rfl | rfl <;> exact ⟨rfl, rfl⟩
section
variable {P : Program} {w : World} {K : PySem.W.Frag} {mg : Str → Option Value} {base : Heap} {CX : CXT}
def spKept (K : PySem.W.Frag) : Sp := fun vs H Q _ => ∃ (x : V) (i : Nat) (o m : V), vs = [x, .int i] ∧ i < 27 ∧ ErrAt H x (plE K i) (odF i o m) ∧
  (i < 25 → ∀ H', Same H H' → Q o H') ∧ (i = 25 → ∀ H', Same H H' → Q .non H') ∧ (i = 26 → ∀ t H', Same H H' → H' t = some (.tup [o, m]) → Q (.ref t) H')
theorem ok_kept {f : Addr} {fd : FuncData} {dvs : List V} {kws : List (Str × V)} (T : Tx K mg)
    (F : FunD K "_law_kept" "_law_kept" (defArgs s__law_kept) (defBody s__law_kept) (defScope s__law_kept) dvs kws f fd) :
    FnG P w K mg base CX 1 f fd ["_law_e", "_law_at"] (spKept K) := by
  refine okG F sc__law_kept (fun vs H Q E h => ?_) (fun cdv A outer s H vs Q E hr hgd h => ?_)
  · obtain ⟨x, i, o, m, rfl, _⟩ := h
    rfl
  · obtain ⟨x, i, o, m, rfl, hi, he, q1, q2, q3⟩ := h
    have hu := hr.units
    refine ⟨_, PSs.nox (pss_cons (ps_if (PW.pt (pw_or (pt_cmpR op_lt (pv 1) pe_int (nomark _)) (pw_or1 (pt_cmpR op_eq (pv 1) pe_int (nomark _))))) (pss_one (ps_ret pe_non)) pss_nil)
    (pss_cons (ps_if (PW.pt (pw_or (pt_cmpR op_lt (pv 1) pe_int (nomark _)) (pw_or1 (pt_cmpR op_in_seq (pv 1) (pe_lst (pa_cons pe_int (pa_cons pe_int (pa_cons pe_int pa_nil)))) rfl)))) (pss_one (ps_ret (pe_errfld (n := 27) (cl := plE K) (fun i hi => (T.ex_all i hi).2) T.nf_given (pv 0)))) pss_nil)
    (pss_cons (ps_if (PW.pt (pw_or (pt_cmpR op_lt (pv 1) pe_int (nomark _)) (pw_or1 (pt_cmpR op_eq (pv 1) pe_int (nomark _))))) (pss_one (ps_ret (pe_errfld (n := 27) (cl := plE K) (fun i hi => (T.ex_all i hi).2) T.nf_index (pv 0)))) pss_nil)
    (pss_cons (ps_if (pt_cmpR op_eq (pv 1) pe_int (nomark _)) (pss_one (ps_ret (pe_errfld (n := 27) (cl := plE K) (fun i hi => (T.ex_all i hi).2) T.nf_limit (pv 0)))) pss_nil)
    (pss_one (ps_ret (pe_ifExp (pt_cmpR op_lt (pv 1) pe_int (nomark _)) (pe_errfld (n := 27) (cl := plE K) (fun i hi => (T.ex_all i hi).2) T.nf_hand (pv 0)) (pe_tup (pa_cons (pe_errfld (n := 27) (cl := plE K) (fun i hi => (T.ex_all i hi).2) T.nf_index (pv 0)) (pa_cons (pe_errfld (n := 27) (cl := plE K) (fun i hi => (T.ex_all i hi).2) T.nf_shown (pv 0)) pa_nil)))))))))), ?_⟩
    walk_at "rd"
    refine iteD (fun h1 => ?_) (fun h1 => ?_)
    · have := V.int.inj h1
      walk_at "rd"
      exact q2 (by omega) _ (.refl _)
    have h1' : i ≠ 25 := fun e => h1 (by rw [e]; rfl)
    walk_at "rd"
    refine iteD (fun h2 => ?_) (fun h2 => ?_)
    · walk_at "rd"
      have z := od_given (i := i) (o := o) (m := m) (.inl (by omega))
      exact ⟨z.1, z.2, q1 (by omega) _ (.refl _)⟩
    walk_at "rd"
    intro l nl
    walk_at "rd"
    have he1 : ErrAt (upd H l (.lst [V.int 18, V.int 19, V.int 22])) x (plE K i) (odF i o m) := he.same (by walk_at "g but")
    have s1 : Same H (upd H l (.lst [V.int 18, V.int 19, V.int 22])) := by walk_at "g but"
    refine iteB (fun h3 => ?_) (fun h3 => ?_)
    · have h4 : i = 18 ∨ i = 19 ∨ i = 22 := by
        simp [inV, eqV] at h3
        omega
      have z := od_given (i := i) (o := o) (m := m) (.inr h4)
      walk_at "rd"
      exact ⟨z.1, z.2, q1 (by omega) _ s1⟩
    have h3' : i ≠ 18 ∧ i ≠ 19 ∧ i ≠ 22 := by
      simp [inV, eqV] at h3
      omega
    generalize upd H l (.lst [V.int 18, V.int 19, V.int 22]) = H1 at he1 s1 ⊢
    clear nl he
    walk_at "rd"
    refine iteD (fun h5 => ?_) (fun h5 => ?_)
    · walk_at "rd"
      have z := od_index (i := i) (o := o) (m := m) (.inl (by omega))
      exact ⟨z.1, z.2, q1 (by omega) _ s1⟩
    walk_at "rd"
    refine iteD (fun h6 => ?_) (fun h6 => ?_)
    · have h6' := V.int.inj h6
      walk_at "rd"
      have z := od_index (i := i) (o := o) (m := m) (.inr (.inl (by omega)))
      exact ⟨z.1, z.2, q1 (by omega) _ s1⟩
    have h6' : i ≠ 20 := fun e => h6 (by rw [e]; rfl)
    walk_at "rd"
    refine iteD (fun h7 => ?_) (fun h7 => ?_)
    · have h7' : i = 21 := by
        have := V.int.inj h7
        omega
      subst h7'
      walk_at "rd"
      exact q1 (by omega) _ s1
    have h7' : i ≠ 21 := fun e => h7 (by rw [e]; rfl)
    walk_at "rd"
    refine iteD (fun h8 => ?_) (fun h8 => ?_)
    · walk_at "rd"
      have z := od_hand (i := i) (o := o) (m := m) (by omega)
      exact ⟨z.1, z.2, q1 (by omega) _ s1⟩
    have h9 : i = 26 := by omega
    subst h9
    walk_at "rd"
    intro t nt
    exact q3 rfl _ _ (s1.new nt) upd_same
theorem c_kept (T : Tx K mg) : Cal P w K mg base CX 1 "_law_kept" [] (spKept K) := by
  obtain ⟨fd, F⟩ := T.d__law_kept
  exact .mk F (ok_kept T F) T.n__law_kept fun _ _ _ _ _ _ us hl => match us, hl with | [_, _], _ => rfl
end
end G
namespace G
open PySem PySem.Spec PyProof.Rows L2
/-- errors of the classes from the j-th on -/
inductive ErAll (K : PySem.W.Frag) (o m : V) (H : Hp) : Nat → List V → Prop
  | nil {j : Nat} : ErAll K o m H j []
  | cons {j : Nat} {y : V} {ys : List V} : ErrAt H y (plE K j) (odF j o m) → ErAll K o m H (j + 1) ys → ErAll K o m H j (y :: ys)
theorem ErAll.same {K : PySem.W.Frag} {o m : V} {H H' : Hp} (s : Same H H') : ∀ {j : Nat} {ys : List V}, ErAll K o m H j ys → ErAll K o m H' j ys
  | _, _, .nil => .nil
  | _, _, .cons h t => .cons (h.same s) (ErAll.same s t)
theorem ErAll.get {K : PySem.W.Frag} {o m : V} {H : Hp} : ∀ {j : Nat} {ys : List V}, ErAll K o m H j ys → ∀ {k : Nat} {y : V}, ys[k]? = some y → ErrAt H y (plE K (j + k)) (odF (j + k) o m)
  | _, _, .nil, k, y, e => by simp at e
  | _, _, .cons h t, 0, y, e => by
    simp at e
    exact e ▸ h
  | j, _, .cons h t, k + 1, y, e => by
    simp at e
    have z := ErAll.get t e
    rw [show j + (k + 1) = j + 1 + k from by omega]
    exact z
section
variable {P : Program} {w : World} {K : PySem.W.Frag} {mg : Str → Option Value} {base : Heap} {CX : CXT}
def sp_made (K : PySem.W.Frag) : Sp := fun vs H Q _ => ∃ o m : V, vs = [o, m] ∧ ∀ H' l es, Same H H' → H' l = some (.lst es) → es.length = 27 → ErAll K o m H' 0 es → Q (.ref l) H'
theorem ok_made {f : Addr} {fd : FuncData} {dvs : List V} {kws : List (Str × V)} (T : Tx K mg)
    (F : FunD K "_law_made" "_law_made" (defArgs s__law_made) (defBody s__law_made) (defScope s__law_made) dvs kws f fd) :
    FnG P w K mg base CX 3 f fd ["_law_odd", "_law_more"] (sp_made K) := by
  refine okG F sc__law_made (fun vs H Q E h => ?_) (fun cdv A outer s H vs Q E hr hgd h => ?_)
  · obtain ⟨o, m, rfl, _⟩ := h
    rfl
  · obtain ⟨o, m, rfl, q⟩ := h
    have hu := hr.units
    refine ⟨_, PSs.nox (pss_cons (ps_set (i := 2) sc__law_made.nd rfl (Or.inl rfl) (pe_lst (pa_cons (pe_err (e_InvalidName T) (hr.mono (by decide)) (pa_cons (pv 0) pa_nil) (by decide)) (pa_cons (pe_err (e_InvalidText T) (hr.mono (by decide)) (pa_cons (pv 0) pa_nil) (by decide)) (pa_cons (pe_err (e_InvalidFlag T) (hr.mono (by decide)) (pa_cons (pv 0) pa_nil) (by decide)) (pa_cons (pe_err (e_InvalidNumber T) (hr.mono (by decide)) (pa_cons (pv 0) pa_nil) (by decide)) (pa_cons (pe_err (e_InvalidThing T) (hr.mono (by decide)) (pa_cons (pv 0) pa_nil) (by decide)) pa_nil)))))))
    (pss_cons (ps_set (i := 2) sc__law_made.nd rfl (Or.inl rfl) (pe_op op_cat (pv 2) (pe_lst (pa_cons (pe_err (e_InvalidChoice T) (hr.mono (by decide)) (pa_cons (pv 0) pa_nil) (by decide)) (pa_cons (pe_err (e_InvalidWish T) (hr.mono (by decide)) (pa_cons (pv 0) pa_nil) (by decide)) (pa_cons (pe_err (e_InvalidSet T) (hr.mono (by decide)) (pa_cons (pv 0) pa_nil) (by decide)) (pa_cons (pe_err (e_InvalidIndex T) (hr.mono (by decide)) (pa_cons (pv 0) pa_nil) (by decide)) (pa_cons (pe_err (e_NotASystem T) (hr.mono (by decide)) (pa_cons (pv 0) pa_nil) (by decide)) pa_nil))))))))
    (pss_cons (ps_set (i := 2) sc__law_made.nd rfl (Or.inl rfl) (pe_op op_cat (pv 2) (pe_lst (pa_cons (pe_err (e_InvalidGates T) (hr.mono (by decide)) (pa_cons (pv 0) pa_nil) (by decide)) (pa_cons (pe_err (e_InvalidKinds T) (hr.mono (by decide)) (pa_cons (pv 0) pa_nil) (by decide)) (pa_cons (pe_err (e_InvalidRows T) (hr.mono (by decide)) (pa_cons (pv 0) pa_nil) (by decide)) (pa_cons (pe_err (e_InvalidMembers T) (hr.mono (by decide)) (pa_cons (pv 0) pa_nil) (by decide)) (pa_cons (pe_err (e_InvalidNumbers T) (hr.mono (by decide)) (pa_cons (pv 0) pa_nil) (by decide)) pa_nil))))))))
    (pss_cons (ps_set (i := 2) sc__law_made.nd rfl (Or.inl rfl) (pe_op op_cat (pv 2) (pe_lst (pa_cons (pe_err (e_InvalidRun T) (hr.mono (by decide)) (pa_cons (pv 0) pa_nil) (by decide)) (pa_cons (pe_err (e_InvalidThings T) (hr.mono (by decide)) (pa_cons (pv 0) pa_nil) (by decide)) (pa_cons (pe_err (e_InvalidChanges T) (hr.mono (by decide)) (pa_cons (pv 0) pa_nil) (by decide)) (pa_cons (pe_err (e_UnknownName T) (hr.mono (by decide)) (pa_cons (pv 0) pa_nil) (by decide)) (pa_cons (pe_err (e_UnknownHand T) (hr.mono (by decide)) (pa_cons (pv 0) pa_nil) (by decide)) pa_nil))))))))
    (pss_cons (ps_set (i := 2) sc__law_made.nd rfl (Or.inl rfl) (pe_op op_cat (pv 2) (pe_lst (pa_cons (pe_err (e_InUse T) (hr.mono (by decide)) (pa_cons (pv 0) pa_nil) (by decide)) (pa_cons (pe_err (e_TooMany T) (hr.mono (by decide)) (pa_cons (pv 0) pa_nil) (by decide)) (pa_cons (pe_err (e_Alone T) (hr.mono (by decide)) (pa_cons (pv 0) pa_nil) (by decide)) (pa_cons (pe_err (e_Waits T) (hr.mono (by decide)) (pa_cons (pv 0) pa_nil) (by decide)) (pa_cons (pe_err (e_Ended T) (hr.mono (by decide)) (pa_cons (pv 0) pa_nil) (by decide)) (pa_cons (pe_err0 base_AE.F (T.ei_NothingToUndo).1 (T.ei_NothingToUndo).2 T.g_NothingToUndo) pa_nil)))))))))
    (pss_one (ps_ret (pe_op op_cat (pv 2) (pe_lst (pa_cons (pe_err (e_Broken T) (hr.mono (by decide)) (pa_cons (pv 0) (pa_cons (pv 1) pa_nil)) (by decide)) pa_nil)))))))))), ?_⟩
    clear F hr hgd
    walk_at "rd"
    intro y0 G0 s0 e0
    walk_at "rd"
    intro y1 G1 s1 e1
    walk_at "rd"
    intro y2 G2 s2 e2
    walk_at "rd"
    intro y3 G3 s3 e3
    walk_at "rd"
    intro y4 G4 s4 e4
    walk_at "rd"
    intro l0 nl0
    walk_at "rd"
    intro y5 G5 s5 e5
    walk_at "rd"
    intro y6 G6 s6 e6
    walk_at "rd"
    intro y7 G7 s7 e7
    walk_at "rd"
    intro y8 G8 s8 e8
    walk_at "rd"
    intro y9 G9 s9 e9
    walk_at "rd"
    intro l1 nl1
    walk_at "rd"
    intro m1 nm1
    walk_at "rd"
    intro y10 G10 s10 e10
    walk_at "rd"
    intro y11 G11 s11 e11
    walk_at "rd"
    intro y12 G12 s12 e12
    walk_at "rd"
    intro y13 G13 s13 e13
    walk_at "rd"
    intro y14 G14 s14 e14
    walk_at "rd"
    intro l2 nl2
    walk_at "rd"
    intro m2 nm2
    walk_at "rd"
    intro y15 G15 s15 e15
    walk_at "rd"
    intro y16 G16 s16 e16
    walk_at "rd"
    intro y17 G17 s17 e17
    walk_at "rd"
    intro y18 G18 s18 e18
    walk_at "rd"
    intro y19 G19 s19 e19
    walk_at "rd"
    intro l3 nl3
    walk_at "rd"
    intro m3 nm3
    walk_at "rd"
    intro y20 G20 s20 e20
    walk_at "rd"
    intro y21 G21 s21 e21
    walk_at "rd"
    intro y22 G22 s22 e22
    walk_at "rd"
    intro y23 G23 s23 e23
    walk_at "rd"
    intro y24 G24 s24 e24
    walk_at "rd"
    intro y25 G25 s25 e25
    walk_at "rd"
    intro l4 nl4
    walk_at "rd"
    intro m4 nm4
    walk_at "rd"
    intro y26 G26 s26 e26
    walk_at "rd"
    intro lz nlz
    walk_at "rd"
    intro mz nmz
    refine q _ mz _ (by walk_at "g but") upd_same rfl (.cons (e0.same (by walk_at "g but")) (.cons (e1.same (by walk_at "g but")) (.cons (e2.same (by walk_at "g but")) (.cons (e3.same (by walk_at "g but")) (.cons (e4.same (by walk_at "g but")) (.cons (e5.same (by walk_at "g but")) (.cons (e6.same (by walk_at "g but")) (.cons (e7.same (by walk_at "g but")) (.cons (e8.same (by walk_at "g but")) (.cons (e9.same (by walk_at "g but")) (.cons (e10.same (by walk_at "g but")) (.cons (e11.same (by walk_at "g but")) (.cons (e12.same (by walk_at "g but")) (.cons (e13.same (by walk_at "g but")) (.cons (e14.same (by walk_at "g but")) (.cons (e15.same (by walk_at "g but")) (.cons (e16.same (by walk_at "g but")) (.cons (e17.same (by walk_at "g but")) (.cons (e18.same (by walk_at "g but")) (.cons (e19.same (by walk_at "g but")) (.cons (e20.same (by walk_at "g but")) (.cons (e21.same (by walk_at "g but")) (.cons (e22.same (by walk_at "g but")) (.cons (e23.same (by walk_at "g but")) (.cons (e24.same (by walk_at "g but")) (.cons (e25.same (by walk_at "g but")) (.cons (e26.same (by walk_at "g but")) .nil)))))))))))))))))))))))))))
theorem c_made (T : Tx K mg) : Cal P w K mg base CX 3 "_law_made" [] (sp_made K) := by
  obtain ⟨fd, F⟩ := T.d__law_made
  exact .mk F (ok_made T F) T.n__law_made fun _ _ _ _ _ _ us hl => match us, hl with | [_, _], _ => rfl
def sp_made_by_name (K : PySem.W.Frag) : Sp := fun vs H Q _ => ∃ o m : V, vs = [o, m] ∧ ∀ H' l es, Same H H' → H' l = some (.lst es) → es.length = 27 → ErAll K o m H' 0 es → Q (.ref l) H'
theorem ok_made_by_name {f : Addr} {fd : FuncData} {dvs : List V} {kws : List (Str × V)} (T : Tx K mg)
    (F : FunD K "_law_made_by_name" "_law_made_by_name" (defArgs s__law_made_by_name) (defBody s__law_made_by_name) (defScope s__law_made_by_name) dvs kws f fd) :
    FnG P w K mg base CX 3 f fd ["_law_odd", "_law_more"] (sp_made_by_name K) := by
  refine okG F sc__law_made_by_name (fun vs H Q E h => ?_) (fun cdv A outer s H vs Q E hr hgd h => ?_)
  · obtain ⟨o, m, rfl, _⟩ := h
    rfl
  · obtain ⟨o, m, rfl, q⟩ := h
    have hu := hr.units
    refine ⟨_, PSs.nox (pss_cons (ps_set (i := 2) sc__law_made_by_name.nd rfl (Or.inl rfl) (pe_lst (pa_cons (pe_errN (e_InvalidName_given T) (hr.mono (by decide)) (pk_cons (pv 0) pk_nil)) (pa_cons (pe_errN (e_InvalidText_given T) (hr.mono (by decide)) (pk_cons (pv 0) pk_nil)) (pa_cons (pe_errN (e_InvalidFlag_given T) (hr.mono (by decide)) (pk_cons (pv 0) pk_nil)) (pa_cons (pe_errN (e_InvalidNumber_given T) (hr.mono (by decide)) (pk_cons (pv 0) pk_nil)) pa_nil))))))
    (pss_cons (ps_set (i := 2) sc__law_made_by_name.nd rfl (Or.inl rfl) (pe_op op_cat (pv 2) (pe_lst (pa_cons (pe_errN (e_InvalidThing_given T) (hr.mono (by decide)) (pk_cons (pv 0) pk_nil)) (pa_cons (pe_errN (e_InvalidChoice_given T) (hr.mono (by decide)) (pk_cons (pv 0) pk_nil)) (pa_cons (pe_errN (e_InvalidWish_given T) (hr.mono (by decide)) (pk_cons (pv 0) pk_nil)) (pa_cons (pe_errN (e_InvalidSet_given T) (hr.mono (by decide)) (pk_cons (pv 0) pk_nil)) pa_nil)))))))
    (pss_cons (ps_set (i := 2) sc__law_made_by_name.nd rfl (Or.inl rfl) (pe_op op_cat (pv 2) (pe_lst (pa_cons (pe_errN (e_InvalidIndex_given T) (hr.mono (by decide)) (pk_cons (pv 0) pk_nil)) (pa_cons (pe_errN (e_NotASystem_given T) (hr.mono (by decide)) (pk_cons (pv 0) pk_nil)) (pa_cons (pe_errN (e_InvalidGates_index T) (hr.mono (by decide)) (pk_cons (pv 0) pk_nil)) (pa_cons (pe_errN (e_InvalidKinds_index T) (hr.mono (by decide)) (pk_cons (pv 0) pk_nil)) pa_nil)))))))
    (pss_cons (ps_set (i := 2) sc__law_made_by_name.nd rfl (Or.inl rfl) (pe_op op_cat (pv 2) (pe_lst (pa_cons (pe_errN (e_InvalidRows_index T) (hr.mono (by decide)) (pk_cons (pv 0) pk_nil)) (pa_cons (pe_errN (e_InvalidMembers_index T) (hr.mono (by decide)) (pk_cons (pv 0) pk_nil)) (pa_cons (pe_errN (e_InvalidNumbers_index T) (hr.mono (by decide)) (pk_cons (pv 0) pk_nil)) pa_nil))))))
    (pss_cons (ps_set (i := 2) sc__law_made_by_name.nd rfl (Or.inl rfl) (pe_op op_cat (pv 2) (pe_lst (pa_cons (pe_errN (e_InvalidRun_index T) (hr.mono (by decide)) (pk_cons (pv 0) pk_nil)) (pa_cons (pe_errN (e_InvalidThings_index T) (hr.mono (by decide)) (pk_cons (pv 0) pk_nil)) (pa_cons (pe_errN (e_InvalidChanges_index T) (hr.mono (by decide)) (pk_cons (pv 0) pk_nil)) pa_nil))))))
    (pss_cons (ps_set (i := 2) sc__law_made_by_name.nd rfl (Or.inl rfl) (pe_op op_cat (pv 2) (pe_lst (pa_cons (pe_errN (e_UnknownName_given T) (hr.mono (by decide)) (pk_cons (pv 0) pk_nil)) (pa_cons (pe_errN (e_UnknownHand_given T) (hr.mono (by decide)) (pk_cons (pv 0) pk_nil)) (pa_cons (pe_errN (e_InUse_index T) (hr.mono (by decide)) (pk_cons (pv 0) pk_nil)) (pa_cons (pe_errN (e_TooMany_limit T) (hr.mono (by decide)) (pk_cons (pv 0) pk_nil)) pa_nil)))))))
    (pss_cons (ps_set (i := 2) sc__law_made_by_name.nd rfl (Or.inl rfl) (pe_op op_cat (pv 2) (pe_lst (pa_cons (pe_errN (e_Alone_given T) (hr.mono (by decide)) (pk_cons (pv 0) pk_nil)) (pa_cons (pe_errN (e_Waits_hand T) (hr.mono (by decide)) (pk_cons (pv 0) pk_nil)) (pa_cons (pe_errN (e_Ended_hand T) (hr.mono (by decide)) (pk_cons (pv 0) pk_nil)) (pa_cons (pe_err0 base_AE.F (T.ei_NothingToUndo).1 (T.ei_NothingToUndo).2 T.g_NothingToUndo) pa_nil)))))))
    (pss_one (ps_ret (pe_op op_cat (pv 2) (pe_lst (pa_cons (pe_errN (e_Broken_shown_index T) (hr.mono (by decide)) (pk_cons (pv 1) (pk_cons (pv 0) pk_nil))) pa_nil)))))))))))), ?_⟩
    clear F hr hgd
    walk_at "rd"
    intro y0 G0 s0 e0
    walk_at "rd"
    intro y1 G1 s1 e1
    walk_at "rd"
    intro y2 G2 s2 e2
    walk_at "rd"
    intro y3 G3 s3 e3
    walk_at "rd"
    intro l0 nl0
    walk_at "rd"
    intro y4 G4 s4 e4
    walk_at "rd"
    intro y5 G5 s5 e5
    walk_at "rd"
    intro y6 G6 s6 e6
    walk_at "rd"
    intro y7 G7 s7 e7
    walk_at "rd"
    intro l1 nl1
    walk_at "rd"
    intro m1 nm1
    walk_at "rd"
    intro y8 G8 s8 e8
    walk_at "rd"
    intro y9 G9 s9 e9
    walk_at "rd"
    intro y10 G10 s10 e10
    walk_at "rd"
    intro y11 G11 s11 e11
    walk_at "rd"
    intro l2 nl2
    walk_at "rd"
    intro m2 nm2
    walk_at "rd"
    intro y12 G12 s12 e12
    walk_at "rd"
    intro y13 G13 s13 e13
    walk_at "rd"
    intro y14 G14 s14 e14
    walk_at "rd"
    intro l3 nl3
    walk_at "rd"
    intro m3 nm3
    walk_at "rd"
    intro y15 G15 s15 e15
    walk_at "rd"
    intro y16 G16 s16 e16
    walk_at "rd"
    intro y17 G17 s17 e17
    walk_at "rd"
    intro l4 nl4
    walk_at "rd"
    intro m4 nm4
    walk_at "rd"
    intro y18 G18 s18 e18
    walk_at "rd"
    intro y19 G19 s19 e19
    walk_at "rd"
    intro y20 G20 s20 e20
    walk_at "rd"
    intro y21 G21 s21 e21
    walk_at "rd"
    intro l5 nl5
    walk_at "rd"
    intro m5 nm5
    walk_at "rd"
    intro y22 G22 s22 e22
    walk_at "rd"
    intro y23 G23 s23 e23
    walk_at "rd"
    intro y24 G24 s24 e24
    walk_at "rd"
    intro y25 G25 s25 e25
    walk_at "rd"
    intro l6 nl6
    walk_at "rd"
    intro m6 nm6
    walk_at "rd"
    intro y26 G26 s26 e26
    walk_at "rd"
    intro lz nlz
    walk_at "rd"
    intro mz nmz
    refine q _ mz _ (by walk_at "g but") upd_same rfl (.cons (e0.same (by walk_at "g but")) (.cons (e1.same (by walk_at "g but")) (.cons (e2.same (by walk_at "g but")) (.cons (e3.same (by walk_at "g but")) (.cons (e4.same (by walk_at "g but")) (.cons (e5.same (by walk_at "g but")) (.cons (e6.same (by walk_at "g but")) (.cons (e7.same (by walk_at "g but")) (.cons (e8.same (by walk_at "g but")) (.cons (e9.same (by walk_at "g but")) (.cons (e10.same (by walk_at "g but")) (.cons (e11.same (by walk_at "g but")) (.cons (e12.same (by walk_at "g but")) (.cons (e13.same (by walk_at "g but")) (.cons (e14.same (by walk_at "g but")) (.cons (e15.same (by walk_at "g but")) (.cons (e16.same (by walk_at "g but")) (.cons (e17.same (by walk_at "g but")) (.cons (e18.same (by walk_at "g but")) (.cons (e19.same (by walk_at "g but")) (.cons (e20.same (by walk_at "g but")) (.cons (e21.same (by walk_at "g but")) (.cons (e22.same (by walk_at "g but")) (.cons (e23.same (by walk_at "g but")) (.cons (e24.same (by walk_at "g but")) (.cons (e25.same (by walk_at "g but")) (.cons (e26.same (by walk_at "g but")) .nil)))))))))))))))))))))))))))
theorem c_made_by_name (T : Tx K mg) : Cal P w K mg base CX 3 "_law_made_by_name" [] (sp_made_by_name K) := by
  obtain ⟨fd, F⟩ := T.d__law_made_by_name
  exact .mk F (ok_made_by_name T F) T.n__law_made_by_name fun _ _ _ _ _ _ us hl => match us, hl with | [_, _], _ => rfl
end
end G
namespace G
open PySem PySem.Spec PyProof.Rows L2
def intsV (n : Nat) : List V := (List.range n).map fun (k : Nat) => V.int (k : Int)
theorem intsV_len (n : Nat) : (intsV n).length = n := by simp [intsV]
theorem intsV_succ (n : Nat) : intsV (n + 1) = intsV n ++ [V.int (n : Int)] := by
  unfold intsV
  rw [List.range_succ, List.map_append]
  rfl
def dInts : PyData := .list ((List.range 27).map fun (k : Nat) => .int (k : Int))
theorem dpInts {K : PySem.W.Frag} {H : Hp} (n : Nat) : DpAll K H (intsV n) ((List.range n).map fun (k : Nat) => PyData.int (k : Int)) := by
  unfold intsV
  generalize List.range n = l
  induction l with
  | nil => exact .nil
  | cons a l ih => exact .cons (.int _) ih
/-- what is kept, of the first n errors; t: the pair of the last one -/
def keptL (o : V) (t : Addr) (n : Nat) : List V := (List.range n).map fun i => if i < 25 then o else if i = 25 then .non else .ref t
theorem keptL_len (o : V) (t : Addr) (n : Nat) : (keptL o t n).length = n := by simp [keptL]
theorem keptL_succ (o : V) (t : Addr) (n : Nat) : keptL o t (n + 1) = keptL o t n ++ [if n < 25 then o else if n = 25 then .non else .ref t] := by
  unfold keptL
  rw [List.range_succ, List.map_append]
  rfl
theorem keptL_t (o : V) (t t' : Addr) {n : Nat} (h : n ≤ 26) : keptL o t n = keptL o t' n := by
  unfold keptL
  refine List.map_congr_left fun i hi => ?_
  have := List.mem_range.mp hi
  by_cases h1 : i < 25
  · rw [if_pos h1, if_pos h1]
  · rw [if_neg h1, if_neg h1, if_pos (by omega), if_pos (by omega)]
theorem rngE_at {lo : Int} {n i : Nat} {x : V} (h : (rngV lo n)[i]? = some x) : x = .int (lo + (i : Int)) ∧ i < n := by
  have lt := (List.getElem?_eq_some_iff.mp h).1
  rw [rngV_len] at lt
  refine ⟨?_, lt⟩
  unfold rngV at h
  rw [List.getElem?_map, List.getElem?_range lt] at h
  exact (Option.some.inj h).symm
def dsK (d e : PyData) : List PyData := List.replicate 25 d ++ [.none, .tuple [d, e]]
theorem keptL_eq (o : V) (t : Addr) : keptL o t 27 = List.replicate 25 o ++ [.non, .ref t] := rfl
theorem keptL_dq {H : Hp} {o m : V} {t : Addr} {d e : PyData} (qo : Dq H o d) (qm : Dq H m e) (ht : H t = some (.tup [o, m])) : DqAll H (keptL o t 27) (dsK d e) := by
  rw [keptL_eq]
  exact DqAll.app (DqAll.rep qo 25) (.cons .non (.cons (.tup ht (.cons qo (.cons qm .nil))) .nil))
theorem dsK_sh {d e : PyData} (hd : SmallD d) (he : SmallD e) : ShD 4 3485 (.list (dsK d e)) := by
  have h1 : ShD 3 127 d := ⟨hd.sh, Nat.le_trans hd.dp (by decide), Nat.le_trans hd.ln (by decide)⟩
  have h2 : ShD 3 127 (.tuple [d, e]) := by
    have := shD_tup (n := 2) (B := 60) (ds := [d, e]) fun x hx => by
      rcases List.mem_cons.mp hx with rfl | hx
      · exact ⟨hd.sh, hd.dp, hd.ln⟩
      · rcases List.mem_cons.mp hx with rfl | hx
        · exact ⟨he.sh, he.dp, he.ln⟩
        · cases hx
    exact this
  have h3 : ShD 3 127 .none := ⟨rfl, Nat.zero_le _, by decide +kernel⟩
  have := shD_list (n := 3) (B := 127) (ds := dsK d e) fun x hx => by
    rcases List.mem_append.mp hx with hx | hx
    · rw [List.eq_of_mem_replicate hx]
      exact h1
    · rcases List.mem_cons.mp hx with rfl | hx
      · exact h3
      · rcases List.mem_cons.mp hx with rfl | hx
        · exact h2
        · cases hx
  exact this.mono (Nat.le_refl _) (by show (127 + 2) * (List.replicate 25 d ++ [PyData.none, .tuple [d, e]]).length + 2 ≤ 3485; rw [List.length_append, List.length_replicate, show [PyData.none, PyData.tuple [d, e]].length = 2 from rfl]; decide)
section
variable {P : Program} {w : World} {K : PySem.W.Frag} {mg : Str → Option Value} {base : Heap} {CX : CXT}
theorem c_thing (T : Tx K mg) : Cal P w K mg base CX0 2 "_law_thing" [] spThing := by
  obtain ⟨fd, F⟩ := T.d__law_thing
  exact .mk F (ok_thing T F) T.n__law_thing fun _ _ _ _ _ _ us hl => match us, hl with | [_], _ => rfl
def spRight : Sp := fun vs H Q _ => ∃ p : Addr, vs = [.ref p] ∧ PoolAt H p ∧ ∀ H', Pl p H H' → Q (.bl true) H'
theorem ok_right {f : Addr} {fd : FuncData} {dvs : List V} {kws : List (Str × V)} (T : Tx K mg)
    (F : FunD K "_law_right" "_law_right" (defArgs s__law_right) (defBody s__law_right) (defScope s__law_right) dvs kws f fd) :
    FnG P w K mg base CX0 4 f fd ["_law_pool_here"] spRight := by
  have c__law_thing : Cal P w K mg base CX0 2 "_law_thing" [] spThing := c_thing T
  have c__law_made : Cal P w K mg base CX0 3 "_law_made" [] (sp_made K) := c_made T
  have c__law_made_by_name : Cal P w K mg base CX0 3 "_law_made_by_name" [] (sp_made_by_name K) := c_made_by_name T
  have c__law_place : Cal P w K mg base CX0 1 "_law_place" [] (spPlace K) := c_place T
  have c__law_kept : Cal P w K mg base CX0 1 "_law_kept" [] (spKept K) := c_kept T
  refine okG F sc__law_right (fun vs H Q E h => ?_) (fun cdv A outer s H vs Q E hr hgd h => ?_)
  · obtain ⟨p, rfl, _⟩ := h
    rfl
  · obtain ⟨p, rfl, hp, q⟩ := h
    have hu := hr.units
    refine ⟨_, PSs.nox (pss_cons (ps_par (i := 1) (j := 2) rfl sc__law_right.nd rfl rfl (by decide) rfl rfl (pa_cons (pe_cal c__law_thing (hr.mono (by decide)) hgd pass0 (pa_cons (pv 0) pa_nil)) (pa_cons (pe_cal c__law_thing (hr.mono (by decide)) hgd pass0 (pa_cons (pv 0) pa_nil)) pa_nil)) (by rfl))
    (pss_cons (ps_for PassesOwn.never rfl (pi_list (pe_lst (pa_cons (pe_cal c__law_made (hr.mono (by decide)) hgd pass0 (pa_cons (pv 1) (pa_cons (pv 2) pa_nil))) (pa_cons (pe_cal c__law_made_by_name (hr.mono (by decide)) hgd pass0 (pa_cons (pv 1) (pa_cons (pv 2) pa_nil))) pa_nil)))) (pg_name (i := 3) sc__law_right.nd rfl (Or.inr rfl))
      (pss_cons (ps_if (pt_cmpR (op_neD hu) (pe_lc (own := [("_law_e", 4)]) (g := gName 4) (tt := tYes) rfl sc__law_right.nd (pi_list (pv 3)) (blkOk_by (own := [("_law_e", 4)]) (N := n__law_right) (sc := defScope s__law_right) (by decide +kernel)) (fun _ _ _ _ _ => (pg_name (i := 4) sc__law_right.nd rfl (Or.inl rfl))) (fun _ _ _ _ _ => pts_nil) (fun _ _ _ _ _ => (pe_cal c__law_place (hr.mono (by decide)) hgd pass0 (pa_cons (pv 4) pa_nil)))) (pe_listRg rfl rfl T.f_list (prg_1 rfl T.f_range pe_int)) (nomark _)) (pss_one (ps_ret pe_bl)) pss_nil)
    (pss_one (ps_if (pt_cmpR op_ne (pe_callB (call_reprQ hgd hu T.sm) rfl T.f_repr (by decide +kernel) (pa_cons (pe_lc (own := [("_law_k", 5)]) (g := gName 5) (tt := tYes) rfl sc__law_right.nd (pi_range1 rfl T.f_range (pa_cons pe_int pa_nil)) (blkOk_by (own := [("_law_k", 5)]) (N := n__law_right) (sc := defScope s__law_right) (by decide +kernel)) (fun _ _ _ _ _ => (pg_name (i := 5) sc__law_right.nd rfl (Or.inl rfl))) (fun _ _ _ _ _ => pts_nil) (fun _ _ _ _ _ => (pe_cal c__law_kept (hr.mono (by decide)) hgd pass0 (pa_cons (pe_ix (ixK (K := K) (r := rIxL) rfl ix_list) (pv 3) (pv 5) (fun _ _ => rfl)) (pa_cons (pv 5) pa_nil))))) pa_nil)) (pe_callB (call_reprQ hgd hu T.sm) rfl T.f_repr (by decide +kernel) (pa_cons (pe_op op_cat (pe_op op_rep (pe_lst (pa_cons (pv 1) pa_nil)) pe_int) (pe_lst (pa_cons pe_non (pa_cons (pe_tup (pa_cons (pv 1) (pa_cons (pv 2) pa_nil))) pa_nil)))) pa_nil)) (nomark _)) (pss_one (ps_ret pe_bl)) pss_nil))))
    (pss_one (ps_ret pe_bl)))), ?_⟩
    walk_at "rd"
    intro H1 od dd p1 q1 sd1
    have hp1 := p1.pool
    walk_at "rd"
    intro H2 mo dm p2 q2 sd2
    have hp2 := p2.pool
    have p02 : Pl p H H2 := p1.trans p2
    have q1' : Dq (Hm p H2) od dd := Dq.same (Hm_but p2.but) q1
    clear q1 p1 p2 hp1
    walk_at "rd"
    intro H3 l1 es1 s3 hl1 n1 ea1
    walk_at "rd"
    intro H4 l2 es2 s4 hl2 n2 ea2
    walk_at "rd"
    intro L nL
    have s5 : Same H2 (upd H4 L (.lst [.ref l1, .ref l2])) := by walk_at "g but"
    have hl15 : upd H4 L (.lst [.ref l1, .ref l2]) l1 = some (.lst es1) := by walk_at "g hp"
    have hl25 : upd H4 L (.lst [.ref l1, .ref l2]) l2 = some (.lst es2) := by walk_at "g hp"
    have ea15 := ErAll.same (s4.new nL (o := .lst [.ref l1, .ref l2])) ea1
    have ea25 := ErAll.same ((Same.refl H4).new nL (o := .lst [.ref l1, .ref l2])) ea2
    have qod : Dq (upd H4 L (.lst [.ref l1, .ref l2])) od dd := Dq.same s5 (Dq.same Hm_of q1')
    have qmo : Dq (upd H4 L (.lst [.ref l1, .ref l2])) mo dm := Dq.same s5 (Dq.same Hm_of q2)
    have p05 : Pl p H (upd H4 L (.lst [.ref l1, .ref l2])) := p02.same s5
    clear q1' q2 ea1 ea2 hl1 hl2 s3 s4 s5 p02 hp2
    walk_at "rd"
    refine ⟨⟨_, SqL.of upd_same⟩, ?_⟩
    refine forW (wk_list [.ref l1, .ref l2]) (fun i σ H' => Same (upd H4 L (.lst [.ref l1, .ref l2])) H' ∧ ∃ b c d, σ = [some (.ref p), some od, some mo, b, c, d]) ⟨.refl _, _, _, _, rfl⟩
      (fun i σ H' _ s => SqL.of (s.1 _ _ upd_same)) ?_ (fun σ H' s => ?_)
    · rintro i x σ H5 hx ⟨s6, b, c, d, rfl⟩
      obtain ⟨l, es, rfl, hl, ne, ea⟩ : ∃ l es, x = .ref l ∧ H5 l = some (.lst es) ∧ es.length = 27 ∧ ErAll K od mo H5 0 es := by
        match i, hx with
        | 0, hx =>
          simp at hx
          exact ⟨l1, es1, hx.symm, s6 _ _ hl15, n1, ErAll.same s6 ea15⟩
        | 1, hx =>
          simp at hx
          exact ⟨l2, es2, hx.symm, s6 _ _ hl25, n2, ErAll.same s6 ea25⟩
        | i + 2, hx => simp at hx
      have qo5 := Dq.same s6 qod
      have qm5 := Dq.same s6 qmo
      clear hl15 hl25 ea15 ea25 qod qmo
      walk_at "rd"
      refine ⟨⟨_, SqL.of hl⟩, ?_⟩
      intro D nD
      refine lcW (wk_list es) (fun j H' => Same H5 H' ∧ H' D = some (.lst (intsV j))) ⟨by walk_at "g but", upd_same⟩ (fun j H' _ s => SqL.of (s.1 _ _ hl)) ?_ ?_
      · rintro j y H6 hy ⟨s7, hD⟩
        have ej := ErAll.get ea hy
        rw [Nat.zero_add] at ej
        have lt : j < 27 := ne ▸ (List.getElem?_eq_some_iff.mp hy).1
        have ej6 := ej.same s7
        walk_at "rd"
        intro H7 s8
        refine ⟨_, s8 _ _ hD, by rw [intsV_len, sizeLine_eq]; omega, (s7.trans s8).own nD, ?_⟩
        rw [upd_same, intsV_succ]
      · rintro H6 ⟨s7, hD⟩
        rw [ne] at hD
        have es6 := ErAll.same s7 ea
        have hl6 := s7 _ _ hl
        have qo6 := Dq.same s7 qo5
        have qm6 := Dq.same s7 qm5
        have s6' := s6.trans s7
        clear s6 s7 ea hl qo5 qm5 nD
        walk_at "rd"
        intro q1 nq1
        have e27 : L2.rgV 0 27 = intsV 27 := by
          unfold L2.rgV intsV
          simp
        refine ⟨dInts, dInts, .lst (SqL.of (by walk_at "g hp")) (dpInts 27), .lst (SqL.of upd_same) (e27 ▸ dpInts 27), by decide +kernel, by decide +kernel, _, rfl, G.iteKF (by decide +kernel) ?_⟩
        have es7 := ErAll.same ((Same.refl H6).new nq1 (o := .lst (L2.rgV 0 27))) es6
        have hl7 : upd H6 q1 (.lst (L2.rgV 0 27)) l = some (.lst es) := by walk_at "g hp"
        have qo7 := Dq.same ((Same.refl H6).new nq1 (o := .lst (L2.rgV 0 27))) qo6
        have qm7 := Dq.same ((Same.refl H6).new nq1 (o := .lst (L2.rgV 0 27))) qm6
        have s7' : Same _ (upd H6 q1 (.lst (L2.rgV 0 27))) := s6'.new nq1
        generalize upd H6 q1 (.lst (L2.rgV 0 27)) = H7 at es7 hl7 qo7 qm7 s7' ⊢
        clear es6 hl6 qo6 qm6 s6' hD nq1
        walk_at "rd"
        intro D2 nD2
        refine lcW (wk_range 0 27) (fun j H' => Same H7 H' ∧ ∃ t : Addr, H' D2 = some (.lst (keptL od t j)) ∧ (26 < j → H' t = some (.tup [od, mo]))) ⟨by walk_at "g but", 0, upd_same, fun h => by omega⟩ (fun _ _ _ _ => trivial) ?_ ?_
        · rintro j y H8 hy ⟨s8, t, hD2, ht⟩
          obtain ⟨e0, hj⟩ := rngE_at hy
          rw [Int.zero_add] at e0
          subst e0
          have lt : j < 27 := hj
          have hl8 := s8 _ _ hl7
          obtain ⟨y, hy2⟩ : ∃ y, es[j]? = some y := ⟨_, List.getElem?_eq_getElem (by omega)⟩
          have ej := ErAll.get es7 hy2
          rw [Nat.zero_add] at ej
          have ej8 := ej.same s8
          walk_at "rd"
          refine ⟨at_any (j := j) (by omega) hy2, ?_⟩
          walk_at "rd"
          refine ⟨fun h => ?_, fun h => ?_, fun h t2 H9 s9 h9 => ?_⟩
          · intro H9 s9
            refine ⟨_, s9 _ _ hD2, by rw [keptL_len, sizeLine_eq]; omega, (s8.trans s9).own nD2, t, ?_, fun h26 => by omega⟩
            rw [upd_same, keptL_succ, if_pos (by omega)]
          · intro H9 s9
            refine ⟨_, s9 _ _ hD2, by rw [keptL_len, sizeLine_eq]; omega, (s8.trans s9).own nD2, t, ?_, fun h26 => by omega⟩
            rw [upd_same, keptL_succ, if_neg (by omega), if_pos (by omega)]
          · refine ⟨_, s9 _ _ hD2, by rw [keptL_len, sizeLine_eq]; omega, (s8.trans s9).own nD2, t2, ?_, fun h26 => ?_⟩
            · rw [upd_same, keptL_succ, if_neg (by omega), if_neg (by omega), keptL_t od t t2 (by omega)]
            · rw [upd_ne (ne_of h9 (s9 _ _ hD2) (fun z => by cases z))]
              exact h9
        · rintro H8 ⟨s8, t, hD2, ht⟩
          rw [rngV_len] at hD2 ht
          have ht8 := ht (by omega)
          have qo8 := Dq.same s8 qo7
          have qm8 := Dq.same s8 qm7
          have s8' := s7'.trans s8
          have sh := dsK_sh sd1 sd2
          have D1 : Dq H8 (.ref D2) (.list (dsK dd dm)) := .lst hD2 (keptL_dq qo8 qm8 ht8)
          clear es7 hl7 qo7 qm7 s7' s8 ht nD2
          walk_at "rd"
          refine ⟨.list (dsK dd dm), rfl, D1, sh.sh, Nat.le_trans sh.dp (by decide), Nat.le_trans sh.ln (by rw [sizeLine_eq]; omega), ?_⟩
          walk_at "rd"
          intro r1 nr1
          walk_at "rd"
          intro r2 nr2
          walk_at "rd"
          intro r3 nr3
          walk_at "rd"
          intro r4 nr4
          walk_at "rd"
          intro r5 nr5
          walk_at "rd"
          refine ⟨.list (dsK dd dm), rfl, .lst (xs := keptL od r3 27) upd_same (keptL_dq (Dq.same (by walk_at "g but") qo8) (Dq.same (by walk_at "g but") qm8) (by walk_at "g hp")),
            sh.sh, Nat.le_trans sh.dp (by decide), Nat.le_trans sh.ln (by rw [sizeLine_eq]; omega), ?_⟩
          walk_at "rd"
          refine G.iteKF (by simp) ?_
          walk_at "rd"
          exact ⟨by walk_at "g but", _, _, _, rfl⟩
    · obtain ⟨s6, b, c, d, rfl⟩ := s
      walk_at "rd"
      exact q _ (p05.same s6)
end
end G
namespace G
open PySem PySem.Spec PyProof.Rows L2
theorem own_sameE {H H1 H2 H3 : Hp} {p : Addr} (s : Same H H1) (n : H1 p = none) (s2 : Same H1 H2) (pl : But p H2 H3) : Same H H3 := fun q o e =>
  pl q o (ne_of_none (s q o e) n) (s2 q o (s q o e))
def limD : PyData := .list [.int 3, .int 4, .int 10, .int 3, .int 2000, .int 1000, .int 6]
section
variable {P : Program} {w : World} {K : PySem.W.Frag} {mg : Str → Option Value} {base : Heap} {CX : CXT}
theorem c_right (T : Tx K mg) : Cal P w K mg base CX0 4 "_law_right" [] spRight := by
  obtain ⟨fd, F⟩ := T.d__law_right
  exact .mk F (ok_right T F) T.n__law_right fun _ _ _ _ _ _ us hl => match us, hl with | [_], _ => rfl
def spLaw (K : PySem.W.Frag) : Sp := fun vs H Q _ => ∃ (a : Addr) (ns : List Int), vs = [.ref a] ∧ SqL K H a (ns.map V.int) ∧ ns.length ≤ 63 ∧ ∀ H', Q (.bl true) H'
theorem ok_law {f : Addr} {fd : FuncData} {dvs : List V} {kws : List (Str × V)} (T : Tx K mg)
    (F : FunD K "law" "law" (defArgs s_law) (defBody s_law) (defScope s_law) dvs kws f fd) :
    FnG P w K mg base CX0 5 f fd ["_law_script"] (spLaw K) := by
  have c__law_right : Cal P w K mg base CX0 4 "_law_right" [] spRight := c_right T
  have c__law_pool : Cal P w K mg base CX0 1 "_law_pool" [] (spPool K) := c_pool T
  refine okG F sc_law (fun vs H Q E h => ?_) (fun cdv A outer s H vs Q E hr hgd h => ?_)
  · obtain ⟨a, ns, rfl, _⟩ := h
    rfl
  · obtain ⟨a, ns, rfl, ha, hl, q⟩ := h
    have hu := hr.units
    refine ⟨_, PSs.nox (pss_cons (ps_set (i := 1) sc_law.nd rfl (Or.inl rfl) (pe_lst (pa_cons (pe_gl T.g_MOST_GATES) (pa_cons (pe_gl T.g_MOST_KINDS) (pa_cons (pe_gl T.g_MOST_ROWS) (pa_cons (pe_gl T.g_MOST_VALUE) (pa_cons (pe_gl T.g_MOST_SETS) (pa_cons (pe_gl T.g_MOST_HANDS) (pa_cons (pe_gl T.g_MOST_CHANGES) pa_nil)))))))))
    (pss_cons (ps_if (pt_cmpR op_ne (pe_callB (call_repr hgd hu) rfl T.f_repr (by decide +kernel) (pa_cons (pv 1) pa_nil)) pe_str (nomark _)) (pss_one (ps_ret pe_bl)) pss_nil)
    (pss_cons (ps_for PassesOwn.never rfl (pi_range1 rfl T.f_range (pa_cons (pe_callB (call_max2 rfl) rfl T.f_max (by decide +kernel) (pa_cons pe_int (pa_cons (pe_callB (call_min2 rfl) rfl T.f_min (by decide +kernel) (pa_cons (pe_callB call_len_seq rfl T.f_len (by decide +kernel) (pa_cons (pv 0) pa_nil)) (pa_cons pe_int pa_nil))) pa_nil))) pa_nil)) (pg_name (i := 2) sc_law.nd rfl (Or.inl rfl))
      (pss_cons (ps_set (i := 3) sc_law.nd rfl (Or.inr rfl) (pe_cal c__law_pool (hr.mono (by decide)) hgd pass0 (pa_cons (pv 0) (pa_cons (pv 2) pa_nil))))
    (pss_one (ps_if (pt_not (pt_val (pe_callB (cr_all rfl) rfl T.f_all (by decide +kernel) (pa_cons (pe_lc (own := [("_law_turn", 4)]) (g := gName 4) (tt := tYes) rfl sc_law.nd (pi_range1 rfl T.f_range (pa_cons pe_int pa_nil)) (blkOk_by (own := [("_law_turn", 4)]) (N := n_law) (sc := defScope s_law) (by decide +kernel)) (fun _ _ _ _ _ => (pg_name (i := 4) sc_law.nd rfl (Or.inl rfl))) (fun _ _ _ _ _ => pts_nil) (fun _ _ _ _ _ => (pe_cal c__law_right (hr.mono (by decide)) hgd pass0 (pa_cons (pv 3) pa_nil)))) pa_nil)))) (pss_one (ps_ret pe_bl)) pss_nil))))
    (pss_one (ps_ret pe_bl))))), ?_⟩
    walk_at "rd"
    intro l nl
    walk_at "rd"
    refine ⟨limD, rfl, .lst (SqL.of upd_same) (.cons (.int 3) (.cons (.int 4) (.cons (.int 10) (.cons (.int 3) (.cons (.int 2000) (.cons (.int 1000) (.cons (.int 6) .nil))))))), by decide +kernel, by decide +kernel, by decide +kernel, by decide +kernel, ?_⟩
    have ha := ha.same ((Same.refl H).new nl (o := .lst [V.int 3, V.int 4, V.int 10, V.int 3, V.int 2000, V.int 1000, V.int 6]))
    have s0 : Same H (upd H l (.lst [V.int 3, V.int 4, V.int 10, V.int 3, V.int 2000, V.int 1000, V.int 6])) := by walk_at "g but"
    generalize upd H l (.lst [V.int 3, V.int 4, V.int 10, V.int 3, V.int 2000, V.int 1000, V.int 6]) = H0 at ha s0 ⊢
    walk_at "rd"
    refine forW (wk_range 0 _) (fun i σ H' => Same H0 H' ∧ ∃ e b c d, σ = [some (.ref a), e, b, c, d]) ⟨by walk_at "g but", _, _, _, _, rfl⟩ (fun _ _ _ _ _ => trivial) ?_ (fun σ H' _ => ?_)
    · rintro i x σ H1 hx ⟨s1, e, b, c, d, rfl⟩
      obtain ⟨rfl, hi⟩ := rngE_at hx
      have hk : i < 8 := by omega
      have ha1 : SqL K H1 a (ns.map V.int) := ha.same s1
      walk_at "rd"
      refine ⟨ns, _, rfl, ha1, hl, by omega, by omega, fun H2 p s2 np hp => ?_⟩
      walk_at "rd"
      intro D nD
      refine lcW (wk_range 0 10) (fun j H' => Pl p H2 H' ∧ H' D = some (.lst (List.replicate j (.bl true)))) ⟨by walk_at "g but", upd_same⟩ (fun _ _ _ _ => trivial) ?_ ?_
      · rintro j y H3 hy ⟨p3, hD⟩
        have hj := (List.getElem?_eq_some_iff.mp hy).1
        rw [rngV_len] at hj
        have hp3 := p3.pool
        walk_at "rd"
        intro H4 p4
        have np' : D ≠ p := PoolAt.ne_new hp nD
        refine ⟨_, p4.get hD np', by rw [List.length_replicate]; show j < 16777216; omega, ?_, ?_⟩
        · exact Pl.own (p3.trans p4) nD np'
        · rw [upd_same, List.replicate_succ']
      · rintro H3 ⟨p3, hD⟩
        rw [rngV_len] at hD
        refine ⟨D, List.replicate 10 true, rfl, SqL.of hD, ?_⟩
        walk_at "rd"
        exact ⟨own_sameE s1 np s2 p3.but, _, _, _, _, rfl⟩
    · walk_at "rd"
      exact q _
end
theorem facts {P : Program} {w : World} {K : PySem.W.Frag} {h : Heap} {mg : Str → Option Value} {f : Addr} (X : K.In h) (G : h.Ns mainGlobals mg) (own : mg ("law" : Str) = some (.ref f)) (c : SaysG fa fn gets exs K) :
    ∃ fd : FuncData, (∀ (s : Shared) (v : Value), BindsTo s fd ⟨[v], []⟩ [("_law_script", v)]) ∧ ∀ base : Heap, FnG P w K mg base CX0 5 f fd ["_law_script"] (spLaw K) := by
  have T := tx_of X G c
  obtain ⟨fd, F⟩ := T.d_law
  obtain rfl : f = He.ga K "law" := Value.ref.inj (Option.some.inj (own.symm.trans T.n_law))
  have b := FunD.bindsA (ps := ["_law_script"]) F fun _ _ _ _ _ _ us hl => match us, hl with | [_], _ => rfl
  exact ⟨fd, fun s v => b s [v] rfl, fun base => ok_law T F⟩
end G
open PySem PySem.W PySem.Calls PyProof.Rows
theorem PySem.Challenge.cw_gatecrowds_k01_constants_and_errors_holds : PySem.Challenge.rw_gatecrowds_k01_constants_and_errors.Holds := by
  w_on; o_law
  refine HandSHeadRun.head_any (r := G.R) (q := view G.R.prog [47]) (H := G.hk) (ob := G.ob) (M := 20000) (loose := G.names) (d := HandSHeadRun.topDef G.R.prog 47) (kwd := []) G.ob_eq
    (by kernel_rfl) (fun s => by kernel_rfl) G.run (by kernel_rfl) (by kernel_rfl) (by kernel_rfl) (by rfl) (by first | assumption | decide +kernel) (by decide +kernel)
    ⟨rfl, rfl, rfl, rfl, rfl, by decide +kernel⟩ ?hw ?hc
  case hw => w_witness2
  case hc =>
    refine G.walkG (l := PySem.Challenge.rw_gatecrowds_k01_constants_and_errors) (n := 63) (k := 5) (x := "_law_script") (CX := L2.CX0) rfl (by decide) (by kernel_rfl) ⟨rfl, by decide, by decide⟩ ?F (fun _ _ _ _ z => z)
    intro w mg fa h Y Gl own
    obtain ⟨K, kin, c⟩ := Y
    have own' : mg ("law" : PySem.Str) = some (.ref fa) := by
      have e : (HandSHeadRun.topDef G.R.prog 47).name = ("law" : PySem.Str) := by kernel_rfl
      rw [← e]
      exact own
    obtain ⟨fd, hb, hF⟩ := G.facts (P := (PySem.Challenge.rw_gatecrowds_k01_constants_and_errors).prog) (w := w) kin Gl own' c
    exact ⟨K, fd, G.spLaw K, kin, hb, fun H a ns hl _ hS => ⟨a, ns, rfl, hS, hl, fun _ => rfl⟩, fun base _ _ => hF base⟩
