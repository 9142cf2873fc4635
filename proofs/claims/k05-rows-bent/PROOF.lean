import PyProof.Rows.All
import Wide.All
import OpenK.AllK
import Wide.FinOn
import KE.KStateDown
import Lean
import HandS.Base
import HandS.Call
import HandS.List
import HandS.Comp
import HandS.Ends
import HandS.Dict
import HandS.Iter
import HandS.Text
import HandS.More
import HandS.Words
import HandS.WordsList
import HandS.WordsDict
import HandS.Exc
import HandS.WordsExc
import HandS.Defaults
import HandS.IsInst
import HandS.Property
import HandS.MakeKw
import HandS.MakeKwOnly
import HandS.Flow
import HandS.Style
import HandS.Head0
import HandS.Head1
import HandS.Head2
import HandS.HeadEnd
import HandS.HeadHook1
import HandS.HeadHook2
import HandS.HeadHook3
import HandS.HeadHook4
import HandS.ClsMeth
import KE.GoesEnum
import HandS.NoneIn
import HandS.TupAny
import HandS.SetBool
import HandS.SetTxt0
import HandS.Strs
import PyProof.Rows.SortStr
import KE.KCallOwn
import KE.KTryMore
import KE.KExcInit
import HandS.ExcInit
import HandS.ExcIs
import HandS.ExcField
import HandS.ExcOwn
import HandS.ExcValue
import HandS.Deep
import HandS.Lambda
import HandS.HotCalls
import PySem.Challenge.RW_gatecrowds_k05_rows_bent
import PyProof.StrLawsTight
import PyProof.Rows.StrLawsPart
import PyProof.Rows.StrSplitAre
import PyProof.Rows.StrItems
set_option Elab.async false
set_option linter.all false
set_option maxRecDepth 100000
set_option maxHeartbeats 4000000
/-! own rules, ahead of all laws -/
namespace G
open PySem PySem.Spec PyProof.Rows L2

/-! ### names of the module -/
theorem pe_gl {X : Cx} {x : Str} {pos : Pos} {v : V} (h : ∃ u, X.mg x = some u ∧ RelV v u) (hg : Gl X x := by rfl)
    (hd : (x == ("__debug__" : Str)) = false := by decide) : PE X (.Name x pos) (tC v) := by
  obtain ⟨u, hm, r⟩ := h
  exact pe_glob hg hm r hd

/-! ### promises that ask that no guard runs -/
structure FnG (P : Program) (w : World) (K : PySem.W.Frag) (mg : Str → Option Value) (base : Heap) (CX : CXT)
    (k : Nat) (f : Addr) (fd : FuncData) (ps : List Str) (sp : Sp) : Prop where
  len : ∀ vs H Q E, sp vs H Q E → vs.length = ps.length
  run : ∀ (A : Around) (outer : List Env) (s : Shared) (H : Hp) (args : Args) (us : List Value) (vs : List V)
    (Q : VK) (E : XK), Room k A → A.guards = some [] → Env0 P w K mg base A outer s H →
    BindsTo s fd args (ps.zip us) → Vals vs us → sp vs H Q E →
    codeAny (model P w) A (.call (.ref f) args) (CR CX outer P w H s Q E) s

section
variable {P : Program} {w : World} {K : PySem.W.Frag} {mg : Str → Option Value} {base : Heap}
variable {CX : CXT} {k : Nat} {f : Addr} {fd : FuncData} {ps : List Str} {sp : Sp}
theorem FnG.of (F : FnOk P w K mg base CX k f fd ps sp) : FnG P w K mg base CX k f fd ps sp :=
  ⟨F.len, fun A o s H args us vs Q E hr _ => F.run A o s H args us vs Q E hr⟩
theorem FnG.mono {j : Nat} (F : FnG P w K mg base CX j f fd ps sp) (h : j ≤ k) : FnG P w K mg base CX k f fd ps sp :=
  ⟨F.len, fun A o s H args us vs Q E hr => F.run A o s H args us vs Q E (hr.mono h)⟩

/-- a def by its body, the body's reading under the knowledge that no guard runs -/
theorem fng_of {name qual : Str} {params : Arguments} {body : List Stmt} {scope : Scope} {dV kV doc pm cdv ct oc : Value}
    {an od : Option Addr} {osl : Array (Option Value)} {N : List Str}
    (lk : K.lookup f = some ⟨oc, od, .func (PySem.W.fnOf name qual params body scope dV kV doc pm an cdv ct), osl⟩)
    (hcd : PySem.W.codeIn K cdv qual = true) (S : FnScope N ps scope)
    (len : ∀ vs H Q E, sp vs H Q E → vs.length = ps.length)
    (hbody : ∀ (A : Around) (outer : List Env) (s : Shared) (H : Hp) (vs : List V) (Q : VK) (E : XK),
      Room k (A.deeper (envOfC qual scope s.heap.objs.size f cdv)) → A.guards = some [] → sp vs H Q E →
      ∃ t, PSs (cxOf CX P w K mg base N qual scope f cdv A outer s H E) body t ∧
        t { nx := fun _ H' => Q .non H', rt := Q } (start N vs) H) :
    FnG P w K mg base CX (k + 1) f (PySem.W.fnOf name qual params body scope dV kV doc pm an cdv ct) ps sp := by
  refine ⟨len, ?_⟩
  intro A outer s H args us vs Q E hr hgd e0 hb r hsp
  have hl := len _ _ _ _ hsp
  have st := fun b o e => (e0.bs b o e).1
  have kin : K.In s.heap := e0.mod.kin.keeps st
  have hlim : s.heap.NoLimit := e0.mod.nolimit.keeps st
  have kinds : ∀ y ∈ ps.zip us, scope.names.lookup y.1 = some .local ∨
      (scope.names.lookup y.1 = some .cell ∧ ((cellsFrom (s.heap.objs.size + 1) scope.names []).lookup y.1).isSome = true) := by
    rintro ⟨n, v⟩ hy
    have hp := S.par n (List.of_mem_zip hy).1
    exact hp.imp id fun q => ⟨q, PySem.W.cellsFrom_some _ _ _ (.inl q)⟩
  refine codeAny_call_function hr.depth (kin _ _ lk) rfl S.co S.gen rfl
    (PySem.W.codeRec_of kin hcd) (hb _ _ _ _ ?_)
  refine wpAny_newFunctionEnv_cells S.kind kinds ?_
  rintro env rfl s1 x
  refine ⟨hlim.keeps x.toInCall.keep, codeAny_func ?_⟩
  obtain ⟨t, ht, hq⟩ := hbody A outer s H vs Q E (hr.deeper _) hgd hsp
  have I0 := inv_start (CX := CX) (E := E) S hr.hd e0 hl r x
  refine wpAny_mono (ht.run [] s1 (start N vs) H _ I0 hq) ?_ (fun e s' hs => hs)
  intro fl s' hs
  cases fl with
  | brk => exact (hs.choose_spec.choose_spec.2).elim
  | cont => exact (hs.choose_spec.choose_spec.2).elim
  | ret u =>
    obtain ⟨v, σ', H', J, rv, q⟩ := hs
    exact ⟨v, H', J.os, J.bare, J.base, J.hok, rv, q⟩
  | next =>
    obtain ⟨σ', H', J, q⟩ := hs
    exact ⟨V.non, H', J.os, J.bare, J.base, J.hok, rfl, q⟩
end

/-- the same of a def as the head tells it -/
theorem okG {P : Program} {w : World} {K : PySem.W.Frag} {mg : Str → Option Value} {base : Heap} {CX : CXT} {k : Nat} {f : Addr}
    {fd : FuncData} {x qual : Str} {params : Arguments} {body : List Stmt} {scope : Scope} {dvs : List V} {kws : List (Str × V)}
    {N ps : List Str} {sp : Sp} (F : FunD K x qual params body scope dvs kws f fd) (S : FnScope N ps scope)
    (len : ∀ vs H Q E, sp vs H Q E → vs.length = ps.length)
    (hbody : ∀ (cdv : Value) (A : Around) (outer : List Env) (s : Shared) (H : Hp) (vs : List V) (Q : VK) (E : XK),
      Room k (A.deeper (envOfC qual scope s.heap.objs.size f cdv)) → A.guards = some [] → sp vs H Q E →
      ∃ t, PSs (cxOf CX P w K mg base N qual scope f cdv A outer s H E) body t ∧
        t { nx := fun _ H' => Q .non H', rt := Q } (start N vs) H) : FnG P w K mg base CX (k + 1) f fd ps sp := by
  obtain ⟨oc, od, dV, kV, doc, pm, an, cdv, ct, osl, rfl, lk, hcd, _, _⟩ := F.ex
  exact fng_of lk hcd S len fun A outer s H vs Q E hr hg hsp => hbody cdv A outer s H vs Q E hr hg hsp

/-! ### a call by name: all that it wants in one -/
/-- the module's name x is a def that keeps sp; dvs fill up behind the written arguments -/
def Cal (P : Program) (w : World) (K : PySem.W.Frag) (mg : Str → Option Value) (base : Heap) (CX : CXT) (k : Nat) (x : Str)
    (dvs : List V) (sp : Sp) : Prop :=
  ∃ f fd ps ds, FnG P w K mg base CX k f fd ps sp ∧ mg x = some (.ref f) ∧ PySem.W.keepIn K (.ref f) = true ∧
    Binds K fd ps ds ∧ Vals dvs ds
theorem Cal.mono {P : Program} {w : World} {K : PySem.W.Frag} {mg : Str → Option Value} {base : Heap} {CX : CXT} {j k : Nat} {x : Str}
    {dvs : List V} {sp : Sp} (C : Cal P w K mg base CX j x dvs sp) (h : j ≤ k) : Cal P w K mg base CX k x dvs sp := by
  obtain ⟨f, fd, ps, ds, F, r⟩ := C
  exact ⟨f, fd, ps, ds, F.mono h, r⟩

/-- the same without a word of guards -/
def CalO (P : Program) (w : World) (K : PySem.W.Frag) (mg : Str → Option Value) (base : Heap) (CX : CXT) (k : Nat) (x : Str)
    (dvs : List V) (sp : Sp) : Prop :=
  ∃ f fd ps ds, FnOk P w K mg base CX k f fd ps sp ∧ mg x = some (.ref f) ∧ PySem.W.keepIn K (.ref f) = true ∧
    Binds K fd ps ds ∧ Vals dvs ds
theorem CalO.cal {P : Program} {w : World} {K : PySem.W.Frag} {mg : Str → Option Value} {base : Heap} {CX : CXT} {k : Nat} {x : Str}
    {dvs : List V} {sp : Sp} (C : CalO P w K mg base CX k x dvs sp) : Cal P w K mg base CX k x dvs sp := by
  obtain ⟨f, fd, ps, ds, F, r⟩ := C
  exact ⟨f, fd, ps, ds, .of F, r⟩
/-- a def without defaults, called with all its arguments -/
theorem CalO.mk {P : Program} {w : World} {K : PySem.W.Frag} {mg : Str → Option Value} {base : Heap} {CX : CXT} {k : Nat} {x qual : Str} {f : Addr} {fd : FuncData}
    {params : Arguments} {body : List Stmt} {scope : Scope} {ps : List Str} {sp : Sp} (F : FunD K x qual params body scope [] [] f fd)
    (ok : FnOk P w K mg base CX k f fd ps sp) (hm : mg x = some (.ref f))
    (h : ∀ (kV doc pm : Value) (an : Option Addr) (cdv ct : Value) (us : List Value), us.length = ps.length → bindArgs (PySem.W.fnOf x qual params body scope .none kV doc pm an cdv ct) ⟨us, []⟩ = pure (ps.zip us)) :
    CalO P w K mg base CX k x [] sp := ⟨f, fd, ps, [], ok, hm, F.kp, F.bindsN h, .nil⟩
theorem Cal.mk {P : Program} {w : World} {K : PySem.W.Frag} {mg : Str → Option Value} {base : Heap} {CX : CXT} {k : Nat} {x qual : Str} {f : Addr} {fd : FuncData}
    {params : Arguments} {body : List Stmt} {scope : Scope} {ps : List Str} {sp : Sp} (F : FunD K x qual params body scope [] [] f fd)
    (ok : FnG P w K mg base CX k f fd ps sp) (hm : mg x = some (.ref f))
    (h : ∀ (kV doc pm : Value) (an : Option Addr) (cdv ct : Value) (us : List Value), us.length = ps.length → bindArgs (PySem.W.fnOf x qual params body scope .none kV doc pm an cdv ct) ⟨us, []⟩ = pure (ps.zip us)) :
    Cal P w K mg base CX k x [] sp := ⟨f, fd, ps, [], ok, hm, F.kp, F.bindsN h, .nil⟩

section
variable {X : Cx} {CX : CXT} {k : Nat} {f : Addr} {fd : FuncData} {ps : List Str} {sp : Sp} {dvs : List V} {ds : List Value}
variable {E : XK} {x : Str} {p pos : Pos} {e : Expr} {es : List Expr} {t : TA}
theorem run_fng {pins : List (Addr × Obj)} {σ : L2.St} {H : Hp} {s : Shared} {Q : VK} {us : List Value} {vs : List V}
    (F : FnG X.prog X.w X.K X.mg X.base CX k f fd ps sp) (hr : Room k X.A) (hgd : X.A.guards = some [])
    (hb : Binds X.K fd ps ds) (hd : Vals dvs ds) (hx : Passes CX X E)
    (I : Inv X pins σ H s) (r : Vals vs us) (h : sp (vs ++ dvs) H Q E) :
    wpAny (model X.prog X.w) X.A (call (.ref f) us) (EP X pins σ Q) X.xe s := by
  have r2 := r.append hd
  have hl := (r2.length.symm.trans (F.len _ _ _ _ h))
  have go := F.run X.A X.stack s H ⟨us, []⟩ (us ++ ds) (vs ++ dvs) Q E hr hgd I.env0 (hb s us I.kIn hl) r2 h
  refine wpAny_call (codeAny_mono go ?_)
  intro r s' hq
  match r, hq with
  | .error e, hq => exact hx pins σ H s e s' I hq
  | .ok (.ret u), hq => exact I.after hq
  | .ok .next, hq => exact hq.elim
  | .ok .brk, hq => exact hq.elim
  | .ok .cont, hq => exact hq.elim
/-- f(e, ..) -/
theorem pe_cal (C : Cal X.prog X.w X.K X.mg X.base CX k x dvs sp) (hr : Room k X.A) (hgd : X.A.guards = some []) (hx : Passes CX X E)
    (ha : PA X (e :: es) t) (hg : Gl X x := by rfl) (hdb : (x == ("__debug__" : Str)) = false := by decide)
    (he : starEach (e :: es) X.env = (false, eval e X.env) :: starEach es X.env := by rfl)
    (hpl : (backTo pos (starEach es X.env)).any (·.1) = false := by rfl) :
    PE X (.Call (.Name x p) (e :: es) [] pos) (tCall sp dvs E t) := by
  obtain ⟨f, fd, ps, ds, F, hm, hk, hb, hd⟩ := C
  refine ⟨?_⟩
  intro pins s σ H Q I h
  refine wpAny_Call_Name_kw (ld_glob I hg hm ?_ hdb)
  refine PySem.W.callWith_K (h₀ := X.base) I.ok.mod.kin hk ?_ he hpl
  refine thn (ha.run pos pins s σ H _ I h) ?_
  rintro us s1 ⟨vs, H1, I1, r, q⟩
  exact ⟨I1.kIn, run_fng F hr hgd hb hd hx I1 r q⟩
theorem pe_calO (C : CalO X.prog X.w X.K X.mg X.base CX k x dvs sp) (hr : Room k X.A) (hx : Passes CX X E)
    (ha : PA X (e :: es) t) (hg : Gl X x := by rfl) (hdb : (x == ("__debug__" : Str)) = false := by decide)
    (he : starEach (e :: es) X.env = (false, eval e X.env) :: starEach es X.env := by rfl)
    (hpl : (backTo pos (starEach es X.env)).any (·.1) = false := by rfl) :
    PE X (.Call (.Name x p) (e :: es) [] pos) (tCall sp dvs E t) := by
  obtain ⟨f, fd, ps, ds, F, hm, hk, hb, hd⟩ := C
  exact pe_call F hr hg hm hk hb hd hx ha hdb he hpl
/-- f() -/
theorem pe_cal0 (C : Cal X.prog X.w X.K X.mg X.base CX k x dvs sp) (hr : Room k X.A) (hgd : X.A.guards = some []) (hx : Passes CX X E)
    (hg : Gl X x := by rfl) (hdb : (x == ("__debug__" : Str)) = false := by decide) :
    PE X (.Call (.Name x p) [] [] pos) (tCall sp dvs E tNil) := by
  obtain ⟨f, fd, ps, ds, F, hm, hk, hb, hd⟩ := C
  refine ⟨?_⟩
  intro pins s σ H Q I h
  refine wpAny_Call_Name_kw (ld_glob I hg hm ?_ hdb)
  exact PySem.W.callWith_K0 I.kIn hk (run_fng (us := []) F hr hgd hb hd hx I .nil h)
end

/-! ### repr of data -/
def rRepr (K : PySem.W.Frag) : List V → Hp → VK → Prop := fun xs H Q => ∃ (x : V) (d : PyData), xs = [x] ∧ Dp K H x d ∧
  d.showable = true ∧ d.hasDict = false ∧ d.depth ≤ 60 ∧ d.shown.length ≤ sizeLine ∧ Q (.str d.shown) H
theorem call_repr {X : Cx} (hgd : X.A.guards = some []) (hu : X.A.units + 64 < cLine) : CallR X (.builtin "repr") (rRepr X.K) := by
  intro pins s σ H xs us Q I r h
  obtain ⟨x, d, rfl, hd, hs, hn, hdp, hz, q⟩ := h
  obtain ⟨u, rfl, rx⟩ := vals1 r
  obtain ⟨as, rd⟩ := Dp.reads I d x u hd rx
  have hsm := PyData.noDict_hsm (as := as) hn
  cases rx' : x with
  | ref a =>
    subst rx'
    obtain rfl : u = Value.ref a := rx
    exact repr_of_reads' rd hs hsm hgd (by omega) (fun _ _ e => e)
      (fun h' t tk hk => ⟨.str d.shown, H, I.kept hk, ⟨_, rfl⟩, q⟩) hz
  | non => subst rx'; cases hd; cases rx; exact PySem.P.repr_of_none ⟨.str _, H, I.tok _, ⟨_, rfl⟩, q⟩
  | bl b => subst rx'; cases hd; cases rx; exact PySem.P.repr_of_bool ⟨.str _, H, I.tok _, ⟨_, rfl⟩, by simpa only [PyData.shown] using q⟩
  | int i =>
    subst rx'; cases hd; obtain ⟨t, rfl⟩ := rx
    exact PySem.P.repr_of_int (by simpa only [PyData.showable, decide_eq_true_eq] using hs) ⟨.str _, H, I.tok _, ⟨_, rfl⟩, by simpa only [PyData.shown] using q⟩
  | str z =>
    subst rx'; cases hd; obtain ⟨t, rfl⟩ := rx
    exact PySem.P.repr_of_str ⟨.str _, H, I.tok _, ⟨_, rfl⟩, by simpa only [PyData.shown] using q⟩ (by simpa only [PyData.shown] using hz)
  | byt b => subst rx'; cases hd
  | flt b => subst rx'; cases hd
  | ty n => subst rx'; cases hd
end G
/-! own rules, second part: instances compared, their truth, attributes as targets, constructors and properties in one -/
namespace G
open PySem PySem.Spec PyProof.Rows L2

/-! ### type of a value, for == -/
theorem type_of {X : Cx} {pins : List (Addr × Obj)} {σ : L2.St} {H : Hp} {s : Shared} {x : V} {u t : Value} {M : Model}
    (I : Inv X pins σ H s) (rx : RelV x u) (ty : TyOf X.K H x t) : PySem.W.Looks M s.heap (typeOf u) t := by
  cases ty with
  | non => cases rx; exact .of_pure rfl
  | bl y => cases rx; exact .of_pure rfl
  | int i => obtain ⟨t, rfl⟩ := rx; exact .of_pure rfl
  | str y => obtain ⟨t, rfl⟩ := rx; exact .of_pure rfl
  | flt y => obtain ⟨t, rfl⟩ := rx; exact .of_pure rfl
  | @lst a xs ea =>
    cases (show u = Value.ref a from rx)
    obtain ⟨_, _, n, _, h1⟩ := (show ObjOk X.prog X.w H s.heap a (.lst xs) from I.hok a _ ea)
    exact (PySem.W.Looks.ld h1).andThen .now
  | @frz a ob xs ea =>
    cases (show u = Value.ref a from rx)
    obtain ⟨_, _, _, n, _, h1⟩ := (show ObjOk X.prog X.w H s.heap a (.frz ob (.lst xs)) from I.hok a _ ea)
    exact (PySem.W.Looks.ld h1).andThen .now
  | @tup a xs ea =>
    cases (show u = Value.ref a from rx)
    obtain ⟨_, _, _, o, h1, h2, _⟩ := (show ObjOk X.prog X.w H s.heap a (.tup xs) from I.hok a _ ea)
    rw [← h2]; exact (PySem.W.Looks.ld h1).andThen .now
  | @dK a kvs ea =>
    cases (show u = Value.ref a from rx)
    obtain ⟨_, _, vs, _, o, es, ep, h1, h2, _⟩ := (show ObjOk X.prog X.w H s.heap a (.dK kvs) from I.hok a _ ea)
    rw [← h2.1]; exact (PySem.W.Looks.ld h1).andThen .now
  | @dT a kvs ea =>
    cases (show u = Value.ref a from rx)
    obtain ⟨_, _, xs, _, o, es, ep, h1, h2, _⟩ := (show ObjOk X.prog X.w H s.heap a (.dT kvs) from I.hok a _ ea)
    rw [← h2.1]; exact (PySem.W.Looks.ld h1).andThen .now
  | @ins a C dx fs ea cl ha hn htk hm =>
    cases (show u = Value.ref a from rx)
    obtain ⟨mA, O, _⟩ := ins_get I.hok ea
    obtain ⟨od, J, _⟩ := O.look
    exact J.type

/-! ### == and != of an instance of a class with its own __eq__ -/
/-- what the class at C wants of its comparison -/
structure EqC (K : PySem.W.Frag) (C f : Addr) : Prop where
  eq : PySem.W.findIn K (.ref C) "__eq__" = some (some (.ref f))
  fn : PySem.W.isFn K (.ref f) = true
  ne : PySem.W.findIn K (.ref C) "__ne__" = some (some (.builtin "object.__ne__"))
  ob : PySem.W.mroIn K C (.type "object") = some true
def rOwnEq (K : PySem.W.Frag) (C : Addr) (sp : Sp) (E : XK) (g : Bool → Bool) : R2 := fun x y H Q => ∃ (a dx : Addr) (fs : List (Str × V)) (t : Value),
  x = .ref a ∧ H a = some (.ins C dx fs) ∧ TyOf K H y t ∧ PySem.W.notFirst K C t = true ∧
  sp [x, y] H (fun v H' => ∃ b, v = .bl b ∧ Q (.bl (g b)) H') E
section
variable {X : Cx} {CX : CXT} {k : Nat} {C f : Addr} {fd : FuncData} {ps : List Str} {sp : Sp} {E : XK}
theorem eq_call {pins : List (Addr × Obj)} {σ : L2.St} {H : Hp} {s : Shared} {A : Around} {x y : V} {v u : Value} {Q : VK} (I : Inv X pins σ H s)
    (Fn : FnOk X.prog X.w X.K X.mg X.base CX k f fd ps sp) (hr : Room k A) (hA : A.frames = some X.stack) (hb : Binds X.K fd ps [])
    (hx : Passes CX X.nox E) (rx : RelV x v) (ry : RelV y u) (h : sp [x, y] H Q E) {E' : Value → Shared → Prop} :
    wpAny (model X.prog X.w) A (call (.ref f) [v, u]) (EP X pins σ Q) E' s := by
  have hl : [v, u].length = ps.length := Fn.len _ _ _ _ h
  have e0 := I.env0
  have e1 : Env0 X.prog X.w X.K X.mg X.base A X.stack s H := ⟨hA, e0.mod, e0.bs, e0.bsz, e0.funs, e0.frf, e0.hok, e0.bare⟩
  have bt := hb s [v, u] I.kIn (by simpa using hl)
  refine wpAny_call (codeAny_mono (Fn.run A X.stack s H ⟨[v, u], []⟩ [v, u] [x, y] Q E hr e1 (by simpa using bt) (.cons rx (.cons ry .nil)) h) ?_)
  intro r s' hq
  match r, hq with
  | .error e, hq => exact (hx pins σ H s e s' (I.wish _) hq).elim
  | .ok (.ret u), hq => exact I.after hq
  | .ok .next, hq => exact hq.elim
  | .ok .brk, hq => exact hq.elim
  | .ok .cont, hq => exact hq.elim
theorem op_eqO (e : EqC X.K C f) (Fn : FnOk X.prog X.w X.K X.mg X.base CX k f fd ps sp) (hr : Room k X.A) (hb : Binds X.K fd ps [])
    (hx : Passes CX X.nox E) : OpR X (compareOp .Eq) (rOwnEq X.K C sp E fun b => b) := by
  intro pins s σ H x y v u Q I rx ry h
  obtain ⟨a, dx, fs, t, rfl, ha, ty, hn, hs⟩ := h
  obtain rfl : v = Value.ref a := rx
  obtain ⟨mA, J, _⟩ := ins_get I.hok ha
  obtain ⟨od, J, _⟩ := J.look
  obtain ⟨m, hF⟩ := I.fr
  show wpAny (model X.prog X.w) X.A (richCompare .Eq (.ref a) u) (EP X pins σ Q) X.xe s
  refine PySem.W.cmp_K (op := .Eq) (tb := t) hr.units0 hF I.ok.mod.kin J (type_of I ry ty) hn e.eq e.fn ?_
  refine wpAny_mono (eq_call (x := V.ref a) (E' := X.xe) I Fn hr I.ok.frames hb hx rfl ry hs) ?_ fun _ _ z => z
  rintro r s' ⟨z, H', I', rz, b, rfl, q⟩
  cases rz
  exact ⟨.bl b, H', I', rfl, q⟩
theorem op_neO (e : EqC X.K C f) (Fn : FnOk X.prog X.w X.K X.mg X.base CX k f fd ps sp) (hr : Room (k + 1) X.A) (hb : Binds X.K fd ps [])
    (hx : Passes CX X.nox E) : OpR X (compareOp .NotEq) (rOwnEq X.K C sp E fun b => !b) := by
  intro pins s σ H x y v u Q I rx ry h
  obtain ⟨a, dx, fs, t, rfl, ha, ty, hn, hs⟩ := h
  obtain rfl : v = Value.ref a := rx
  obtain ⟨mA, J, _⟩ := ins_get I.hok ha
  obtain ⟨od, J, _⟩ := J.look
  have kin := I.kIn
  have un := hr.units
  have one : wpAny (model X.prog X.w) X.A (tryCompare (.ref a) "__ne__" u) (fun r s' => ∃ v, r = some v ∧ EP X pins σ Q v s') X.xe s := by
    have inner : wpAny (model X.prog X.w) X.A.in1 (call (.ref f) [.ref a, u]) (EP X pins σ fun v H' => ∃ b, v = .bl b ∧ Q (.bl (!b)) H') X.xe s :=
      eq_call (x := V.ref a) I Fn hr.in1 (by simpa using I.ok.frames) hb hx rfl ry hs
    have slot : wpAny (model X.prog X.w) X.A (call (.builtin "object.__ne__") [.ref a, u]) (fun v s' => EP X pins σ Q v s' ∧ ∃ b, v = .bool b) X.xe s := by
      refine wpAny_call (codeAny_call_builtin (by decide +kernel) PySem.F.cmpEntry_ne (PySem.W.check_slot PySem.F.cmpKind_ne PySem.F.cmpSplit_ne
        (J.type.andThen (PySem.W.looks_mroIn kin e.ob)) (PySem.F.cmpArgs_ne _ _) ?_))
      unfold Builtin.«object.__ne__»
      refine wpAny_bind (m := slotArgs "__ne__" 1 _) (wpAny_pure ?_)
      refine wpAny_bind (m := cRoomFor _ _) (wpAny_cRoomFor (by show X.A.units + 1 < cLine; omega) ?_)
      refine wpAny_bind (m := callSpecialIfBound? (.ref a) (Str.ofString "__eq__") _) (PySem.W.ifBound_K kin J e.eq e.fn (wpAny_mono inner ?_ fun _ _ z => z))
      rintro r s' ⟨z, H', I', rz, b, rfl, q⟩
      cases rz
      exact wpAny_bind (wpAny_truthy_bool (wpAny_pure ⟨⟨.bl (!b), H', I', rfl, q⟩, _, rfl⟩))
    have bound : wpAny (model X.prog X.w) X.A (callSpecialIfBound? (.ref a) "__ne__" [u]) (fun r s' => ∃ v, r = some v ∧ EP X pins σ Q v s' ∧ ∃ b, v = .bool b) X.xe s := by
      simp only [callSpecialIfBound?, bindSpecialIfBound?]
      refine wpAny_holding (wpAny_bind (wpAny_bind (wpAny_bind (J.type.here ((PySem.W.looks_findIn kin e.ne).here ?_)))))
      have fin : wpAny (model X.prog X.w) X.A (call (.builtin "object.__ne__") ([.ref a] ++ [u]) >>= fun v => pure (some v)) (fun r s' => ∃ v, r = some v ∧ EP X pins σ Q v s' ∧ ∃ b, v = .bool b) X.xe s :=
        wpAny_bind (wpAny_mono slot (fun v s' q => wpAny_pure ⟨v, rfl, q⟩) fun _ _ z => z)
      refine wpAny_bind (wpAny_askSetting (wpAny_ite ?_))
      have bd : bindSpecial (.builtin "object.__ne__") (.ref a) = pure (.builtin "object.__ne__", [.ref a]) := PySem.F.slot_object_ne.bind _
      split
      · exact wpAny_bind ((PySem.W.Looks.of_pure bd).here (wpAny_pure (by exact fin)))
      · exact wpAny_tryCatch (wpAny_bind ((PySem.W.Looks.of_pure bd).here (wpAny_pure (by exact fin))))
    unfold tryCompare
    refine wpAny_bind (wpAny_mono bound ?_ fun _ _ z => z)
    rintro r s' ⟨v, rfl, q, b, rfl⟩
    exact wpAny_pure ⟨_, rfl, q⟩
  show wpAny (model X.prog X.w) X.A (richCompare .NotEq (.ref a) u) (EP X pins σ Q) X.xe s
  unfold richCompare
  simp only [oneThing_ref]
  refine wpAny_holding (wpAny_bind (wpAny_cRoomFor (by omega) ?_))
  refine wpAny_bind (J.type.here (wpAny_bind ((type_of I ry ty).here ?_)))
  split
  · rename_i hne
    have sub : PySem.W.subIn X.K t (.ref C) = some false := by
      rcases Bool.or_eq_true_iff.mp hn with z | z
      · rw [beq_iff_eq.mp z] at hne; simp at hne
      · exact beq_iff_eq.mp z
    refine wpAny_bind ((PySem.W.looks_subIn kin sub).here ?_)
    simp only [Bool.false_eq_true, if_false]
    refine wpAny_bind (wpAny_mono one ?_ fun _ _ z => z)
    rintro r s' ⟨v, rfl, q⟩
    exact wpAny_pure q
  · refine wpAny_bind (wpAny_pure ?_)
    simp only [Bool.false_eq_true, if_false]
    refine wpAny_bind (wpAny_mono one ?_ fun _ _ z => z)
    rintro r s' ⟨v, rfl, q⟩
    exact wpAny_pure q
end

/-! ### truth and length of an instance -/
section
variable {X : Cx} {CX : CXT} {k : Nat} {C f : Addr} {fd : FuncData} {ps : List Str} {sp : Sp} {E : XK}
/-- neither __bool__ nor __len__: true -/
theorem tru_inst (h1 : PySem.W.findIn X.K (.ref C) "__bool__" = some none) (h2 : PySem.W.findIn X.K (.ref C) "__len__" = some none) :
    TruR X (fun x H Q => ∃ (a dx : Addr) (fs : List (Str × V)), x = .ref a ∧ H a = some (.ins C dx fs) ∧ Q true H) := by
  intro pins s σ H x v Q I rx h
  obtain ⟨a, dx, fs, rfl, ha, q⟩ := h
  obtain rfl : v = Value.ref a := rx
  obtain ⟨mA, J, _⟩ := ins_get I.hok ha
  obtain ⟨od, J, _⟩ := J.look
  obtain ⟨m, hF⟩ := I.fr
  exact PySem.W.truthy_K0 hF I.ok.mod.kin J h1 h2 ⟨H, I, q⟩
/-- len(o) by the class's own __len__ -/
theorem call_len_inst (h1 : PySem.W.findIn X.K (.ref C) "__len__" = some (some (.ref f))) (h2 : PySem.W.isFn X.K (.ref f) = true)
    (Fn : FnOk X.prog X.w X.K X.mg X.base CX k f fd ps sp) (hr : Room (k + 1) X.A) (hb : Binds X.K fd ps []) (hx : Passes CX X E) :
    CallR X (.builtin "len") (fun xs H Q => ∃ (a dx : Addr) (fs : List (Str × V)), xs = [.ref a] ∧ H a = some (.ins C dx fs) ∧
      sp [.ref a] H (fun v H' => ∃ n : Int, v = .int n ∧ 0 ≤ n ∧ n < 2 ^ 63 ∧ Q (.int n) H') E) := by
  intro pins s σ H xs us Q I r h
  obtain ⟨a, dx, fs, rfl, ha, hs⟩ := h
  obtain ⟨u, rfl, r1⟩ := vals1 r
  obtain rfl : u = Value.ref a := r1
  obtain ⟨mA, J, _⟩ := ins_get I.hok ha
  obtain ⟨od, J, _⟩ := J.look
  obtain ⟨m, hF⟩ := I.fr
  have hl : [Value.ref a].length = ps.length := Fn.len _ _ _ _ hs
  have e1 : Env0 X.prog X.w X.K X.mg X.base X.A.in1 X.stack s H := I.env0.in1
  have bt := hb s [Value.ref a] I.kIn (by simpa using hl)
  refine PySem.W.len_K hF I.ok.mod.kin J h1 h2 (wpAny_call (codeAny_mono (Fn.run X.A.in1 X.stack s H ⟨[.ref a], []⟩ [.ref a] [.ref a] _ E hr.in1 e1 (by simpa using bt) (.cons rfl .nil) hs) ?_))
  intro r s' hq
  match r, hq with
  | .error e, hq => exact (hx pins σ H s e s' I hq)
  | .ok (.ret w), hq =>
    obtain ⟨v, H', I', rv, n, rfl, n0, n1, q⟩ := I.after hq
    obtain ⟨t, rfl⟩ := rv
    exact ⟨⟨n0, n1⟩, .int n, H', I'.tok _, ⟨_, rfl⟩, q⟩
  | .ok .next, hq => exact hq.elim
  | .ok .brk, hq => exact hq.elim
  | .ok .cont, hq => exact hq.elim
end

/-! ### an attribute as a target -/
def gAttr (K : PySem.W.Frag) (to : TE) (f : Str) : TG := fun v σ H Q => to σ H fun x H1 => ∃ (a C dx : Addr) (fs : List (Str × V)),
  x = .ref a ∧ H1 a = some (.ins C dx fs) ∧ Cls K C ∧ NoAttr K C f ∧ fs.length < 1000 ∧ Q σ (upd H1 a (.ins C dx (putF f v fs)))
theorem pg_attr {X : Cx} {o : Expr} {f : Str} {pos : Pos} {to : TE} (ho : PE X o to)
    (ha : ∀ v, assign (.Attribute o f pos) X.env v = (do
      let ov ← holding [v] (eval o X.env)
      standAt pos.atName
      holding [v, ov] (setAttr ov f v)
      release [v, ov] []) := by intro _; rfl) : PG X (.Attribute o f pos) (gAttr X.K to f) := by
  refine ⟨?_⟩
  intro pins s σ H v u Q I r h
  rw [ha]
  refine wpAny_bind (wpAny_holding (thn (ho.run pins s σ H _ I h) ?_))
  rintro ov s1 ⟨x, H1, I1, rx, a, C, dx, fs, ex, ea, c, n, l, q⟩
  subst ex
  obtain rfl : ov = Value.ref a := rx
  refine wpAny_bind (wpAny_standAt (wpAny_bind (wpAny_holding (setattr_ok I1 ea c n l r ?_))))
  intro s3 I3
  exact wpAny_release ⟨σ, _, I3, q⟩

/-! ### a constructor, a property, a method: all that it wants in one -/
/-- the module's name x is the class at C; its __init__ keeps sp; dvs fill up behind the written arguments -/
def CalC (P : Program) (w : World) (K : PySem.W.Frag) (mg : Str → Option Value) (base : Heap) (CX : CXT) (k : Nat) (x : Str) (C : Addr)
    (dvs : List V) (sp : Sp) : Prop :=
  ∃ f fd ps ds, Mk K C f ∧ FnOk P w K mg base CX k f fd ps sp ∧ mg x = some (.ref C) ∧ Binds K fd ps ds ∧ Vals dvs ds
/-- .. with n written arguments and the keywords ks: gV says how they go to the parameters -/
def CalN (P : Program) (w : World) (K : PySem.W.Frag) (mg : Str → Option Value) (base : Heap) (CX : CXT) (k : Nat) (x : Str) (C : Addr)
    (n : Nat) (ks : List Str) (gV : List V → List V → List V) (sp : Sp) : Prop :=
  ∃ f fd ps g, Mk K C f ∧ FnOk P w K mg base CX k f fd ps sp ∧ mg x = some (.ref C) ∧ KBn K fd ps (n + 1) ks g gV
/-- a property of the class at C that hands back the attribute fld -/
def GetP (P : Program) (w : World) (K : PySem.W.Frag) (mg : Str → Option Value) (base : Heap) (k : Nat) (C : Addr) (f fld : Str) : Prop :=
  ∃ p g fd ps, Cls K C ∧ PropOf K C f p g ∧ FnOk P w K mg base CX0 k g fd ps (getSp C fld) ∧ Binds K fd ps []
def tGet (C : Addr) (fld : Str) (ta : TE) : TE := fun σ H Q => ta σ H fun x H1 => ∃ (a dx : Addr) (fs : List (Str × V)) (v : V),
  x = .ref a ∧ H1 a = some (.ins C dx fs) ∧ fs.lookup fld = some v ∧ Q v H1
section
variable {X : Cx} {CX : CXT} {k n : Nat} {C : Addr} {sp : Sp} {dvs : List V} {ks : List Str} {gV : List V → List V → List V}
variable {E : XK} {x f fld : Str} {p pos : Pos} {e : Expr} {es : List Expr} {kws : List Keyword} {ta : TE} {t tk : TA}
theorem pe_mkc (c : CalC X.prog X.w X.K X.mg X.base CX k x C dvs sp) (hr : Room (k + 1) X.A) (hx : Passes CX X E)
    (ha : PA X (e :: es) t) (hg : Gl X x := by rfl) (hdb : (x == ("__debug__" : Str)) = false := by decide)
    (he : starEach (e :: es) X.env = (false, eval e X.env) :: starEach es X.env := by rfl)
    (hpl : (backTo pos (starEach es X.env)).any (·.1) = false := by rfl) :
    PE X (.Call (.Name x p) (e :: es) [] pos) (tMake C sp dvs E t) := by
  obtain ⟨f, fd, ps, ds, M, Fn, hm, hb, hd⟩ := c
  exact pe_make M Fn hr hg hm hb hd hx ha hdb he hpl
theorem pe_mkn (c : CalN X.prog X.w X.K X.mg X.base CX k x C n ks gV sp) (hr : Room (k + 1) X.A) (hx : Passes CX X E)
    (ha : PA X (e :: es) t) (hkw : PK X kws tk) (hg : Gl X x := by rfl) (hall : (backToKw pos (keywordEach kws X.env)).all (·.1.isSome) = true := by rfl)
    (hks : (backToKw pos (keywordEach kws X.env)).filterMap (·.1) = ks := by rfl) (hdb : (x == ("__debug__" : Str)) = false := by decide)
    (he : starEach (e :: es) X.env = (false, eval e X.env) :: starEach es X.env := by rfl)
    (hpl : ((backTo pos (starEach (e :: es) X.env)).any (·.1) || (backToKw pos (keywordEach kws X.env)).any (·.1.isNone)) = false := by rfl) :
    PE X (.Call (.Name x p) (e :: es) kws pos) (tMakeK C n ks.length sp gV E t tk) := by
  obtain ⟨f, fd, ps, g, M, Fn, hm, hb⟩ := c
  exact pe_makeK M Fn hr hg hm hb hx ha hkw hall hks hdb he hpl
theorem pe_mkn0 (c : CalN X.prog X.w X.K X.mg X.base CX k x C 0 ks gV sp) (hr : Room (k + 1) X.A) (hx : Passes CX X E)
    (hkw : PK X kws tk) (hg : Gl X x := by rfl) (hall : (backToKw pos (keywordEach kws X.env)).all (·.1.isSome) = true := by rfl)
    (hks : (backToKw pos (keywordEach kws X.env)).filterMap (·.1) = ks := by rfl) (hdb : (x == ("__debug__" : Str)) = false := by decide)
    (hpl : ((backTo pos (starEach [] X.env)).any (·.1) || (backToKw pos (keywordEach kws X.env)).any (·.1.isNone)) = false := by rfl) :
    PE X (.Call (.Name x p) [] kws pos) (tMakeK C 0 ks.length sp gV E tNil tk) := by
  obtain ⟨f, fd, ps, g, M, Fn, hm, hb⟩ := c
  exact pe_makeK0 M Fn hr hg hm hb hx hkw hall hks hdb hpl
theorem pe_get (c : GetP X.prog X.w X.K X.mg X.base k C f fld) (hr : Room (k + 1) X.A) (ha : PE X e ta)
    (hab : attributeBase e f X.env (eval e X.env) = eval e X.env := by rfl) : PE X (.Attribute e f pos) (tGet C fld ta) := by
  obtain ⟨p, g, fd, ps, cl, hp, Fn, hb⟩ := c
  refine ⟨?_⟩
  intro pins s σ H Q I h
  refine attr_of hab (thn (ha.run pins s σ H _ I h) ?_)
  rintro u s1 ⟨x, H1, I1, rx, a, dx, fs, v, rfl, ea, el, q⟩
  obtain rfl : u = Value.ref a := rx
  exact getprop_ok (E := E0) I1 ea cl hp Fn hr hb .nil pass0 ⟨a, dx, fs, v, rfl, ea, el, q⟩
end
end G
/-! own rules, third part: heaps behind a pool, loops over anything that stands still, small tactics -/
namespace G
open PySem PySem.Spec PyProof.Rows L2

/-! ### heaps -/
/-- all but what stands at p is as it was -/
def But (p : Addr) (H H' : Hp) : Prop := ∀ q o, q ≠ p → H q = some o → H' q = some o
theorem But.refl (p : Addr) (H : Hp) : But p H H := fun _ _ _ e => e
theorem But.trans {p : Addr} {H H1 H2 : Hp} (a : But p H H1) (b : But p H1 H2) : But p H H2 := fun q o n e => b q o n (a q o n e)
theorem But.of {p : Addr} {H H' : Hp} (a : Same H H') : But p H H' := fun q o _ e => a q o e
theorem But.new {p : Addr} {H H1 : Hp} {q : Addr} {o : HO} (a : But p H H1) (n : H1 q = none) : But p H (upd H1 q o) := fun b u nb e => by
  rw [upd_ne (ne_of_none (a b u nb e) n)]
  exact a b u nb e
theorem But.at {p : Addr} {H H1 : Hp} {o : HO} (a : But p H H1) : But p H (upd H1 p o) := fun b u nb e => by
  rw [upd_ne nb]
  exact a b u nb e
theorem _root_.L2.Same.new {H H1 : Hp} {q : Addr} {o : HO} (a : Same H H1) (n : H1 q = none) : Same H (upd H1 q o) := fun b u e => by
  rw [upd_ne (ne_of_none (a b u e) n)]
  exact a b u e
/-- another object, written: it was new ahead -/
theorem But.own {p : Addr} {H H1 : Hp} {q : Addr} {o : HO} (a : But p H H1) (n : H q = none) : But p H (upd H1 q o) := fun b u nb e => by
  rw [upd_ne (ne_of_none e n)]
  exact a b u nb e
theorem _root_.L2.Same.own {H H1 : Hp} {q : Addr} {o : HO} (a : Same H H1) (n : H q = none) : Same H (upd H1 q o) := fun b u e => by
  rw [upd_ne (ne_of_none e n)]
  exact a b u e
/-- the pool: three whole numbers, none below nought, two of them small -/
def PoolAt (H : Hp) (p : Addr) : Prop := ∃ a b d : Int, H p = some (.lst [.int a, .int b, .int d]) ∧ 0 ≤ a ∧ a < 4294967296 ∧ 0 ≤ b ∧ b < 4294967296 ∧ 0 ≤ d
/-- a pool was drawn from, new things stand -/
structure Pl (p : Addr) (H H' : Hp) : Prop where
  but : But p H H'
  pool : PoolAt H' p
theorem Pl.refl {p : Addr} {H : Hp} (h : PoolAt H p) : Pl p H H := ⟨.refl _ _, h⟩
theorem Pl.trans {p : Addr} {H H1 H2 : Hp} (a : Pl p H H1) (b : Pl p H1 H2) : Pl p H H2 := ⟨a.but.trans b.but, b.pool⟩
theorem PoolAt.new {H : Hp} {p q : Addr} {o : HO} (h : PoolAt H p) (n : H q = none) : PoolAt (upd H q o) p := by
  obtain ⟨a, b, d, e, r⟩ := h
  exact ⟨a, b, d, by rw [upd_ne (ne_of_none e n)]; exact e, r⟩
theorem PoolAt.ne {H : Hp} {p q : Addr} {o : HO} (h : PoolAt H p) (nq : q ≠ p) : PoolAt (upd H q o) p := by
  obtain ⟨a, b, d, e, r⟩ := h
  exact ⟨a, b, d, by rw [upd_ne nq.symm]; exact e, r⟩
theorem Pl.new {p : Addr} {H H1 : Hp} {q : Addr} {o : HO} (a : Pl p H H1) (n : H1 q = none) : Pl p H (upd H1 q o) := ⟨a.but.new n, a.pool.new n⟩
theorem Pl.own {p : Addr} {H H1 : Hp} {q : Addr} {o : HO} (a : Pl p H H1) (n : H q = none) (nq : q ≠ p) : Pl p H (upd H1 q o) := ⟨a.but.own n, a.pool.ne nq⟩
theorem Pl.same {p : Addr} {H H1 H2 : Hp} (a : Pl p H H1) (s : Same H1 H2) : Pl p H H2 := ⟨a.but.trans (.of s), by
  obtain ⟨x, b, d, e, r⟩ := a.pool
  exact ⟨x, b, d, s _ _ e, r⟩⟩
theorem PoolAt.same {p : Addr} {H1 H2 : Hp} (h : PoolAt H1 p) (s : Same H1 H2) : PoolAt H2 p := by
  obtain ⟨x, b, d, e, r⟩ := h
  exact ⟨x, b, d, s _ _ e, r⟩
theorem Pl.get {p q : Addr} {H H1 : Hp} {o : HO} (a : Pl p H H1) (e : H q = some o) (n : q ≠ p) : H1 q = some o := a.but q o n e
/-- what is no list is not the pool -/
def noL : HO → Bool
  | .lst _ => false
  | _ => true
theorem Pl.obj {p q : Addr} {H H1 : Hp} {o : HO} (a : Pl p H H1) (h : PoolAt H p) (e : H q = some o) (n : noL o = true) : H1 q = some o := by
  obtain ⟨x, b, d, e', _⟩ := h
  exact a.get e (ne_of e e' (by rintro rfl; cases n))
theorem Pl.free {p q : Addr} {H H1 : Hp} (a : Pl p H H1) (n : H1 q = none) : H q = none := by
  cases e : H q with
  | none => rfl
  | some o =>
    by_cases hq : q = p
    · obtain ⟨x, b, d, e', _⟩ := a.pool
      rw [hq, e'] at n
      cases n
    · rw [a.get e hq] at n
      cases n
theorem PoolAt.ne_new {H : Hp} {p q : Addr} (h : PoolAt H p) (n : H q = none) : q ≠ p := by
  obtain ⟨x, b, d, e, _⟩ := h
  exact (ne_of_none e n).symm
theorem upd_get {H : Hp} {q g : Addr} {o u : HO} (n : H q = none) (e : H g = some u) : upd H q o g = some u := by
  rw [upd_ne (ne_of_none e n)]
  exact e
theorem _root_.L2.SqL.same {K : PySem.W.Frag} {H H' : Hp} {a : Addr} {xs : List V} (h : SqL K H a xs) (s : Same H H') : SqL K H' a xs := s.seq h
theorem _root_.L2.SqT.same {K : PySem.W.Frag} {H H' : Hp} {a : Addr} {xs : List V} (h : SqT K H a xs) (s : Same H H') : SqT K H' a xs := by
  rcases h with (h | ⟨o, h⟩) | h
  · exact .inl (.inl (s _ _ h))
  · exact .inl (.inr ⟨o, s _ _ h⟩)
  · exact .inr h
theorem _root_.L2.SqT.pl {K : PySem.W.Frag} {p : Addr} {H H' : Hp} {a : Addr} {xs : List V} (h : SqT K H a xs) (r : Pl p H H') (hp : PoolAt H p) : SqT K H' a xs := by
  rcases h with (h | ⟨o, h⟩) | h
  · exact .inl (.inl (r.obj hp h rfl))
  · exact .inl (.inr ⟨o, r.obj hp h rfl⟩)
  · exact .inr h

theorem upd_free {H : Hp} {q p : Addr} {o : HO} (h : upd H q o p = none) : H p = none := by
  by_cases e : p = q
  · rw [e, upd_same] at h; cases h
  · rw [upd_ne e] at h; exact h
theorem upd_free_ne {H : Hp} {q p : Addr} {o : HO} (h : upd H q o p = none) : p ≠ q := fun e => by
  rw [e, upd_same] at h; cases h
theorem same_get {H H1 : Hp} {g : Addr} {u : HO} (s : Same H H1) (e : H g = some u) : H1 g = some u := s _ _ e
/-! ### what is walked and stands still -/
/-- the walk J yields the items xs one by one while Sd holds of the heap -/
structure Wk (J : It) (xs : List V) (Sd : Hp → Prop) : Prop where
  go : ∀ i H, Sd H → i < xs.length → J.go i H
  stop : ∀ i H, Sd H → xs.length ≤ i → J.stop i H
  yld : ∀ i H v H', Sd H → i < xs.length → J.yld i H v H' → H' = H ∧ xs[i]? = some v
theorem wk_list {K : PySem.W.Frag} {a : Addr} (xs : List V) : Wk (Itl K a) xs (fun H => SqL K H a xs) :=
  ⟨fun i H h l => ⟨xs, xs[i], h, by simp [l]⟩, fun i H h l => ⟨xs, h, l⟩, fun i H v H' h _ y => ⟨y.1, y.2 xs h⟩⟩
theorem wk_tup {K : PySem.W.Frag} {a : Addr} (xs : List V) : Wk (Itt K a) xs (fun H => SqT K H a xs) :=
  ⟨fun i H h l => ⟨xs, xs[i], h, by simp [l]⟩, fun i H h l => ⟨xs, h, l⟩, fun i H v H' h _ y => ⟨y.1, y.2 xs h⟩⟩
def signs (x : Str) : List V := x.cps.toList.map fun c => V.str ⟨#[c]⟩
theorem signs_len (x : Str) : (signs x).length = x.cps.size := by simp [signs]
theorem wk_str (x : Str) : Wk (Its x) (signs x) (fun _ => True) :=
  ⟨fun i H _ l => by rw [signs_len] at l; exact l, fun i H _ l => by rw [signs_len] at l; exact l, fun i H v H' _ _ y => by
    obtain ⟨e, c, h, rfl⟩ := y
    refine ⟨e, ?_⟩
    simp only [signs, List.getElem?_map, Array.getElem?_toList, h, Option.map_some]⟩
def rngV (lo : Int) (n : Nat) : List V := (List.range n).map fun (i : Nat) => V.int (lo + (i : Int))
theorem rngV_len (lo : Int) (n : Nat) : (rngV lo n).length = n := by simp [rngV]
theorem wk_range (lo : Int) (n : Nat) : Wk (Itr lo n) (rngV lo n) (fun _ => True) :=
  ⟨fun i H _ l => by rw [rngV_len] at l; exact l, fun i H _ l => by rw [rngV_len] at l; exact l, fun i H v H' _ l y => by
    obtain ⟨e, rfl⟩ := y
    rw [rngV_len] at l
    refine ⟨e, ?_⟩
    simp [rngV, l]⟩

/-- a list comprehension over what stands still -/
theorem lcW {J : It} {xs : List V} {Sd : Hp → Prop} (wk : Wk J xs Sd) {g : TG} {tt : TT} {te : TE} {vs : List Nat} {σ : L2.St} {H1 : Hp} {D : Addr} {Qd : Hp → Prop}
    (Pv : Nat → Hp → Prop) (h0 : Pv 0 (upd H1 D (.lst []))) (hst : ∀ i H, i ≤ xs.length → Pv i H → Sd H)
    (hs : ∀ i x H, xs[i]? = some x → Pv i H → g x (wipe σ vs) H fun σ2 H2 => wipe σ2 vs = wipe σ vs ∧ tt σ2 H2 fun b H3 =>
      if b = true then te σ2 H3 fun y H4 => ∃ acc, H4 D = some (.lst acc) ∧ acc.length < sizeLine ∧ Pv (i + 1) (upd H4 D (.lst (acc ++ [y]))) else Pv (i + 1) H3)
    (hd : ∀ H, Pv xs.length H → Qd H) :
    ∃ W : Nat → Nat → Hp → Prop, (∃ m, W 0 m (upd H1 D (.lst []))) ∧ ∀ i m H, W i m H →
      (J.stop i H ∧ Qd H) ∨ (J.go i H ∧ ∃ Nx : Hp → Prop, (∀ H', Nx H' → ∃ m', m' < m ∧ W (i + 1) m' H') ∧ ∀ x H', J.yld i H x H' →
        g x (wipe σ vs) H' fun σ2 H2 => wipe σ2 vs = wipe σ vs ∧ tt σ2 H2 fun b H3 =>
        if b = true then te σ2 H3 fun y H4 => ∃ acc, H4 D = some (.lst acc) ∧ acc.length < sizeLine ∧ Nx (upd H4 D (.lst (acc ++ [y]))) else Nx H3) := by
  refine ⟨fun i m H => m = xs.length - i ∧ i ≤ xs.length ∧ Pv i H, ⟨xs.length, rfl, Nat.zero_le _, h0⟩, ?_⟩
  rintro i m H ⟨rfl, hi, pv⟩
  have sd := hst i H hi pv
  rcases Nat.lt_or_ge i xs.length with lt | ge
  · refine .inr ⟨wk.go i H sd lt, Pv (i + 1), fun H' q => ⟨xs.length - (i + 1), by omega, rfl, lt, q⟩, ?_⟩
    intro x H' y
    obtain ⟨rfl, hx⟩ := wk.yld i H x H' sd lt y
    exact hs i x _ hx pv
  · have e : i = xs.length := by omega
    subst e
    exact .inl ⟨wk.stop _ H sd ge, hd H pv⟩
/-- a comprehension whose element is a plain function of the item and touches nothing -/
theorem lcP {J : It} {xs : List V} {Sd : Hp → Prop} (wk : Wk J xs Sd) (f : V → V) {g : TG} {te : TE} {vs : List Nat} {σ : L2.St} {H1 : Hp} {D : Addr} {Qd : Hp → Prop}
    (hst : ∀ acc, Sd (upd H1 D (.lst acc))) (hz : xs.length < sizeLine)
    (hs : ∀ (i : Nat) (x : V) (acc : List V) (Q : VK), xs[i]? = some x → Q (f x) (upd H1 D (.lst acc)) → g x (wipe σ vs) (upd H1 D (.lst acc)) fun σ2 H2 => wipe σ2 vs = wipe σ vs ∧ te σ2 H2 Q)
    (hd : Qd (upd H1 D (.lst (xs.map f)))) :
    ∃ W : Nat → Nat → Hp → Prop, (∃ m, W 0 m (upd H1 D (.lst []))) ∧ ∀ i m H, W i m H →
      (J.stop i H ∧ Qd H) ∨ (J.go i H ∧ ∃ Nx : Hp → Prop, (∀ H', Nx H' → ∃ m', m' < m ∧ W (i + 1) m' H') ∧ ∀ x H', J.yld i H x H' →
        g x (wipe σ vs) H' fun σ2 H2 => wipe σ2 vs = wipe σ vs ∧ tYes σ2 H2 fun b H3 =>
        if b = true then te σ2 H3 fun y H4 => ∃ acc, H4 D = some (.lst acc) ∧ acc.length < sizeLine ∧ Nx (upd H4 D (.lst (acc ++ [y]))) else Nx H3) := by
  refine lcW wk (fun i H => H = upd H1 D (.lst ((xs.take i).map f))) (by simp) (fun i H _ e => by rw [e]; exact hst _) ?_ (fun H e => by rw [e, List.take_length]; exact hd)
  rintro i x H hx rfl
  have lt : i < xs.length := (List.getElem?_eq_some_iff.mp hx).1
  have tk : (xs.take (i + 1)).map f = (xs.take i).map f ++ [f x] := by
    rw [List.take_add_one, hx, List.map_append]
    rfl
  have h := hs i x ((xs.take i).map f) (fun y H4 => ∃ acc, H4 D = some (.lst acc) ∧ acc.length < sizeLine ∧ upd H4 D (.lst (acc ++ [y])) = upd H1 D (.lst ((xs.take (i + 1)).map f))) hx
    ⟨_, upd_same, by rw [List.length_map, List.length_take]; omega, by rw [upd_upd, tk]⟩
  exact h
/-- a for over what stands still -/
theorem forW {J : It} {xs : List V} {Sd : Hp → Prop} (wk : Wk J xs Sd) {g : TG} {tb : TS} {D : Ends} {σ : L2.St} {H : Hp} (Pv : Nat → L2.St → Hp → Prop) (h0 : Pv 0 σ H)
    (hst : ∀ i σ H, i ≤ xs.length → Pv i σ H → Sd H)
    (hs : ∀ i x σ H, xs[i]? = some x → Pv i σ H → g x σ H fun σ2 H2 => tb { D with nx := Pv (i + 1), ct := Pv (i + 1), bk := D.nx } σ2 H2) (hd : ∀ σ H, Pv xs.length σ H → D.nx σ H) :
    ∃ W : Nat → Nat → L2.St → Hp → Prop, (∃ m, W 0 m σ H) ∧ ∀ i m σ H, W i m σ H →
      (J.stop i H ∧ D.nx σ H) ∨ (J.go i H ∧ ∃ N : L2.St → Hp → Prop, (∀ σ' H', N σ' H' → ∃ m', m' < m ∧ W (i + 1) m' σ' H') ∧
        ∀ x H', J.yld i H x H' → g x σ H' fun σ2 H2 => tb { D with nx := N, ct := N, bk := D.nx } σ2 H2) := by
  refine ⟨fun i m σ H => m = xs.length - i ∧ i ≤ xs.length ∧ Pv i σ H, ⟨xs.length, rfl, Nat.zero_le _, h0⟩, ?_⟩
  rintro i m σ H ⟨rfl, hi, pv⟩
  have sd := hst i σ H hi pv
  rcases Nat.lt_or_ge i xs.length with lt | ge
  · refine .inr ⟨wk.go i H sd lt, Pv (i + 1), fun σ' H' q => ⟨xs.length - (i + 1), by omega, rfl, lt, q⟩, ?_⟩
    intro x H' y
    obtain ⟨rfl, hx⟩ := wk.yld i H x H' sd lt y
    exact hs i x σ _ hx pv
  · have e : i = xs.length := by omega
    subst e
    exact .inl ⟨wk.stop _ H sd ge, hd σ H pv⟩

/-! ### tests -/
theorem iteD {p A B : Prop} [Decidable p] (h1 : p → A) (h2 : ¬ p → B) : if decide p = true then A else B := by
  by_cases h : p
  · rw [decide_eq_true h]; exact iteT (h1 h)
  · rw [decide_eq_false h]; exact iteF (h2 h)
theorem iteND {p A B : Prop} [Decidable p] (h1 : ¬ p → A) (h2 : p → B) : if (!decide p) = true then A else B := by
  by_cases h : p
  · rw [decide_eq_true h]; exact iteF (h2 h)
  · rw [decide_eq_false h]; exact iteT (h1 h)
theorem iteB {b : Bool} {A B : Prop} (h1 : b = true → A) (h2 : b = false → B) : if b = true then A else B := by
  cases b
  · exact iteF (h2 rfl)
  · exact iteT (h1 rfl)
theorem iteNB {b : Bool} {A B : Prop} (h1 : b = false → A) (h2 : b = true → B) : if (!b) = true then A else B := by
  cases b
  · exact iteT (h1 rfl)
  · exact iteF (h2 rfl)
theorem iteKT {b : Bool} {A B : Prop} (h : b = true) (x : A) : if b = true then A else B := by rw [h]; exact iteT x
theorem iteKF {b : Bool} {A B : Prop} (h : b = false) (x : B) : if b = true then A else B := by rw [h]; exact iteF x
/-- the wished end, by an equation of what comes back -/
theorem ret_eq {Q : VK} {H : Hp} {v u : V} (h : Q v H) (e : v = u) : Q u H := e ▸ h
theorem str_len (z : Str) : z.length = z.cps.toList.length := by
  show z.cps.size = _
  simp
theorem cat_len (x y : Str) : (x ++ y).length = x.length + y.length := by
  rw [str_len, str_len, str_len, ← List.length_append]
  show (x.cps ++ y.cps).toList.length = _
  rw [Array.toList_append]
end G
/-! own rules, fourth part: what the head tells -/
namespace G
open PySem PySem.Spec PyProof.Rows L2
/-! ### the head: He's facts, a list of further Bools, the getters of properties -/
/-- the property f of the class named c, its getter -/
def prA (K : PySem.W.Frag) (c f : Str) : Addr := match PySem.W.findIn K (.ref (He.ga K c)) f with
  | some (some (.ref p)) => p
  | _ => 0
def grA (K : PySem.W.Frag) (p : Addr) (T : String) : Addr := match PySem.W.recIn K p T with
  | some (.ref g :: _) => g
  | _ => 0
/-- one getter: its class, its name, the def -/
structure GetD where
  cls : Str
  name : Str
  kind : String
  params : Arguments
  body : List Stmt
  scope : Scope
def GetD.at (d : GetD) (K : PySem.W.Frag) : Addr := grA K (prA K d.cls d.name) d.kind
abbrev ObsF : Type := Option (Str × Str × Arguments × FuncBody × Scope × Addr × List (Str × Addr) × Value × Addr)
def obsF (K : PySem.W.Frag) (a : Addr) : ObsF := match K.lookup a with
  | some ⟨_, _, .func fd, _⟩ => some (fd.name, fd.qualname, fd.params, fd.body, fd.scope, fd.globals, fd.closure, fd.defaults, fd.builtins)
  | _ => none
def GetD.qual (d : GetD) : Str := d.cls ++ ("." ++ d.name)
def GetD.val (d : GetD) : ObsF := some (d.name, d.qual, d.params, .stmts d.body, d.scope, mainGlobals, [], .none, builtinsNs)
def GetD.ok (d : GetD) (K : PySem.W.Frag) : Bool :=
  decide (PySem.W.findIn K (.ref (He.ga K d.cls)) d.name = some (some (.ref (prA K d.cls d.name)))) &&
  (decide (PySem.W.specialIn K (.ref (prA K d.cls d.name)) "__get__" = some (some (.builtin (d.kind ++ ".__get__")))) &&
  (decide (PySem.W.takesIn K (.ref (prA K d.cls d.name)) = some (d.kind == "property")) &&
  ((match PySem.W.recIn K (prA K d.cls d.name) d.kind with
    | some (.ref g :: _) => decide (g = d.at K)
    | _ => false) &&
  (match K.lookup (d.at K) with
    | some ⟨_, _, .func fd, _⟩ => PySem.W.codeIn K fd.code d.qual
    | _ => false))))
theorem GetD.prop {d : GetD} {K : PySem.W.Frag} (hk : d.kind = "property") (h : d.ok K = true) : PropOf K (He.ga K d.cls) d.name (prA K d.cls d.name) (d.at K) := by
  obtain ⟨h1, h⟩ := He.ba h
  obtain ⟨h2, h⟩ := He.ba h
  obtain ⟨h3, h⟩ := He.ba h
  obtain ⟨h4, _⟩ := He.ba h
  refine ⟨of_decide_eq_true h1, ?_, (by have e := of_decide_eq_true h3; rw [hk] at e; simpa using e), ?_⟩
  · have e := of_decide_eq_true h2
    rw [hk] at e
    exact e
  · rw [hk] at h4
    split at h4
    · rename_i g r e
      have eg : g = d.at K := of_decide_eq_true h4
      exact ⟨r, by rw [e, eg]⟩
    · cases h4
theorem GetD.fn {d : GetD} {K : PySem.W.Frag} (e : obsF K (d.at K) = d.val) (h : d.ok K = true) :
    ∃ oc od osl kV doc pm an cdv ct, K.lookup (d.at K) = some ⟨oc, od, .func (PySem.W.fnOf d.name d.qual d.params d.body d.scope .none kV doc pm an cdv ct), osl⟩ ∧ PySem.W.codeIn K cdv d.qual = true := by
  obtain ⟨_, h⟩ := He.ba h
  obtain ⟨_, h⟩ := He.ba h
  obtain ⟨_, h⟩ := He.ba h
  obtain ⟨_, c⟩ := He.ba h
  unfold obsF at e
  cases q : K.lookup (d.at K) with
  | none => rw [q] at c; cases c
  | some o =>
    obtain ⟨oc, od, dt, osl⟩ := o
    rw [q] at c e
    cases dt with
    | func fd =>
      obtain ⟨a1, a2, a3, a4, a5, a6, a7, a8, a9, a10, a11, a12, a13, a14, a15⟩ := fd
      have e2 : (some (a1, a2, a3, a4, a5, a6, a7, a8, a15) : ObsF) = some (d.name, d.qual, d.params, .stmts d.body, d.scope, mainGlobals, [], .none, builtinsNs) := e
      simp only [Option.some.injEq, Prod.mk.injEq] at e2
      obtain ⟨rfl, rfl, rfl, rfl, rfl, rfl, rfl, rfl, rfl⟩ := e2
      exact ⟨oc, od, osl, a9, a10, a11, a12, a13, a14, rfl, c⟩
    | _ => cases c
/-- a def that stands in a record (of a classmethod), without defaults -/
theorem GetD.fund {d : GetD} {K : PySem.W.Frag} (e : obsF K (d.at K) = d.val) (h : d.ok K = true) (kp : PySem.W.keepIn K (.ref (d.at K)) = true) :
    ∃ fd, FunD K d.name d.qual d.params d.body d.scope [] [] (d.at K) fd := by
  obtain ⟨oc, od, osl, kV, doc, pm, an, cdv, ct, lk, hcd⟩ := d.fn e h
  exact ⟨_, ⟨⟨oc, od, .none, kV, doc, pm, an, cdv, ct, osl, rfl, lk, hcd, .inl ⟨rfl, rfl⟩, .inl rfl⟩, kp⟩⟩
abbrev AlG : Type := He.AlD × Bool × List ObsF
def obsK (fa : List He.Fa) (fn : List He.DefD) (gs : List GetD) (ex : List (PySem.W.Frag → Bool)) (K : PySem.W.Frag) : AlG :=
  (He.obsD fa fn K, (ex.all fun f => f K) && gs.all fun d => d.ok K, gs.map fun d => obsF K (d.at K))
def valK (fn : List He.DefD) (gs : List GetD) : AlG := (He.valD fn, true, gs.map GetD.val)
def obsKG (n : Nat) (fa : List He.Fa) (fn : List He.DefD) (gs : List GetD) (ex : List (PySem.W.Frag → Bool)) (g : Addr → Option Obj) : AlG :=
  obsK fa fn gs ex (He.frG g (He.asD g n ++ [cStatics, sysModules]))
def SaysG (fa : List He.Fa) (fn : List He.DefD) (gs : List GetD) (ex : List (PySem.W.Frag → Bool)) (K : PySem.W.Frag) : Prop := obsK fa fn gs ex K = valK fn gs
def hookG (n : Nat) (fa : List He.Fa) (fn : List He.DefD) (gs : List GetD) (ex : List (PySem.W.Frag → Bool)) : PySem.W.Hook where
  α := AlG
  obs := fun s => obsKG n fa fn gs ex s.heap.get?
  val := fun _ => valK fn gs
  says := fun _ h => ∃ K : PySem.W.Frag, K.In h ∧ SaysG fa fn gs ex K
  of := fun _ _ e => ⟨_, He.frG_in, e⟩
  keeps := fun _ _ _ ⟨K, hK, c⟩ k => ⟨K, PySem.W.Frag.In.keeps hK k, c⟩
theorem obsKG_eq {n : Nat} {fa : List He.Fa} {fn : List He.DefD} {gs : List GetD} {ex : List (PySem.W.Frag → Bool)} {g : Addr → Option Obj} {s : Shared}
    (h : ∀ a, g a = s.heap.get? a) : obsKG n fa fn gs ex g = (hookG n fa fn gs ex).obs s := by
  have e : g = s.heap.get? := funext h
  rw [e]
  rfl
section
variable {fa : List He.Fa} {fn : List He.DefD} {gs : List GetD} {ex : List (PySem.W.Frag → Bool)} {K : PySem.W.Frag}
theorem SaysG.d (c : SaysG fa fn gs ex K) : He.SaysD fa fn K := congrArg (fun z : AlG => z.1) c
theorem SaysG.more (c : SaysG fa fn gs ex K) (i : Nat) {f : PySem.W.Frag → Bool} (h : ex[i]? = some f := by rfl) : f K = true := by
  have c1 := (He.ba (show ((ex.all fun f => f K) && gs.all fun d => d.ok K) = true from congrArg (fun z : AlG => z.2.1) c)).1
  exact List.all_eq_true.mp c1 f (List.mem_of_getElem? h)
theorem SaysG.getter (c : SaysG fa fn gs ex K) (i : Nat) {d : GetD} (h : gs[i]? = some d := by rfl) : d.ok K = true ∧ obsF K (d.at K) = d.val := by
  have c1 := (He.ba (show ((ex.all fun f => f K) && gs.all fun d => d.ok K) = true from congrArg (fun z : AlG => z.2.1) c)).2
  have e : gs.map (fun d => obsF K (d.at K)) = gs.map GetD.val := congrArg (fun z : AlG => z.2.2) c
  refine ⟨List.all_eq_true.mp c1 d (List.mem_of_getElem? h), ?_⟩
  have e2 : (gs.map fun d => obsF K (d.at K))[i]? = (gs.map GetD.val)[i]? := by rw [e]
  rw [List.getElem?_map, List.getElem?_map, h] at e2
  exact Option.some.inj e2
end
/-! ### what the walk wants of a class -/
def btys : List String := ["NoneType", "bool", "int", "str", "list", "tuple", "dict"]
/-- for isinstance and == -/
structure ClsI (K : PySem.W.Frag) (C : Addr) : Prop where
  ha : PySem.W.findIn K (.ref C) "__class__" = some (some (.builtin "object.__class__"))
  hn : PySem.W.specialIn K (.builtin "object.__class__") "__get__" = some (some (.builtin "getset_descriptor.__get__"))
  htk : PySem.W.takesIn K (.builtin "object.__class__") = some true
  hm : PySem.W.mroIn K C (.type "object") = some true
  me : PySem.W.kitOne K (.ref C) (.ref C) = some true
  /-- a built-in thing is none of it -/
  bt : ∀ t ∈ btys, PySem.W.kitOne K (.type t) (.ref C) = some false
  /-- it is no built-in thing -/
  tb : ∀ t ∈ btys, PySem.W.kitOne K (.ref C) (.type t) = some false
  nf : ∀ t ∈ btys, PySem.W.notFirst K C (.type t) = true
def clsIB (c : Str) (K : PySem.W.Frag) : Bool :=
  decide (PySem.W.findIn K (.ref (He.ga K c)) "__class__" = some (some (.builtin "object.__class__"))) &&
  (decide (PySem.W.specialIn K (.builtin "object.__class__") "__get__" = some (some (.builtin "getset_descriptor.__get__"))) &&
  (decide (PySem.W.takesIn K (.builtin "object.__class__") = some true) &&
  (decide (PySem.W.mroIn K (He.ga K c) (.type "object") = some true) &&
  (decide (PySem.W.kitOne K (.ref (He.ga K c)) (.ref (He.ga K c)) = some true) &&
  ((btys.all fun t => decide (PySem.W.kitOne K (.type t) (.ref (He.ga K c)) = some false)) &&
  ((btys.all fun t => decide (PySem.W.kitOne K (.ref (He.ga K c)) (.type t) = some false)) &&
  (btys.all fun t => PySem.W.notFirst K (He.ga K c) (.type t))))))))
theorem clsI_of {c : Str} {K : PySem.W.Frag} (h : clsIB c K = true) : ClsI K (He.ga K c) := by
  obtain ⟨h1, h⟩ := He.ba h
  obtain ⟨h2, h⟩ := He.ba h
  obtain ⟨h3, h⟩ := He.ba h
  obtain ⟨h4, h⟩ := He.ba h
  obtain ⟨h5, h⟩ := He.ba h
  obtain ⟨h6, h⟩ := He.ba h
  obtain ⟨h7, h8⟩ := He.ba h
  exact ⟨of_decide_eq_true h1, of_decide_eq_true h2, of_decide_eq_true h3, of_decide_eq_true h4, of_decide_eq_true h5,
    fun t ht => of_decide_eq_true (List.all_eq_true.mp h6 t ht), fun t ht => of_decide_eq_true (List.all_eq_true.mp h7 t ht), fun t ht => List.all_eq_true.mp h8 t ht⟩
/-- an instance's type -/
theorem ClsI.ty {K : PySem.W.Frag} {C : Addr} (c : ClsI K C) (cl : Cls K C) {H : Hp} {a dx : Addr} {fs : List (Str × V)} (e : H a = some (.ins C dx fs)) : TyOf K H (.ref a) (.ref C) :=
  .ins e cl c.ha c.hn c.htk c.hm
/-- two unlike classes -/
structure ClsJ (K : PySem.W.Frag) (C D : Addr) : Prop where
  no : PySem.W.kitOne K (.ref C) (.ref D) = some false
  nf : PySem.W.notFirst K C (.ref D) = true
def clsJB (c d : Str) (K : PySem.W.Frag) : Bool :=
  decide (PySem.W.kitOne K (.ref (He.ga K c)) (.ref (He.ga K d)) = some false) && PySem.W.notFirst K (He.ga K c) (.ref (He.ga K d))
theorem clsJ_of {c d : Str} {K : PySem.W.Frag} (h : clsJB c d K = true) : ClsJ K (He.ga K c) (He.ga K d) := by
  obtain ⟨h1, h2⟩ := He.ba h
  exact ⟨of_decide_eq_true h1, h2⟩
def eqCB (c : Str) (K : PySem.W.Frag) : Bool :=
  decide (PySem.W.findIn K (.ref (He.ga K c)) "__eq__" = some (some (.ref (He.ma K (He.ga K c) "__eq__")))) &&
  (PySem.W.isFn K (.ref (He.ma K (He.ga K c) "__eq__")) &&
  (decide (PySem.W.findIn K (.ref (He.ga K c)) "__ne__" = some (some (.builtin "object.__ne__"))) &&
  decide (PySem.W.mroIn K (He.ga K c) (.type "object") = some true)))
theorem eqC_of {c : Str} {K : PySem.W.Frag} (h : eqCB c K = true) : EqC K (He.ga K c) (He.ma K (He.ga K c) "__eq__") := by
  obtain ⟨h1, h⟩ := He.ba h
  obtain ⟨h2, h⟩ := He.ba h
  obtain ⟨h3, h4⟩ := He.ba h
  exact ⟨of_decide_eq_true h1, h2, of_decide_eq_true h3, of_decide_eq_true h4⟩
/-- the class has no attribute of that name at all -/
def noB (c f : Str) (K : PySem.W.Frag) : Bool := decide (PySem.W.findIn K (.ref (He.ga K c)) f = some none)
theorem no_of {c f : Str} {K : PySem.W.Frag} (h : noB c f K = true) : PySem.W.findIn K (.ref (He.ga K c)) f = some none := of_decide_eq_true h
def lenB (c : Str) (K : PySem.W.Frag) : Bool :=
  decide (PySem.W.findIn K (.ref (He.ga K c)) "__len__" = some (some (.ref (He.ma K (He.ga K c) "__len__")))) && PySem.W.isFn K (.ref (He.ma K (He.ga K c) "__len__"))
theorem len_of {c : Str} {K : PySem.W.Frag} (h : lenB c K = true) : PySem.W.findIn K (.ref (He.ga K c)) "__len__" = some (some (.ref (He.ma K (He.ga K c) "__len__"))) ∧
    PySem.W.isFn K (.ref (He.ma K (He.ga K c) "__len__")) = true := by
  obtain ⟨h1, h2⟩ := He.ba h
  exact ⟨of_decide_eq_true h1, h2⟩
/-- the class's own method of that name -/
def mthB (c f : Str) (K : PySem.W.Frag) : Bool :=
  decide (PySem.W.findIn K (.ref (He.ga K c)) f = some (some (.ref (He.ma K (He.ga K c) f)))) && PySem.W.isFn K (.ref (He.ma K (He.ga K c) f))
theorem mth_of {c f : Str} {K : PySem.W.Frag} (h : mthB c f K = true) : PySem.W.findIn K (.ref (He.ga K c)) f = some (some (.ref (He.ma K (He.ga K c) f))) ∧
    PySem.W.isFn K (.ref (He.ma K (He.ga K c) f)) = true := by
  obtain ⟨h1, h2⟩ := He.ba h
  exact ⟨of_decide_eq_true h1, h2⟩
/-- an empty tuple stands at a -/
def noneIn (K : PySem.W.Frag) (a : Addr) : Bool := match K.lookup a with
  | some ⟨.type "tuple", _, .seq its _, _⟩ => its.size == 0
  | _ => false
theorem noneIn_of {K : PySem.W.Frag} {a : Addr} (h : noneIn K a = true) : ∀ H, SqT K H a [] := by
  intro H
  unfold noneIn at h
  split at h
  · rename_i d its n sl e
    have z : its = #[] := Array.eq_empty_of_size_eq_zero (eq_of_beq h)
    subst z
    exact .inr ⟨_, _, _, e, rfl, rfl, Nat.zero_le _, .nil⟩
  · cases h
/-- the getter's promise -/
theorem getP_of {P : Program} {w : World} {K : PySem.W.Frag} {mg : Str → Option Value} {base : Heap} {d : GetD} {fld : Str} {p1 p2 p3 : Pos}
    (e : obsF K (d.at K) = d.val) (h : d.ok K = true) (hk : d.kind = "property") (cl : Cls K (He.ga K d.cls)) (na : NoAttr K (He.ga K d.cls) fld)
    (S : FnScope ["self"] ["self"] d.scope) (hb : d.body = [.Return (some (.Attribute (.Name "self" p1) fld p2)) p3])
    (hbind : ∀ (kV doc pm : Value) (an : Option Addr) (cdv ct : Value) (us : List Value), us.length = 1 → bindArgs (PySem.W.fnOf d.name d.qual d.params d.body d.scope .none kV doc pm an cdv ct) ⟨us, []⟩ = pure ((["self"] : List Str).zip us)) :
    GetP P w K mg base 1 (He.ga K d.cls) d.name fld := by
  obtain ⟨oc, od, osl, kV, doc, pm, an, cdv, ct, lk, hcd⟩ := d.fn e h
  exact ⟨_, _, _, ["self"], cl, d.prop hk h, fn_getter lk hcd S rfl hb cl na, .all (hbind kV doc pm an cdv ct)⟩
end G
namespace G
open PySem PySem.Spec PyProof.Rows L2
/-! ### methods by their names, with values or with keywords alone -/
/-- the method m of the class at C: all that a call wants -/
def MetC (P : Program) (w : World) (K : PySem.W.Frag) (mg : Str → Option Value) (base : Heap) (CX : CXT) (k : Nat) (C : Addr) (m : Str)
    (dvs : List V) (sp : Sp) : Prop :=
  ∃ f fd ps ds, Cls K C ∧ Meth K C m f ∧ FnOk P w K mg base CX k f fd ps sp ∧ Binds K fd ps ds ∧ Vals dvs ds
/-- .. with the keywords ks alone -/
def MetN (P : Program) (w : World) (K : PySem.W.Frag) (mg : Str → Option Value) (base : Heap) (CX : CXT) (k : Nat) (C : Addr) (m : Str)
    (ks : List Str) (gV : List V → List V → List V) (sp : Sp) : Prop :=
  ∃ f fd ps g, Cls K C ∧ Meth K C m f ∧ FnOk P w K mg base CX k f fd ps sp ∧ KBn K fd ps 1 ks g gV
def tMethN (C : Addr) (m : Str) (n : Nat) (sp : Sp) (gV : List V → List V → List V) (E : XK) (ta : TE) (tk : TA) : TE := fun σ H Q => ta σ H fun x H1 => ∃ a dx fs, x = .ref a ∧ H1 a = some (.ins C dx fs) ∧ fs.lookup m = none ∧
  tk σ H1 fun zs H2 => zs.length = n ∧ sp (gV [x] zs) H2 Q E
section
variable {X : Cx} {CX : CXT} {k j : Nat} {C : Addr} {sp : Sp} {dvs : List V} {ks : List Str} {gV : List V → List V → List V}
variable {E : XK} {m : Str} {pos apos : Pos} {o e : Expr} {es : List Expr} {kws : List Keyword} {ta : TE} {t tk : TA}
/-- o.m(e, ..) -/
theorem pe_met {pl : Sem Bool} (c : MetC X.prog X.w X.K X.mg X.base CX k C m dvs sp) (hr : Room k X.A) (hx : Passes CX X E) (he : PE X o ta) (ha : PA X (e :: es) t)
    (hst : starEach (e :: es) X.env = (false, eval e X.env) :: starEach es X.env := by rfl) (hpl : (backTo pos (starEach es X.env)).any (·.1) = false := by rfl)
    (ht : eval (.Call (.Attribute o m apos) (e :: es) [] pos) X.env = (do
      let ov ← eval o X.env
      standAt apos.atName
      let (f, first) ← holding [ov] (getMethod ov m pl)
      callWith pos f first (backTo pos (starEach (e :: es) X.env)) (backToKw pos (keywordEach [] X.env))) := by rfl) :
    PE X (.Call (.Attribute o m apos) (e :: es) [] pos) (tMeth C m sp dvs E ta t) := by
  obtain ⟨f, fd, ps, ds, cl, hm, F, hb, hd⟩ := c
  exact pe_meth (pl := pl) he cl hm F hr hb hd hx ha hst hpl ht
/-- o.m(k = v, ..) -/
theorem pe_metN {pl : Sem Bool} (c : MetN X.prog X.w X.K X.mg X.base CX k C m ks gV sp) (hr : Room k X.A) (hx : Passes CX X E) (he : PE X o ta) (hkw : PK X kws tk)
    (hall : (backToKw pos (keywordEach kws X.env)).all (·.1.isSome) = true := by rfl) (hks : (backToKw pos (keywordEach kws X.env)).filterMap (·.1) = ks := by rfl)
    (hpl : ((backTo pos (starEach [] X.env)).any (·.1) || (backToKw pos (keywordEach kws X.env)).any (·.1.isNone)) = false := by rfl)
    (ht : eval (.Call (.Attribute o m apos) [] kws pos) X.env = (do
      let ov ← eval o X.env
      standAt apos.atName
      let (f, first) ← holding [ov] (getMethod ov m pl)
      callWith pos f first (backTo pos (starEach [] X.env)) (backToKw pos (keywordEach kws X.env))) := by rfl) :
    PE X (.Call (.Attribute o m apos) [] kws pos) (tMethN C m ks.length sp gV E ta tk) := by
  obtain ⟨f, fd, ps, g, cl, hm, F, hb⟩ := c
  refine ⟨fun pins s σ H Q I h => ?_⟩
  refine PySem.W.methodCall_KW (pl := pl) (thn (he.run pins s σ H _ I h) fun u s1 ⟨x, H1, I1, rx, a, dx, fs, ex, ea, l, q⟩ => ?_) ht
  subst ex
  obtain rfl : u = Value.ref a := rx
  refine getmeth_ok I1 ea cl hm l ?_
  refine PySem.W.callWith_KW0 (first := [.ref a]) (h₀ := X.base) I.ok.mod.kin hm.kp hall ?_ hpl
  refine thn (hkw.run pos pins s1 σ H1 _ I1 q) fun ws s2 ⟨zs, H2, I2, rz, l2, q2⟩ => ⟨I2.kIn, ?_⟩
  rw [hks]
  exact run_fnN (us := [.ref a]) (vs := [.ref a]) F hr hb hx I2 (.cons rfl .nil) rz rfl l2 q2
end
end G
/-! own rules: a class called by a local name, classmethods with values or with keywords -/
namespace G
open PySem PySem.Spec PyProof.Rows L2 ClX
/-! ### a class called by a local name -/
def tMakeL (i : Nat) (C : Addr) (sp : Sp) (dvs : List V) (E : XK) (t : TA) : TE := fun σ H Q => σ[i]? = some (some (.ref C)) ∧ tMake C sp dvs E t σ H Q
section
variable {X : Cx} {CX : CXT} {k i : Nat} {C : Addr} {sp : Sp} {dvs : List V} {E : XK} {x x0 : Str} {p pos : Pos} {e : Expr} {es : List Expr} {t : TA}
theorem pe_mkL (c : CalC X.prog X.w X.K X.mg X.base CX k x0 C dvs sp) (hr : Room (k + 1) X.A) (hx : Passes CX X E) (hN : X.N[i]? = some x) (hv : Vis X.env.scope x)
    (ha : PA X (e :: es) t) (hdb : (x == ("__debug__" : Str)) = false := by decide) (hcd : (x == ("__classdict__" : Str)) = false := by decide)
    (he : starEach (e :: es) X.env = (false, eval e X.env) :: starEach es X.env := by rfl)
    (hpl : (backTo pos (starEach es X.env)).any (·.1) = false := by rfl) :
    PE X (.Call (.Name x p) (e :: es) [] pos) (tMakeL i C sp dvs E t) := by
  obtain ⟨f, fd, ps, ds, M, Fn, hm, hb, hd⟩ := c
  refine ⟨fun pins s σ H Q I h => ?_⟩
  obtain ⟨hs, ht⟩ := h
  refine wpAny_Call_Name_kw (thn ((pe_var (pos := p) hN hv hdb hcd).run pins s σ H (fun v H1 => v = .ref C ∧ H1 = H) I ⟨.ref C, hs, rfl, rfl⟩) fun u s1 ⟨v, H1, I1, r1, q1⟩ => ?_)
  obtain ⟨rfl, rfl⟩ := q1
  cases r1
  refine PySem.W.callWith_K (h₀ := X.base) I.ok.mod.kin M.kp (thn (ha.run pos pins s1 σ _ _ I1 ht) fun us s2 ⟨vs, H2, I2, r, q⟩ => ⟨I2.kIn, ?_⟩) he hpl
  exact run_make M Fn hr hb hd hx I2 r q
end
/-! ### classmethods -/
/-- the classmethod m of the class at C, called with all its arguments, or with the keywords ks alone -/
def CmeC (P : Program) (w : World) (K : PySem.W.Frag) (mg : Str → Option Value) (base : Heap) (CX : CXT) (k : Nat) (C : Addr) (m : Str)
    (ks : List Str) (gV : List V → List V → List V) (sp : Sp) : Prop :=
  ∃ p f fd ps g, CRead K C (.type "type") ∧ CMet K C (.type "type") m p f ∧ CInst K C m p f ∧ FnOk P w K mg base CX k f fd ps sp ∧ Binds K fd ps [] ∧ KBn K fd ps 1 ks g gV
def tCMethN (C : Addr) (n : Nat) (sp : Sp) (gV : List V → List V → List V) (E : XK) (ta : TE) (tk : TA) : TE := fun σ H Q => ta σ H fun x H1 => x = .ref C ∧
  tk σ H1 fun zs H2 => zs.length = n ∧ sp (gV [.ref C] zs) H2 Q E
section
variable {X : Cx} {CX : CXT} {k : Nat} {C : Addr} {sp : Sp} {ks : List Str} {gV : List V → List V → List V}
variable {E : XK} {m : Str} {pos apos : Pos} {o e : Expr} {es : List Expr} {kws : List Keyword} {ta : TE} {t tk : TA}
/-- C.m(e, ..) -/
theorem pe_cme {pl : Sem Bool} (c : CmeC X.prog X.w X.K X.mg X.base CX k C m ks gV sp) (hr : Room k X.A) (hx : Passes CX X E) (he : PE X o ta) (ha : PA X (e :: es) t)
    (hst : starEach (e :: es) X.env = (false, eval e X.env) :: starEach es X.env := by rfl) (hpl : (backTo pos (starEach es X.env)).any (·.1) = false := by rfl)
    (ht : eval (.Call (.Attribute o m apos) (e :: es) [] pos) X.env = (do
      let ov ← eval o X.env
      standAt apos.atName
      let (f, first) ← holding [ov] (getMethod ov m pl)
      callWith pos f first (backTo pos (starEach (e :: es) X.env)) (backToKw pos (keywordEach [] X.env))) := by rfl) :
    PE X (.Call (.Attribute o m apos) (e :: es) [] pos) (tCMeth C (fun vs H Q E => sp (vs ++ []) H Q E) E ta t) := by
  obtain ⟨p, f, fd, ps, g, rd, cm, ci, F, hb, hk⟩ := c
  exact pe_cmeth (pl := pl) he rd cm (F.raw hb .nil) hr hx ha hst hpl ht
/-- o.m(e, ..), o an instance of the class -/
theorem pe_ime {pl : Sem Bool} (c : CmeC X.prog X.w X.K X.mg X.base CX k C m ks gV sp) (hr : Room k X.A) (hx : Passes CX X E) (he : PE X o ta) (ha : PA X (e :: es) t)
    (hst : starEach (e :: es) X.env = (false, eval e X.env) :: starEach es X.env := by rfl) (hpl : (backTo pos (starEach es X.env)).any (·.1) = false := by rfl)
    (ht : eval (.Call (.Attribute o m apos) (e :: es) [] pos) X.env = (do
      let ov ← eval o X.env
      standAt apos.atName
      let (f, first) ← holding [ov] (getMethod ov m pl)
      callWith pos f first (backTo pos (starEach (e :: es) X.env)) (backToKw pos (keywordEach [] X.env))) := by rfl) :
    PE X (.Call (.Attribute o m apos) (e :: es) [] pos) (tIMethD C m (fun vs H Q E => sp (vs ++ []) H Q E) E ta t) := by
  obtain ⟨p, f, fd, ps, g, rd, cm, ci, F, hb, hk⟩ := c
  exact pe_imethD (pl := pl) he ci (F.raw hb .nil) hr hx ha hst hpl ht
/-- C.m(k = v, ..) -/
theorem pe_cmeN {pl : Sem Bool} (c : CmeC X.prog X.w X.K X.mg X.base CX k C m ks gV sp) (hr : Room k X.A) (hx : Passes CX X E) (he : PE X o ta) (hkw : PK X kws tk)
    (hall : (backToKw pos (keywordEach kws X.env)).all (·.1.isSome) = true := by rfl) (hks : (backToKw pos (keywordEach kws X.env)).filterMap (·.1) = ks := by rfl)
    (hpl : ((backTo pos (starEach [] X.env)).any (·.1) || (backToKw pos (keywordEach kws X.env)).any (·.1.isNone)) = false := by rfl)
    (ht : eval (.Call (.Attribute o m apos) [] kws pos) X.env = (do
      let ov ← eval o X.env
      standAt apos.atName
      let (f, first) ← holding [ov] (getMethod ov m pl)
      callWith pos f first (backTo pos (starEach [] X.env)) (backToKw pos (keywordEach kws X.env))) := by rfl) :
    PE X (.Call (.Attribute o m apos) [] kws pos) (tCMethN C ks.length sp gV E ta tk) := by
  obtain ⟨p, f, fd, ps, g, rd, cm, ci, F, hb, hk⟩ := c
  refine ⟨fun pins s σ H Q I h => ?_⟩
  refine PySem.W.methodCall_KW (pl := pl) (thn (he.run pins s σ H _ I h) fun u s1 ⟨x, H1, I1, rx, ex, q⟩ => ?_) ht
  subst ex
  obtain rfl : u = Value.ref C := rx
  refine getmethcm_ok I1 rd cm fun s2 I2 => ?_
  refine PySem.W.callWith_of hpl (PySem.W.keeps_M (self := .ref C) cm.fi) (evalArgs_kw2_nil hall ?_)
  refine thn (hkw.run pos _ s2 σ H1 _ I2 q) fun ws s3 ⟨zs, H2, I3, rz, l2, q2⟩ => ⟨⟨pin_at I3, I3.kIn⟩, ?_⟩
  rw [hks]
  have r2 := hk.rel (show Vals [V.ref C] [Value.ref C] from .cons rfl .nil) rz
  have z : wpAny (model X.prog X.w) X.A (call (.ref s1.heap.objs.size) ([] ++ []) (ks.zip ws)) (EP X ((s1.heap.objs.size, PySem.W.methodObj (.ref f) (.ref C)) :: pins) σ Q) X.xe s3 := by
    refine wpAny_call (PySem.W.method_call (pin_at I3) (codeAny_mono (F.run X.A X.stack s3 H2 ⟨[.ref C], ks.zip ws⟩ (g [.ref C] ws) (gV [.ref C] zs) Q E hr I3.env0 (hk.to s3 [.ref C] ws I3.kIn rfl (rz.length.symm.trans l2)) r2 q2) fun r s' hq => ?_))
    cases r with
    | error e => exact hx _ σ H2 s3 e s' I3 hq
    | ok fl =>
      cases fl with
      | ret u => exact I3.after hq
      | next => exact False.elim hq
      | brk => exact False.elim hq
      | cont => exact False.elim hq
  exact thn z fun _ _ y => unpinE y
end
/-! ### what the head tells of a classmethod -/
def cmeB (c m : Str) (K : PySem.W.Frag) : Bool :=
  (PySem.W.readsIn K (He.ga K c) (.type "type") && decide (PySem.W.specialIn K (.ref (He.ga K c)) "__getattribute__" = some (some (.builtin "type.__getattribute__")))) &&
  ((match PySem.W.findCls K (.ref (He.ga K c)) (.type "type") m with
    | some (.get (.builtin g) (.ref p) .none (.ref D)) => decide (g = "classmethod.__get__") && (decide (p = prA K c m) && decide (D = He.ga K c))
    | _ => false) &&
  ((match PySem.W.recIn K (prA K c m) "classmethod" with
    | some (.ref g :: _) => decide (g = grA K (prA K c m) "classmethod")
    | _ => false) &&
  (PySem.W.fnIn K (grA K (prA K c m) "classmethod") &&
  (PySem.W.plainGet K (He.ga K c) Str.empty &&
  (PySem.W.isClsIn K (He.ga K c) &&
  (decide (PySem.W.findIn K (.ref (He.ga K c)) m = some (some (.ref (prA K c m)))) &&
  (decide (PySem.W.typeIn K (.ref (prA K c m)) = some (.type "classmethod")) &&
  (decide (PySem.W.specialIn K (.ref (prA K c m)) "__get__" = some (some (.builtin "classmethod.__get__"))) &&
  (decide (PySem.W.takesIn K (.ref (prA K c m)) = some false) &&
  (PySem.W.keepIn K (.ref (grA K (prA K c m) "classmethod")) &&
  !PySem.W.copiedNames.contains m))))))))))
theorem cme_of {c m : Str} {K : PySem.W.Frag} (h : cmeB c m K = true) : CRead K (He.ga K c) (.type "type") ∧ CMet K (He.ga K c) (.type "type") m (prA K c m) (grA K (prA K c m) "classmethod") ∧
    CInst K (He.ga K c) m (prA K c m) (grA K (prA K c m) "classmethod") ∧ PySem.W.keepIn K (.ref (grA K (prA K c m) "classmethod")) = true := by
  obtain ⟨h1, h⟩ := He.ba h
  obtain ⟨h2, h⟩ := He.ba h
  obtain ⟨h3, h⟩ := He.ba h
  obtain ⟨h4, h⟩ := He.ba h
  obtain ⟨h5, h⟩ := He.ba h
  obtain ⟨h6, h⟩ := He.ba h
  obtain ⟨h7, h⟩ := He.ba h
  obtain ⟨h8, h⟩ := He.ba h
  obtain ⟨h9, h⟩ := He.ba h
  obtain ⟨h10, h⟩ := He.ba h
  obtain ⟨h12, h11⟩ := He.ba h
  obtain ⟨a1, a2⟩ := He.ba h1
  have rc : ∃ rest, PySem.W.recIn K (prA K c m) "classmethod" = some (.ref (grA K (prA K c m) "classmethod") :: rest) := by
    split at h3
    · rename_i g r e
      exact ⟨r, by rw [e, of_decide_eq_true h3]⟩
    · cases h3
  refine ⟨⟨a1, of_decide_eq_true a2⟩, ⟨?_, rc, h4⟩, ⟨h5, h6, of_decide_eq_true h7, of_decide_eq_true h8, of_decide_eq_true h9, of_decide_eq_true h10, by simpa using h11, rc, h4⟩, h12⟩
  split at h2
  · rename_i g p D e
    obtain ⟨k1, k⟩ := He.ba h2
    obtain ⟨k2, k3⟩ := He.ba k
    rw [e, of_decide_eq_true k1, of_decide_eq_true k2, of_decide_eq_true k3]
  · cases h2
end G
/-! own rules, fourth part: x, *more = a list; enumerate over a tuple -/
namespace G
open PySem PySem.Spec PyProof.Rows L2

/-! ### x, .., *more = a list -/
theorem star_run {P : Program} {w : World} {A : Around} {E : Value → Shared → Prop} {s : Shared} {l : Addr} {its : Array Value} {k : Nat} {Q : List Value → Shared → Prop}
    (pl : s.heap.IsList l its) (calm : A.handled = none) (hk : k ≤ its.size) (hz : its.size ≤ sizeLine)
    (q : ∀ (hp : Heap) (tk : Nat), (∀ b o, s.heap.get? b = some o → hp.get? b = some o) →
      Q (its.toList.take k ++ [.ref hp.objs.size]) { s with heap := hp.push { cls := .type "list", data := .seq (its.toList.drop k).toArray }, toks := tk }) :
    wpAny (model P w) A (unpackItems (.ref l) (k + 1) (some k)) Q E s := by
  have apart : l ≠ s.heap.objs.size := by
    obtain ⟨o, e, _⟩ := pl
    exact Nat.ne_of_lt (Heap.lt_size e)
  unfold unpackItems notIterableAtAll
  refine wpAny_bind (wpAny_bind (wpAny_specialOf pl.typeIs slot_list_iter.lookup (wpAny_pure ?_)))
  simp only [Bool.false_eq_true, if_false]
  refine wpAny_bind (wpAny_holding (wpAny_pyIter_list pl (wpAny_bind (wpAny_holding (PySem.W.kun_draw apart k 0 _ _ ⟨_, Heap.get?_push_size _ rfl, rfl, rfl⟩ (pl.push _) (by omega) fun h1 it1 sb1 => ?_)))))
  have pl1 : h1.IsList l its := (pl.push _).extBut sb1.extBut apart
  rw [Nat.zero_add] at it1
  obtain ⟨o1, e1, _⟩ := id it1
  obtain ⟨o2, e2, _⟩ := id pl1
  rw [List.drop_zero]
  have tl : (its.toList.take k).length = k := by
    rw [List.length_take, Array.length_toList]
    omega
  rw [if_neg (show ¬ ((its.toList.take k).length < k) by rw [tl]; omega)]
  refine wpAny_bind (wpAny_holding (PySem.W.kun_collect (s := { s with heap := h1 }) (T := "list_iterator") (.inr (.inr (.inl rfl)))
    (Walks.list (A := A.in1) calm s.heap.objs.size l apart its) (fun j u st => st.1.typeIs) (k := k) hk ⟨it1, pl1⟩ (Heap.lt_size e1) (Heap.lt_size e2) (fun h2 tk keep => ?_) hz))
  have ze : k + 1 - 1 - k = 0 := by omega
  have dl : (its.toList.drop k).length - (k + 1 - 1 - k) = (its.toList.drop k).length := by omega
  show wpAny _ _ (if (its.toList.drop k).length < k + 1 - 1 - k then _ else _) _ _ _
  rw [if_neg (by omega)]
  show wpAny _ _ (newList ((its.toList.drop k).take ((its.toList.drop k).length - (k + 1 - 1 - k))) >>= fun d =>
    pure (its.toList.take k ++ [d] ++ (its.toList.drop k).drop ((its.toList.drop k).length - (k + 1 - 1 - k)))) _ _ _
  rw [dl, List.take_length, List.drop_length]
  have old : ∀ b o, s.heap.get? b = some o → h2.get? b = some o := fun b o e => keep b o (Nat.ne_of_lt (Heap.lt_size e))
    (sb1.extBut b o (Nat.ne_of_lt (Heap.lt_size e)) (Heap.get?_push_of_some _ e))
  refine wpAny_bind (wpAny_newList (wpAny_pure ?_) (by rw [List.length_drop, Array.length_toList]; omega))
  rw [List.append_nil]
  exact q h2 tk old
def gStar (K : PySem.W.Frag) (k : Nat) (t : TGs) : TG := fun v σ H Q => ∃ a xs, v = .ref a ∧ SqL K H a xs ∧ k ≤ xs.length ∧
  ∀ D, H D = none → t (xs.take k ++ [.ref D]) σ (upd H D (.lst (xs.drop k))) Q
section
variable {X : Cx} {pos p : Pos} {e : Expr} {es : List Expr} {t : TG} {u : TGs} {k kk : Nat}
theorem pgs_star (h1 : PG X e t) (h2 : PGs X es u)
    (hs : (assignEach (.Starred e p :: es) X.env).map (·.2) = assign e X.env :: (assignEach es X.env).map (·.2) := by rfl) : PGs X (.Starred e p :: es) (gCons t u) := by
  refine ⟨fun pins s σ H vs us Q I r h => ?_⟩
  obtain ⟨v, vr, rfl, h⟩ := h
  cases r with
  | cons r rr =>
    rw [hs]
    refine assignInOrder_cons (thn (h1.run pins s σ H _ _ _ I r h) ?_)
    rintro _ s1 ⟨σ1, H1, I1, q1⟩
    exact h2.run pins s1 σ1 H1 _ _ Q I1 rr q1
theorem vals_take : ∀ {xs : List V} {us : List Value} (n : Nat), Vals xs us → Vals (xs.take n) (us.take n)
  | [], _, n, r => by cases r; rw [List.take_nil, List.take_nil]; exact .nil
  | _ :: _, _, 0, r => by rw [List.take_zero, List.take_zero]; exact .nil
  | _ :: _, _, n + 1, r => by
    cases r with
    | cons r rr => exact .cons r (vals_take n rr)
theorem vals_drop : ∀ {xs : List V} {us : List Value} (n : Nat), Vals xs us → Vals (xs.drop n) (us.drop n)
  | [], _, n, r => by cases r; rw [List.drop_nil, List.drop_nil]; exact .nil
  | _ :: _, _, 0, r => by rw [List.drop_zero, List.drop_zero]; exact r
  | _ :: _, _, n + 1, r => by
    cases r with
    | cons r rr => exact vals_drop n rr
theorem vals_app : ∀ {xs ys : List V} {us vs : List Value}, Vals xs us → Vals ys vs → Vals (xs ++ ys) (us ++ vs)
  | [], _, _, _, r, r' => by cases r; exact r'
  | _ :: _, _, _, _, r, r' => by
    cases r with
    | cons r rr => exact .cons r (vals_app rr r')
theorem pg_star (hc : X.calm = true) (h : PGs X es u) (hn : (assignEach es X.env).length = k + 1 := by rfl)
    (hst : (assignEach es X.env).findIdx? (·.1) = some k := by rfl) : PG X (.Tuple es kk pos) (gStar X.K k u) := by
  refine ⟨fun pins s σ H v w Q I r hw => ?_⟩
  obtain ⟨a, xs, rfl, hq, hl, hw⟩ := hw
  cases r
  obtain ⟨its, rv, pl, hz⟩ := I.list hq
  have el := rv.length
  rw [PyProof.Rows.assign_Tuple]
  refine wpAny_bind (wpAny_standAt ?_)
  unfold unpack
  rw [hn, hst]
  refine wpAny_bind (wpAny_holding (star_run pl.isList (I.ok.hd hc) (by rw [List.size_toArray]; omega) (by rw [List.size_toArray]; omega) fun hp tk keep => ?_))
  have I1 : Inv X pins σ H { s with heap := hp, toks := tk } := I.kept keep
  have fr : H hp.objs.size = none := I1.hok.fresh (Nat.le_refl _)
  have I2 : Inv X pins σ (upd H hp.objs.size (.lst (xs.drop k))) { s with heap := hp.push { cls := .type "list", data := .seq (its.drop k).toArray }, toks := tk } :=
    I1.laid (t' := tk) (fun b u e => Heap.get?_push_of_some _ e) (Nat.le_refl _)
      ⟨by rw [List.length_drop]; omega, its.drop k, 0, vals_drop k rv, Heap.get?_push_size _ rfl⟩
  exact h.run pins _ σ _ _ _ Q I2 (vals_app (vals_take k rv) (.cons (show RelV (V.ref hp.objs.size) (Value.ref hp.objs.size) from rfl) .nil)) (hw _ fr)
end

/-! ### enumerate(a tuple) -/
theorem enum_meets {v : Value} {o : Obj} {Hs : Heap → Prop} (B : Begins v o Hs) :
    Meets (Builtin.«enumerate.__new__» ⟨[.type "enumerate", v], []⟩) (fun _ R s => Hs s.heap ∧ R (.ok (.ret (.ref (s.heap.push o).objs.size)))
      { s with heap := (s.heap.push o).push { cls := .type "enumerate", data := .fields #[.none, .bool false, .ref s.heap.objs.size, rawInt 0, .none, .none] } }) :=
  .of_wp fun prog w A R s h => by
    obtain ⟨hp, g, d, tk, os⟩ := s
    obtain ⟨h1, h⟩ := h
    have sub := sub_enumerate
    have it : ∀ {A' : Around} {E : Value → Shared → Prop} {Q : Value → Shared → Prop}, Q (.ref hp.objs.size) ⟨hp.push o, g, d, tk, os⟩ →
        wpAny (model prog w) A' (pyIter v) Q E ⟨hp, g, d, tk, os⟩ := fun q => B.iter prog w _ _ ⟨hp, g, d, tk, os⟩ _ h1 q
    wp_walk using it
    refine wpAny_stack_any fun st => wpAny_pure ?_
    split
    · rename_i c _ _ _ _ _
      cases (c == Value.type "enumerate")
      · wp_walk using it
        exact ⟨_, rfl, h⟩
      · wp_walk using it
        exact ⟨_, rfl, h⟩
    · wp_walk using it
      exact ⟨_, rfl, h⟩
theorem enum_made {P : Program} {w : World} {A : Around} {E : Value → Shared → Prop} {s : Shared} {v : Value} {o : Obj} {Hs : Heap → Prop} {Q : Value → Shared → Prop}
    (B : Begins v o Hs) (h1 : Hs s.heap) (q : ∀ hp, IsEnum hp (s.heap.objs.size + 1) s.heap.objs.size 0 .none → hp.get? s.heap.objs.size = some o →
      (∀ b u, s.heap.get? b = some u → hp.get? b = some u) → Q (.ref (s.heap.objs.size + 1)) { s with heap := hp }) :
    wpAny (model P w) A (call (.type "enumerate") [v]) Q E s := by
  refine callType_new F.called_enumerate (by decide) (F.typeCall_enumerate_1 _) (F.newCall_enumerate_1 _) (fun obj => F.args_object_init_2 obj _) F.entry_enumerate_new (enum_meets B) ⟨h1, ?_⟩
  have z : (s.heap.push o).objs.size = s.heap.objs.size + 1 := Heap.size_push ..
  show _ ∧ _
  rw [z]
  have en : IsEnum ((s.heap.push o).push { cls := .type "enumerate", data := .fields #[.none, .bool false, .ref s.heap.objs.size, rawInt 0, .none, .none] })
      (s.heap.objs.size + 1) s.heap.objs.size 0 .none := by
    have x := Heap.get?_push_size (s.heap.push o) (o := { cls := .type "enumerate", data := .fields #[.none, .bool false, .ref s.heap.objs.size, rawInt 0, .none, .none] }) rfl
    rw [z] at x
    exact x
  exact ⟨⟨_, en, rfl⟩, q _ en (Heap.get?_push_of_some _ (Heap.get?_push_size _ B.free)) fun b u x => Heap.get?_push_of_some _ (Heap.get?_push_of_some _ x)⟩
/-- the tuple at a, each item in a new pair -/
def ItE (K : PySem.W.Frag) (a : Addr) : It :=
  ⟨fun i H => ∃ (xs : List V) (x : V), SqT K H a xs ∧ xs[i]? = some x,
    fun i H v H' => ∃ T x, v = .ref T ∧ H T = none ∧ H' = upd H T (.tup [.int (i : Nat), x]) ∧ ∀ xs, SqT K H a xs → xs[i]? = some x,
    fun i H => ∃ xs : List V, SqT K H a xs ∧ xs.length ≤ i⟩
theorem enum_end {P : Program} {w : World} {A : Around} {E : Value → Shared → Prop} {s : Shared} {e it t : Addr} {i : Nat} {c : Int} {its : Array Value} {old : Value} {Q : Option Value → Shared → Prop}
    (hh : A.handled = none) (he : IsEnum s.heap e it c old) (hit : s.heap.IsTupleIter it t i) (tp : s.heap.IsTuple t its) (lt : its.size ≤ i)
    (q : ∀ hp, Heap.ExtBut it s.heap hp → Q none { s with heap := hp }) : wpAny (model P w) A (pyNext (.ref e)) Q E s := by
  have T : s.TypeIs (.ref e) "enumerate" := ⟨_, he, rfl⟩
  unfold pyNext
  refine wpAny_bind (wpAny_attempt (wpAny_callSpecial?_slot (name := Str.ofString "__next__") T F.slot_enumerate_next (wpAny_call_entry F.slot_enumerate_next T F.entry_enumerate_next ?_ (F.args_enumerate_next_1 _))))
  show wpAny _ A.in1 (field (.ref e) 2 >>= _) _ _ s
  refine wpAny_bind (wpAny_field he rfl (x := .ref it) rfl (wpAny_bind (wpAny_nextOf_tuple_end hh hit tp (by simp; omega) fun hp x eb ob => ?_)))
  obtain ⟨o, ho, hc⟩ := ob
  exact wpAny_bind (wpAny_isInstance (T := "StopIteration") (b := true) ⟨o, ho, hc⟩ isSubtype_stop (wpAny_pure (q _ eb)))
theorem enum_turn {P : Program} {w : World} {K : PySem.W.Frag} {elts : List Expr} {kk : Nat} {tpos : Pos} (a e it : Addr) :
    Turn P w K (.Tuple elts kk tpos) (ItE K a) [e, it] e (fun i h => (∃ old, IsEnum h e it ((i : Nat) : Int) old) ∧ h.IsTupleIter it a i ∧ e ≠ it ∧ a ≠ it ∧ a ≠ e) where
  mem := List.mem_cons_self
  obj := fun i h st b hb => by
    obtain ⟨⟨old, he⟩, ⟨o, ho, hc, hd⟩, _⟩ := st
    rcases List.mem_cons.mp hb with rfl | hb
    · exact ⟨_, he, fun v q => nomatch q⟩
    · rw [List.mem_singleton.mp hb]
      exact ⟨o, ho, fun v q => by rw [hd] at q; cases q⟩
  keep := fun i h h' st k => ⟨st.1.elim fun old he => ⟨old, k e (by simp) _ he⟩, st.2.1.at fun o q => k it (by simp) o q, st.2.2⟩
  item := by
    rintro X rfl rfl rfl calm i pins s σ H E I hf ⟨⟨old, he⟩, hit, ne, ai, ae⟩ ⟨xs, x, hq, hx⟩
    obtain ⟨its, rv, tp, hz⟩ := I.tuple hq
    obtain ⟨u, hu, ru⟩ := rv.get hx
    have el := Heap.lt_size he
    have tp' : s.heap.IsTuple a its.toArray := tp
    have il : it < s.heap.objs.size := by
      obtain ⟨_, q, _⟩ := hit
      exact Heap.lt_size q
    have lt : i < its.toArray.size := by
      rw [List.size_toArray]
      exact (List.getElem?_eq_some_iff.mp hu).1
    refine PySem.wpAny_pyNext_enum_itemC (Draws.tuple (A := X.A.in1) (I.ok.hd calm) it a ai its.toArray) he ⟨hit, tp'⟩ lt ne (by simp [ne, ae.symm]) fun x2 hp tk hx2 ho st2 hT hsz hk => ?_
    have ex : x2 = u := by
      have h3 : its[i]? = some x2 := by simpa using hx2
      rw [hu] at h3
      exact (Option.some.inj h3).symm
    subst ex
    refine ⟨_, rfl, wpAny_letOwnedTupleGo_enum (s := { s with heap := hp, toks := tk + 1 }) ho fun hp2 he2 sb => ?_⟩
    have hT2 : hp2.get? s.heap.objs.size = some { cls := .type "tuple", data := .seq #[.int i tk, x2] } := (sb.2 _ (Nat.ne_of_gt el)).trans hT
    have pair : ObjOk X.prog X.w (upd H s.heap.objs.size (.tup [.int (i : Nat), x])) hp2 s.heap.objs.size (.tup [.int (i : Nat), x]) :=
      ⟨by show 2 ≤ sizeLine; decide, [.int i tk, x2], .cons ⟨_, rfl⟩ (.cons ru .nil), ⟨_, hT2, rfl, _, rfl⟩⟩
    have I1 : Inv X pins σ (upd H s.heap.objs.size (.tup [.int (i : Nat), x])) { s with heap := hp2, toks := tk + 1 } :=
      I.turnedNew (ch := [e, it]) (fun b ob hb q => (sb.2 b fun z => hb (by simp [z])).trans (hk b ob (fun z => hb (by simp [z])) (fun z => hb (by simp [z])) q)) hf (Nat.le_refl _) pair
    have e1 : ((i + 1 : Nat) : Int) = (i : Int) + 1 := by omega
    refine ⟨.ref s.heap.objs.size, _, I1, rfl, ⟨_, x, rfl, I.hok.fresh (Nat.le_refl _), rfl, fun ys hy => by rw [I.tuple_inj hy hq]; exact hx⟩,
      ⟨⟨x2, by rw [e1]; exact he2⟩, st2.1.at fun o q => (sb.2 it ne.symm).trans q, ne, ai, ae⟩, fun b hb => ?_⟩
    have lb : b < s.heap.objs.size := by
      rcases List.mem_cons.mp hb with rfl | hb
      · exact el
      · rw [List.mem_singleton.mp hb]
        exact il
    rw [upd_ne (Nat.ne_of_lt lb)]
    exact (hf b hb).1
  done := by
    rintro X rfl rfl rfl calm i pins s σ H E I hf ⟨⟨old, he⟩, hit, ne, ai, ae⟩ ⟨xs, hq, hx⟩
    obtain ⟨its, rv, tp, hz⟩ := I.tuple hq
    obtain ⟨f0, f1, f2, f3, f4, f5⟩ := hf it (by simp)
    have tp' : s.heap.IsTuple a its.toArray := tp
    have ln := rv.length
    exact enum_end (I.ok.hd calm) he hit tp' (by simp; omega) fun hp eb => ⟨rfl, I.turned (t' := s.toks) (fun b o hb q => eb b o hb q) f0 f1 f3 f4 f5⟩
  self := fun A i s Q E st h => st.1.elim fun _ he => wpAny_pyIter_enum he h
def iEnumT (K : PySem.W.Frag) (ta : TA) : TI := fun σ H R => ta σ H fun vs H1 => ∃ a xs, vs = [.ref a] ∧ SqT K H1 a xs ∧ R (ItE K a) H1
theorem pi_enumT {X : Cx} {e : Expr} {ta : TA} {p pos tpos : Pos} {elts : List Expr} {kk : Nat} (hg : Gl X "enumerate") (hm : X.mg "enumerate" = none) (ha : PA X [e] ta)
    (hs : starEach [e] X.env = [(false, eval e X.env)] := by rfl) : PI X (.Tuple elts kk tpos) (.Call (.Name "enumerate" p) [e] [] pos) (iEnumT X.K ta) := by
  refine ⟨fun pins s σ H R I h => ?_⟩
  refine Call_ (ld_blt I hg hm boot_enumerate (PyProof.Rows.callWith_type1 (thn (ha.run pos pins s σ H _ I h) ?_) hs rfl))
  rintro us s1 ⟨vs, H1, I1, r1, a, xs, rfl, hq, q⟩
  obtain ⟨u, rfl, r⟩ := vals1 r1
  obtain rfl : u = Value.ref a := r
  obtain ⟨its, rv, tp, hz⟩ := I1.tuple hq
  have tp' : s1.heap.IsTuple a its.toArray := tp
  have la : a < s1.heap.objs.size := by
    obtain ⟨o, e, _⟩ := tp
    exact Heap.lt_size e
  refine enum_made (begins_tuple a its.toArray) tp' fun hp en ti keep => wpAny_pyIter_enum en ?_
  refine ⟨s1.heap.objs.size + 1, [s1.heap.objs.size + 1, s1.heap.objs.size], _, _, H1, rfl, I1.kept (t' := s1.toks) keep, enum_turn a (s1.heap.objs.size + 1) s1.heap.objs.size,
    ⟨⟨.none, en⟩, ⟨_, ti, rfl, rfl⟩, Nat.succ_ne_self _, Nat.ne_of_lt la, Nat.ne_of_lt (Nat.lt_succ_of_lt la)⟩, fun b hb => ?_, q⟩
  have le : s1.heap.objs.size ≤ b := by
    rcases List.mem_cons.mp hb with rfl | hb
    · exact Nat.le_add_right _ _
    · rw [List.mem_singleton.mp hb]
      exact Nat.le_refl _
  exact I1.fpOk le (I1.hok.fresh le)
/-- a for over enumerate of a tuple that stands still -/
theorem forE {K : PySem.W.Frag} {a : Addr} {xs : List V} {g : TG} {tb : TS} {D : Ends} {σ : L2.St} {H : Hp} (Pv : Nat → L2.St → Hp → Prop) (h0 : Pv 0 σ H)
    (hst : ∀ i σ H, i ≤ xs.length → Pv i σ H → SqT K H a xs)
    (hs : ∀ i x σ H T, xs[i]? = some x → Pv i σ H → H T = none → g (.ref T) σ (upd H T (.tup [.int (i : Nat), x])) fun σ2 H2 => tb { D with nx := Pv (i + 1), ct := Pv (i + 1), bk := D.nx } σ2 H2)
    (hd : ∀ σ H, Pv xs.length σ H → D.nx σ H) :
    ∃ W : Nat → Nat → L2.St → Hp → Prop, (∃ m, W 0 m σ H) ∧ ∀ i m σ H, W i m σ H →
      ((ItE K a).stop i H ∧ D.nx σ H) ∨ ((ItE K a).go i H ∧ ∃ N : L2.St → Hp → Prop, (∀ σ' H', N σ' H' → ∃ m', m' < m ∧ W (i + 1) m' σ' H') ∧
        ∀ x H', (ItE K a).yld i H x H' → g x σ H' fun σ2 H2 => tb { D with nx := N, ct := N, bk := D.nx } σ2 H2) := by
  refine ⟨fun i m σ H => m = xs.length - i ∧ i ≤ xs.length ∧ Pv i σ H, ⟨xs.length, rfl, Nat.zero_le _, h0⟩, ?_⟩
  rintro i m σ H ⟨rfl, hi, pv⟩
  have sd := hst i σ H hi pv
  rcases Nat.lt_or_ge i xs.length with lt | ge
  · refine .inr ⟨⟨xs, xs[i], sd, by simp [lt]⟩, Pv (i + 1), fun σ' H' q => ⟨xs.length - (i + 1), by omega, rfl, lt, q⟩, ?_⟩
    rintro v H' ⟨T, x, rfl, nT, rfl, hx⟩
    exact hs i x σ H T (hx xs sd) pv nT
  · have e : i = xs.length := by omega
    subst e
    exact .inl ⟨⟨xs, sd, ge⟩, hd σ H pv⟩
/-! ### inside a comprehension the library's K is the outer one -/
section
variable {X : Cx} {K : PySem.W.Frag} {e : Expr} {f : Str} {pos : Pos} {ta : TE}
theorem pe_fldK (hK : X.K = K) (he : PE X e ta) (hb : attributeBase e f X.env (eval e X.env) = eval e X.env) : PE X (.Attribute e f pos) (tFld K ta f) := hK ▸ pe_fld he hb
theorem ixK {r : PySem.W.Frag → R2} (hK : X.K = K) (h : IxR X (r X.K)) : IxR X (r K) := hK ▸ h
theorem opK {r : PySem.W.Frag → R2} {op : Value → Value → Sem Value} (hK : X.K = K) (h : OpR X op (r X.K)) : OpR X op (r K) := hK ▸ h
theorem crK {r : PySem.W.Frag → List V → Hp → VK → Prop} {c : Value} (hK : X.K = K) (h : CallR X c (r X.K)) : CallR X c (r K) := hK ▸ h
theorem pg_tupK {es : List Expr} {k n : Nat} {t : TGs} (hK : X.K = K) (hc : X.calm = true) (h : PGs X es t)
    (hn : (assignEach es X.env).length = n := by rfl) (hst : (assignEach es X.env).findIdx? (·.1) = none := by rfl) : PG X (.Tuple es k pos) (gTup K n t) := hK ▸ pg_tup hc h hn hst
end
/-- behind a constructor all that was ahead of it still stands -/
theorem made_same {H H' : Hp} {x dx : Addr} {o1 o2 : HO} (nx : H x = none) (nd : H dx = none) (b : But x (upd (upd H dx o1) x o2) H') : Same H H' := fun q o e => by
  have h1 : q ≠ x := ne_of_none e nx
  refine b q o h1 ?_
  rw [upd_ne h1, upd_ne (ne_of_none e nd)]
  exact e
/-- a comprehension over nothing -/
theorem lcE {J : It} {Sd : Hp → Prop} (wk : Wk J [] Sd) {g : TG} {tt : TT} {te : TE} {vs : List Nat} {σ : L2.St} {H1 : Hp} {D : Addr} {Qd : Hp → Prop}
    (hst : Sd (upd H1 D (.lst []))) (hd : Qd (upd H1 D (.lst []))) :
    ∃ W : Nat → Nat → Hp → Prop, (∃ m, W 0 m (upd H1 D (.lst []))) ∧ ∀ i m H, W i m H →
      (J.stop i H ∧ Qd H) ∨ (J.go i H ∧ ∃ Nx : Hp → Prop, (∀ H', Nx H' → ∃ m', m' < m ∧ W (i + 1) m' H') ∧ ∀ x H', J.yld i H x H' →
        g x (wipe σ vs) H' fun σ2 H2 => wipe σ2 vs = wipe σ vs ∧ tt σ2 H2 fun b H3 =>
        if b = true then te σ2 H3 fun y H4 => ∃ acc, H4 D = some (.lst acc) ∧ acc.length < sizeLine ∧ Nx (upd H4 D (.lst (acc ++ [y]))) else Nx H3) :=
  lcW wk (fun i H => H = upd H1 D (.lst [])) rfl (fun i H _ e => e ▸ hst) (fun i x H hx _ => by simp at hx) (fun H e => e ▸ hd)
theorem sqT_ty {K : PySem.W.Frag} {H : Hp} {a : Addr} {xs : List V} (h : SqT K H a xs) : TyX K H (.ref a) (.type "tuple") := by
  rcases h with (h | ⟨o, h⟩) | ⟨o, its, n, h, c, _⟩
  · exact .base (.tup h)
  · exact .fTuple h
  · exact .kTuple h c
theorem But.same {p : Addr} {H H1 H2 : Hp} (a : But p H H1) (b : Same H1 H2) : But p H H2 := a.trans (.of b)
end G
/-! own rules, fifth part: the law's call at the head's end, for promises that ask that no guard runs -/
namespace G
open PySem PySem.Spec PyProof.Rows L2
section
variable {P : Program} {w : World} {K : PySem.W.Frag} {mg mb : Str → Option Value} {CX : CXT} {k : Nat}
variable {fa sa : Addr} {fd : FuncData} {x : Str} {sp : Sp} {s : Shared} {us : List Value} {ns : List Int}
/-- what the judge wants of the call's end -/
abbrev LawEnd (s : Shared) : Result → Shared → Prop := fun r t => r = .ok (.ret (.bool true)) ∧ OldK s.heap t.heap ∧ t.os = s.os ∧ AllBare t.gens
/-- the law's promise in an abstract heap where at most the script at sa stands -/
theorem law_core (H : Hp) (only : Only H) (seq : SqL K H sa (ns.map V.int)) (ok : HOk P w H s.heap) (one : ∀ b, H b ≠ none → b = sa) (out : H sa ≠ none → K.lookup sa = none)
    (kin : K.In s.heap) (gl : s.heap.Ns mainGlobals mg) (bl : s.heap.Ns builtinsNs mb) (bb : ∀ y : Str, y ≠ "__name__" → mb y = bootBuiltins y) (lim : s.heap.NoLimit) (gens : s.gens = #[])
    (obj : s.heap.get? sa = some { cls := .type "list", data := .seq us.toArray }) (room : Room k callerA)
    (F : ∀ base : Heap, K.In base → base.Ns mainGlobals mg → FnG P w K mg base CX k fa fd [x] sp) (bind : ∀ (t : Shared) (u : Value), BindsTo t fd ⟨[u], []⟩ [(x, u)])
    (keeps : sp [.ref sa] H (fun v _ => v = .bl true) fun _ _ _ => False) (noX : ∀ e t, CX [] H s (fun _ _ _ => False) e t → False) :
    codeAny (model P w) callerA (.call (.ref fa) ⟨[.ref sa], []⟩) (LawEnd s) s := by
  -- what is no sequence is not the script
  have free : ∀ {b : Addr} {o : Obj}, s.heap.get? b = some o → (∀ i n, o.data ≠ .seq i n) → H b = none := by
    intro b o e d
    cases hb : H b with
    | none => rfl
    | some u =>
      have z : b = sa := one b (by simp [hb])
      rw [z, obj] at e
      exact absurd rfl (Option.some.inj e ▸ d us.toArray 0)
  have sees : ∀ {b : Addr} {m : Str → Option Value}, s.heap.Ns b m → (hidT s.heap H).Ns b m := by
    rintro b m ⟨o, es, ep, e, d, r⟩
    exact ⟨o, es, ep, hidT_get e (free e fun i n z => by rw [d] at z; cases z), d, r⟩
  have kinB : K.In (hidT s.heap H) := by
    intro b o e
    refine hidT_get (kin b o e) ?_
    cases hb : H b with
    | none => rfl
    | some u =>
      have z : b = sa := one b (by simp [hb])
      subst z
      rw [out (by simp [hb])] at e
      cases e
  obtain ⟨mc, c1, c2⟩ := id lim
  have md : Mod K mg (hidT s.heap H) := ⟨kinB, sees gl, ⟨mb, sees bl, bb⟩, mc, sees c1, c2⟩
  have none_in : ∀ b : Addr, b ∉ ([] : List Addr) := fun b z => nomatch z
  have env : Env0 P w K mg (hidT s.heap H) callerA [] s H :=
    ⟨rfl, md, fun b o e => of_hidT e, Nat.le_of_eq (hidT_size _ _), trivial, fun b z => absurd (show b ∈ ([] : List Addr) from z) (none_in b), ok, .of_eq gens⟩
  have run := (F _ kinB (sees gl)).run callerA [] s H ⟨[.ref sa], []⟩ [.ref sa] [.ref sa] _ _ room rfl env (bind s (.ref sa)) (.cons rfl .nil) keeps
  refine codeAny_mono run ?_
  rintro (e | fl) t h
  · exact (noX e t h).elim
  cases fl with
  | ret u =>
    obtain ⟨v, H', os, bare, un, ok', rv, hv⟩ := h
    obtain rfl : v = V.bl true := hv
    obtain rfl : u = Value.bool true := rv
    refine ⟨rfl, .of_keep fun b o e => ?_, os, bare⟩
    cases hb : H b with
    | none => exact un.keep b o e hb (fun z => none_in b z) (by simp)
    | some u =>
      obtain ⟨ob, xs, z⟩ := (only b).resolve_left (by simp [hb])
      obtain ⟨e1, _⟩ := ok b _ z
      obtain ⟨e2, _⟩ := ok' b _ (un.frzs b ob _ z)
      rw [e] at e1
      exact (Option.some.inj e1) ▸ e2
  | next => exact h.elim
  | brk => exact h.elim
  | cont => exact h.elim
theorem law_callG (kin : K.In s.heap) (gl : s.heap.Ns mainGlobals mg) (bl : s.heap.Ns builtinsNs mb) (bb : ∀ y : Str, y ≠ "__name__" → mb y = bootBuiltins y) (lim : s.heap.NoLimit) (gens : s.gens = #[])
    (obj : s.heap.get? sa = some { cls := .type "list", data := .seq us.toArray }) (iv : IntsAre us ns) (fits : ns.length ≤ sizeLine) (room : Room k callerA)
    (F : ∀ base : Heap, K.In base → base.Ns mainGlobals mg → FnG P w K mg base CX k fa fd [x] sp) (bind : ∀ (t : Shared) (u : Value), BindsTo t fd ⟨[u], []⟩ [(x, u)])
    (keeps : ∀ H : Hp, Only H → SqL K H sa (ns.map V.int) → sp [.ref sa] H (fun v _ => v = .bl true) fun _ _ _ => False) (noX : ∀ H e t, CX [] H s (fun _ _ _ => False) e t → False) :
    codeAny (model P w) callerA (.call (.ref fa) ⟨[.ref sa], []⟩) (LawEnd s) s := by
  have vs := vals_ints iv
  have ln := iv.length
  cases own : K.lookup sa with
  | some o =>
    have e := kin sa o own
    rw [obj] at e
    obtain rfl := Option.some.inj e
    have o1 : Only fun _ => none := fun _ => .inl rfl
    have q1 : SqL K (fun _ => none) sa (ns.map V.int) := .inr ⟨_, us.toArray, _, own, rfl, rfl, rfl, by simpa [ln] using fits, by simpa using vs⟩
    exact law_core _ o1 q1 (fun b u z => nomatch z) (fun b z => absurd rfl z) (fun z => absurd rfl z) kin gl bl bb lim gens obj room F bind (keeps _ o1 q1) (noX _)
  | none =>
    let H : Hp := fun b => if b = sa then some (.frz { cls := .type "list", data := .seq us.toArray } (.lst (ns.map V.int))) else none
    have at1 : H sa = some (.frz { cls := .type "list", data := .seq us.toArray } (.lst (ns.map V.int))) := if_pos rfl
    have at0 : ∀ b, b ≠ sa → H b = none := fun b h => if_neg h
    have o1 : Only H := by
      intro b
      by_cases h : b = sa
      · subst h
        exact .inr ⟨_, _, at1⟩
      · exact .inl (at0 b h)
    have q1 : SqL K H sa (ns.map V.int) := .inl (.inr ⟨_, at1⟩)
    refine law_core H o1 q1 ?_ ?_ (fun _ => own) kin gl bl bb lim gens obj room F bind (keeps H o1 q1) (noX H)
    · intro b u z
      by_cases h : b = sa
      · subst h
        rw [at1] at z
        obtain rfl := Option.some.inj z
        exact ⟨obj, by rw [List.length_map]; exact fits, us, _, vs, obj⟩
      · rw [at0 b h] at z
        cases z
    · intro b z
      by_cases h : b = sa
      · exact h
      · exact absurd (at0 b h) z
end
/-- the walk of a law -/
theorem walkG {l : PySem.W.OpenLaw} {n k : Nat} {q : Program} {loose : List Str} {XP : (Str → Option Value) → Heap → Prop} {YP : World → Heap → Prop} {d : DefRec} {CX : CXT} {x : Str}
    (most : l.most = some n) (fits : n ≤ sizeLine) (dfl : d.params.defaults = []) (room : Room k callerA)
    (F : ∀ (w : World) (mg : Str → Option Value) (fa : Addr) (h : Heap), YP w h → h.Ns mainGlobals mg → mg d.name = some (.ref fa) →
      ∃ (K : PySem.W.Frag) (fd : FuncData) (sp : Sp), K.In h ∧ (∀ (s : Shared) (u : Value), BindsTo s fd ⟨[u], []⟩ [(x, u)]) ∧
        (∀ (H : Hp) (a : Addr) (ns : List Int), ns.length ≤ n → Only H → SqL K H a (ns.map V.int) → sp [.ref a] H (fun v _ => v = .bl true) fun _ _ _ => False) ∧
        ∀ base : Heap, K.In base → base.Ns mainGlobals mg → FnG l.prog w K mg base CX k fa fd [x] sp)
    (noX : ∀ (H : Hp) (s : Shared) (e : Value) (s' : Shared), CX [] H s (fun _ _ _ => False) e s' → False) :
    PySem.W.WalkO q loose XP YP l.row.toRowW d [] (fun f vs => PySem.call f vs) := by
  refine Att.attach_call most dfl ?_
  intro w s0 s1 mg mb fa o pm cd doc sa us ns G Y ho hd hcd hmg obj iv len gens
  obtain ⟨K, fd, sp, kin, bind, keeps, Fk⟩ := F w mg fa _ Y G.T.g hmg
  exact law_callG kin G.T.g G.T.b G.T.builtins G.T.nolimit gens obj iv (Nat.le_trans len fits) room Fk bind (fun H o1 q1 => keeps H sa ns len o1 q1) fun H e t => noX H s1 e t
end G
/-! own rules, sixth part: the truth of an instance by its own __len__ -/
namespace G
open PySem PySem.Spec PyProof.Rows L2
section
variable {X : Cx} {CX : CXT} {k : Nat} {C f : Addr} {fd : FuncData} {ps : List Str} {sp : Sp} {E : XK}
theorem tru_len (h0 : PySem.W.findIn X.K (.ref C) "__bool__" = some none) (h1 : PySem.W.findIn X.K (.ref C) "__len__" = some (some (.ref f))) (h2 : PySem.W.isFn X.K (.ref f) = true)
    (Fn : FnOk X.prog X.w X.K X.mg X.base CX k f fd ps sp) (hr : Room (k + 1) X.A) (hb : Binds X.K fd ps []) (hx : Passes CX X E) :
    TruR X (fun x H Q => ∃ (a dx : Addr) (fs : List (Str × V)), x = .ref a ∧ H a = some (.ins C dx fs) ∧
      sp [.ref a] H (fun v H' => ∃ n : Int, v = .int n ∧ 0 ≤ n ∧ n < 2 ^ 63 ∧ Q (n != 0) H') E) := by
  intro pins s σ H x v Q I rx h
  obtain ⟨a, dx, fs, rfl, ha, hs⟩ := h
  obtain rfl : v = Value.ref a := rx
  obtain ⟨mA, J, _⟩ := ins_get I.hok ha
  obtain ⟨od, J, _⟩ := J.look
  have kin := I.kIn
  have hl : [Value.ref a].length = ps.length := Fn.len _ _ _ _ hs
  have bt := hb s [Value.ref a] kin (by simpa using hl)
  have body : wpAny (model X.prog X.w) X.A.in1 (call (.ref f) [.ref a]) (EP X pins σ fun v H' => ∃ n : Int, v = .int n ∧ 0 ≤ n ∧ n < 2 ^ 63 ∧ Q (n != 0) H') X.xe s := by
    refine wpAny_call (codeAny_mono (Fn.run X.A.in1 X.stack s H ⟨[.ref a], []⟩ [.ref a] [.ref a] _ E hr.in1 I.env0.in1 (by simpa using bt) (.cons rfl .nil) hs) ?_)
    intro r s' hq
    match r, hq with
    | .error e, hq => exact (hx pins σ H s e s' I hq)
    | .ok (.ret w), hq => exact I.after hq
    | .ok .next, hq => exact hq.elim
    | .ok .brk, hq => exact hq.elim
    | .ok .cont, hq => exact hq.elim
  have key : wpAny (model X.prog X.w) X.A (runValue (.builtin "len" ⟨[.ref a], []⟩)) (fun r s' => ∃ (n : Int) (t : Tok), r = .int n t ∧ ∃ H', Inv X pins σ H' s' ∧ Q (n != 0) H') X.xe s := by
    refine wpAny_runValue (codeAny_builtin entry_len ?_)
    rw [Around.under_plainId plain_len _]
    unfold Builtin.«len»
    refine wpAny_bind (m := oneArg "len" _) (wpAny_pure ?_)
    refine wpAny_bind (m := callSpecial? (.ref a) (Str.ofString "__len__")) (PySem.W.special_fn kin J h1 (beq_iff_eq.mp h2) (wpAny_mono body ?_ fun _ _ z => z))
    rintro r s' ⟨z, H', I', rz, n, rfl, n0, n1, q⟩
    obtain ⟨t, rfl⟩ := rz
    refine wpAny_bind (wpAny_holding (wpAny_pure ?_))
    refine wpAny_bind (wpAny_letGo ?_)
    show wpAny _ _ (if n < 0 then _ else _) _ _ _
    rw [if_neg (by omega)]
    show wpAny _ _ (if n ≥ 2 ^ 63 then _ else _) _ _ _
    rw [if_neg (by omega)]
    exact wpAny_bind (wpAny_mkInt (wpAny_pure ⟨n, _, rfl, H', I'.tok _, q⟩))
  show wpAny (model X.prog X.w) X.A (truthy (.ref a)) _ X.xe s
  unfold truthy
  refine wpAny_bind (m := callSpecial? (.ref a) (Str.ofString "__bool__")) (wpAny_bind (wpAny_bind (J.type.here ((PySem.W.looks_findIn kin h0).here (wpAny_pure ?_)))))
  refine wpAny_bind (wpAny_bind (J.type.here ((PySem.W.looks_findIn kin h1).here ?_)))
  refine wpAny_bind (wpAny_mono key ?_ fun _ _ z => z)
  rintro r s' ⟨n, t, rfl, H', I', q⟩
  exact wpAny_pure ⟨H', I', q⟩
end
end G
/-! own rules: a tuple read backwards by t[::-1]; what a text of texts measures -/
namespace G
open PySem PySem.Spec PyProof.Rows L2
section
variable {prog : Program} {w : World} {A : Around} {E : Value → Shared → Prop} {s : Shared}
theorem adjust_back (n : Nat) : Builtin.Slice.sliceAdjust none none (-1) (n : Int) = ((n : Int) - 1, -1) := rfl
theorem places_back (n : Nat) : Builtin.Slice.slicePlaces ((n : Int) - 1) (-1) (-1) = n := by
  unfold Builtin.Slice.slicePlaces
  have h1 : ¬ ((-1 : Int) > 0) := by omega
  simp only [h1, if_false]
  rw [show (-(-1) : Int) = 1 by decide, Int.ediv_one]
  split <;> omega
theorem sliceApplied_back {sl : Addr} {vl vu vs : Value} {n : Nat} {Q : Int × Int × Nat → Shared → Prop} (hs : s.heap.IsSliceOf sl vl vu vs) (pl : IsPart vl none) (pu : IsPart vu none)
    (ps : IsPart vs (some (-1))) (h : Q ((n : Int) - 1, -1, n) s) : wpAny (model prog w) A (Builtin.Slice.sliceApplied (.ref sl) (pure (n : Int))) Q E s := by
  obtain ⟨os, hos, hcs, hds⟩ := id hs
  unfold Builtin.Slice.sliceApplied Builtin.Slice.sliceFields
  refine wpAny_bind (wpAny_bind (wpAny_field hos hds (x := vl) rfl (wpAny_bind (wpAny_field hos hds (x := vu) rfl (wpAny_bind (wpAny_field hos hds (x := vs) rfl (wpAny_pure ?_)))))))
  refine wpAny_bind (HT.slicePart_ ps ?_)
  show wpAny _ _ (if ((-1 : Int) == 0) = true then _ else _) _ _ s
  rw [if_neg (by decide)]
  refine wpAny_bind (HT.slicePart_ pl (wpAny_bind (HT.slicePart_ pu (wpAny_bind (wpAny_pure ?_)))))
  show wpAny _ _ (match Builtin.Slice.sliceAdjust none none (-1) (n : Int) with | (lo, hi) => pure (lo, (-1 : Int), Builtin.Slice.slicePlaces lo hi (-1))) _ _ s
  rw [adjust_back n]
  show wpAny _ _ (pure ((n : Int) - 1, (-1 : Int), Builtin.Slice.slicePlaces ((n : Int) - 1) (-1) (-1))) _ _ s
  rw [places_back]
  exact wpAny_pure h
theorem pick_back (xs : Array Value) : ((List.range xs.size).filterMap fun (k : Nat) => xs[((xs.size : Int) - 1 + (k : Int) * (-1)).toNat]?).toArray = xs.toList.reverse.toArray := by
  congr 1
  have e : (List.range xs.size).filterMap (fun (k : Nat) => xs[((xs.size : Int) - 1 + (k : Int) * (-1)).toNat]?) = ((List.range xs.size).map fun k => xs.size - 1 - k).filterMap (xs[·]?) := by
    rw [List.filterMap_map]
    have go : ∀ l : List Nat, (∀ k ∈ l, k < xs.size) → l.filterMap (fun (k : Nat) => xs[((xs.size : Int) - 1 + (k : Int) * (-1)).toNat]?) = l.filterMap ((fun x => xs[x]?) ∘ fun k => xs.size - 1 - k) := by
      intro l
      induction l with
      | nil => intro _; rfl
      | cons k l ih =>
        intro h
        have hk := h k List.mem_cons_self
        have e : ((xs.size : Int) - 1 + (k : Int) * (-1)).toNat = xs.size - 1 - k := by omega
        rw [List.filterMap_cons, List.filterMap_cons, ih fun j hj => h j (List.mem_cons_of_mem _ hj), e]
        rfl
    exact go _ fun k hk => List.mem_range.mp hk
  rw [e, PySem.W.krv_range, List.filterMap_reverse, PySem.W.krv_all]
theorem getItem_tuple_back {t sl : Addr} {items : Array Value} {vl vu vs : Value} {Q : Value → Shared → Prop} (ht : IsTup s.heap t items) (hs : s.heap.IsSliceOf sl vl vu vs)
    (pl : IsPart vl none) (pu : IsPart vu none) (ps : IsPart vs (some (-1)))
    (h : Q (.ref s.heap.objs.size) { s with heap := s.heap.push { cls := .type "tuple", data := .seq items.toList.reverse.toArray } })
    (hsz : items.size ≤ sizeLine) : wpAny (model prog w) A (getItem (.ref t) (.ref sl)) Q E s := by
  have hz : sizeOk (.seq items.toList.reverse.toArray) := by
    show items.toList.reverse.toArray.size ≤ sizeLine
    rw [List.size_toArray, List.length_reverse, Array.length_toList]
    exact hsz
  obtain ⟨os, hos, hcs, hds⟩ := id hs
  have hTs : s.TypeIs (.ref sl) "slice" := ⟨os, hos, hcs⟩
  unfold getItem
  try with_reducible refine wpAny_holding ?_
  first | refine wpAny_bind (wpAny_pure ?_) | skip
  refine wpAny_bind (wpAny_sequenceKey ht.typeIs (by decide) ?_)
  refine wpAny_bind (wpAny_callSpecial?_slot (name := Str.ofString "__getitem__") ht.typeIs PyProof.Rows.slot_tuple_getitem
    (wpAny_call_entry PyProof.Rows.slot_tuple_getitem ht.typeIs entry_tuple_getitem ?_ (args_tuple_getitem _ _)))
  show wpAny _ _ (Builtin.Tuple.tupleItemsOf (.ref t) >>= _) _ _ s
  refine wpAny_bind (tupleItemsOf_ ht ?_)
  refine wpAny_bind (wpAny_typeOf hTs ?_)
  rw [if_pos (by decide)]
  refine wpAny_bind (sliceApplied_back hs pl pu ps ?_)
  have hno : ¬ (((items.size : Int) - 1 == 0 && (-1 : Int) == 1 && items.size == items.size) = true) := by
    intro q
    rw [Bool.and_eq_true, Bool.and_eq_true] at q
    exact absurd q.1.2 (by decide)
  show wpAny _ _ (if ((items.size : Int) - 1 == 0 && (-1 : Int) == 1 && items.size == items.size) = true then _ else _) _ _ s
  rw [if_neg hno, pick_back]
  first
    | exact wpAny_bind (m := Builtin.Tuple.tupleExact _) (wpAny_newObj_type (wpAny_pure ⟨_, rfl, wpAny_pure h⟩) hz)
    | exact wpAny_bind (m := Builtin.Tuple.tupleExact _) (wpAny_newObj_type (wpAny_bind (wpAny_pure (wpAny_pure ⟨_, rfl, wpAny_pure h⟩))) hz)
end
def tRevT (K : PySem.W.Frag) (te : TE) : TE := fun σ H Q => te σ H fun x H1 => ∃ a xs, x = .ref a ∧ SqT K H1 a xs ∧ ∀ p, H1 p = none → Q (.ref p) (upd H1 p (.tup xs.reverse))
theorem pe_revT {X : Cx} {e : Expr} {te : TE} {k : Nat} {p1 p2 p3 pos : Pos} (he : PE X e te) : PE X (.Subscript e (.Slice none none (some (.UnaryOp .USub (.Constant (.int 1) k p1) p2)) p3) pos) (tRevT X.K te) := by
  refine ⟨fun pins s σ H Q I h => ?_⟩
  refine Subscript_ (thn (he.run pins s σ H _ I h) fun v s1 ⟨x, H1, I1, r1, q1⟩ => ?_)
  obtain ⟨a, xs, ex, hx, q⟩ := q1
  subst ex
  cases r1
  have hst : PO X (some (.UnaryOp .USub (.Constant (.int 1) k p1) p2)) (tPart (tUn (rU fun i => .int (-i)) (tC (.int 1)))) := po_some (pe_un un_neg pe_int)
  refine wpAny_Slice (thn (po_none.run pins s1 σ H1 (fun o H2 => o = none ∧ H2 = H1) I1 ⟨rfl, rfl⟩) fun vl s2 ⟨l, H2, I2, pl, el, e2⟩ => ?_)
  subst el e2
  refine thn (po_none.run pins s2 σ H2 (fun o H3 => o = none ∧ H3 = H2) I2 ⟨rfl, rfl⟩) fun vu s3 ⟨u, H3, I3, pu, eu, e3⟩ => ?_
  subst eu e3
  refine thn (hst.run pins s3 σ H3 (fun o H4 => o = some (-1) ∧ H4 = H3) I3 ⟨1, rfl, -1, rfl, rfl, rfl⟩) fun vs s4 ⟨o, H4, I4, ps, eo, e4⟩ => ?_
  subst eo e4
  have I5 : Inv X pins σ H4 { s4 with heap := s4.heap.push { cls := .type "slice", data := .fields #[vl, vu, vs] } } := I4.kept (t' := s4.toks) fun b ob q => Heap.get?_push_of_some _ q
  obtain ⟨its, r, ht, hz⟩ := I5.tuple hx
  have hlen := r.length
  have ht' : IsTup (s4.heap.push { cls := .type "slice", data := .fields #[vl, vu, vs] }) a its.toArray := ht
  show wpAny (model X.prog X.w) X.A (subscriptTail e (.Slice none none (some (.UnaryOp .USub (.Constant (.int 1) k p1) p2)) p3) (.ref a) (.ref s4.heap.objs.size)) (EP X pins σ Q) X.xe { s4 with heap := s4.heap.push { cls := .type "slice", data := .fields #[vl, vu, vs] } }
  refine tail_any (ops := [.ref a, .ref s4.heap.objs.size]) ht'.typeIs PyProof.Rows.slot_tuple_getitem.lookup ?_ (by with_unfolding_all rfl)
  refine getItem_tuple_back (items := its.toArray) ht' (Heap.IsSliceOf.new _ vl vu vs) pl pu ps ?_ (by rw [List.size_toArray]; omega)
  refine ⟨.ref _, _, I5.laid (t' := s4.toks) (o := .tup xs.reverse) (fun b ob q => Heap.get?_push_of_some _ q) (Nat.le_refl _) ?_, rfl, q _ (I5.hok.fresh (Nat.le_refl _))⟩
  exact ⟨by rw [List.length_reverse]; exact hz, _, r.reverse, IsTup.new _ _⟩
/-! ### slices and sums of tuples, whatever stands -/
theorem cut_whole {xs : List V} {lo hi : Option Int} (h : HT.sIx xs.length 0 lo = 0 ∧ HT.sIx xs.length xs.length hi = xs.length) : cutV xs lo hi = xs := by
  unfold cutV
  rw [h.1, h.2, List.drop_zero, Nat.sub_zero]
  exact List.take_of_length_le (Nat.le_refl _)
theorem sl_both {H : Hp} {a : Addr} {xs : List V} {lo hi : Option Int} {Q : VK} (ha : H a = some (.tup xs))
    (q : ∀ H' p, Same H H' → H' p = some (.tup (cutV xs lo hi)) → Q (.ref p) H') :
    (HT.sIx xs.length 0 lo = 0 ∧ HT.sIx xs.length xs.length hi = xs.length → Q (.ref a) H) ∧
    (¬ (HT.sIx xs.length 0 lo = 0 ∧ HT.sIx xs.length xs.length hi = xs.length) → ∀ p, H p = none → Q (.ref p) (upd H p (.tup (cutV xs lo hi)))) :=
  ⟨fun h => q H a (.refl _) (by rw [cut_whole h]; exact ha), fun _ p np => q _ p ((Same.refl _).new np) upd_same⟩
theorem cat_both {H : Hp} {a b : Addr} {xs ys : List V} {Q : VK} (ha : H a = some (.tup xs)) (hb : H b = some (.tup ys))
    (q : ∀ H' p, Same H H' → H' p = some (.tup (xs ++ ys)) → Q (.ref p) H') :
    (xs = [] → Q (.ref b) H) ∧ (xs ≠ [] → ys = [] → Q (.ref a) H) ∧ (xs ≠ [] → ys ≠ [] → ∀ p, H p = none → Q (.ref p) (upd H p (.tup (xs ++ ys)))) :=
  ⟨fun h => q H b (.refl _) (by rw [h]; exact hb), fun _ h => q H a (.refl _) (by rw [h, List.append_nil]; exact ha), fun _ _ p np => q _ p ((Same.refl _).new np) upd_same⟩
def rSlB (K : PySem.W.Frag) : V → Option Int → Option Int → Hp → VK → Prop := fun x lo hi H Q => ∃ a xs, x = .ref a ∧ H a = some (.tup xs) ∧
  ∀ H' p, Same H H' → H' p = some (.tup (cutV xs lo hi)) → Q (.ref p) H'
theorem sl_tupB {X : Cx} : SlR X (rSlB X.K) := by
  intro pins s σ H x v vl vu lo hi sl Q I rx hs pl pu h
  obtain ⟨a, xs, rfl, ha, q⟩ := h
  exact sl_tupA pins s σ H _ v vl vu lo hi sl Q I rx hs pl pu ⟨a, xs, rfl, SqT.of ha, (sl_both ha q).1, (sl_both ha q).2⟩
def rCatB (K : PySem.W.Frag) : R2 := fun x y H Q => ∃ a b xs ys, x = .ref a ∧ y = .ref b ∧ H a = some (.tup xs) ∧ H b = some (.tup ys) ∧ xs.length + ys.length ≤ sizeLine ∧
  ∀ H' p, Same H H' → H' p = some (.tup (xs ++ ys)) → Q (.ref p) H'
theorem op_catB {X : Cx} : OpR X (binaryOp .Add) (rCatB X.K) := by
  intro pins s σ H x y v u Q I rx ry h
  obtain ⟨a, b, xs, ys, rfl, rfl, ha, hb, hz, q⟩ := h
  obtain ⟨q0, q1, q2⟩ := cat_both ha hb q
  exact op_catA pins s σ H _ _ v u Q I rx ry ⟨a, b, xs, ys, rfl, rfl, SqT.of ha, SqT.of hb, hz, q0, q1, q2⟩
end G
/-! own rules: sets of texts (add, sorted), set comprehensions of texts over two sources -/
noncomputable section
namespace G
open PySem PySem.Spec PyProof.Rows L2 PySem.Froz
/-! ### a set of texts -/
theorem perm_of {α : Type} [DecidableEq α] : ∀ {l m : List α}, l.Nodup → (∀ x ∈ l, x ∈ m) → m.length = l.length → m.Perm l
  | [], m, _, _, e => by
    have : m = [] := List.length_eq_zero_iff.mp e
    rw [this]
  | x :: l, m, nd, h, e => by
    have hx := h x List.mem_cons_self
    obtain ⟨n1, n2⟩ := List.nodup_cons.mp nd
    have p := List.perm_cons_erase hx
    have ih := perm_of (m := m.erase x) n2 (fun y hy => (List.mem_erase_of_ne (by rintro rfl; exact n1 hy)).mpr (h y (List.mem_cons_of_mem _ hy))) (by rw [List.length_erase_of_mem hx, e]; rfl)
    exact p.trans (ih.cons x)
def keyT (e : Int × Value) : Str := match e.2 with | .str x _ => x | _ => Str.empty
structure SetD (P : Program) (w : World) (D : SD) (l : List Str) : Prop where
  ok : TxOk P w D l
  nd : l.Nodup
  ts : ∀ e ∈ D.1.toList, ∃ k u, e.2 = Value.str k u
  few : l.length < scanBound
  ris : Ris D.2.2.place.toList
  led : w.params.followText "set-order" = true ∨ D.2.2.led = true
/-- the texts l, in some order, are the set at a -/
def SetX (P : Program) (w : World) (h : Heap) (a : Addr) (l : List Str) : Prop := ∃ D : SD, h.get? a = some (sObj "set" D) ∧ SetD P w D l
section
variable {P : Program} {w : World} {A : Around} {E : Value → Shared → Prop} {s : Shared} {a : Addr} {l : List Str}
theorem SetD.perm {D : SD} (d : SetD P w D l) : (D.1.toList.map keyT).Perm l := by
  refine perm_of d.nd (fun k hk => ?_) (by rw [List.length_map, Array.length_toList]; exact d.ok.sz)
  obtain ⟨e, he, q⟩ := (d.ok.mem k).mp hk
  refine List.mem_map.mpr ⟨e, he, ?_⟩
  obtain ⟨x, u, ex⟩ := d.ts e he
  rw [ex] at q
  unfold keyT
  rw [ex]
  exact (strKind P w).inj (.str x u) x k (is_str x u) q
theorem fresh_d (w : World) : SetD P w (#[], 0, .fresh 0 0 (!w.params.followText "set-order")) [] where
  ok := TxOk.nil rfl
  nd := List.nodup_nil
  ts := fun e he => by simp at he
  few := by decide
  ris := List.Pairwise.nil
  led := by
    cases q : w.params.followText "set-order"
    · exact .inr (by rw [show (!false) = true from rfl]; rfl)
    · exact .inl rfl
theorem tail_ris {ep : Nat} {es1 : Array (Int × Value)} {t2 : SetTable} {wd : Bool} (r : Ris t2.place.toList) : Ris (tailTx ep es1 t2 wd).2.2.place.toList := by
  unfold tailTx
  split
  · exact relayAll_ris _ _ _
  · exact r
theorem tail_led {ep : Nat} {es1 : Array (Int × Value)} {t2 : SetTable} {wd : Bool} : (tailTx ep es1 t2 wd).2.2.led = t2.led := by
  unfold tailTx
  split
  · exact relayAll_led _ _ _
  · rfl
theorem tail_mem {ep : Nat} {es1 : Array (Int × Value)} {t2 : SetTable} {wd : Bool} {e : Int × Value} (h : e ∈ (tailTx ep es1 t2 wd).1.toList) : e ∈ es1.toList := by
  unfold tailTx at h
  split at h
  · exact (relayAll_perm _ _ _).mem_iff.mp h
  · exact h
theorem add_ris {D : SD} {hs : Int} {v : Value} (r : Ris D.2.2.place.toList) : Ris (addTx hs v D).2.2.place.toList := by
  have r1 := layNew_ris D.2.2 D.1 hs v r
  unfold addTx
  refine tail_ris ?_
  split
  · exact r1
  · exact r1
theorem add_led {D : SD} {hs : Int} {v : Value} : (addTx hs v D).2.2.led = D.2.2.led := by
  have r1 := layNew_led D.2.2 D.1 hs v
  unfold addTx
  refine tail_led.trans ?_
  split
  · exact r1
  · exact r1
theorem add_ts {D : SD} {hs : Int} {x : Str} {t : Tok} (h : ∀ e ∈ D.1.toList, ∃ k u, e.2 = Value.str k u) : ∀ e ∈ (addTx hs (.str x t) D).1.toList, ∃ k u, e.2 = Value.str k u := by
  have p1 := layNew_perm D.2.2 D.1 hs (.str x t)
  intro e he
  unfold addTx at he
  have m := p1.mem_iff.mp (tail_mem he)
  rw [Array.toList_push] at m
  rcases List.mem_append.mp m with m | m
  · exact h e m
  · rw [List.mem_singleton.mp m]; exact ⟨x, t, rfl⟩
/-- what is added -/
def insS (k : Str) (l : List Str) : List Str := if k ∈ l then l else k :: l
theorem setX_add {k : Str} {u : Tok} {Q : Value → Shared → Prop} (R : SetX P w s.heap a l) (room : l.length + 1 < scanBound)
    (hQ : ∀ h', Heap.SameBut a s.heap h' → SetX P w h' a (insS k l) → Q .none { s with heap := h', toks := s.toks + 1 }) :
    wpAny (model P w) A (call (.builtin "set.add") [.ref a, .str k u]) Q E s := by
  obtain ⟨D, ho, d⟩ := R
  have hT : s.TypeIs (.ref a) "set" := ⟨_, ho, rfl⟩
  refine wpAny_call_entry F.slot_set_add hT F.entry_set_add ?_ (F.args_set_add_2 _ _)
  unfold Builtin.«set.add» Builtin.Frozenset.oneOther
  simp only [List.isEmpty_nil, bind_assoc]
  unfold Builtin.Frozenset.addrOf setAdd
  refine wpAny_bind (wpAny_pure ?_)
  try dsimp only
  refine wpAny_bind (wpAny_pure ?_)
  try dsimp only
  refine wpAny_bind (wpAny_holding (wpAny_bind ((strKind P w).pyHash (is_str k u) ?_)))
  have fin : ∀ (b : Bool) (h' : Heap), Heap.SameBut a s.heap h' → SetX P w h' a (insS k l) →
      wpAny (model P w) A.in1 (ret Value.none) (fun r s' => ∃ v, r = .done (.ret v) ∧ Q v s') E { s with heap := h', toks := s.toks + 1 } := fun b h' sb x => wpAny_pure ⟨_, rfl, hQ h' sb x⟩
  by_cases hk : k ∈ l
  · have e0 : insS k l = l := if_pos hk
    obtain ⟨es, ep, t⟩ := D
    have hd : (sObj "set" (es, ep, t)).data = .set es ep t := rfl
    obtain ⟨e, he, q⟩ := (d.ok.mem k).mp hk
    have hb0 : es.size < scanBound := by
      have : es.size = l.length := d.ok.sz
      rw [this]; exact d.few
    have hf : t.fits es.size = true := d.ok.fit
    have hel : ElemsOf (strKind P w) es.toList := d.ok.el
    obtain ⟨j, hj⟩ : ∃ j, List.findIdx? (fun e => (strKind P w).is k e.2) es.toList = some j := by
      cases hr : List.findIdx? (fun e => (strKind P w).is k e.2) es.toList with
      | some j => exact ⟨j, rfl⟩
      | none =>
        have c := List.findIdx?_eq_none_iff.mp hr e he
        rw [q] at c
        cases c
    unfold setAddHashed setAddHashedIn
    refine wpAny_holding (wpAny_bind (wpAny_setState_of ho hd hf ?_))
    dsimp only
    rw [byScan_of rfl hb0 hel]
    simp only [↓reduceIte]
    unfold setAddByScan
    refine wpAny_bind ?_
    refine wpAny_bind (wpAny_rule ?_)
    refine wpAny_bind (wpAny_setScan_of (knd := strKind P w) (k := k) (is_str k u) ho hd hf hel ?_)
    rw [hj]
    dsimp only
    exact wpAny_pure (wpAny_pure (fin false s.heap (Heap.SameBut.refl a s.heap) (by rw [e0]; exact ⟨_, ho, d⟩)))
  · have e0 : insS k l = k :: l := if_neg hk
    refine add_x (s := { s with toks := s.toks + 1 }) ho d.ok hk room (fin true _ (Heap.SameBut.update s.heap a _) ?_)
    rw [e0]
    exact ⟨_, get_upd _ ho rfl, add_ok u d.ok, List.nodup_cons.mpr ⟨hk, d.nd⟩, add_ts d.ts, room, add_ris d.ris, by rw [add_led]; exact d.led⟩
theorem strs_of : ∀ (vs : List Value), (∀ v ∈ vs, ∃ k u, v = Value.str k u) → StrsAre vs (vs.map strOf)
  | [], _ => .nil
  | v :: l, h => by
    obtain ⟨k, u, rfl⟩ := h v List.mem_cons_self
    exact .cons k u (strs_of l fun u hu => h u (List.mem_cons_of_mem _ hu))
theorem setX_sorted {Q : Value → Shared → Prop} (R : SetX P w s.heap a l) (hh : A.handled = none) (h64 : l.length < 64)
    (hQ : ∀ s' p (out : Array Value) (c : Nat) (ys : List Str), (∀ b o, s.heap.get? b = some o → s'.heap.get? b = some o) → s'.gens = s.gens → s'.os = s.os → s.heap.objs.size ≤ p →
      s'.heap.get? p = some (seqObj "list" out c) → StrsAre out.toList ys → ys.Perm l → sortedS ys = true → Q (.ref p) s') :
    wpAny (model P w) A (call (.builtin "sorted") [.ref a]) Q E s := by
  obtain ⟨D, ho, d⟩ := R
  obtain ⟨es, ep, t⟩ := D
  have hb : es.size < scanBound := by
    have : es.size = l.length := d.ok.sz
    rw [this]; exact d.few
  refine Calls.call_function_entry kind_sorted plain_sorted entry_sorted (args_sorted1 _) ?_
  unfold Builtin.«sorted»
  refine wpAny_bind (m := checkCount "sorted" 1 1 _) (wpAny_pure ?_)
  refine wpAny_bind (collect_set (A := A.in1) hh ⟨_, ho, rfl, rfl⟩ d.ok.fit hb d.ris d.led fun s1 vs k1 hz g1 o1 pm => ?_)
  have hvl : vs.length = l.length := by rw [pm.length_eq, List.length_map, Array.length_toList]; exact d.ok.sz
  have all : ∀ v ∈ vs, ∃ k u, v = Value.str k u := fun v hv => by
    obtain ⟨e, he, q⟩ := List.mem_map.mp (pm.mem_iff.mp hv)
    obtain ⟨k, u, h1⟩ := d.ts e he
    exact ⟨k, u, by rw [← q]; exact h1⟩
  have hS := strs_of vs all
  have pk : (vs.map strOf).Perm l := by
    refine List.Perm.trans ?_ d.perm
    have q := pm.map strOf
    rw [List.map_map] at q
    refine q.trans (List.Perm.of_eq (List.map_congr_left fun e he => ?_))
    obtain ⟨k, u, h1⟩ := d.ts e he
    show strOf e.2 = keyT e
    unfold keyT
    rw [h1]
    rfl
  refine wpAny_bind (wpAny_newList ?_ (by rw [hvl, sizeLine_eq]; omega))
  have hoL : (s1.heap.push (seqObj "list" vs.toArray 0)).get? s1.heap.objs.size = some (seqObj "list" vs.toArray 0) := Heap.get?_push_size _ rfl
  refine wpAny_bind (wpAny_holding (wpAny_call_entry slot_list_sort ⟨_, hoL, rfl⟩ entry_list_sort (list_sort_treeK strKind_oneLt hoL hS.keysOf (fun v₁ v₂ rest e => keyKind_strs (by rw [← e]; exact hS)) (by rw [hvl]; exact h64) fun st' a1 a2 => ⟨_, rfl, ?_⟩) (args_list_sort _)))
  obtain ⟨ys, y1, y2, y3⟩ := sorted_out_str hS a1 a2
  obtain ⟨c, hc⟩ := sortedHeap_at (vs := vs) (out := (arrOf st').map (·.2)) hoL
  refine wpAny_pure ⟨_, rfl, hQ _ s1.heap.objs.size _ c ys (fun b u e => ?_) g1 o1 hz hc y1 (y2.trans pk) y3⟩
  have q := k1 b u e
  have hlt := Heap.lt_size q
  show (sortedHeap (s1.heap.push (seqObj "list" vs.toArray 0)) s1.heap.objs.size vs _).get? b = some u
  rw [sortedHeap_old (Nat.ne_of_lt hlt) (by rw [size_push']; exact Nat.lt_succ_of_lt hlt)]
  exact Heap.get?_push_of_some _ q
end
end G
/-! own rules: sets of texts over the layer; {e for x in a for y in b if ..} -/
noncomputable section
namespace G
open PySem PySem.Spec PyProof.Rows L2 PySem.Froz PpSet
/-- the set of the texts l at a -/
def SetXO (P : Program) (w : World) (a : Addr) (l : List Str) : HO := .ext fun h => SetX P w h a l
theorem setXO_new {w : World} {P : Program} {H : Hp} {h : Heap} {a : Addr} {l : List Str} (R : SetX P w h a l) : ObjOk P w H h a (SetXO P w a l) := by
  obtain ⟨D, ho, d⟩ := id R
  exact ⟨R, ⟨_, ho⟩, fun h1 h2 p k => by
    obtain ⟨D, ho, d⟩ := p
    exact ⟨D, k _ ho, d⟩⟩
section
variable {X : Cx}
theorem setXO_get {pins : List (Addr × Obj)} {σ : L2.St} {H : Hp} {s : Shared} {a : Addr} {l : List Str} (I : Inv X pins σ H s) (ha : H a = some (SetXO X.prog X.w a l)) : SetX X.prog X.w s.heap a l := (I.hok a _ ha).1
theorem addX_ok {pins : List (Addr × Obj)} {σ : L2.St} {H : Hp} {s : Shared} {E : Value → Shared → Prop} {D : Addr} {l : List Str} {y : Str} {t : Tok} {Q : Value → Shared → Prop} (I : Inv X pins σ H s) (hD : H D = some (SetXO X.prog X.w D l)) (room : l.length + 1 < scanBound)
    (h : ∀ s', Inv X pins σ (upd H D (SetXO X.prog X.w D (insS y l))) s' → Q .none s') : wpAny (model X.prog X.w) X.A (call (.builtin "set.add") [.ref D, .str y t]) Q E s := by
  have R := setXO_get I hD
  refine setX_add R room fun h' sb new => ?_
  obtain ⟨D', ho, _⟩ := id new
  exact h _ (I.write (e := D) (t' := s.toks + 1) (by rw [hD]; trivial) (.inl rfl) (fun b u hb hu => (sb.2 b hb).trans hu) ⟨_, ho⟩ (setXO_new new))
def rSortedX (P : Program) (w : World) : List V → Hp → VK → Prop := fun vs H Q => ∃ (a : Addr) (l : List Str), vs = [V.ref a] ∧ H a = some (SetXO P w a l) ∧ l.length < 64 ∧
  ∀ (ys : List Str) (p : Addr), ys.Perm l → sortedS ys = true → H p = none → Q (.ref p) (upd H p (.lst (ys.map V.str)))
theorem cr_sortedX (hc : X.calm = true) : CallR X (.builtin "sorted") (rSortedX X.prog X.w) := by
  intro pins s σ H vs us Q I r h
  obtain ⟨a, l, rfl, ha, h64, q⟩ := h
  have R := setXO_get I ha
  rw [Vals.ref1 r]
  refine setX_sorted R (I.ok.hd hc) h64 fun s' p out c ys k g o hp hg hi hm hs => ?_
  have hlen : (ys.map V.str).length ≤ sizeLine := by rw [List.length_map, hm.length_eq, sizeLine_eq]; omega
  have hn : H p = none := I.hok.fresh hp
  have J : Inv X pins σ (upd H p (.lst (ys.map V.str))) { s with heap := s'.heap, gens := s'.gens, drawn := s'.drawn, toks := s'.toks } :=
    I.call (ch := []) (Un.laid k hp hn) (I.hok.laid k hp ⟨hlen, out.toList, c, vals_of_strs hi, hg⟩) (by rw [g]; exact I.bare) (fun _ z => nomatch z)
  have e : s' = { s with heap := s'.heap, gens := s'.gens, drawn := s'.drawn, toks := s'.toks } := by
    cases s'
    cases s
    cases o
    rfl
  rw [e]
  exact ⟨.ref p, _, J, rfl, q ys p hm hs hn⟩
end

/-! ### {elt for t0 in i0 if .. for t1 in i1 if ..} -/
theorem turnS_out (elt t0 i0 t1 i1 : Expr) (ifs0 ifs1 : List Expr) (scope : Scope) (pos : Pos) (it acc : Value) (env : Env) :
    compTurn (.SetComp elt [⟨t0, i0, ifs0, 0⟩, ⟨t1, i1, ifs1, 0⟩] scope pos) 0 it acc env = (do
      standAt i0.pos
      match ← pyNext it with
      | none => pure (.done .next)
      | some v =>
        letOwnedTupleGo t0 it v
        assign t0 env v
        let mut ok := true
        for c in ifs0 do
          if ok then ok ← isTrue c env (eval c env)
        if ok then
          let x ← eval i1 env
          standAt i1.pos
          let x ← foldedSetIterable i1 env x
          let _ ← runOwn (.compStart (.SetComp elt [⟨t0, i0, ifs0, 0⟩, ⟨t1, i1, ifs1, 0⟩] scope pos) 1 (← holding [x] (pyIter x)) acc env) env
        again (.compLoop (.SetComp elt [⟨t0, i0, ifs0, 0⟩, ⟨t1, i1, ifs1, 0⟩] scope pos) 0 it acc env)) := by rfl
theorem turnS_in (elt t0 i0 t1 i1 : Expr) (ifs0 ifs1 : List Expr) (scope : Scope) (pos : Pos) (it acc : Value) (env : Env) :
    compTurn (.SetComp elt [⟨t0, i0, ifs0, 0⟩, ⟨t1, i1, ifs1, 0⟩] scope pos) 1 it acc env = (do
      standAt i1.pos
      match ← pyNext it with
      | none => pure (.done .next)
      | some v =>
        letOwnedTupleGo t1 it v
        assign t1 env v
        let mut ok := true
        for c in ifs1 do
          if ok then ok ← isTrue c env (eval c env)
        if ok then
          (do let v ← eval elt env; standAt elt.pos; let _ ← call (.builtin "set.add") [acc, v])
        again (.compLoop (.SetComp elt [⟨t0, i0, ifs0, 0⟩, ⟨t1, i1, ifs1, 0⟩] scope pos) 1 it acc env)) := by rfl
section
variable {prog : Program} {w : World} {A : Around} {R : Result → Shared → Prop} {s : Shared} {elt t0 i0 t1 i1 : Expr} {ifs0 ifs1 : List Expr} {scope : Scope} {pos : Pos} {it acc : Value} {env : Env}
theorem loopS_out (hs : ∀ x, foldedSetIterable i1 env x = pure x) (I : Nat → Shared → Prop)
    (turn : ∀ n s, I n s → wpAny (model prog w) A (pyNext it) (fun r s₁ => match r with
      | none => R (.ok .next) s₁
      | some v => wpAny (model prog w) A (letOwnedTupleGo t0 it v) (fun _ s₁' => wpAny (model prog w) A (assign t0 env v) (fun _ s₂ =>
          wpAny (model prog w) A (forIn ifs0 true fun c r => if r = true then do let ok ← isTrue c env (eval c env); pure (ForInStep.yield ok) else pure (ForInStep.yield r)) (fun ok s₃ =>
            if ok = true then wpAny (model prog w) A (eval i1 env) (fun x s₄ => wpAny (model prog w) A (pyIter x) (fun it1 s₅ =>
              codeAny (model prog w) A (.compStart (.SetComp elt [⟨t0, i0, ifs0, 0⟩, ⟨t1, i1, ifs1, 0⟩] scope pos) 1 it1 acc env) (fun r s' => match r with
                | .ok _ => ∃ m, m < n ∧ I m s'
                | .error _ => False) s₅) (notedBy (model prog w) A env fun e s' => R (.error e) s') s₄) (notedBy (model prog w) A env fun e s' => R (.error e) s') s₃
            else ∃ m, m < n ∧ I m s₃) (notedBy (model prog w) A env fun e s' => R (.error e) s') s₂) (notedBy (model prog w) A env fun e s' => R (.error e) s') s₁') (notedBy (model prog w) A env fun e s' => R (.error e) s') s₁) (notedBy (model prog w) A env fun e s' => R (.error e) s') s)
    (n : Nat) (h : I n s) :
    codeAny (model prog w) A (.compLoop (.SetComp elt [⟨t0, i0, ifs0, 0⟩, ⟨t1, i1, ifs1, 0⟩] scope pos) 0 it acc env) R s := by
  refine codeAny_loop rfl I (fun n s hI => ?_) n h
  show wpAny _ A ((compTurn (.SetComp elt [⟨t0, i0, ifs0, 0⟩, ⟨t1, i1, ifs1, 0⟩] scope pos) 0 it acc env).onRaise (fun x => do noteFrame x env; theTreesLotGoes x)) _ _ s
  refine wpAny_noted ?_
  rw [turnS_out]
  refine wpAny_bind (wpAny_standAt (wpAny_bind (wpAny_mono (turn n s hI) (fun r s₁ h₁ => ?_) fun _ _ h' => h')))
  cases r with
  | none => exact wpAny_pure h₁
  | some v =>
    refine wpAny_bind (wpAny_mono h₁ (fun _ s₁' h₁' => ?_) fun _ _ h' => h')
    refine wpAny_bind (wpAny_mono h₁' (fun _ s₂ h₂ => wpAny_bind (wpAny_mono h₂ (fun ok s₃ h₃ => ?_) fun _ _ h' => h')) fun _ _ h' => h')
    cases ok with
    | false => exact wpAny_pure ⟨rfl, h₃⟩
    | true =>
      refine wpAny_bind (wpAny_mono h₃ (fun x s₄ h₄ => ?_) fun _ _ h' => h')
      refine wpAny_bind (wpAny_standAt (wpAny_bind (wpAny_of_eq (hs x) (wpAny_bind (wpAny_holding (wpAny_mono h₄ (fun it1 s₅ h₅ => ?_) fun _ _ h' => h'))))))
      refine wpAny_bind (wpAny_runOwn ?_)
      rw [Around.mark_none]
      refine codeAny_mono h₅ fun r s' hr => ?_
      cases r with
      | ok f =>
        first
          | exact wpAny_pure ⟨rfl, hr⟩
          | exact wpAny_bind (wpAny_pure (wpAny_pure ⟨rfl, hr⟩))
      | error e => exact hr.elim
theorem loopS_in (I : Nat → Shared → Prop)
    (turn : ∀ n s, I n s → wpAny (model prog w) A (pyNext it) (fun r s₁ => match r with
      | none => R (.ok .next) s₁
      | some v => wpAny (model prog w) A (letOwnedTupleGo t1 it v) (fun _ s₁' => wpAny (model prog w) A (assign t1 env v) (fun _ s₂ =>
          wpAny (model prog w) A (forIn ifs1 true fun c r => if r = true then do let ok ← isTrue c env (eval c env); pure (ForInStep.yield ok) else pure (ForInStep.yield r)) (fun ok s₃ =>
            if ok = true then wpAny (model prog w) A (eval elt env) (fun x s₄ =>
              wpAny (model prog w) A (call (.builtin "set.add") [acc, x]) (fun _ s₅ => ∃ m, m < n ∧ I m s₅) (notedBy (model prog w) A env fun e s' => R (.error e) s') s₄) (notedBy (model prog w) A env fun e s' => R (.error e) s') s₃
            else ∃ m, m < n ∧ I m s₃) (notedBy (model prog w) A env fun e s' => R (.error e) s') s₂) (notedBy (model prog w) A env fun e s' => R (.error e) s') s₁') (notedBy (model prog w) A env fun e s' => R (.error e) s') s₁) (notedBy (model prog w) A env fun e s' => R (.error e) s') s)
    (n : Nat) (h : I n s) :
    codeAny (model prog w) A (.compLoop (.SetComp elt [⟨t0, i0, ifs0, 0⟩, ⟨t1, i1, ifs1, 0⟩] scope pos) 1 it acc env) R s := by
  refine codeAny_loop rfl I (fun n s hI => ?_) n h
  show wpAny _ A ((compTurn (.SetComp elt [⟨t0, i0, ifs0, 0⟩, ⟨t1, i1, ifs1, 0⟩] scope pos) 1 it acc env).onRaise (fun x => do noteFrame x env; theTreesLotGoes x)) _ _ s
  refine wpAny_noted ?_
  rw [turnS_in]
  refine wpAny_bind (wpAny_standAt (wpAny_bind (wpAny_mono (turn n s hI) (fun r s₁ h₁ => ?_) fun _ _ h' => h')))
  cases r with
  | none => exact wpAny_pure h₁
  | some v =>
    refine wpAny_bind (wpAny_mono h₁ (fun _ s₁' h₁' => ?_) fun _ _ h' => h')
    refine wpAny_bind (wpAny_mono h₁' (fun _ s₂ h₂ => wpAny_bind (wpAny_mono h₂ (fun ok s₃ h₃ => ?_) fun _ _ h' => h')) fun _ _ h' => h')
    cases ok with
    | false => exact wpAny_pure ⟨rfl, h₃⟩
    | true =>
      exact wpAny_bind (wpAny_bind (wpAny_mono h₃ (fun x s₄ h₄ => wpAny_bind (wpAny_standAt (wpAny_bind (wpAny_mono h₄ (fun _ s₅ h₅ => wpAny_pure (wpAny_pure ⟨rfl, h₅⟩)) fun _ _ h' => h')))) fun _ _ h' => h'))
theorem startS_in (h0 : codeAny (model prog w) A (.compLoop (.SetComp elt [⟨t0, i0, ifs0, 0⟩, ⟨t1, i1, ifs1, 0⟩] scope pos) 1 it acc env) R s)
    (h : wpAny (model prog w) A (pyIter it) (fun it' s' => codeAny (model prog w) A (.compLoop (.SetComp elt [⟨t0, i0, ifs0, 0⟩, ⟨t1, i1, ifs1, 0⟩] scope pos) 1 it' acc env) R s')
      (notedBy (model prog w) A env fun x s' => R (.error x) s') s) :
    codeAny (model prog w) A (.compStart (.SetComp elt [⟨t0, i0, ifs0, 0⟩, ⟨t1, i1, ifs1, 0⟩] scope pos) 1 it acc env) R s := by
  refine codeAny_of_tree ?_
  show wpAny _ _ ((compStart (.SetComp elt [⟨t0, i0, ifs0, 0⟩, ⟨t1, i1, ifs1, 0⟩] scope pos) 1 it acc env).onRaise (fun x => do noteFrame x env; standAt theWindowsPlace)) _ _ s
  refine wpAny_notedAt ?_
  unfold compStart
  show wpAny _ _ (ask >>= _) _ _ s
  refine wpAny_bind (wpAny_askSetting (wpAny_ite ?_))
  split
  · first
      | exact wpAny_bind (wpAny_pure (wpAny_pure (And.intro rfl h0)))
      | exact wpAny_pure (And.intro rfl h0)
  · first
      | exact wpAny_bind (wpAny_rule (wpAny_bind (wpAny_standAt (wpAny_bind (wpAny_mono h (fun it' s' h' => wpAny_pure (And.intro rfl h')) fun _ _ x => x)))))
      | (refine wpAny_bind (wpAny_rule ?_); show wpAny _ _ (standAt i1.pos >>= _) _ _ s; exact wpAny_bind (wpAny_standAt (wpAny_bind (wpAny_mono h (fun it' s' h' => wpAny_pure (And.intro rfl h')) fun _ _ x => x))))
end
section
variable {X : Cx}
/-- the reading: D the new set, of texts -/
def tSc2 (P : Program) (w : World) (wi : TI) (g : TG) (tt : TT) (wi1 : TI) (g1 : TG) (tt1 : TT) (te : TE) (vs vs1 : List Nat) : TE := fun σ H Q => wi σ H fun J H1 => ∀ D, H1 D = none → ∃ W : Nat → Nat → Hp → Prop, (∃ m, W 0 m (upd H1 D (SetXO P w D []))) ∧ ∀ i m H, W i m H →
  (J.stop i H ∧ Q (.ref D) H) ∨ (J.go i H ∧ ∃ Nx : Hp → Prop, (∀ H', Nx H' → ∃ m', m' < m ∧ W (i + 1) m' H') ∧ ∀ x H', J.yld i H x H' → g x (wipe σ vs) H' fun σ2 H2 => wipe σ2 vs = wipe σ vs ∧ tt σ2 H2 fun b H3 =>
    if b = true then wi1 σ2 H3 fun J1 H4 => ∃ W1 : Nat → Nat → Hp → Prop, (∃ m, W1 0 m H4) ∧ ∀ j k H, W1 j k H →
      (J1.stop j H ∧ Nx H) ∨ (J1.go j H ∧ ∃ Nx1 : Hp → Prop, (∀ H', Nx1 H' → ∃ k', k' < k ∧ W1 (j + 1) k' H') ∧ ∀ x H', J1.yld j H x H' → g1 x (wipe σ2 vs1) H' fun σ3 H5 => wipe σ3 vs1 = wipe σ2 vs1 ∧ tt1 σ3 H5 fun b H6 =>
        if b = true then te σ3 H6 fun y H7 => ∃ (c : Str) (l : List Str), y = .str c ∧ H7 D = some (SetXO P w D l) ∧ l.length + 1 < scanBound ∧ Nx1 (upd H7 D (SetXO P w D (insS c l))) else Nx1 H6)
    else Nx H3)
theorem sc2_core {pins : List (Addr × Obj)} {s : Shared} {σ : L2.St} {H : Hp} {Q : VK} {pos' : Pos} {use : Option (Value → Sem Unit)} {Qf : Value → Shared → Prop} {elt tg iter tg1 iter1 : Expr} {ifs ifs1 : List Expr} {scope : Scope} {own : List (Str × Nat)} {vs1 : List Nat} {pos : Pos} {wi wi1 : TI} {g g1 : TG} {tt tt1 : TT} {te : TE}
    (hc : X.calm = true) (hN : X.N.Nodup) (hi : PI X tg iter wi) (ok : BlkOk X.N X.env.scope scope own) (hv : ∀ i ∈ vs1, i ∈ own.map (·.2))
    (hg : ∀ (s : Shared) (H : Hp) (C : Addr) (cl : List (Str × Addr)) (fp : List Addr), PG (X.blk s H scope (compEnvC scope cl C X.env) fp) tg g) (ht : ∀ (s : Shared) (H : Hp) (C : Addr) (cl : List (Str × Addr)) (fp : List Addr), PTs (X.blk s H scope (compEnvC scope cl C X.env) fp) ifs tt)
    (hi1 : ∀ (s : Shared) (H : Hp) (C : Addr) (cl : List (Str × Addr)) (fp : List Addr), PI (X.blk s H scope (compEnvC scope cl C X.env) fp) tg1 iter1 wi1)
    (hg1 : ∀ (s : Shared) (H : Hp) (C : Addr) (cl : List (Str × Addr)) (fp : List Addr), PG (X.blk s H scope (compEnvC scope cl C X.env) fp) tg1 g1)
    (ht1 : ∀ (s : Shared) (H : Hp) (C : Addr) (cl : List (Str × Addr)) (fp : List Addr), PTs (X.blk s H scope (compEnvC scope cl C X.env) fp) ifs1 tt1)
    (he : ∀ (s : Shared) (H : Hp) (C : Addr) (cl : List (Str × Addr)) (fp : List Addr), PE (X.blk s H scope (compEnvC scope cl C X.env) fp) elt te)
    (hs : ∀ x, foldedSetIterable iter X.env x = pure x) (hs1 : ∀ env x, foldedSetIterable iter1 env x = pure x)
    (I : Inv X pins σ H s) (h : tSc2 X.prog X.w wi g tt wi1 g1 tt1 te (own.map (·.2)) vs1 σ H Q)
    (hRR : ∀ D C s' m H', Inv X pins σ H' s' → Q (.ref D) H' → s'.heap.Ns C m → FpOk X pins H' C → compPost (model X.prog X.w) X.A X.xe use Qf (.ref D) C (.ok .next) s') :
    wpAny (model X.prog X.w) X.A (comprehension (.SetComp elt [⟨tg, iter, ifs, 0⟩, ⟨tg1, iter1, ifs1, 0⟩] scope pos) scope X.env pos' (newSet (.type "set")) false (eval iter X.env) use) Qf X.xe s := by
  have hfree : ∀ y ∈ scope.names, y.2 = .free → ∃ c, X.env.cells.lookup y.1 = some c := fun y hy e => by
    rcases ok.free y hy e with k | k
    · exact I.ok.has _ (.inl k)
    · exact I.ok.has _ (.inr k)
  refine wpAny_comprehension_free (use := use) rfl hs (closure_ok hfree) ok.kind (fun y hy e => by rw [ok.uniq y hy, e])
    (thn (hi.run pins s σ H _ I h) fun xv s1 hx => thn hx fun itv s2 h2 => ?_)
  obtain ⟨it, fp, tn, J, H2, e, I2, T, st2, f2, q⟩ := h2
  subst e
  refine newSet_ok (newEnv_comp ?_)
  generalize hD : s2.heap.objs.size = D
  have hDn : H2 D = none := I2.hok.fresh (Nat.le_of_eq hD)
  obtain ⟨W, ⟨m0, w0⟩, turn⟩ := q D hDn
  generalize hs3 : ({ s2 with heap := s2.heap.push { cls := .type "set", dict := none, data := .set #[] 0 (.fresh 0 0 (!X.w.params.followText "set-order")) } } : Shared) = s3
  have I3 : Inv X pins σ (upd H2 D (SetXO X.prog X.w D [])) s3 := by
    rw [← hs3]
    refine I2.laid (t' := s2.toks) (fun b o e => Heap.get?_push_of_some _ e) (Nat.le_of_eq hD) ?_
    rw [← hD]
    exact setXO_new ⟨_, Heap.get?_push_size _ rfl, fresh_d X.w⟩
  have h3 : s3.heap = s2.heap.push { cls := .type "set", dict := none, data := .set #[] 0 (.fresh 0 0 (!X.w.params.followText "set-order")) } := by rw [← hs3]
  have sz : ∀ b ∈ fp, b < s2.heap.objs.size := fun b hb => by
    obtain ⟨o, e, _⟩ := T.obj _ _ st2 b hb
    exact Heap.lt_size e
  have f3 : ∀ b ∈ fp, FpOk X pins (upd H2 D (SetXO X.prog X.w D [])) b ∧ b < s3.heap.objs.size := fun b hb => by
    have hlt := sz b hb
    refine ⟨⟨?_, (f2 b hb).2⟩, by rw [h3, Heap.size_push]; exact Nat.lt_succ_of_lt hlt⟩
    rw [upd_ne (by rw [← hD]; exact Nat.ne_of_lt hlt)]
    exact (f2 b hb).1
  have st3 : tn 0 s3.heap := T.keep _ _ _ st2 fun b _ o e => by rw [h3]; exact Heap.get?_push_of_some _ e
  have I4 := block_start I3 ok hN f3
  generalize hH3 : upd H2 D (SetXO X.prog X.w D []) = H3 at I3 I4 w0 f3
  have pg := hg s3 H3 s3.heap.objs.size (cellsFrom (s3.heap.objs.size + 1) scope.names (cloFrom X.env.cells scope.names [])) fp
  have pt := ht s3 H3 s3.heap.objs.size (cellsFrom (s3.heap.objs.size + 1) scope.names (cloFrom X.env.cells scope.names [])) fp
  have pe := he s3 H3 s3.heap.objs.size (cellsFrom (s3.heap.objs.size + 1) scope.names (cloFrom X.env.cells scope.names [])) fp
  have pi1 := hi1 s3 H3 s3.heap.objs.size (cellsFrom (s3.heap.objs.size + 1) scope.names (cloFrom X.env.cells scope.names [])) fp
  have pg1 := hg1 s3 H3 s3.heap.objs.size (cellsFrom (s3.heap.objs.size + 1) scope.names (cloFrom X.env.cells scope.names [])) fp
  have pt1 := ht1 s3 H3 s3.heap.objs.size (cellsFrom (s3.heap.objs.size + 1) scope.names (cloFrom X.env.cells scope.names [])) fp
  show codeAny _ _ (.compStart (.SetComp elt [⟨tg, iter, ifs, 0⟩, ⟨tg1, iter1, ifs1, 0⟩] scope pos) 0 (.ref it) (.ref D) (compEnvC scope (cellsFrom (s3.heap.objs.size + 1) scope.names (cloFrom X.env.cells scope.names [])) s3.heap.objs.size X.env)) (compPost (model X.prog X.w) X.A X.xe use Qf (.ref D) s3.heap.objs.size) { s3 with heap := pushCells (s3.heap.push { cls := .type "dict", data := .dict #[] }) scope.names }
  have nfp : ∀ b ∈ fp, H3 b = none := fun b hb => (f3 b hb).1.1
  generalize hce : compEnvC scope (cellsFrom (s3.heap.objs.size + 1) scope.names (cloFrom X.env.cells scope.names [])) s3.heap.objs.size X.env = ce at I4 pg pt pe pi1 pg1 pt1 ⊢
  have cL : ce.locals = s3.heap.objs.size := by subst hce; rfl
  generalize hs4 : ({ s3 with heap := pushCells (s3.heap.push { cls := .type "dict", data := .dict #[] }) scope.names } : Shared) = s4 at I4 ⊢
  have st4 : tn 0 s4.heap := T.keep _ _ _ st3 fun b _ o e => by rw [← hs4]; exact pushCells_keeps _ _ _ _ (Heap.get?_push_of_some _ e)
  have stat : ∀ {σ' : L2.St} {H' : Hp} {s' : Shared}, Inv (X.blk s3 H3 scope ce fp) [] σ' H' s' → (∀ b ∈ fp, H' b = none) → ∀ b ∈ fp, FpOk (X.blk s3 H3 scope ce fp) [] H' b := fun {σ' H' s'} I' hn b hb =>
    ⟨hn b hb, (I'.ok.exf b hb).1, I'.ok.exfs b hb, .inl hb, fun x c e => (I'.ok.exf b hb).2 x c e, fun p hp => absurd (show p ∈ ([] : List (Addr × Obj)) ++ [] from hp) (by simp)⟩
  have loop : codeAny (model X.prog X.w) X.A (.compLoop (.SetComp elt [⟨tg, iter, ifs, 0⟩, ⟨tg1, iter1, ifs1, 0⟩] scope pos) 0 (.ref it) (.ref D) ce) (compPost (model X.prog X.w) X.A X.xe use Qf (.ref D) s3.heap.objs.size) s4 := by
    refine loopS_out (hs1 ce) (fun n s' => ∃ i H', Inv (X.blk s3 H3 scope ce fp) [] (wipe σ (own.map (·.2))) H' s' ∧ tn i s'.heap ∧ (∀ b ∈ fp, H' b = none) ∧ W i n H') ?_ m0 ⟨0, H3, I4, st4, nfp, w0⟩
    rintro n s5 ⟨i, H5, I5, st5, n5, w5⟩
    rcases turn i n H5 w5 with ⟨stop, qq⟩ | ⟨go, Nx, hNx, step⟩
    · have td := T.done (X.blk s3 H3 scope ce fp) rfl rfl rfl hc i [] s5 _ H5 (fun _ _ => False) I5 (stat I5 n5) st5 stop
      refine thnF td fun r s6 ⟨hr, I6⟩ => ?_
      subst hr
      have I7 : Inv X pins σ H5 s6 := I3.call' (ch := fp) I6.os I6.base I6.hok I6.bare fun b hb => ⟨(f3 b hb).1.2.2.2.1, (f3 b hb).1.2.1, (f3 b hb).1.2.2.2.2.1, (f3 b hb).1.2.2.2.2.2⟩
      have nC : H5 s3.heap.objs.size = none := by
        have z : H5 ce.locals = none := I6.free
        rw [cL] at z
        exact z
      obtain ⟨m, hn, _⟩ := I6.loc
      have hn : s6.heap.Ns ce.locals m := hn
      rw [cL] at hn
      exact hRR D s3.heap.objs.size s6 m H5 I7 qq hn (I3.fpOk (Nat.le_refl _) nC)
    · have ti := T.item (X.blk s3 H3 scope ce fp) rfl rfl rfl hc i [] s5 _ H5 (fun _ _ => False) I5 (stat I5 n5) st5 go
      refine thnF ti fun r s6 ⟨u, hr, h6⟩ => ?_
      subst hr
      refine thnF h6 fun _ s7 ⟨x, H7, I7, r7, y7, st7, n7⟩ => ?_
      have I7' := I7.pinned (stat I7 n7) (T.obj _ _ st7)
      refine thnF (pg.run _ s7 _ H7 x u _ I7' r7 (step x H7 y7)) fun _ s8 ⟨σ8, H8, I8, hw8, q8⟩ => ?_
      refine thnF (pt.run _ s8 σ8 H8 _ I8 q8) fun b s9 ⟨H9, I9, q9⟩ => ?_
      have fin : ∀ {σ9 : L2.St} {s' : Shared} {H' : Hp}, Inv (X.blk s3 H3 scope ce fp) ([] ++ pinsAt fp s7.heap) σ9 H' s' → (wipe σ (own.map (·.2))).length = σ9.length → (∀ (j : Nat) v, (wipe σ (own.map (·.2)))[j]? = some (some v) → σ9[j]? = some (some v)) → Nx H' →
          ∃ m, m < n ∧ ∃ i H', Inv (X.blk s3 H3 scope ce fp) [] (wipe σ (own.map (·.2))) H' s' ∧ tn i s'.heap ∧ (∀ b ∈ fp, H' b = none) ∧ W i m H' := fun {σ9 s' H'} I' hl hk nx => by
        obtain ⟨m', hm, w'⟩ := hNx H' nx
        have pin' : ∀ b ∈ fp, ∀ o, s7.heap.get? b = some o → s'.heap.get? b = some o ∧ H' b = none := fun b hb o e =>
          let z := I'.pin (b, o) (List.mem_append_right _ (List.mem_append_right _ (mem_pinsAt hb e)))
          ⟨z.1, z.2.1⟩
        refine ⟨m', hm, i + 1, H', (I'.unpinned (pins := [])).weak hl hk, T.keep _ _ _ st7 fun b hb o e => (pin' b hb o e).1, fun b hb => ?_, w'⟩
        obtain ⟨o, e, _⟩ := T.obj _ _ st7 b hb
        exact (pin' b hb o e).2
      have hl8 : (wipe σ (own.map (·.2))).length = σ8.length := by rw [← hw8, wipe_length]
      have hk8 : ∀ (j : Nat) v, (wipe σ (own.map (·.2)))[j]? = some (some v) → σ8[j]? = some (some v) := fun j v e => by
        rw [← hw8] at e
        exact (wipe_some e).1
      have hk9 : ∀ (j : Nat) v, (wipe σ (own.map (·.2)))[j]? = some (some v) → (wipe σ8 vs1)[j]? = some (some v) := fun j v e => by
        rw [← hw8] at e
        obtain ⟨e1, e2⟩ := wipe_some e
        rw [wipe_out fun z => e2 (hv j z)]
        exact e1
      cases b with
      | false =>
        simp only [Bool.false_eq_true, if_false] at q9 ⊢
        exact fin I9 hl8 hk8 q9
      | true =>
        simp only [if_true] at q9 ⊢
        refine thnF (pi1.run _ s9 σ8 H9 _ I9 q9) fun xv s10 hx => thnF hx fun itv s11 h11 => ?_
        obtain ⟨it1, fp1, tn1, J1, H11, e1, I11, T1, st11, f11, W1, ⟨m1, w1⟩, turn1⟩ := h11
        subst e1
        have stat1 : ∀ {H' : Hp}, (∀ b ∈ fp1, H' b = none) → ∀ b ∈ fp1, FpOk (X.blk s3 H3 scope ce fp) ([] ++ pinsAt fp s7.heap) H' b := fun hn b hb => ⟨hn b hb, (f11 b hb).2⟩
        have loop1 : codeAny (model X.prog X.w) X.A (.compLoop (.SetComp elt [⟨tg, iter, ifs, 0⟩, ⟨tg1, iter1, ifs1, 0⟩] scope pos) 1 (.ref it1) (.ref D) ce)
            (fun r s' => match r with
              | .ok _ => ∃ m, m < n ∧ ∃ i H', Inv (X.blk s3 H3 scope ce fp) [] (wipe σ (own.map (·.2))) H' s' ∧ tn i s'.heap ∧ (∀ b ∈ fp, H' b = none) ∧ W i m H'
              | .error _ => False) s11 := by
          refine loopS_in (fun k s' => ∃ j H', Inv (X.blk s3 H3 scope ce fp) ([] ++ pinsAt fp s7.heap) (wipe σ8 vs1) H' s' ∧ tn1 j s'.heap ∧ (∀ b ∈ fp1, H' b = none) ∧ W1 j k H') ?_ m1 ⟨0, H11, I11.weak (wipe_length _ _) (fun j v e => (wipe_some e).1), st11, fun b hb => (f11 b hb).1, w1⟩
          rintro k s12 ⟨j, H12, I12, st12, n12, w12⟩
          rcases turn1 j k H12 w12 with ⟨stop1, nx1⟩ | ⟨go1, Nx1, hNx1, step1⟩
          · refine thnF (T1.done (X.blk s3 H3 scope ce fp) rfl rfl rfl hc j _ s12 (wipe σ8 vs1) H12 (fun _ _ => False) I12 (stat1 n12) st12 stop1) fun r s13 ⟨hr, I13⟩ => ?_
            subst hr
            exact fin I13 (hl8.trans (wipe_length σ8 vs1).symm) hk9 nx1
          · refine thnF (T1.item (X.blk s3 H3 scope ce fp) rfl rfl rfl hc j _ s12 (wipe σ8 vs1) H12 (fun _ _ => False) I12 (stat1 n12) st12 go1) fun r s13 ⟨u1, hr, h13⟩ => ?_
            subst hr
            refine thnF h13 fun _ s14 ⟨x1, H14, I14, r14, y14, st14, n14⟩ => ?_
            have I14' := I14.pinned (stat1 n14) (T1.obj _ _ st14)
            refine thnF (pg1.run _ s14 (wipe σ8 vs1) H14 x1 u1 _ I14' r14 (step1 x1 H14 y14)) fun _ s15 ⟨σ15, H15, I15, hw15, q15⟩ => ?_
            refine thnF (pt1.run _ s15 σ15 H15 _ I15 q15) fun b1 s16 ⟨H16, I16, q16⟩ => ?_
            have fin1 : ∀ {s' : Shared} {H' : Hp}, Inv (X.blk s3 H3 scope ce fp) (([] ++ pinsAt fp s7.heap) ++ pinsAt fp1 s14.heap) σ15 H' s' → Nx1 H' → ∃ m, m < k ∧ ∃ j H', Inv (X.blk s3 H3 scope ce fp) ([] ++ pinsAt fp s7.heap) (wipe σ8 vs1) H' s' ∧ tn1 j s'.heap ∧ (∀ b ∈ fp1, H' b = none) ∧ W1 j m H' := fun {s' H'} I' nx => by
              obtain ⟨m', hm, w'⟩ := hNx1 H' nx
              have pin' : ∀ b ∈ fp1, ∀ o, s14.heap.get? b = some o → s'.heap.get? b = some o ∧ H' b = none := fun b hb o e =>
                let z := I'.pin (b, o) (List.mem_append_right _ (List.mem_append_right _ (mem_pinsAt hb e)))
                ⟨z.1, z.2.1⟩
              refine ⟨m', hm, j + 1, H', I'.unpinned.weak (by rw [← hw15, wipe_length]) (fun j v e => by rw [← hw15] at e; exact (wipe_some e).1), T1.keep _ _ _ st14 fun b hb o e => (pin' b hb o e).1, fun b hb => ?_, w'⟩
              obtain ⟨o, e, _⟩ := T1.obj _ _ st14 b hb
              exact (pin' b hb o e).2
            cases b1 with
            | false =>
              simp only [Bool.false_eq_true, if_false] at q16 ⊢
              exact fin1 I16 q16
            | true =>
              simp only [if_true] at q16 ⊢
              refine thnF (pe.run _ s16 σ15 H16 _ I16 q16) fun z s17 ⟨yv, H17, I17, r17, cc, l, ey, hD17, hz17, nx⟩ => ?_
              subst ey
              obtain ⟨tk, rfl⟩ := r17
              exact addX_ok (X := X.blk s3 H3 scope ce fp) I17 hD17 hz17 fun s18 I18 => fin1 I18 nx
        exact startS_in loop1 (T1.self X.A 0 _ _ _ st11 loop1)
  exact codeAny_compStart_set loop (T.self X.A 0 _ _ _ st4 loop)
theorem pe_sc2 {elt tg iter tg1 iter1 : Expr} {ifs ifs1 : List Expr} {scope : Scope} {own : List (Str × Nat)} {vs1 : List Nat} {pos : Pos} {wi wi1 : TI} {g g1 : TG} {tt tt1 : TT} {te : TE}
    (hc : X.calm = true) (hN : X.N.Nodup) (hi : PI X tg iter wi) (ok : BlkOk X.N X.env.scope scope own) (hv : ∀ i ∈ vs1, i ∈ own.map (·.2))
    (hg : ∀ (s : Shared) (H : Hp) (C : Addr) (cl : List (Str × Addr)) (fp : List Addr), PG (X.blk s H scope (compEnvC scope cl C X.env) fp) tg g) (ht : ∀ (s : Shared) (H : Hp) (C : Addr) (cl : List (Str × Addr)) (fp : List Addr), PTs (X.blk s H scope (compEnvC scope cl C X.env) fp) ifs tt)
    (hi1 : ∀ (s : Shared) (H : Hp) (C : Addr) (cl : List (Str × Addr)) (fp : List Addr), PI (X.blk s H scope (compEnvC scope cl C X.env) fp) tg1 iter1 wi1)
    (hg1 : ∀ (s : Shared) (H : Hp) (C : Addr) (cl : List (Str × Addr)) (fp : List Addr), PG (X.blk s H scope (compEnvC scope cl C X.env) fp) tg1 g1)
    (ht1 : ∀ (s : Shared) (H : Hp) (C : Addr) (cl : List (Str × Addr)) (fp : List Addr), PTs (X.blk s H scope (compEnvC scope cl C X.env) fp) ifs1 tt1)
    (he : ∀ (s : Shared) (H : Hp) (C : Addr) (cl : List (Str × Addr)) (fp : List Addr), PE (X.blk s H scope (compEnvC scope cl C X.env) fp) elt te)
    (hs : ∀ x, foldedSetIterable iter X.env x = pure x := by intro _; rfl) (hs1 : ∀ env x, foldedSetIterable iter1 env x = pure x := by intro _ _; rfl) :
    PE X (.SetComp elt [⟨tg, iter, ifs, 0⟩, ⟨tg1, iter1, ifs1, 0⟩] scope pos) (tSc2 X.prog X.w wi g tt wi1 g1 tt1 te (own.map (·.2)) vs1) := by
  refine ⟨fun pins s σ H Q I h => ?_⟩
  rw [eval_SetComp]
  refine sc2_core hc hN hi ok hv hg ht hi1 hg1 ht1 he hs hs1 I h fun D C s' m H' I' q hn f => ⟨m, hn, fun h'' sb => ?_⟩
  obtain ⟨f0, f1, f2, f3, f4, f5⟩ := f
  exact ⟨.ref D, H', I'.turned (t' := s'.toks) (fun b o hb e => (sb.2 b hb).trans e) f0 f1 f3 f4 f5, rfl, q⟩
theorem ps_setSc2 {elt tg iter tg1 iter1 : Expr} {ifs ifs1 : List Expr} {scope : Scope} {own : List (Str × Nat)} {vs1 : List Nat} {i : Nat} {y : Str} {py spos pos : Pos} {wi wi1 : TI} {g g1 : TG} {tt tt1 : TT} {te : TE}
    (hc : X.calm = true) (hN : X.N.Nodup) (hy : X.N[i]? = some y) (hyl : X.env.scope.names.lookup y = some .local)
    (hsw : swapsWith (.SetComp elt [⟨tg, iter, ifs, 0⟩, ⟨tg1, iter1, ifs1, 0⟩] scope pos) (some (.Name y py)) spos.line X.env = pure true) (hi : PI X tg iter wi) (ok : BlkOk X.N X.env.scope scope own) (hv : ∀ i ∈ vs1, i ∈ own.map (·.2))
    (hg : ∀ (s : Shared) (H : Hp) (C : Addr) (cl : List (Str × Addr)) (fp : List Addr), PG (X.blk s H scope (compEnvC scope cl C X.env) fp) tg g) (ht : ∀ (s : Shared) (H : Hp) (C : Addr) (cl : List (Str × Addr)) (fp : List Addr), PTs (X.blk s H scope (compEnvC scope cl C X.env) fp) ifs tt)
    (hi1 : ∀ (s : Shared) (H : Hp) (C : Addr) (cl : List (Str × Addr)) (fp : List Addr), PI (X.blk s H scope (compEnvC scope cl C X.env) fp) tg1 iter1 wi1)
    (hg1 : ∀ (s : Shared) (H : Hp) (C : Addr) (cl : List (Str × Addr)) (fp : List Addr), PG (X.blk s H scope (compEnvC scope cl C X.env) fp) tg1 g1)
    (ht1 : ∀ (s : Shared) (H : Hp) (C : Addr) (cl : List (Str × Addr)) (fp : List Addr), PTs (X.blk s H scope (compEnvC scope cl C X.env) fp) ifs1 tt1)
    (he : ∀ (s : Shared) (H : Hp) (C : Addr) (cl : List (Str × Addr)) (fp : List Addr), PE (X.blk s H scope (compEnvC scope cl C X.env) fp) elt te)
    (hs : ∀ x, foldedSetIterable iter X.env x = pure x := by intro _; rfl) (hs1 : ∀ env x, foldedSetIterable iter1 env x = pure x := by intro _ _; rfl) :
    PS X (.Assign [.Name y py] (.SetComp elt [⟨tg, iter, ifs, 0⟩, ⟨tg1, iter1, ifs1, 0⟩] scope pos) spos) (tAsg (tSc2 X.prog X.w wi g tt wi1 g1 tt1 te (own.map (·.2)) vs1) (gName i)) := by
  refine ⟨fun pins s σ H D I h => ?_⟩
  rw [exec_Assign_Name_used _ _ _ _ hsw]
  refine wpAny_bind (wpAny_standAt (wpAny_bind ?_))
  show wpAny _ X.A (do let _ ← comprehension (.SetComp elt [⟨tg, iter, ifs, 0⟩, ⟨tg1, iter1, ifs1, 0⟩] scope pos) scope X.env (firstIterPos [⟨tg, iter, ifs, 0⟩, ⟨tg1, iter1, ifs1, 0⟩] pos) (newSet (.type "set")) false (eval iter X.env) (some (assign (.Name y py) X.env))) _ _ s
  have h : tSc2 X.prog X.w wi g tt wi1 g1 tt1 te (own.map (·.2)) vs1 σ H (fun x H1 => gName i x σ H1 D.nx) := h
  refine wpAny_bind (thn (sc2_core (Qf := fun _ s' => SP X pins D .next s') hc hN hi ok hv hg ht hi1 hg1 ht1 he hs hs1 I h fun L C s' m H' I' q hn f => ?_) fun _ s' hq => wpAny_pure (wpAny_pure hq))
  show wpAny _ _ (assign (.Name y py) X.env (.ref L)) _ _ _
  refine wpAny_assign_Name (store_ok2 (v := V.ref L) I' hN hy (.inl hyl) rfl (fun s2 I2 ⟨a, sb, ha⟩ => ?_) (.inr hyl))
  obtain ⟨f0, f1, f2, f3, f4, f5⟩ := f
  have haC : C ≠ a := by
    rcases ha with z | z
    · rw [z]; exact f1
    · exact fun e => f4 y a z e.symm
  refine ⟨m, hn.sameBut sb haC, fun h3 sb3 => ?_⟩
  exact ⟨_, H', I2.turned (t' := s2.toks) (fun b o hb e => (sb3.2 b hb).trans e) f0 f1 f3 f4 f5, q⟩
theorem swS_true {elt : Expr} {gs : List Comprehension} {scope : Scope} {pos py : Pos} {y : Str} {l : Nat} {env : Env} (hk : env.scope.kind = .function) (hy : env.scope.names.lookup y = some .local) (hl : (py.line == pos.line) = true)
    (ha : (scope.names.any fun (n, k) => n == y && (k == .local || k == .cell)) = false) : swapsWith (.SetComp elt gs scope pos) (some (.Name y py)) l env = pure true := by
  have ky : env.kindOf y = some .local := hy
  have hb : env.blockKind = .function := by unfold Env.blockKind; rw [hk]; rfl
  unfold swapsWith
  simp only [hb, ky, ha, Expr.pos, hl]
  rfl
end
/-! ### walks of the two sources -/
theorem sc2W {P : Program} {w : World} {J : It} {xs : List V} {Sd : Hp → Prop} (wk : Wk J xs Sd) {g : TG} {tt : TT} {wi1 : TI} {g1 : TG} {tt1 : TT} {te : TE} {vs vs1 : List Nat} {σ : L2.St} {H1 : Hp} {D : Addr} {Qd : Hp → Prop}
    (Pv : Nat → Hp → Prop) (h0 : Pv 0 (upd H1 D (SetXO P w D []))) (hst : ∀ i H, i ≤ xs.length → Pv i H → Sd H)
    (hs : ∀ i x H, xs[i]? = some x → Pv i H → g x (wipe σ vs) H fun σ2 H2 => wipe σ2 vs = wipe σ vs ∧ tt σ2 H2 fun b H3 =>
      if b = true then wi1 σ2 H3 fun J1 H4 => ∃ W1 : Nat → Nat → Hp → Prop, (∃ m, W1 0 m H4) ∧ ∀ j k H, W1 j k H →
        (J1.stop j H ∧ Pv (i + 1) H) ∨ (J1.go j H ∧ ∃ Nx1 : Hp → Prop, (∀ H', Nx1 H' → ∃ k', k' < k ∧ W1 (j + 1) k' H') ∧ ∀ x H', J1.yld j H x H' → g1 x (wipe σ2 vs1) H' fun σ3 H5 => wipe σ3 vs1 = wipe σ2 vs1 ∧ tt1 σ3 H5 fun b H6 =>
          if b = true then te σ3 H6 fun y H7 => ∃ (c : Str) (l : List Str), y = .str c ∧ H7 D = some (SetXO P w D l) ∧ l.length + 1 < scanBound ∧ Nx1 (upd H7 D (SetXO P w D (insS c l))) else Nx1 H6)
      else Pv (i + 1) H3)
    (hd : ∀ H, Pv xs.length H → Qd H) :
    ∃ W : Nat → Nat → Hp → Prop, (∃ m, W 0 m (upd H1 D (SetXO P w D []))) ∧ ∀ i m H, W i m H →
      (J.stop i H ∧ Qd H) ∨ (J.go i H ∧ ∃ Nx : Hp → Prop, (∀ H', Nx H' → ∃ m', m' < m ∧ W (i + 1) m' H') ∧ ∀ x H', J.yld i H x H' → g x (wipe σ vs) H' fun σ2 H2 => wipe σ2 vs = wipe σ vs ∧ tt σ2 H2 fun b H3 =>
        if b = true then wi1 σ2 H3 fun J1 H4 => ∃ W1 : Nat → Nat → Hp → Prop, (∃ m, W1 0 m H4) ∧ ∀ j k H, W1 j k H →
          (J1.stop j H ∧ Nx H) ∨ (J1.go j H ∧ ∃ Nx1 : Hp → Prop, (∀ H', Nx1 H' → ∃ k', k' < k ∧ W1 (j + 1) k' H') ∧ ∀ x H', J1.yld j H x H' → g1 x (wipe σ2 vs1) H' fun σ3 H5 => wipe σ3 vs1 = wipe σ2 vs1 ∧ tt1 σ3 H5 fun b H6 =>
            if b = true then te σ3 H6 fun y H7 => ∃ (c : Str) (l : List Str), y = .str c ∧ H7 D = some (SetXO P w D l) ∧ l.length + 1 < scanBound ∧ Nx1 (upd H7 D (SetXO P w D (insS c l))) else Nx1 H6)
        else Nx H3) := by
  refine ⟨fun i m H => m = xs.length - i ∧ i ≤ xs.length ∧ Pv i H, ⟨xs.length, rfl, Nat.zero_le _, h0⟩, ?_⟩
  rintro i m H ⟨rfl, hi, pv⟩
  have sd := hst i H hi pv
  rcases Nat.lt_or_ge i xs.length with lt | ge
  · refine .inr ⟨wk.go i H sd lt, Pv (i + 1), fun H' q => ⟨xs.length - (i + 1), by omega, rfl, lt, q⟩, ?_⟩
    intro x H' y
    obtain ⟨rfl, hx⟩ := wk.yld i H x H' sd lt y
    exact hs i x _ hx pv
  · have e : i = xs.length := by omega
    subst e
    exact .inl ⟨wk.stop _ H sd ge, hd H pv⟩
/-- the second source's loop -/
theorem sc2I {P : Program} {w : World} {J : It} {xs : List V} {Sd : Hp → Prop} (wk : Wk J xs Sd) {g : TG} {tt : TT} {te : TE} {vs : List Nat} {σ : L2.St} {H1 : Hp} {D : Addr} {Nx : Hp → Prop}
    (Pv : Nat → Hp → Prop) (h0 : Pv 0 H1) (hst : ∀ i H, i ≤ xs.length → Pv i H → Sd H)
    (hs : ∀ i x H, xs[i]? = some x → Pv i H → g x (wipe σ vs) H fun σ3 H5 => wipe σ3 vs = wipe σ vs ∧ tt σ3 H5 fun b H6 =>
      if b = true then te σ3 H6 fun y H7 => ∃ (c : Str) (l : List Str), y = .str c ∧ H7 D = some (SetXO P w D l) ∧ l.length + 1 < scanBound ∧ Pv (i + 1) (upd H7 D (SetXO P w D (insS c l))) else Pv (i + 1) H6)
    (hd : ∀ H, Pv xs.length H → Nx H) :
    ∃ W1 : Nat → Nat → Hp → Prop, (∃ m, W1 0 m H1) ∧ ∀ j k H, W1 j k H →
      (J.stop j H ∧ Nx H) ∨ (J.go j H ∧ ∃ Nx1 : Hp → Prop, (∀ H', Nx1 H' → ∃ k', k' < k ∧ W1 (j + 1) k' H') ∧ ∀ x H', J.yld j H x H' → g x (wipe σ vs) H' fun σ3 H5 => wipe σ3 vs = wipe σ vs ∧ tt σ3 H5 fun b H6 =>
        if b = true then te σ3 H6 fun y H7 => ∃ (c : Str) (l : List Str), y = .str c ∧ H7 D = some (SetXO P w D l) ∧ l.length + 1 < scanBound ∧ Nx1 (upd H7 D (SetXO P w D (insS c l))) else Nx1 H6) := by
  refine ⟨fun i m H => m = xs.length - i ∧ i ≤ xs.length ∧ Pv i H, ⟨xs.length, rfl, Nat.zero_le _, h0⟩, ?_⟩
  rintro i m H ⟨rfl, hi, pv⟩
  have sd := hst i H hi pv
  rcases Nat.lt_or_ge i xs.length with lt | ge
  · refine .inr ⟨wk.go i H sd lt, Pv (i + 1), fun H' q => ⟨xs.length - (i + 1), by omega, rfl, lt, q⟩, ?_⟩
    intro x H' y
    obtain ⟨rfl, hx⟩ := wk.yld i H x H' sd lt y
    exact hs i x _ hx pv
  · have e : i = xs.length := by omega
    subst e
    exact .inl ⟨wk.stop _ H sd ge, hd H pv⟩
/-- a dict comprehension -/
theorem dcW {J : It} {xs : List V} {Sd : Hp → Prop} (wk : Wk J xs Sd) {g : TG} {tt : TT} {tk tv : TE} {vs : List Nat} {σ : L2.St} {H1 : Hp} {D : Addr} {Qd : Hp → Prop}
    (Pv : Nat → Hp → Prop) (h0 : Pv 0 (upd H1 D (.dK []))) (hst : ∀ i H, i ≤ xs.length → Pv i H → Sd H)
    (hs : ∀ i x H, xs[i]? = some x → Pv i H → g x (wipe σ vs) H fun σ2 H2 => wipe σ2 vs = wipe σ vs ∧ tt σ2 H2 fun b H3 =>
      if b = true then tk σ2 H3 fun y H4 => tv σ2 H4 fun z H5 => ∃ kvs k, y = kV k ∧ H5 D = some (.dK kvs) ∧ kvs.length < sizeLine ∧ Pv (i + 1) (upd H5 D (.dK (putK kvs k z))) else Pv (i + 1) H3)
    (hd : ∀ H, Pv xs.length H → Qd H) :
    ∃ W : Nat → Nat → Hp → Prop, (∃ m, W 0 m (upd H1 D (.dK []))) ∧ ∀ i m H, W i m H →
      (J.stop i H ∧ Qd H) ∨ (J.go i H ∧ ∃ Nx : Hp → Prop, (∀ H', Nx H' → ∃ m', m' < m ∧ W (i + 1) m' H') ∧ ∀ x H', J.yld i H x H' →
        g x (wipe σ vs) H' fun σ2 H2 => wipe σ2 vs = wipe σ vs ∧ tt σ2 H2 fun b H3 =>
        if b = true then tk σ2 H3 fun y H4 => tv σ2 H4 fun z H5 => ∃ kvs k, y = kV k ∧ H5 D = some (.dK kvs) ∧ kvs.length < sizeLine ∧ Nx (upd H5 D (.dK (putK kvs k z))) else Nx H3) := by
  refine ⟨fun i m H => m = xs.length - i ∧ i ≤ xs.length ∧ Pv i H, ⟨xs.length, rfl, Nat.zero_le _, h0⟩, ?_⟩
  rintro i m H ⟨rfl, hi, pv⟩
  have sd := hst i H hi pv
  rcases Nat.lt_or_ge i xs.length with lt | ge
  · refine .inr ⟨wk.go i H sd lt, Pv (i + 1), fun H' q => ⟨xs.length - (i + 1), by omega, rfl, lt, q⟩, ?_⟩
    intro x H' y
    obtain ⟨rfl, hx⟩ := wk.yld i H x H' sd lt y
    exact hs i x _ hx pv
  · have e : i = xs.length := by omega
    subst e
    exact .inl ⟨wk.stop _ H sd ge, hd H pv⟩
theorem lt64 {n c k : Nat} (h : n + 64 < c) (hk : k ≤ 64 := by decide) : n + k < c := Nat.lt_of_le_of_lt (Nat.add_le_add_left hk n) h
/-- a dict comprehension over enumerate of a tuple that stands still -/
theorem dcE {K : PySem.W.Frag} {a : Addr} {xs : List V} {g : TG} {tt : TT} {tk tv : TE} {vs : List Nat} {σ : L2.St} {H1 : Hp} {D : Addr} {Qd : Hp → Prop}
    (Pv : Nat → Hp → Prop) (h0 : Pv 0 (upd H1 D (.dK []))) (hst : ∀ i H, i ≤ xs.length → Pv i H → SqT K H a xs)
    (hs : ∀ i x H T, xs[i]? = some x → Pv i H → H T = none → g (.ref T) (wipe σ vs) (upd H T (.tup [.int (i : Nat), x])) fun σ2 H2 => wipe σ2 vs = wipe σ vs ∧ tt σ2 H2 fun b H3 =>
      if b = true then tk σ2 H3 fun y H4 => tv σ2 H4 fun z H5 => ∃ kvs k, y = kV k ∧ H5 D = some (.dK kvs) ∧ kvs.length < sizeLine ∧ Pv (i + 1) (upd H5 D (.dK (putK kvs k z))) else Pv (i + 1) H3)
    (hd : ∀ H, Pv xs.length H → Qd H) :
    ∃ W : Nat → Nat → Hp → Prop, (∃ m, W 0 m (upd H1 D (.dK []))) ∧ ∀ i m H, W i m H →
      ((ItE K a).stop i H ∧ Qd H) ∨ ((ItE K a).go i H ∧ ∃ Nx : Hp → Prop, (∀ H', Nx H' → ∃ m', m' < m ∧ W (i + 1) m' H') ∧ ∀ x H', (ItE K a).yld i H x H' →
        g x (wipe σ vs) H' fun σ2 H2 => wipe σ2 vs = wipe σ vs ∧ tt σ2 H2 fun b H3 =>
        if b = true then tk σ2 H3 fun y H4 => tv σ2 H4 fun z H5 => ∃ kvs k, y = kV k ∧ H5 D = some (.dK kvs) ∧ kvs.length < sizeLine ∧ Nx (upd H5 D (.dK (putK kvs k z))) else Nx H3) := by
  refine ⟨fun i m H => m = xs.length - i ∧ i ≤ xs.length ∧ Pv i H, ⟨xs.length, rfl, Nat.zero_le _, h0⟩, ?_⟩
  rintro i m H ⟨rfl, hi, pv⟩
  have sd := hst i H hi pv
  rcases Nat.lt_or_ge i xs.length with lt | ge
  · refine .inr ⟨⟨xs, xs[i], sd, by simp [lt]⟩, Pv (i + 1), fun H' q => ⟨xs.length - (i + 1), by omega, rfl, lt, q⟩, ?_⟩
    rintro v H' ⟨T, x, rfl, nT, rfl, hx⟩
    exact hs i x H T (hx xs sd) pv nT
  · have e : i = xs.length := by omega
    subst e
    exact .inl ⟨⟨xs, sd, ge⟩, hd H pv⟩
theorem wk_keys (d : Addr) (o : Obj) (kvs : List (Key × V)) : Wk (Itk d o kvs) (kvs.map fun kv => kV kv.1) (fun H => H d = some (.frz o (.dK kvs))) :=
  ⟨fun i H h l => ⟨h, by rw [List.length_map] at l; exact l⟩, fun i H h l => ⟨h, by rw [List.length_map] at l; exact l⟩, fun i H v H' _ _ y => by
    obtain ⟨e, k, u, h, rfl⟩ := y
    exact ⟨e, by rw [List.getElem?_map, h]; rfl⟩⟩
/-- a key that is new stands behind -/
theorem putK_new {kvs : List (Key × V)} {k : Key} {v : V} (h : k ∉ kvs.map (·.1)) : putK kvs k v = kvs ++ [(k, v)] := by
  unfold putK
  rw [if_neg]
  intro a
  obtain ⟨kv, hm, e⟩ := List.any_eq_true.mp a
  exact h (List.mem_map.mpr ⟨kv, hm, of_decide_eq_true e⟩)
section
variable {X : Cx} {K : PySem.W.Frag} {tg e : Expr} {te : TE}
theorem pi_tupK (hK : X.K = K) (he : PE X e te) : PI X tg e (iTup K te) := hK ▸ pi_tup he
theorem pi_listK (hK : X.K = K) (he : PE X e te) : PI X tg e (iList K te) := hK ▸ pi_list he
def rTupOf (K : PySem.W.Frag) : List V → Hp → VK → Prop := fun xs H Q => ∃ p ys, xs = [.ref p] ∧ ((SqL K H p ys ∧ ∀ l, H l = none → Q (.ref l) (upd H l (.tup ys))) ∨ (SqT K H p ys ∧ Q (.ref p) H))
theorem cr_tupK (hK : X.K = K) : CallR X (.type "tuple") (rTupOf K) := hK ▸ call_tuple_of
def rLstOf (K : PySem.W.Frag) : List V → Hp → VK → Prop := fun xs H Q => ∃ p ys, xs = [.ref p] ∧ (SqL K H p ys ∨ SqT K H p ys) ∧ ∀ l, H l = none → Q (.ref l) (upd H l (.lst ys))
theorem cr_lstK (hK : X.K = K) : CallR X (.type "list") (rLstOf K) := hK ▸ call_list_of
end
end G
/-! own rules: repr and str of an instance by the class's own methods -/
namespace G
open PySem PySem.Spec PyProof.Rows L2
section
variable {X : Cx} {CX : CXT} {k : Nat} {C f : Addr} {fd : FuncData} {ps : List Str} {sp : Sp} {E : XK}
/-- what comes back is a text -/
theorem txt_back {pins : List (Addr × Obj)} {σ : L2.St} {H : Hp} {s : Shared} {A : Around} {a : Addr} {Q : VK} (hA : A.frames = X.A.frames) (Fn : FnOk X.prog X.w X.K X.mg X.base CX k f fd ps sp) (hr : Room k A) (hb : Binds X.K fd ps [])
    (hx : Passes CX X E) (I : Inv X pins σ H s) (hs : sp [.ref a] H (fun v H' => ∃ z : Str, v = .str z ∧ Q (.str z) H') E) :
    wpAny (model X.prog X.w) A (call (.ref f) [.ref a]) (PySem.W.StrBack (EP X pins σ Q)) X.xe s := by
  have hl : [Value.ref a].length = ps.length := Fn.len _ _ _ _ hs
  have e0 := I.env0
  have e1 : Env0 X.prog X.w X.K X.mg X.base A X.stack s H := ⟨by rw [hA]; exact e0.frames, e0.mod, e0.bs, e0.bsz, e0.funs, e0.frf, e0.hok, e0.bare⟩
  have bt := hb s [Value.ref a] I.kIn (by simpa using hl)
  refine wpAny_call (codeAny_mono (Fn.run A X.stack s H ⟨[.ref a], []⟩ [.ref a] [.ref a] _ E hr e1 (by simpa using bt) (.cons rfl .nil) hs) ?_)
  intro r s' hq
  match r, hq with
  | .error e, hq => exact (hx pins σ H s e s' I hq)
  | .ok (.ret w), hq =>
    obtain ⟨v, H', I', rv, z, rfl, q⟩ := I.after hq
    obtain ⟨t, rfl⟩ := rv
    exact ⟨.str z, H', I', ⟨_, rfl⟩, q⟩
  | .ok .next, hq => exact hq.elim
  | .ok .brk, hq => exact hq.elim
  | .ok .cont, hq => exact hq.elim
theorem call_repr_inst (h1 : PySem.W.findIn X.K (.ref C) "__repr__" = some (some (.ref f))) (h2 : PySem.W.isFn X.K (.ref f) = true)
    (Fn : FnOk X.prog X.w X.K X.mg X.base CX k f fd ps sp) (hr : Room (k + 1) X.A) (hb : Binds X.K fd ps []) (hx : Passes CX X E) :
    CallR X (.builtin "repr") (fun xs H Q => ∃ (a dx : Addr) (fs : List (Str × V)), xs = [.ref a] ∧ H a = some (.ins C dx fs) ∧ sp [.ref a] H (fun v H' => ∃ z : Str, v = .str z ∧ Q (.str z) H') E) := by
  intro pins s σ H xs us Q I r h
  obtain ⟨a, dx, fs, rfl, ha, hs⟩ := h
  obtain ⟨u, rfl, r1⟩ := vals1 r
  obtain rfl : u = Value.ref a := r1
  obtain ⟨mA, J, _⟩ := ins_get I.hok ha
  obtain ⟨od, J, _⟩ := J.look
  obtain ⟨m, hF⟩ := I.fr
  exact PySem.W.repr_K hr.in1.units0 hF I.ok.mod.kin J h1 h2 (txt_back rfl Fn hr.in1 hb hx I hs)
theorem call_str_inst (h1 : PySem.W.findIn X.K (.ref C) "__str__" = some (some (.ref f))) (h2 : PySem.W.isFn X.K (.ref f) = true)
    (Fn : FnOk X.prog X.w X.K X.mg X.base CX k f fd ps sp) (hr : Room (k + 2) X.A) (hb : Binds X.K fd ps []) (hx : Passes CX X E) :
    CallR X (.type "str") (fun xs H Q => ∃ (a dx : Addr) (fs : List (Str × V)), xs = [.ref a] ∧ H a = some (.ins C dx fs) ∧ sp [.ref a] H (fun v H' => ∃ z : Str, v = .str z ∧ Q (.str z) H') E) := by
  intro pins s σ H xs us Q I r h
  obtain ⟨a, dx, fs, rfl, ha, hs⟩ := h
  obtain ⟨u, rfl, r1⟩ := vals1 r
  obtain rfl : u = Value.ref a := r1
  obtain ⟨mA, J, _⟩ := ins_get I.hok ha
  obtain ⟨od, J, _⟩ := J.look
  exact PySem.W.kso_call hr.in1.in1.units0 I.kIn J h1 h2 (txt_back rfl Fn hr.in1.in1 hb hx I hs)
end
end G
/-! own rules: try .. except (A, B, C) as e -/
namespace G
open PySem PySem.Spec PyProof.Rows L2
/-- an error that flies still flies where the heap has grown -/
theorem flies_on {base h h' : Heap} {l : List Env} {e : Addr} {Z : Obj → Prop} (f : HandSPX.FlyingZ base l e Z h)
    (k : ∀ b o, h.get? b = some o → h'.get? b = some o) : HandSPX.FlyingZ base l e Z h' := by
  obtain ⟨f1, f2, f3, oe, vs, T, oT, ts, t1, t2, t3, t4, t5, t6, t7, t8⟩ := f
  exact ⟨fun b o q => k b o (f1 b o q), f2, f3.of_keeps fun b o q _ => ⟨o, k b o q, rfl⟩, oe, vs, T, oT, ts, k _ _ t1, t2, t3, t4, t5, t6, k _ _ t7, t8⟩
/-- the ends of a suite whose name of the error, in slot i, goes behind it -/
def gone (i : Nat) (D : Ends) : Ends where
  nx := fun σ H => D.nx (σ.set i none) H
  rt := D.rt
  bk := fun σ H => D.bk (σ.set i none) H
  ct := fun σ H => D.ct (σ.set i none) H
/-- what one clause wishes of an error of the body; w tells whether its test takes a class -/
def wBy (w : Value → Option Bool) (i : Nat) (ts : Addr → Value → Option Addr → TS) (Wout : WX) (D : Ends) : WX := fun cls d σ H =>
  ∃ b, w cls = some b ∧ (b = true → ∀ a, H a = none → ts a cls d (gone i D) (σ.set i (some (.ref a))) H) ∧ (b = false → Wout cls d σ H)
/-- the test of a clause runs: a value, the heap at most longer, and it tells of the error what w tells of its class -/
def TestBy (X : Cx) (te : Expr) (w : Value → Option Bool) : Prop :=
  ∀ (a : Addr) (oe : Obj) (pn : List (Addr × Obj)) (s : Shared) (σ : L2.St) (H : Hp) (Q : Value → Shared → Prop) (E : Value → Shared → Prop),
    Inv (X.suite a ((a, oe) :: pn)) [] σ H s →
    (∀ (c : Value) (h' : Heap), (∀ b o, s.heap.get? b = some o → h'.get? b = some o) →
      (∀ (cls : Value) (b : Bool), w cls = some b → PySem.W.Looks (model X.prog X.w) h' (typeOf (.ref a)) cls → PySem.W.Looks (model X.prog X.w) h' (excMatches (.ref a) c) b) →
      Q c { s with heap := h' }) →
    wpAny (model X.prog X.w) (X.A.mark (some (.ref a))) (eval te X.env) Q E s
section
variable {X : Cx} {n : Str} {i : Nat} {te : Expr} {w : Value → Option Bool} {body suite : List Stmt} {b₀ : Stmt} {pos pos' : Pos} {tb : WX → TS} {ts : Addr → Value → Option Addr → TS} {Wout : WX}
theorem ps_try_by (stk : X.stack = X.env :: X.outer) (frm : X.env.frame = some X.env.locals) (nod : X.N.Nodup) (at_ : X.N[i]? = some n) (lcl : X.env.kindOf n = some .local)
    (test : TestBy X te w) (out : Takes X Wout)
    (hb : ∀ (W : WX) (pn : List (Addr × Obj)) (xe : Value → Shared → Prop), Takes (X.tr pn xe) W → PassesOwn (model X.prog X.w) X.A X.env xe → PSs (X.tr pn xe) body (tb W))
    (hsu : ∀ (a : Addr) (oe : Obj) (cls : Value) (d : Option Addr) (pn : List (Addr × Obj)), Zc cls d oe → (∃ vs, oe.data = .fields vs) → PSs (X.suite a ((a, oe) :: pn)) (b₀ :: suite) (ts a cls d)) :
    PS X (.Try body [.ExceptHandler (some te) (some n) (b₀ :: suite) pos'] [] [] pos) (fun D σ H => tb (wBy w i ts Wout D) D σ H) := by
  constructor
  intro pins s σ H D I h
  have good := I.ok
  have frs0 : X.A.frames = some (X.env :: X.outer) := good.frames.trans (by rw [stk])
  apply wpAny_Try_except
  let hd : List ExceptHandler := [.ExceptHandler (some te) (some n) (b₀ :: suite) pos']
  let after : Value → Shared → Prop := fun e s₁ => wpAny (model X.prog X.w) X.A (noteFrame e X.env) (fun _ s₂ =>
    wpAny (model X.prog X.w) X.A (setFlight e none) (fun _ s₃ => wpAny (model X.prog X.w) X.A (handleBy e X.env hd) (SP X pins D) X.xe s₃) X.xe s₂) X.xe s₁
  have caught : Takes (X.tr (X.pn ++ pins) after) (wBy w i ts Wout D) := by
    rintro u s' ⟨a, B, sI, pins', σ', H', cls, d, rfl, J', nb, up, sky, na, os, ag, b, wb, yes, no⟩
    have J : Inv X pins σ' H' sI := J'.ofTry good
    rw [show (X.tr (X.pn ++ pins) after).stack = X.env :: X.outer from stk] at sky
    apply Sky.land Zc.steady frs0 frm sky
    intro h3 fl up3
    have J3 := J.landed (s' := { s' with heap := h3 }) nb fl.1 (up.trans up3) os ag
    obtain ⟨o3, v3, g3, z3, d3⟩ := fl.there
    have apart : ∀ (hh : Heap) (o : Obj) (vs : Array Value), hh.FunFrames B (X.env :: X.outer) → hh.get? a = some o → o.data = .fields vs → a ∉ frs (X.env :: X.outer) := by
      intro hh o vs ff e1 e2 hm
      obtain ⟨_, o', e', nf⟩ := ff.mem hm
      obtain rfl : o = o' := Option.some.inj (e1.symm.trans e')
      exact nf vs e2
    have off := apart h3 o3 v3 fl.2.2.1 g3 d3
    have offL : a ≠ X.env.locals := by
      rintro rfl
      exact off (List.mem_filterMap.mpr ⟨X.env, List.mem_cons_self, frm⟩)
    have offF : a ∉ X.fs := by
      intro hm
      obtain ⟨e, he, q⟩ := List.mem_filterMap.mp hm
      exact off (List.mem_filterMap.mpr ⟨e, List.mem_cons_of_mem _ he, q⟩)
    apply wpAny_handleBy_cons (codeAny_handlers_test ?_) (by intro q; cases q)
    apply test a o3 (X.pn ++ pins) { s' with heap := h3 } σ' H' _ _ (J3.suite g3 d3 na offL offF)
    intro c h4 k4 tell
    have fl4 := flies_on fl k4
    have up4 : sI.heap.UpToSlots h4 := (up.trans up3).trans (Heap.UpToSlots.of_keeps k4)
    have g4 : h4.get? a = some o3 := k4 a o3 g3
    have kind : PySem.W.Looks (model X.prog X.w) h4 (typeOf (.ref a)) cls := fun A Q E s k q => wpAny_typeOf_ref (k _ _ g4) (by rw [z3.1]; exact q)
    apply (tell cls b wb kind).here
    cases b with
    | false =>
      show wpAny _ X.A (handleBy (.ref a) X.env []) _ _ _
      apply wpAny_handleBy_nil
      obtain ⟨_, _, _, oe, vs, T, oT, tt, p1, p2, p3, p4, _⟩ := id fl4
      unfold PySem.passOn
      refine wpAny_bind (wpAny_field p1 p3 p4 ?_)
      rw [if_neg (by simp)]
      have leave : wpAny (model X.prog X.w) X.A (setFlight (.ref a) X.env.frame) (fun _ s4 => wpAny (model X.prog X.w) X.A (throw (.ref a) : Sem Flow) (SP X pins D) X.xe s4) X.xe { s' with heap := h4 } := by
        rw [frm]
        apply HandSPX.setFlight_upZ fl4
        intro h5 held up5
        apply wpAny_throw
        apply out
        exact ⟨a, B, sI, pins, σ', H', cls, d, rfl, J, nb, up4.trans up5, .inr (.inr (by rw [stk]; exact held)), na, os, ag, no rfl⟩
      first
        | exact wpAny_bind (wpAny_pure (wpAny_bind leave))
        | exact wpAny_bind leave
    | true =>
      apply codeAny_handlers_suite_as
      apply HandSPX.lands_againZ fl4
      intro h5 fl5 up5
      have J5 := J.landed (s' := { s' with heap := h5 }) nb fl5.1 (up4.trans up5) os ag
      obtain ⟨o5, v5, g5, z5, d5⟩ := fl5.there
      have S5 := J5.suite g5 d5 na offL offF
      apply store_ok (X := X.suite a ((a, o5) :: (X.pn ++ pins))) (v := .ref a) S5 nod at_ (.inl lcl) rfl ?_ (.inr lcl)
      intro s6 S6
      refine wpAny_mono ((hsu a o5 cls d (X.pn ++ pins) z5 ⟨_, d5⟩).run [] s6 _ H' _ S6 (yes rfl a na)) (fun f s7 sp => ?_) (fun _ _ z => z.elim)
      have away : ∀ {σ7 : L2.St} {H7 : Hp} {Q : Shared → Prop}, Inv (X.suite a ((a, o5) :: (X.pn ++ pins))) [] σ7 H7 s7 → (∀ s8, Inv X pins (σ7.set i none) H7 s8 → Q s8) →
          wpAny (model X.prog X.w) X.A (do bindName X.env n .none; unbindBehindTheSuite X.env n pos') (fun _ s8 => Q s8) X.xe s7 :=
        fun {σ7 H7 Q} S7 q => gone_ok (S7.unsuite good) nod at_ lcl q
      match f, sp with
      | .next, ⟨σ7, H7, S7, q7⟩ => exact away S7 fun s8 J8 => ⟨_, _, J8, q7⟩
      | .brk, ⟨σ7, H7, S7, q7⟩ => exact away S7 fun s8 J8 => ⟨_, _, J8, q7⟩
      | .cont, ⟨σ7, H7, S7, q7⟩ => exact away S7 fun s8 J8 => ⟨_, _, J8, q7⟩
      | .ret u, ⟨v7, σ7, H7, S7, r7, q7⟩ => exact away S7 fun s8 J8 => ⟨_, _, _, J8, r7, q7⟩
  refine wpAny_mono ((hb (wBy w i ts Wout D) (X.pn ++ pins) after caught PassesOwn.looking).run [] s σ H D (I.toTry _) h) (fun f s1 sp => ?_) (fun _ _ z => z)
  match f, sp with
  | .next, ⟨σ1, H1, J1, q1⟩ => exact wpAny_execs_nil ⟨σ1, H1, J1.ofTry good, q1⟩
  | .brk, ⟨σ1, H1, J1, q1⟩ => exact ⟨σ1, H1, J1.ofTry good, q1⟩
  | .cont, ⟨σ1, H1, J1, q1⟩ => exact ⟨σ1, H1, J1.ofTry good, q1⟩
  | .ret u, ⟨v1, σ1, H1, J1, r1, q1⟩ => exact ⟨v1, σ1, H1, J1.ofTry good, r1, q1⟩
/-- (A, B, C), three classes of the module -/
theorem test_three {x1 x2 x3 : Str} {C1 C2 C3 : Addr} {p1 p2 p3 pos : Pos} {k} (m1 : X.mg x1 = some (.ref C1)) (m2 : X.mg x2 = some (.ref C2)) (m3 : X.mg x3 = some (.ref C3))
    (g1 : Gl X x1 := by rfl) (g2 : Gl X x2 := by rfl) (g3 : Gl X x3 := by rfl)
    (d1 : (x1 == ("__debug__" : Str)) = false := by decide) (d2 : (x2 == ("__debug__" : Str)) = false := by decide) (d3 : (x3 == ("__debug__" : Str)) = false := by decide) :
    TestBy X (.Tuple [.Name x1 p1, .Name x2 p2, .Name x3 p3] k pos) (fun cls => PySem.W.exmAny X.K cls [.ref C1, .ref C2, .ref C3]) := by
  intro a oe pn s σ H Q E I go
  apply wpAny_Tuple_spliced
  apply Calls.spliced_cons (ld_glob (X := X.suite a ((a, oe) :: pn)) I g1 m1 ?_ d1)
  apply Calls.spliced_cons (ld_glob (X := X.suite a ((a, oe) :: pn)) I g2 m2 ?_ d2)
  apply Calls.spliced_cons (ld_glob (X := X.suite a ((a, oe) :: pn)) I g3 m3 ?_ d3)
  apply Calls.spliced_nil
  refine ⟨(show 3 ≤ sizeLine by decide), ?_⟩
  apply go
  · exact fun b o e => Heap.get?_push_of_some _ e
  · intro cls b wb kind
    exact PySem.W.exm_tup3 (PySem.W.Frag.In.keeps I.kIn fun b o e => Heap.get?_push_of_some _ e) kind (Heap.get?_push_size _ rfl) wb
end
end G
/-! own rules: errors of the module's own classes as values: made by position and by name, their attributes, isinstance -/
namespace G
open PySem PySem.Spec PyProof.Rows L2
/-! ### the bases -/
structure BaseE (B newId initId : String) (tl : List Value) : Prop where
  F : ExcBaseFacts B newId initId tl
  sf : StoreFacts B tl "object.__setattr__" "object"
def tlE (x : String) : List Value := [.type x, .type "Exception", .type "BaseException", .type "object"]
theorem base_VE : BaseE "ValueError" "ValueError.__new__" "ValueError.__init__" (tlE "ValueError") :=
  ⟨PySem.F.excBase_ValueError, PySem.F.store_ValueError⟩
theorem base_LE : BaseE "LookupError" "LookupError.__new__" "LookupError.__init__" (tlE "LookupError") :=
  ⟨PySem.F.excBase_LookupError, PySem.F.store_LookupError⟩
theorem base_AE : BaseE "ArithmeticError" "ArithmeticError.__new__" "ArithmeticError.__init__" (tlE "ArithmeticError") :=
  ⟨PySem.F.excBase_ArithmeticError, PySem.F.store_ArithmeticError⟩

/-! ### C(e, .., k = v, ..) by BaseException.__new__ and the own __init__ -/
section
variable {prog : Program} {w : World} {A : Around} {h : Heap} {g : Array GenState} {d : Drawn} {t : Nat} {os : OsState}
variable {nm q : Str} {C N : Addr} {bs bm tl rest : List Value} {kw : List (Str × Value)} {hdct : Bool} {sn : List Str} {sub : List Value} {ab : Bool} {col : Option Bool} {dd : Option Addr}
variable {k0 k1 k2 k3 k5 : Option Value} {B newId initId : String}
theorem made_check {M : Model} {E : Value → Shared → Prop} {Q : Unit → Shared → Prop} (b : BaseE B newId initId tl) (x : ∀ n : String, bm.contains (.type n) = tl.contains (.type n))
    (hC : h.get? C = some (excClassObj nm q C N bs bm hdct sn sub ab col dd k0 k1 k2 k3 k5 newId)) (hq : Q () ⟨h, g, d, t, os⟩) :
    wpAny M A (checkBuiltinCall newId ⟨.ref C :: rest, kw⟩) Q E ⟨h, g, d, t, os⟩ := by
  have z : (Value.ref C :: bm).contains (.type B) = true := by
    rw [List.contains_cons, x, b.F.hasB, Bool.or_true]
  have st := b.F.noStar
  simp only [checkBuiltinCall, b.F.newKind, b.F.newSplit, b.F.newRow]
  repeat (first
    | refine wpAny_loadPart_at hC ?_
    | (refine wpAny_isSubtype_exc hC ?_; rw [z])
    | refine wpAny_staticBase_exc hC ?_
    | refine wpAny_madeBy_exc hC ?_
    | simp only [bne_self_eq_false, Bool.false_eq_true, if_false]
    | wp_step)
  exact hq
theorem made_new {R : Result → Shared → Prop} (b : BaseE B newId initId tl) (x : ∀ n : String, bm.contains (.type n) = tl.contains (.type n))
    (hC : h.get? C = some (excClassObj nm q C N bs bm hdct sn sub ab col dd k0 k1 k2 k3 k5 newId)) (hz : rest.length ≤ sizeLine)
    (hq : R (.ok (.ret (.ref (h.objs.size + 1)))) ⟨(h.push (PySem.W.kdv_tup rest)).push (PySem.HandSPX.excO C h.objs.size), g, d, t, os⟩) :
    codeAny (model prog w) A (.builtin newId ⟨.ref C :: rest, kw⟩) R ⟨h, g, d, t, os⟩ := by
  have e0 := b.F.ends
  have z : ∀ n : String, (Value.ref C :: bm).contains (.type n) = tl.contains (.type n) := fun n => by
    rw [List.contains_cons, x]
    rfl
  have zB := (z B).trans b.F.hasB
  have zA := (z "AttributeError").trans b.F.noAttr
  have zN := (z "NameError").trans b.F.noName
  refine codeAny_builtinAt b.F.entry ?_
  unfold Builtin.«BaseException.__new__»
  refine PySem.wpAt_bind ?_
  show PySem.wpAt _ _ _ (stack >>= _) _ _ _
  refine PySem.wpAt_bind (PySem.wpAt_stack fun p below => PySem.wpAt_of_wpAny ?_)
  wp_walk
  refine PySem.wpAt_of_wpAny ?_
  rw [b.F.owner]
  repeat (first
    | with_reducible refine wpAny_madeHere_exc b.F.canon hC ?_
    | with_reducible refine wpAny_loadPart_at hC ?_
    | (with_reducible refine wpAny_isSubtype_exc hC ?_; first | rw [zB] | rw [zA] | rw [zN])
    | wp_step)
  show R _ _
  rw [Heap.size_push]
  exact hq
theorem made_type {E : Value → Shared → Prop} {fI : Addr} {Q : Fin → Shared → Prop} (b : BaseE B newId initId tl) (x : ∀ n : String, bm.contains (.type n) = tl.contains (.type n))
    (hC : h.get? C = some (excClassObj nm q C N bs bm hdct sn sub ab col dd k0 k1 k2 k3 k5 newId)) (hz : rest.length ≤ sizeLine)
    (hi : PySem.W.Looks (model prog w) h (typeLookup (.ref C) "__init__") (some (.ref fI)))
    (hb : ∀ self, PySem.W.Looks (model prog w) h (bindSpecial (.ref fI) self) (.ref fI, [self]))
    (hq : codeAny (model prog w) A (.call (.ref fI) ⟨.ref (h.objs.size + 1) :: rest, kw⟩)
      (fun r s' => match r with
        | .ok (.ret v) => v = .none ∧ Q (.done (.ret (.ref (h.objs.size + 1)))) s'
        | .ok _ => False
        | .error e => E e s') ⟨(h.push (PySem.W.kdv_tup rest)).push (PySem.HandSPX.excO C h.objs.size), g, d, t, os⟩) :
    wpAny (model prog w) A (Builtin.«type.__call__» ⟨.ref C :: rest, kw⟩) Q E ⟨h, g, d, t, os⟩ := by
  repeat (first
    | with_reducible refine wpAny_loadPart_at hC ?_
    | with_reducible refine wpAny_madeBy_exc hC ?_
    | wp_step)
  refine codeAny_call_builtin_code (Code.quiet_builtin _ b.F.quiet) (made_check b x hC ?_)
  refine made_new b x hC hz ?_
  show wpAny _ _ _ _ _ _
  have k : ∀ y o, h.get? y = some o → ((h.push (PySem.W.kdv_tup rest)).push (PySem.HandSPX.excO C h.objs.size)).get? y = some o :=
    fun y o e => Heap.get?_push_of_some _ (Heap.get?_push_of_some _ e)
  have c1 := k _ _ hC
  have g1 : ((h.push (PySem.W.kdv_tup rest)).push (PySem.HandSPX.excO C h.objs.size)).get? (h.objs.size + 1) = some (PySem.HandSPX.excO C h.objs.size) := by heap_get
  have self : (Value.ref C :: bm).contains (.ref C) = true := by simp
  have i1 := hi.keeps k
  have b1 := (hb (.ref (h.objs.size + 1))).keeps k
  unfold isInstance
  repeat (first
    | with_reducible refine wpAny_loadPart_at g1 ?_
    | (with_reducible refine wpAny_isSubtype_exc c1 ?_; rw [self])
    | wp_step)
  show wpAny _ _ (typeLookup (.ref C) _) _ _ _
  refine i1.at ?_
  refine wpAny_holding (wpAny_bind (b1.at ?_))
  refine wpAny_bind (wpAny_call (codeAny_mono hq fun r s' z => ?_))
  match r, z with
  | .error e, z => exact z
  | .ok .next, z => exact z.elim
  | .ok .brk, z => exact z.elim
  | .ok .cont, z => exact z.elim
  | .ok (.ret v), z =>
    obtain ⟨rfl, z⟩ := z
    first
      | exact wpAny_pure (wpAny_pure z)
      | (wp_walk; exact z)
theorem made_call {R : Result → Shared → Prop} {fI : Addr} (b : BaseE B newId initId tl) (x : ∀ n : String, bm.contains (.type n) = tl.contains (.type n))
    (hC : h.get? C = some (excClassObj nm q C N bs bm hdct sn sub ab col dd k0 k1 k2 k3 k5 newId)) (hz : rest.length ≤ sizeLine)
    (hi : PySem.W.Looks (model prog w) h (typeLookup (.ref C) "__init__") (some (.ref fI)))
    (hb : ∀ self, PySem.W.Looks (model prog w) h (bindSpecial (.ref fI) self) (.ref fI, [self]))
    (hq : codeAny (model prog w) (A.under (.builtin "type.__call__" ⟨.ref C :: rest, kw⟩)) (.call (.ref fI) ⟨.ref (h.objs.size + 1) :: rest, kw⟩)
      (PySem.W.InitBack (h.objs.size + 1) R) ⟨(h.push (PySem.W.kdv_tup rest)).push (PySem.HandSPX.excO C h.objs.size), g, d, t, os⟩) :
    codeAny (model prog w) A (.call (.ref C) ⟨rest, kw⟩) R ⟨h, g, d, t, os⟩ := by
  have f1 := tc_lookup
  have f2 := tc_bind (.ref C)
  have f3 := tc_sub
  have ty : (⟨h, g, d, t, os⟩ : Shared).TypeIs (.ref C) "type" := ⟨_, hC, rfl⟩
  refine codeAny_of_tree ?_
  show wpAny _ _ (callAny (.ref C) _) _ _ _
  repeat (any_goals (first
    | assumption
    | with_reducible refine wpAny_loadPart_at hC ?_
    | wp_step))
  refine ⟨rfl, ?_⟩
  have ck : ∀ {A : Around} {E : Value → Shared → Prop} {Q : Unit → Shared → Prop}, Q () ⟨h, g, d, t, os⟩ →
      wpAny (model prog w) A (checkBuiltinCall "type.__call__" ⟨.ref C :: rest, kw⟩) Q E ⟨h, g, d, t, os⟩ := fun {A E Q} hq => by
    simp only [checkBuiltinCall, tc_kind, tc_split]
    repeat (any_goals (first
      | assumption
      | with_reducible refine wpAny_loadPart_at hC ?_
      | with_reducible refine wpAny_onRaise ?_
      | with_reducible refine wpAny_map ?_
      | wp_step))
  refine codeAny_call_builtin_at (Code.quiet_builtin _ (by decide +kernel)) entry_typeCall (ck (made_type b x hC hz hi hb ?_))
  refine codeAny_mono hq fun r s' z => ?_
  match r, z with
  | .error e, z => exact z
  | .ok .next, z => exact z
  | .ok .brk, z => exact z
  | .ok .cont, z => exact z
  | .ok (.ret v), z => exact z
end

/-! ### what the written part says of an own class of errors -/
structure ErC (K : PySem.W.Frag) (C : Addr) (newId : String) (tl : List Value) : Prop where
  ei : PySem.W.excInitIn K C tl newId = true
  eo : PySem.W.excOver K C tl = true
  sa : PySem.W.findIn K (.ref C) "__setattr__" = some (some (.builtin "object.__setattr__"))
  kC : PySem.W.keepIn K (.ref C) = true
  xf : XfC K C
  ex : ExcC K C
def erB (c : Str) (newId : String) (tl : List Value) (K : PySem.W.Frag) : Bool :=
  PySem.W.excInitIn K (He.ga K c) tl newId && (PySem.W.excOver K (He.ga K c) tl &&
  (decide (PySem.W.findIn K (.ref (He.ga K c)) "__setattr__" = some (some (.builtin "object.__setattr__"))) &&
  (PySem.W.keepIn K (.ref (He.ga K c)) && (xfB K (He.ga K c) &&
  (decide (PySem.W.findIn K (.ref (He.ga K c)) "__class__" = some (some (.builtin "object.__class__"))) &&
  (decide (PySem.W.specialIn K (.builtin "object.__class__") "__get__" = some (some (.builtin "getset_descriptor.__get__"))) &&
  (decide (PySem.W.takesIn K (.builtin "object.__class__") = some true) &&
  decide (PySem.W.mroIn K (He.ga K c) (.type "object") = some true))))))))
theorem er_of {c : Str} {newId : String} {tl : List Value} {K : PySem.W.Frag} (h : erB c newId tl K = true) : ErC K (He.ga K c) newId tl := by
  obtain ⟨h1, h⟩ := He.ba h
  obtain ⟨h2, h⟩ := He.ba h
  obtain ⟨h3, h⟩ := He.ba h
  obtain ⟨h4, h⟩ := He.ba h
  obtain ⟨h5, h⟩ := He.ba h
  obtain ⟨h6, h⟩ := He.ba h
  obtain ⟨h7, h⟩ := He.ba h
  obtain ⟨h8, h9⟩ := He.ba h
  have x := xfB_ok h5
  exact ⟨h1, h2, of_decide_eq_true h3, h4, x, ⟨x.ga, x.gg, x.exC, x.hdC, of_decide_eq_true h6, of_decide_eq_true h7, of_decide_eq_true h8, of_decide_eq_true h9⟩⟩

/-! ### self.f = y -/
section
variable {X : Cx} {pins : List (Addr × Obj)} {σ : L2.St} {H : Hp} {s : Shared} {a C : Addr} {f : Str} {y : V} {u : Value} {fs : List (Str × V)} {tl : List Value} {B newId initId : String}
variable {Q : Unit → Shared → Prop} {E : Value → Shared → Prop} {A : Around}
open Builtin.ObjectAttr in
theorem err_set1 (b : BaseE B newId initId tl) (T : ErC X.K C newId tl) (I : Inv X pins σ H s) (e : H a = some (exo a C none))
    (hno : PySem.W.findIn X.K (.ref C) f = some none) (ry : RelV y u)
    (h : ∀ dx s', H dx = none → dx ≠ a → Inv X pins σ (upd (upd H dx (exd dx [(f, y)])) a (exo a C (some dx))) s' → Q () s') :
    wpAny (model X.prog X.w) A (setAttr (.ref a) f u) Q E s := by
  obtain ⟨cd, hc, hh⟩ := PySem.W.any_some T.xf.hdC
  obtain ⟨t1, ho⟩ := exo_at I.hok e
  obtain ⟨hp, g, d, t, os⟩ := s
  have J : PySem.W.InstAt hp a { cls := .ref C, dict := none, data := .fields #[.ref t1, .none, .none, .none, .bool false, .none] } C none := ⟨ho, rfl, rfl, trivial⟩
  have kin := I.kIn
  have cls : PySem.W.Looks (model X.prog X.w) hp (classData C) cd := PySem.W.looks_clsIn kin hc
  have fin : ∀ h' tk' dx, (∀ b o, b ≠ a → hp.get? b = some o → h'.get? b = some o) → hp.objs.size ≤ dx → dx ≠ a →
      h'.get? a = some { cls := .ref C, dict := some dx, data := .fields #[.ref t1, .none, .none, .none, .bool false, .none] } →
      h'.Ns1 dx (fun z => if z = f then some u else none) → Q () ⟨h', g, d, tk', os⟩ := fun h' tk' dx k hl hne hx hn => by
    have nd : H dx = none := I.hok.fresh hl
    have ltd : ∀ {c : Addr} {o : Obj}, hp.get? c = some o → c ≠ dx := fun q => Nat.ne_of_lt (Nat.lt_of_lt_of_le (Heap.lt_size q) hl)
    have nea : ∀ {c : Addr}, H c = none → c ≠ a := fun n z => by rw [z, e] at n; cases n
    refine h dx _ nd hne (I.un (t' := tk') ?_ ?_)
    · constructor
      · intro c o q n _ _
        exact k c o (nea n) q
      · intro c o q n _ _
        exact ⟨o.slots, k c o (nea n) q⟩
      · intro c o q n _
        rw [upd_ne (nea n), upd_ne (ltd q)]
        exact n
      · intro c o q _
        by_cases z : c = a
        · exact ⟨_, z ▸ hx⟩
        · exact ⟨o, k c o z q⟩
      · intro c xs q
        rw [upd_ne (at_ne e q exo_tup), upd_ne (ne_of_none q nd)]
        exact q
      · intro c o v q
        rw [upd_ne (at_ne e q exo_frz), upd_ne (ne_of_none q nd)]
        exact q
      · intro c ps q
        refine ⟨#[], ?_⟩
        rw [upd_ne (at_ne e q exo_tbl), upd_ne (ne_of_none q nd), q, Array.append_empty]
    · intro c o q
      by_cases z : c = a
      · subst z
        rw [upd_same] at q
        cases q
        exact exo_ok hx
      · rw [upd_ne z] at q
        by_cases z2 : c = dx
        · subst z2
          rw [upd_same] at q
          cases q
          exact exd_ok hn (relO_put (fs := []) ry fun g => True.intro)
        · rw [upd_ne z2] at q
          refine (I.hok c o q).stay (fun c' v hc' y' => k c' v ?_ y') (fun c' hc' => ?_) (fun c' xs hc' => ?_)
          · rcases hc' with w | w
            · rw [w]; exact z
            · exact at_ne e w exo_own
          · rw [upd_ne (at_ne e hc' exo_own), upd_ne (ne_of_none hc' nd)]
            exact hc'
          · rw [upd_ne (at_ne e hc' exo_tup), upd_ne (ne_of_none hc' nd)]
            exact hc'
  have hax : a ≠ hp.objs.size := Nat.ne_of_lt (Heap.lt_size ho)
  have tk0 : PySem.W.takerIn X.K C f = some none := by
    unfold PySem.W.takerIn
    rw [hno]
    rfl
  refine PySem.W.set_plain kin J T.sa (PySem.W.osa_openX (s := ⟨hp, g, d, t + 1, os⟩) b.sf kin J T.eo tk0 fun b0 => ?_)
  show wpAny _ _ (storeInOwnDict (.ref a) (.ref C) (.str f _) f u b0) _ _ _
  obtain ⟨n1, n2, n3, n4, n5, n6, n7, n8, n9, n10, n11⟩ := cd
  dsimp only at hh
  subst hh
  unfold storeInOwnDict ownDictForStores
  repeat (first
    | with_reducible refine PySem.HandSPX.store_in_new ?_ ?_
    | with_reducible refine wpAny_loadPart_at ho ?_
    | with_reducible refine cls.at ?_
    | wp_step)
  · exact ⟨_, #[], _, (Heap.get?_update_ne _ _ _ _ hax.symm).trans (Heap.get?_push_at rfl rfl), rfl, fun e he => absurd he (by simp), fun _ => rfl⟩
  · intro h' tk' hn' hs
    have hx : (hp.push { cls := .type "dict", data := .dict #[] }).get? a = some { cls := .ref C, dict := none, data := .fields #[.ref t1, .none, .none, .none, .bool false, .none] } := Heap.get?_push_of_some _ ho
    refine fin h' tk' hp.objs.size (fun c o hb ho' => ?_) (Nat.le_refl _) hax.symm ?_ hn'
    · exact (hs.2 c (Nat.ne_of_lt (Heap.lt_size ho'))).trans ((Heap.get?_update_ne _ _ _ _ hb).trans (Heap.get?_push_of_some _ ho'))
    · exact (hs.2 a hax).trans (Heap.get?_update_self _ hx rfl)
end
end G
/-! own rules: errors of the module's own classes as values, second part -/
namespace G
open PySem PySem.Spec PyProof.Rows L2
/-! ### self.f = y, a further one; the statement -/
section
variable {X : Cx} {pins : List (Addr × Obj)} {σ : L2.St} {H : Hp} {s : Shared} {a dx C : Addr} {f : Str} {y : V} {u : Value} {fs : List (Str × V)} {tl : List Value} {B newId initId : String}
open Builtin.ObjectAttr in
theorem err_set2 {Q : Unit → Shared → Prop} {E : Value → Shared → Prop} {A : Around} (b : BaseE B newId initId tl) (T : ErC X.K C newId tl) (I : Inv X pins σ H s)
    (e : H a = some (exo a C (some dx))) (ed : H dx = some (exd dx fs)) (hl : fs.length ≤ 900) (hno : PySem.W.findIn X.K (.ref C) f = some none) (ry : RelV y u)
    (h : ∀ s', Inv X pins σ (upd H dx (exd dx ((f, y) :: fs))) s' → Q () s') : wpAny (model X.prog X.w) A (setAttr (.ref a) f u) Q E s := by
  obtain ⟨cd, hc, hh⟩ := PySem.W.any_some T.xf.hdC
  obtain ⟨t1, ho⟩ := exo_at I.hok e
  obtain ⟨mA, hns, rel⟩ := exd_at I.hok ed
  have hw := within_of rel
  obtain ⟨hp, g, d, t, os⟩ := s
  obtain ⟨oD, _, _, hoD, _, _⟩ := hns.count hw
  have J : PySem.W.InstAt hp a { cls := .ref C, dict := some dx, data := .fields #[.ref t1, .none, .none, .none, .bool false, .none] } C (some oD) := ⟨ho, rfl, rfl, hoD⟩
  have kin := I.kIn
  have cls : PySem.W.Looks (model X.prog X.w) hp (classData C) cd := PySem.W.looks_clsIn kin hc
  have hz : (fs.map (·.1)).length ≤ 1000 := by rw [List.length_map]; omega
  have tk0 : PySem.W.takerIn X.K C f = some none := by
    unfold PySem.W.takerIn
    rw [hno]
    rfl
  refine PySem.W.set_plain kin J T.sa (PySem.W.osa_openX (s := ⟨hp, g, d, t + 1, os⟩) b.sf kin J T.eo tk0 fun b0 => ?_)
  show wpAny _ _ (storeInOwnDict (.ref a) (.ref C) (.str f _) f u b0) _ _ _
  obtain ⟨n1, n2, n3, n4, n5, n6, n7, n8, n9, n10, n11⟩ := cd
  dsimp only at hh
  subst hh
  unfold storeInOwnDict ownDictForStores
  repeat (first
    | with_reducible refine PySem.OEX.store_in_old hns hw hz ?_
    | with_reducible refine wpAny_loadPart_at ho ?_
    | with_reducible refine cls.at ?_
    | wp_step)
  intro h' tk' hn hs
  have hd : ∃ o, h'.get? dx = some o := let ⟨o, _, _, z, _⟩ := hn; ⟨o, z⟩
  exact h _ (I.write (t' := tk') (x := dx) (e := dx) (o := exd dx ((f, y) :: fs)) (by rw [ed]; exact True.intro) (.inl rfl)
    (fun c o hc z => (hs.2 c hc).trans z) hd (exd_ok hn (relO_put ry rel)))
/-- self.f = e, at an error of the class at C -/
def tErrSet (C : Addr) (f : Str) (to te : TE) : TS := fun D σ H => te σ H fun y H1 => to σ H1 fun x H2 => ∃ a : Addr, x = .ref a ∧
  ((H2 a = some (exo a C none) ∧ ∀ dx, H2 dx = none → dx ≠ a → D.nx σ (upd (upd H2 dx (exd dx [(f, y)])) a (exo a C (some dx)))) ∨
    ∃ (dx : Addr) (fs : List (Str × V)), H2 a = some (exo a C (some dx)) ∧ H2 dx = some (exd dx fs) ∧ fs.length ≤ 900 ∧ D.nx σ (upd H2 dx (exd dx ((f, y) :: fs))))
theorem ps_errset {o e : Expr} {to te : TE} {p' pos : Pos} (b : BaseE B newId initId tl) (T : ErC X.K C newId tl) (hno : PySem.W.findIn X.K (.ref C) f = some none) (ho : PE X o to) (he : PE X e te)
    (hs : swapsWith e (some (.Attribute o f p')) pos.line X.env = pure false := by rfl) : PS X (.Assign [.Attribute o f p'] e pos) (tErrSet C f to te) := by
  refine ⟨fun pins s σ H D I h => ?_⟩
  refine plainObj_wpAny_Assign_Attribute (thn (he.run pins s σ H _ I h) ?_) hs
  rintro v s1 ⟨y, H1, I1, r1, q1⟩
  refine thn (ho.run pins s1 σ H1 _ I1 q1) ?_
  rintro u s2 ⟨x, H2, I2, r2, a, rfl, q⟩
  obtain rfl : u = Value.ref a := r2
  rcases q with ⟨ea, q⟩ | ⟨dx, fs, ea, ed, hl, q⟩
  · exact err_set1 b T I2 ea hno r1 fun dx s' n ne J => ⟨σ, _, J, q dx n ne⟩
  · exact err_set2 b T I2 ea ed hl hno r1 fun s' J => ⟨σ, _, J, q⟩
end

/-! ### an error stands -/
/-- x is an error of the class at C with the attributes fs -/
def ErrAt (H : Hp) (x : V) (C : Addr) (fs : List (Str × V)) : Prop := ∃ (a : Addr) (d : Option Addr), x = .ref a ∧ H a = some (exo a C d) ∧
  match d with
  | none => fs = []
  | some dx => H dx = some (exd dx fs)
theorem ErrAt.same {H H' : Hp} {x : V} {C : Addr} {fs : List (Str × V)} (e : ErrAt H x C fs) (s : Same H H') : ErrAt H' x C fs := by
  obtain ⟨a, d, rfl, ea, q⟩ := e
  refine ⟨a, d, rfl, s _ _ ea, ?_⟩
  cases d with
  | none => exact q
  | some dx => exact s _ _ q
theorem noL_exo {a C : Addr} {d : Option Addr} : noL (exo a C d) = true := rfl
theorem noL_exd {a : Addr} {fs : List (Str × V)} : noL (exd a fs) = true := rfl
theorem ErrAt.pl {H H' : Hp} {p : Addr} {x : V} {C : Addr} {fs : List (Str × V)} (e : ErrAt H x C fs) (s : Pl p H H') (h : PoolAt H p) : ErrAt H' x C fs := by
  obtain ⟨a, d, rfl, ea, q⟩ := e
  refine ⟨a, d, rfl, s.obj h ea noL_exo, ?_⟩
  cases d with
  | none => exact q
  | some dx => exact s.obj h q noL_exd
/-- what __init__ with n arguments does -/
def spE (C : Addr) (n : Nat) (gF : List V → List (Str × V)) : Sp := fun vs H Q _ => ∃ (a : Addr) (ws : List V), vs = .ref a :: ws ∧ ws.length = n ∧ H a = some (exo a C none) ∧
  ∀ dx H2, H dx = none → (∀ b o, b ≠ a → H b = some o → H2 b = some o) → H2 a = some (exo a C (some dx)) → H2 dx = some (exd dx (gF ws)) → Q .non H2
/-- the module's name x is the class at C of errors; its __init__ takes n values and keeps gF of them -/
def ErI (P : Program) (w : World) (K : PySem.W.Frag) (mg : Str → Option Value) (base : Heap) (x : Str) (C : Addr) (n : Nat) (ks : List Str) (gV : List V → List V) (gF : List V → List (Str × V)) : Prop :=
  ∃ B newId initId tl fI fd ps g, BaseE B newId initId tl ∧ ErC K C newId tl ∧ PySem.W.findIn K (.ref C) "__init__" = some (some (.ref fI)) ∧
    PySem.W.typeIn K (.ref fI) = some (.type "function") ∧ FnOk P w K mg base CX0 1 fI fd ps (spE C n gF) ∧ mg x = some (.ref C) ∧ Binds K fd ps [] ∧
    KBn K fd ps 1 ks g (fun vs zs => vs ++ gV zs)
section
variable {X : Cx} {C : Addr} {n : Nat} {gF : List V → List (Str × V)} {x : Str} {ks : List Str} {gV : List V → List V}
/-- C(e, ..) -/
def tErr (C : Addr) (n : Nat) (gF : List V → List (Str × V)) (ta : TA) : TE := fun σ H Q => ta σ H fun vs H1 => vs.length = n ∧ ∀ y H2, Same H1 H2 → ErrAt H2 y C (gF vs) → Q y H2
/-- C(k = e, ..) -/
def tErrN (C : Addr) (n m : Nat) (gV : List V → List V) (gF : List V → List (Str × V)) (tk : TA) : TE := fun σ H Q => tk σ H fun zs H1 => zs.length = m ∧ (gV zs).length = n ∧
  ∀ y H2, Same H1 H2 → ErrAt H2 y C (gF (gV zs)) → Q y H2
theorem run_err {pins : List (Addr × Obj)} {σ : L2.St} {H : Hp} {s : Shared} {Q : VK} {us full : List Value} {vs : List V} {kw : List (Str × Value)} {fI : Addr} {fd : FuncData} {ps : List Str} {B newId initId : String} {tl : List Value}
    (b : BaseE B newId initId tl) (T : ErC X.K C newId tl) (iC : PySem.W.findIn X.K (.ref C) "__init__" = some (some (.ref fI))) (tI : PySem.W.typeIn X.K (.ref fI) = some (.type "function"))
    (F : FnOk X.prog X.w X.K X.mg X.base CX0 1 fI fd ps (spE C n gF)) (hr : Room 2 X.A) (I : Inv X pins σ H s) (hz : us.length ≤ sizeLine) (hn : vs.length = n)
    (hb : ∀ s' a, X.K.In s'.heap → BindsTo s' fd ⟨.ref a :: us, kw⟩ (ps.zip (.ref a :: full))) (r : Vals vs full)
    (h : ∀ y H2, Same H H2 → ErrAt H2 y C (gF vs) → Q y H2) : wpAny (model X.prog X.w) X.A (call (.ref C) us kw) (EP X pins σ Q) X.xe s := by
  obtain ⟨hp, g, d, tk, os⟩ := s
  obtain ⟨nm, N, q, bs, bm, hd, sn, sub, ab, col, dd, k0, k1, k2, k3, k5, hC, hT⟩ := PySem.W.excInit_of I.kIn T.ei
  have kk : ∀ c o, hp.get? c = some o → ((hp.push (PySem.W.kdv_tup us)).push (PySem.HandSPX.excO C hp.objs.size)).get? c = some o :=
    fun c o e => Heap.get?_push_of_some _ (Heap.get?_push_of_some _ e)
  have hsz : hp.objs.size ≤ hp.objs.size + 1 := Nat.le_succ _
  have hnone : H (hp.objs.size + 1) = none := I.hok.fresh hsz
  have hget : ((hp.push (PySem.W.kdv_tup us)).push (PySem.HandSPX.excO C hp.objs.size)).get? (hp.objs.size + 1) = some (PySem.HandSPX.excO C hp.objs.size) := by heap_get
  have I2 : Inv X pins σ (upd H (hp.objs.size + 1) (exo (hp.objs.size + 1) C none)) ⟨(hp.push (PySem.W.kdv_tup us)).push (PySem.HandSPX.excO C hp.objs.size), g, d, tk, os⟩ :=
    I.laid (t' := tk) (a := hp.objs.size + 1) (o := exo (hp.objs.size + 1) C none) kk hsz (exo_ok hget)
  have hq : spE C n gF (.ref (hp.objs.size + 1) :: vs) (upd H (hp.objs.size + 1) (exo (hp.objs.size + 1) C none)) (fun v H2 => v = .non ∧ Q (.ref (hp.objs.size + 1)) H2) (fun _ _ _ => False) := by
    refine ⟨_, vs, rfl, hn, upd_same, fun dx H2 _ k e ed => ⟨rfl, h _ H2 (fun c o z => ?_) ⟨_, some dx, rfl, e, ed⟩⟩⟩
    have nc : c ≠ hp.objs.size + 1 := fun w => by rw [w, hnone] at z; cases z
    exact k c o nc (by rw [upd_ne nc]; exact z)
  refine wpAny_call (made_call b hT hC hz (PySem.W.looks_findIn I.kIn iC) (fun self => PySem.W.bind_fn I.kIn self tI) ?_)
  refine codeAny_mono (F.run _ X.stack _ _ _ (Value.ref (hp.objs.size + 1) :: full) (V.ref (hp.objs.size + 1) :: vs) _ (fun _ _ _ => False) (hr.make C us kw) (I2.env0.make C us kw) (hb _ _ I2.kIn) (.cons rfl r) hq) ?_
  intro r s' hq'
  match r, hq' with
  | .error er, hq' => exact pass0 (X := X) pins σ _ _ er s' I2 hq'
  | .ok (.ret u), hq' =>
    obtain ⟨v, H', I3, rv, rfl, q3⟩ := I2.after hq'
    exact ⟨rv, ⟨.ref (hp.objs.size + 1), H', I3, rfl, q3⟩⟩
  | .ok .next, hq' => exact hq'.elim
  | .ok .brk, hq' => exact hq'.elim
  | .ok .cont, hq' => exact hq'.elim
end
end G
/-! own rules: errors of the module's own classes as values, third part: the calls, isinstance, attributes; list.count -/
namespace G
open PySem PySem.Spec PyProof.Rows L2
/-! ### C(e, ..), C(k = e, ..), C() -/
/-- two keywords in the other order, or as they are -/
def gsw (sw : Bool) {α : Type} (l : List α) : List α := if sw then l.drop 1 ++ l.take 1 else l
theorem gsw_rel {sw : Bool} {vs : List V} {us : List Value} (r : Vals vs us) : Vals (gsw sw vs) (gsw sw us) := by
  cases sw
  · exact r
  · exact vals_app (vals_drop 1 r) (vals_take 1 r)
/-- the module's name x is the class at C of errors; its __init__ takes n values and keeps gF of them -/
def ErK (P : Program) (w : World) (K : PySem.W.Frag) (mg : Str → Option Value) (base : Heap) (x : Str) (C : Addr) (n : Nat) (ks : List Str) (sw : Bool) (gF : List V → List (Str × V)) : Prop :=
  ∃ B newId initId tl fI fd ps, BaseE B newId initId tl ∧ ErC K C newId tl ∧ PySem.W.findIn K (.ref C) "__init__" = some (some (.ref fI)) ∧
    PySem.W.typeIn K (.ref fI) = some (.type "function") ∧ FnOk P w K mg base CX0 1 fI fd ps (spE C n gF) ∧ mg x = some (.ref C) ∧ Binds K fd ps [] ∧
    ∀ s us ws, K.In s.heap → us.length = 1 → ws.length = ks.length → BindsTo s fd ⟨us, ks.zip ws⟩ (ps.zip (us ++ gsw sw ws))
section
variable {X : Cx} {C : Addr} {n : Nat} {gF : List V → List (Str × V)} {x : Str} {ks : List Str} {sw : Bool} {p pos : Pos} {e : Expr} {es : List Expr} {kws : List Keyword} {ta tk : TA}
theorem pe_err (c : ErK X.prog X.w X.K X.mg X.base x C n ks sw gF) (hr : Room 2 X.A) (ha : PA X (e :: es) ta) (hn : n ≤ 2) (hg : Gl X x := by rfl) (hdb : (x == ("__debug__" : Str)) = false := by decide)
    (he : starEach (e :: es) X.env = (false, eval e X.env) :: starEach es X.env := by rfl) (hpl : (backTo pos (starEach es X.env)).any (·.1) = false := by rfl) :
    PE X (.Call (.Name x p) (e :: es) [] pos) (tErr C n gF ta) := by
  obtain ⟨B, newId, initId, tl, fI, fd, ps, b, T, iC, tI, F, hm, hb, _⟩ := c
  refine ⟨fun pins s σ H Q I h => ?_⟩
  refine wpAny_Call_Name_kw (ld_glob I hg hm ?_ hdb)
  refine PySem.W.callWith_K (h₀ := X.base) I.ok.mod.kin T.kC (thn (ha.run pos pins s σ H _ I h) ?_) he hpl
  rintro us s1 ⟨vs, H1, I1, r, l, q⟩
  have lu : us.length = n := r.length.symm.trans l
  refine ⟨I1.kIn, run_err b T iC tI F hr I1 (Nat.le_trans (Nat.le_of_eq lu) (by rw [sizeLine_eq]; omega)) l (fun s' a X' => ?_) r q⟩
  have z := hb s' (.ref a :: us) X' (by
    have := F.len (V.ref a :: vs) (upd H1 a (exo a C none)) (fun _ _ => True) (fun _ _ _ => True) ⟨a, vs, rfl, l, upd_same, fun _ _ _ _ _ _ => trivial⟩
    rw [List.length_cons] at this
    simp only [List.append_nil, List.length_cons]
    omega)
  simpa using z
theorem pe_errN (c : ErK X.prog X.w X.K X.mg X.base x C n ks sw gF) (hr : Room 2 X.A) (hkw : PK X kws tk) (hg : Gl X x := by rfl) (hall : (backToKw pos (keywordEach kws X.env)).all (·.1.isSome) = true := by rfl)
    (hks : (backToKw pos (keywordEach kws X.env)).filterMap (·.1) = ks := by rfl) (hdb : (x == ("__debug__" : Str)) = false := by decide)
    (hpl : ((backTo pos (starEach [] X.env)).any (·.1) || (backToKw pos (keywordEach kws X.env)).any (·.1.isNone)) = false := by rfl) :
    PE X (.Call (.Name x p) [] kws pos) (tErrN C n ks.length (fun zs => gsw sw zs) gF tk) := by
  obtain ⟨B, newId, initId, tl, fI, fd, ps, b, T, iC, tI, F, hm, _, hb⟩ := c
  refine ⟨fun pins s σ H Q I h => ?_⟩
  refine wpAny_Call_Name_kw (ld_glob I hg hm ?_ hdb)
  refine PySem.W.callWith_KW0 (h₀ := X.base) I.ok.mod.kin T.kC hall ?_ hpl
  refine thn (hkw.run pos pins s σ H _ I h) ?_
  rintro ws s2 ⟨zs, H2, I2, rz, l1, l2, q2⟩
  refine ⟨I2.kIn, ?_⟩
  rw [hks]
  exact run_err b T iC tI F hr I2 (Nat.zero_le _) l2 (fun s' a X' => hb s' [.ref a] ws X' rfl (rz.length.symm.trans l1)) (gsw_rel rz) q2
/-- C(), C without an own __init__ -/
theorem pe_err0 {B newId initId : String} {tl : List Value} (F : ExcBaseFacts B newId initId tl) (q : PySem.W.excIn X.K C tl newId = true) (kC : PySem.W.keepIn X.K (.ref C) = true) (hm : ∃ u, X.mg x = some u ∧ RelV (.ref C) u)
    (hg : Gl X x := by rfl) (hdb : (x == ("__debug__" : Str)) = false := by decide) :
    PE X (.Call (.Name x p) [] [] pos) (fun σ H Q => ∀ y H2, Same H H2 → ErrAt H2 y C [] → Q y H2) := by
  obtain ⟨u, hm, ru⟩ := hm
  obtain rfl : u = Value.ref C := ru
  refine ⟨fun pins s σ H Q I h => ?_⟩
  refine wpAny_Call_Name_kw (ld_glob I hg hm ?_ hdb)
  refine PySem.W.callWith_K0 I.kIn kC ?_
  obtain ⟨bm, N, nm, qn, bs, hdct, sn, sub, ab, col, dd, k0, k1, k2, k3, k5, mN, hC, hN, hni, T⟩ := exc_obj I.kIn q
  refine wpAny_call_exc_subT F T hC hN hni (fun h' e hm' => ?_) (Nat.zero_le _)
  obtain ⟨hk, hnew, t1, he, _⟩ := hm'
  have hn : H e = none := I.hok.gone hnew
  refine ⟨.ref e, upd H e (exo e C none), I.laidN (t' := s.toks) (h' := h') hk hnew hn (exo_ok he), rfl, h _ _ (fun b o z => ?_) ⟨e, none, rfl, upd_same, rfl⟩⟩
  rw [upd_ne (fun w => by rw [w, hn] at z; cases z)]
  exact z
end

/-! ### the own __init__ -/
section
variable {P : Program} {w : World} {K : PySem.W.Frag} {mg : Str → Option Value} {base : Heap} {C fI : Addr} {fd : FuncData} {qual f g : Str} {params : Arguments} {body : List Stmt} {scope : Scope} {B newId initId : String} {tl : List Value}
def gF1 (f : Str) (ws : List V) : List (Str × V) := [(f, ws.headD .non)]
def gF2 (f g : Str) (ws : List V) : List (Str × V) := [(g, (ws.drop 1).headD .non), (f, ws.headD .non)]
theorem par_vis {ps N : List Str} {scope : Scope} (S : FnScope N ps scope) {n : Str} (h : n ∈ ps) : Vis scope n :=
  (S.par n h).elim (fun z => .inl z) fun z => .inr (.inl z)
theorem ok_err1 {p1 p2 p3 p4 : Pos} (b : BaseE B newId initId tl) (T : ErC K C newId tl) (hno : PySem.W.findIn K (.ref C) f = some none) (F : FunD K "__init__" qual params body scope [] [] fI fd)
    (S : FnScope ["self", f] ["self", f] scope) (hb : body = [.Assign [.Attribute (.Name "self" p1) f p2] (.Name f p3) p4])
    (hd : (f == ("__debug__" : Str)) = false := by decide) (hcd : (f == ("__classdict__" : Str)) = false := by decide) : FnOk P w K mg base CX0 1 fI fd ["self", f] (spE C 1 (gF1 f)) := by
  subst hb
  refine F.ok S (fun vs H Q E h => ?_) (fun cdv A outer s H vs Q E hr h => ?_)
  · obtain ⟨a, ws, rfl, l, _⟩ := h
    show ws.length + 1 = 2
    rw [l]
  · obtain ⟨a, ws, rfl, l, ha, q⟩ := h
    obtain ⟨v, rfl⟩ : ∃ v, ws = [v] := by
      match ws, l with
      | [v], _ => exact ⟨v, rfl⟩
    refine ⟨_, PSs.nox (pss_one (ps_errset b T hno (pe_var (i := 0) rfl (par_vis S (by simp))) (pe_var (i := 1) rfl (par_vis S (by simp)) hd hcd))), ?_⟩
    refine ⟨v, rfl, .ref a, rfl, a, rfl, .inl ⟨ha, fun dx nd ne => q dx _ nd (fun c o hc hn => ?_) upd_same ?_⟩⟩
    · rw [upd_ne hc, upd_ne (fun w => by rw [w, nd] at hn; cases hn)]
      exact hn
    · show upd (upd H dx _) a _ dx = _
      rw [upd_ne ne, upd_same]
      rfl
theorem ok_err2 {p1 p2 p3 p4 q1 q2 q3 q4 : Pos} (b : BaseE B newId initId tl) (T : ErC K C newId tl) (hno : PySem.W.findIn K (.ref C) f = some none) (hno2 : PySem.W.findIn K (.ref C) g = some none)
    (F : FunD K "__init__" qual params body scope [] [] fI fd) (S : FnScope ["self", f, g] ["self", f, g] scope)
    (hb : body = [.Assign [.Attribute (.Name "self" p1) f p2] (.Name f p3) p4, .Assign [.Attribute (.Name "self" q1) g q2] (.Name g q3) q4])
    (hd : (f == ("__debug__" : Str)) = false := by decide) (hcd : (f == ("__classdict__" : Str)) = false := by decide) (hd2 : (g == ("__debug__" : Str)) = false := by decide) (hcd2 : (g == ("__classdict__" : Str)) = false := by decide) : FnOk P w K mg base CX0 1 fI fd ["self", f, g] (spE C 2 (gF2 f g)) := by
  subst hb
  refine F.ok S (fun vs H Q E h => ?_) (fun cdv A outer s H vs Q E hr h => ?_)
  · obtain ⟨a, ws, rfl, l, _⟩ := h
    show ws.length + 1 = 3
    rw [l]
  · obtain ⟨a, ws, rfl, l, ha, q⟩ := h
    obtain ⟨v, u, rfl⟩ : ∃ v u, ws = [v, u] := by
      match ws, l with
      | [v, u], _ => exact ⟨v, u, rfl⟩
    refine ⟨_, PSs.nox (pss_cons (ps_errset b T hno (pe_var (i := 0) rfl (par_vis S (by simp))) (pe_var (i := 1) rfl (par_vis S (by simp)) hd hcd))
      (pss_one (ps_errset b T hno2 (pe_var (i := 0) rfl (par_vis S (by simp))) (pe_var (i := 2) rfl (par_vis S (by simp)) hd2 hcd2)))), ?_⟩
    refine ⟨v, rfl, .ref a, rfl, a, rfl, .inl ⟨ha, fun dx nd ne => ?_⟩⟩
    refine ⟨u, rfl, .ref a, rfl, a, rfl, .inr ⟨dx, [(f, v)], upd_same, ?_, (show 1 ≤ 900 by decide), q dx _ nd (fun c o hc hn => ?_) ?_ ?_⟩⟩
    · rw [upd_ne ne, upd_same]
    · have nc : c ≠ dx := fun w => by rw [w, nd] at hn; cases hn
      rw [upd_ne nc, upd_ne hc, upd_ne nc]
      exact hn
    · rw [upd_ne ne.symm, upd_same]
    · show upd _ dx _ dx = _
      rw [upd_same]
      rfl
theorem erK_of {x : Str} {n : Nat} {ks ps : List Str} {sw : Bool} {gF : List V → List (Str × V)} (b : BaseE B newId initId tl) (T : ErC K C newId tl) (iC : PySem.W.findIn K (.ref C) "__init__" = some (some (.ref fI)))
    (tI : PySem.W.isFn K (.ref fI) = true) (F : FunD K "__init__" qual params body scope [] [] fI fd) (ok : FnOk P w K mg base CX0 1 fI fd ps (spE C n gF)) (hm : ∃ u, mg x = some u ∧ RelV (.ref C) u)
    (h1 : ∀ (kV doc pm : Value) (an : Option Addr) (cdv ct : Value) (us : List Value), us.length = ps.length → bindArgs (PySem.W.fnOf "__init__" qual params body scope .none kV doc pm an cdv ct) ⟨us, []⟩ = pure (ps.zip us))
    (h2 : ∀ (kV doc pm : Value) (an : Option Addr) (cdv ct : Value) (us ws : List Value), us.length = 1 → ws.length = ks.length → bindArgs (PySem.W.fnOf "__init__" qual params body scope .none kV doc pm an cdv ct) ⟨us, ks.zip ws⟩ = pure (ps.zip (us ++ gsw sw ws))) :
    ErK P w K mg base x C n ks sw gF := by
  obtain ⟨u, hm, ru⟩ := hm
  obtain rfl : u = Value.ref C := ru
  refine ⟨B, newId, initId, tl, fI, fd, ps, b, T, iC, beq_iff_eq.mp tI, ok, hm, F.bindsN h1, fun s us ws X l1 l2 => BindsTo.of_looks fun M => ?_⟩
  obtain ⟨oc, od, dV, kV, doc, pm, an, cdv, ct, osl, rfl, lk, hcd, hD, hK⟩ := F.ex
  rcases hD with ⟨_, rfl⟩ | ⟨e, _⟩
  · exact PySem.W.Looks.of_pure (h2 kV doc pm an cdv ct us ws l1 l2)
  · exact absurd rfl e
end

/-! ### isinstance -/
section
open PySem.W
variable {K : Frag} {x D : Addr} {ox : Obj} {od : Option Obj}
theorem find_cls (c : ExcC K D) : findObj K D od "__class__" = some (.bind (.builtin "getset_descriptor.__get__") (.builtin "object.__class__")) := by
  obtain ⟨cd, hcd, _⟩ := any_some c.hd
  have so : (clsIn K D).isSome = true := by rw [hcd]; rfl
  cases od with
  | none => exact findObj_dataN so c.ha c.hn c.ht
  | some o => exact findObj_data so c.ha c.hn c.ht
open PySem.F in
theorem err_cls {prog : Program} {w : World} {A : Around} {E : Value → Shared → Prop} {s : Shared} {Q : Option Value → Shared → Prop} (c : ExcC K D) (X : K.In s.heap) (I : InstAt s.heap x ox D od)
    (h : Q (some (.ref D)) { s with toks := s.toks + 1 }) : wpAny (model prog w) A (getAttr? (.ref x) "__class__") Q E s := by
  obtain ⟨hp, g, d, t, os⟩ := s
  have ty := I.type (M := model prog w)
  have fd := looks_find (M := model prog w) X I (find_cls c)
  have ba : Looks (model prog w) hp (isInstance (.ref x) (.type "BaseException")) true := ty.andThen (looks_subIn X c.hs)
  have n0 : (false && onTheHeap (Value.builtin "BaseException.__getattribute__")) = false := rfl
  have n1 : (onTheHeap (Value.ref D) && Value.builtin "BaseException.__getattribute__" == Value.builtin "object.__getattribute__") = false := by
    rw [show (Value.builtin "BaseException.__getattribute__" == Value.builtin "object.__getattribute__") = false by decide +kernel]
    rfl
  unfold getAttr? getAttrBy? getAttrBy
  refine wpAny_bind (wpAny_mkText (wpAny_bind (wpAny_attempt (wpAny_holding (wpAny_bind (ty.at ?_))))))
  refine wpAny_bind ((looks_findIn X c.hg).at ?_)
  show wpAny _ _ (if (onTheHeap (Value.ref D) && Value.builtin "BaseException.__getattribute__" == Value.builtin "object.__getattribute__") = true then _ else _) _ _ _
  rw [n1, if_neg Bool.false_ne_true]
  unfold getAttrByItsOwn hookBefore
  refine wpAny_bind ?_
  rw [if_pos (show onTheHeap (Value.ref D) = true from rfl)]
  refine (looks_findIn X c.hk).at (wpAny_bind (wpAny_attempt (wpAny_holding ?_)))
  unfold callGetattribute
  rw [n0, if_neg Bool.false_ne_true]
  unfold boundAndCalled
  rw [excAttr_ValueError.ga.bind (.ref x)]
  refine wpAny_bind (wpAny_pure ?_)
  show wpAny _ _ (call (.builtin "BaseException.__getattribute__") [.ref x, .str "__class__" t]) _ _ _
  refine wpAny_call (codeAny_call_builtin excAttr_ValueError.ga.plain entry_bexc_ga ?_)
  refine @check_slot (model prog w) _ _ ⟨hp, g, d, t + 1, os⟩ "BaseException.__getattribute__" "BaseException" "__getattribute__" (.ref x) [.str "__class__" t] [] _
    (by decide +kernel) (by decide +kernel) ba (args_bexc_ga (.ref x) (.str "__class__" t)) ?_
  unfold Builtin.«object.__getattribute__»
  refine wpAny_bind (wpAny_of_eq (a := ((Value.ref x : Value), [Value.str "__class__" t])) (by first | rfl | (simp only [slotArgs]; rfl)) ?_)
  refine wpAny_bind (wpAny_pure (wpAny_bind (ty.at (wpAny_bind (fd.at ?_)))))
  show wpAny _ _ (holding [Value.builtin "object.__class__"] (call (.builtin "getset_descriptor.__get__") [.builtin "object.__class__", .ref x, .ref D]) >>= ret) _ _ _
  refine wpAny_bind (wpAny_holding (wpAny_call (class_get (s := ⟨hp, g, d, t + 1, os⟩) (ox := ox) (od := od) X I c.hm ?_)))
  refine wpAny_pure ?_
  show wpAny _ _ (handedOut (.ref D)) _ _ _
  rw [handedOut_of (v := .ref D) rfl]
  first
    | exact wpAny_pure (wpAny_pure h)
    | exact wpAny_pure h
    | exact wpAny_pure (wpAny_bind (wpAny_pure (wpAny_pure h)))
theorem err_kitx (c : ExcC K D) : KitX K (.ref x) (.ref D) (fun h => ∃ ox od, InstAt h x ox D od) := by
  obtain ⟨cd, hcd, _⟩ := any_some c.hd
  unfold clsIn at hcd
  split at hcd
  · rename_i c' d' cd' sl' ho
    refine ⟨?_, ?_, ?_, ?_⟩
    · rintro M h _ ⟨ox, od, I⟩
      exact I.type
    · intro M h X _ A' Q' E' s' k q
      unfold isType loadHead
      exact wpAny_bind (wpAny_loadPart (k _ _ (X _ _ ho)) (wpAny_pure q))
    · intro h tp dd its n sl X htp
      refine Bool.eq_false_iff.mpr fun q => ?_
      have e : D = tp := Value.ref.inj (beq_iff_eq.mp q)
      subst e
      have z := (X _ _ ho).symm.trans htp
      cases z
    · rintro prog w A E Q s X ⟨ox, od, I⟩ k
      exact err_cls c X I k
  · cases hcd
end
theorem ErrAt.inst {X : Cx} {pins : List (Addr × Obj)} {σ : L2.St} {H : Hp} {s : Shared} {x : V} {C : Addr} {fs : List (Str × V)} (I : Inv X pins σ H s) (e : ErrAt H x C fs) :
    ∃ a ox od, x = .ref a ∧ PySem.W.InstAt s.heap a ox C od := by
  obtain ⟨a, d, rfl, ea, q⟩ := e
  obtain ⟨t1, ho⟩ := exo_at I.hok ea
  cases d with
  | none => exact ⟨a, _, none, rfl, ho, rfl, rfl, trivial⟩
  | some dx =>
    obtain ⟨mA, ⟨oD, _, _, hoD, _⟩, _⟩ := exd_at I.hok q
    exact ⟨a, _, some oD, rfl, ho, rfl, rfl, hoD⟩
/-- isinstance(e, c), e an error of the i-th of the classes cl: f i -/
def rIsJ (n : Nat) (cl : Nat → Addr) (c : V) (f : Nat → Bool) : List V → Hp → VK → Prop := fun xs H Q => ∃ (x : V) (i : Nat) (fs : List (Str × V)), xs = [x, c] ∧ i < n ∧ ErrAt H x (cl i) fs ∧ Q (.bl (f i)) H
theorem cr_isJ {X : Cx} {n : Nat} {cl : Nat → Addr} {c : V} {cv : Value} {f : Nat → Bool} (hc : ∀ u, RelV c u → u = cv) (hx : ∀ i < n, ExcC X.K (cl i)) (hk : ∀ i < n, PySem.W.kitOne X.K (.ref (cl i)) cv = some (f i)) :
    CallR X (.builtin "isinstance") (rIsJ n cl c f) := by
  intro pins s σ H xs us Q I r h
  obtain ⟨x, i, fs, rfl, hi, e, q⟩ := h
  cases r with
  | cons rx rr =>
    cases rr with
    | cons rt rr =>
      cases rr
      obtain rfl := hc _ rt
      obtain ⟨a, ox, od, rfl, J⟩ := e.inst I
      obtain rfl := (show _ = Value.ref a from rx)
      exact PySem.W.kia_one (err_kitx (hx i hi)) I.kIn ⟨ox, od, J⟩ (hk i hi) (fun z => nomatch z) fun tk => ⟨.bl (f i), H, I.kept (t' := tk) fun _ _ z => z, rfl, q⟩

/-! ### e.f -/
def tErrFld (n : Nat) (cl : Nat → Addr) (ok : Nat → Bool) (f : Str) (te : TE) : TE := fun σ H Q => te σ H fun x H1 => ∃ (i : Nat) (fs : List (Str × V)) (v : V), ErrAt H1 x (cl i) fs ∧ i < n ∧ ok i = true ∧ fs.lookup f = some v ∧ Q v H1
theorem pe_errfld {X : Cx} {n : Nat} {cl : Nat → Addr} {ok : Nat → Bool} {f : Str} {e : Expr} {te : TE} {pos : Pos} (hx : ∀ i < n, XfC X.K (cl i)) (hno : ∀ i < n, ok i = true → PySem.W.findIn X.K (.ref (cl i)) f = some none)
    (he : PE X e te) (hb : attributeBase e f X.env (eval e X.env) = eval e X.env := by rfl) : PE X (.Attribute e f pos) (tErrFld n cl ok f te) := by
  refine ⟨fun pins s σ H Q I h => ?_⟩
  refine attr_of hb (thn (he.run pins s σ H _ I h) ?_)
  rintro u s1 ⟨x, H1, I1, rx, i, fs, v, ⟨a, d, rfl, ea, q0⟩, hi, ho, hl, q⟩
  obtain rfl : u = Value.ref a := rx
  obtain ⟨t1, hoe⟩ := exo_at I1.hok ea
  cases d with
  | none =>
    rw [show fs = [] from q0] at hl
    cases hl
  | some dx =>
    obtain ⟨mA, hns, hr⟩ := exd_at I1.hok q0
    obtain ⟨oD, hoD, look⟩ := lookIn_ns hns
    obtain ⟨u, hu, ru⟩ := RelO.some_of (v := v) (o := mA f) (by rw [← hl]; exact hr f)
    have J : PySem.W.InstAt s1.heap a { cls := .ref (cl i), dict := some dx, data := .fields #[.ref t1, .none, .none, .none, .bool false, .none] } (cl i) (some oD) := ⟨hoe, rfl, rfl, hoD⟩
    have T := hx i hi
    exact HandSPX.exc_get I1.kIn J T.ga T.gg T.exC (PySem.W.findObj_own T.hdC (hno i hi ho) rfl (by rw [look, hu])) (handed_of ru) ⟨v, H1, I1.tok _, ru, q⟩

/-! ### list.count, flat items -/
def rCount (K : PySem.W.Frag) : V → List V → Hp → VK → Prop := fun x xs H Q => ∃ (a : Addr) (ys : List V) (y : V), x = V.ref a ∧ xs = [y] ∧ SqL K H a ys ∧ flatV y = true ∧ ys.all flatV = true ∧
  Q (.int (ys.countP fun z => eqV z y : Nat)) H
theorem count_rel {y : V} : ∀ {ys : List V} {us : List Value}, Vals ys us → ys.all flatV = true → us.countP (eqU y) = ys.countP fun z => eqV z y
  | [], _, r, _ => by cases r; rfl
  | z :: zs, _, r, h => by
    cases r with
    | cons r1 r2 =>
      rw [List.all_cons, Bool.and_eq_true] at h
      rw [List.countP_cons, List.countP_cons, count_rel r2 h.2, eqU_of r1 h.1]
theorem mt_count {X : Cx} : MtR X "list.count" (rCount X.K) := by
  intro pins s σ H x xs v us Q I rx rxs h
  obtain ⟨a, ys, y, rfl, rfl, hs, fy, fys, q⟩ := h
  cases rx
  cases rxs with
  | cons ry rt =>
    rename_i uy ut
    cases rt
    obtain ⟨its, rv, ⟨⟨c1, c2, c3, c4⟩, n, ho, hc, hdn, hd⟩, hlen⟩ := I.list hs
    simp only at hc hd
    subst hc hd
    refine call_meets PySem.F.slot_list_count ⟨_, ho, rfl⟩ PySem.F.entry_list_count (PySem.F.args_list_count_2 _ _) (SeqAt.list_countAt a its.toArray n c2 c4 uy (eqU y))
      ⟨ho, fun u' hu' => mem_eqAt ry fy rv fys u' (by simpa using hu'), ?_⟩
    rw [show its.toArray.toList = its from rfl, count_rel rv fys]
    exact ⟨.int _, H, I.tok _, ⟨_, rfl⟩, q⟩
end G
/-! own rules: repr of data with dicts; what stands as data on the abstract heap alone -/
namespace G
open PySem PySem.Spec PyProof.Rows L2
mutual
inductive Dq (K : PySem.W.Frag) (H : Hp) : V → PyData → Prop
  | non : Dq K H .non .none
  | bl (b : Bool) : Dq K H (.bl b) (.bool b)
  | int (i : Int) : Dq K H (.int i) (.int i)
  | str (x : Str) : Dq K H (.str x) (.str x)
  | lst {a : Addr} {xs : List V} {ds : List PyData} : H a = some (.lst xs) → DqAll K H xs ds → Dq K H (.ref a) (.list ds)
  | tup {a : Addr} {xs : List V} {ds : List PyData} : SqT K H a xs → DqAll K H xs ds → Dq K H (.ref a) (.tuple ds)
  | dct {a : Addr} {kvs : List (Key × V)} {ds : List (PyData × PyData)} : H a = some (.dK kvs) → DqAll K H (kvs.map fun p => kV p.1) (ds.map (·.1)) →
      DqAll K H (kvs.map (·.2)) (ds.map (·.2)) → Dq K H (.ref a) (.dict ds)
inductive DqAll (K : PySem.W.Frag) (H : Hp) : List V → List PyData → Prop
  | nil : DqAll K H [] []
  | cons {v : V} {vs : List V} {d : PyData} {ds : List PyData} : Dq K H v d → DqAll K H vs ds → DqAll K H (v :: vs) (d :: ds)
end
theorem dk_vals {P : Program} {w : World} : ∀ {kvs : List (Key × V)} {vs : List (Key × Value)} {es : List DictEntry}, KV kvs vs → PySem.Pairs (mixKind P w) es vs →
    Vals (kvs.map fun p => kV p.1) (es.map (·.key)) ∧ Vals (kvs.map (·.2)) (es.map (·.val))
  | [], _, _, r, q => by
    cases r
    cases q
    exact ⟨.nil, .nil⟩
  | p :: kvs, _, _, r, q => by
    cases r with
    | cons h t =>
      cases q with
      | @cons e0 _ _ _ h1 h2 t2 =>
        obtain ⟨i1, i2⟩ := dk_vals t t2
        refine ⟨.cons ?_ i1, .cons ?_ i2⟩
        · show RelV (kV p.1) e0.key
          rw [h.1]
          rcases keyIs_shape h1 with ⟨i, tk, e1, e2⟩ | ⟨x, tk, e1, e2⟩
          · rw [e1, e2]
            exact ⟨tk, rfl⟩
          · rw [e1, e2]
            exact ⟨tk, rfl⟩
        · show RelV p.2 e0.val
          rw [h2]
          exact h.2
section
variable {X : Cx} {pins : List (Addr × Obj)} {σ : L2.St} {H : Hp} {s : Shared}
mutual
theorem Dq.reads (I : Inv X pins σ H s) (hsm : H sysModules = none) : ∀ {v : V} {d : PyData}, Dq X.K H v d → ∀ {u : Value}, RelV v u → ∃ as, Reads s.heap u d as ∧ sysModules ∉ as
  | _, _, .non, _, r => by
    cases r
    exact ⟨_, Reads.none, by simp⟩
  | _, _, .bl b, _, r => by
    cases r
    exact ⟨_, Reads.bool b, by simp⟩
  | _, _, .int i, _, r => by
    obtain ⟨t, rfl⟩ := r
    exact ⟨_, Reads.int i t, by simp⟩
  | _, _, .str x, _, r => by
    obtain ⟨t, rfl⟩ := r
    exact ⟨_, Reads.str x t, by simp⟩
  | _, _, .lst (a := a) e ha, _, r => by
    cases r
    obtain ⟨_, its, n, rv, ho⟩ := (show ObjOk X.prog X.w H s.heap a (.lst _) from I.hok a _ e)
    obtain ⟨as, hr, hn⟩ := DqAll.reads I hsm ha rv
    refine ⟨_, Reads.list ho rfl rfl (by simpa using hr), ?_⟩
    intro hm
    rcases List.mem_cons.mp hm with e1 | e1
    · rw [e1, e] at hsm
      cases hsm
    · exact hn e1
  | _, _, .tup (a := a) e ha, _, r => by
    cases r
    obtain ⟨its, rv, ⟨o, ho, hc, n, hd⟩, _⟩ := I.tuple e
    obtain ⟨as, hr, hn⟩ := DqAll.reads I hsm ha rv
    exact ⟨_, Reads.tuple ho hc hd (by simpa using hr), hn⟩
  | _, _, .dct (a := a) (kvs := kvs) e hk hv, _, r => by
    cases r
    obtain ⟨_, _, vs, rk, o, es, ep, ho, hx, hd, _, hp, _⟩ := (show ObjOk X.prog X.w H s.heap a (.dK kvs) from I.hok a _ e)
    obtain ⟨r1, r2⟩ := dk_vals rk hp
    obtain ⟨as, h1, n1⟩ := DqAll.reads I hsm hk r1
    obtain ⟨bs, h2, n2⟩ := DqAll.reads I hsm hv r2
    refine ⟨_, Reads.dict ho hx.1 hd h1 h2, ?_⟩
    intro hm
    rw [List.cons_append] at hm
    rcases List.mem_cons.mp hm with e1 | e1
    · rw [e1, e] at hsm
      cases hsm
    · rcases List.mem_append.mp e1 with e2 | e2
      · exact n1 e2
      · exact n2 e2
theorem DqAll.reads (I : Inv X pins σ H s) (hsm : H sysModules = none) : ∀ {vs : List V} {ds : List PyData}, DqAll X.K H vs ds → ∀ {us : List Value}, Vals vs us → ∃ as, ReadsAll s.heap us ds as ∧ sysModules ∉ as
  | _, _, .nil, _, r => by
    cases r
    exact ⟨_, ReadsAll.nil, by simp⟩
  | _, _, .cons h1 h2, _, r => by
    cases r with
    | cons r1 r2 =>
      obtain ⟨as, q1, n1⟩ := Dq.reads I hsm h1 r1
      obtain ⟨bs, q2, n2⟩ := DqAll.reads I hsm h2 r2
      refine ⟨_, ReadsAll.cons q1 q2, fun hm => ?_⟩
      rcases List.mem_append.mp hm with e | e
      · exact n1 e
      · exact n2 e
end
end
mutual
theorem Dq.same {K : PySem.W.Frag} {H H' : Hp} (s : Same H H') : ∀ {v : V} {d : PyData}, Dq K H v d → Dq K H' v d
  | _, _, .non => .non
  | _, _, .bl b => .bl b
  | _, _, .int i => .int i
  | _, _, .str x => .str x
  | _, _, .lst e ha => .lst (s _ _ e) (DqAll.same s ha)
  | _, _, .tup e ha => .tup (e.same s) (DqAll.same s ha)
  | _, _, .dct e hk hv => .dct (s _ _ e) (DqAll.same s hk) (DqAll.same s hv)
theorem DqAll.same {K : PySem.W.Frag} {H H' : Hp} (s : Same H H') : ∀ {vs : List V} {ds : List PyData}, DqAll K H vs ds → DqAll K H' vs ds
  | _, _, .nil => .nil
  | _, _, .cons h1 h2 => .cons (Dq.same s h1) (DqAll.same s h2)
end
theorem sm_freeB {X : Cx} (h : (X.base.get? sysModules).isSome = true) {pins : List (Addr × Obj)} {σ : L2.St} {H : Hp} {s : Shared} (I : Inv X pins σ H s) : H sysModules = none := by
  obtain ⟨o, e⟩ := Option.isSome_iff_exists.mp h
  exact (I.bs _ _ e).2
theorem sm_free {X : Cx} (h : (X.K.lookup sysModules).isSome = true) {pins : List (Addr × Obj)} {σ : L2.St} {H : Hp} {s : Shared} (I : Inv X pins σ H s) : H sysModules = none := by
  obtain ⟨o, e⟩ := Option.isSome_iff_exists.mp h
  exact (I.bs _ _ (I.ok.mod.kin _ _ e)).2
def rReprQ (K : PySem.W.Frag) : List V → Hp → VK → Prop := fun xs H Q => ∃ (x : V) (d : PyData), xs = [x] ∧ Dq K H x d ∧
  d.showable = true ∧ d.depth ≤ 60 ∧ d.shown.length ≤ sizeLine ∧ Q (.str d.shown) H
theorem call_reprH {X : Cx} (hgd : X.A.guards = some []) (hu : X.A.units + 64 < cLine) (hm : ∀ {pins : List (Addr × Obj)} {σ : L2.St} {H : Hp} {s : Shared}, Inv X pins σ H s → H sysModules = none) : CallR X (.builtin "repr") (rReprQ X.K) := by
  intro pins s σ H xs us Q I r h
  obtain ⟨x, d, rfl, hd, hs, hdp, hz, q⟩ := h
  obtain ⟨u, rfl, rx⟩ := vals1 r
  obtain ⟨as, rd, hn⟩ := Dq.reads I (hm I) hd rx
  cases rx' : x with
  | ref a =>
    subst rx'
    obtain rfl : u = Value.ref a := rx
    exact repr_of_reads' rd hs (fun _ => hn) hgd (by omega) (fun _ _ e => e)
      (fun h' t tk hk => ⟨.str d.shown, H, I.kept hk, ⟨_, rfl⟩, q⟩) hz
  | non => subst rx'; cases hd; cases rx; exact PySem.P.repr_of_none ⟨.str _, H, I.tok _, ⟨_, rfl⟩, q⟩
  | bl b => subst rx'; cases hd; cases rx; exact PySem.P.repr_of_bool ⟨.str _, H, I.tok _, ⟨_, rfl⟩, by simpa only [PyData.shown] using q⟩
  | int i =>
    subst rx'; cases hd; obtain ⟨t, rfl⟩ := rx
    exact PySem.P.repr_of_int (by simpa only [PyData.showable, decide_eq_true_eq] using hs) ⟨.str _, H, I.tok _, ⟨_, rfl⟩, by simpa only [PyData.shown] using q⟩
  | str z =>
    subst rx'; cases hd; obtain ⟨t, rfl⟩ := rx
    exact PySem.P.repr_of_str ⟨.str _, H, I.tok _, ⟨_, rfl⟩, by simpa only [PyData.shown] using q⟩ (by simpa only [PyData.shown] using hz)
  | byt b => subst rx'; cases hd
  | flt b => subst rx'; cases hd
  | ty n => subst rx'; cases hd
theorem call_reprQ {X : Cx} (hgd : X.A.guards = some []) (hu : X.A.units + 64 < cLine) (hm : (X.K.lookup sysModules).isSome = true) : CallR X (.builtin "repr") (rReprQ X.K) :=
  call_reprH hgd hu fun I => sm_free hm I
theorem call_reprB {X : Cx} (hgd : X.A.guards = some []) (hu : X.A.units + 64 < cLine) (hm : (X.base.get? sysModules).isSome = true) : CallR X (.builtin "repr") (rReprQ X.K) :=
  call_reprH hgd hu fun I => sm_freeB hm I
end G
/-! what texts of lists and tuples measure -/
namespace G
open PySem PySem.Spec PyProof.Rows L2
theorem mz_from {B : Nat} : ∀ (ts : List Str) (k : Nat) (acc : Str), (∀ t ∈ ts, t.length ≤ B) → (textFrom k acc ts).length ≤ acc.length + (B + 2) * ts.length
  | [], k, acc, _ => Nat.le_add_right _ _
  | t :: ts, k, acc, h => by
    have h1 := h t List.mem_cons_self
    have h2 := mz_from ts (k + 1) (acc ++ (if k > 0 then ", " else "" : String) ++ t) fun y hy => h y (List.mem_cons_of_mem _ hy)
    have h3 : (acc ++ ((if k > 0 then ", " else "" : String) : Str) ++ t).length ≤ acc.length + 2 + t.length := by
      rw [cat_len, cat_len]
      have : (((if k > 0 then ", " else "" : String) : Str)).length ≤ 2 := by
        split
        · decide +kernel
        · decide +kernel
      omega
    show (textFrom (k + 1) (acc ++ (if k > 0 then ", " else "" : String) ++ t) ts).length ≤ _
    rw [List.length_cons, Nat.mul_add]
    omega
theorem mz_list {B : Nat} {ts : List Str} (h : ∀ t ∈ ts, t.length ≤ B) : (listText ts).length ≤ (B + 2) * ts.length + 2 := by
  have h1 := mz_from ts 0 (Str.ofString "[") h
  unfold listText
  have e1 : (Str.ofString "[").length = 1 := by decide +kernel
  have e2 : (Str.ofString "]").length = 1 := by decide +kernel
  show (textFrom 0 (Str.ofString "[") ts ++ Str.ofString "]").length ≤ _
  rw [cat_len]
  omega
theorem mz_join {B : Nat} : ∀ ts : List Str, (∀ t ∈ ts, t.length ≤ B) → (Str.join (Str.ofString ", ") ts).length ≤ (B + 2) * ts.length
  | [], _ => Nat.zero_le _
  | [t], h => by
    have := h t List.mem_cons_self
    show t.length ≤ (B + 2) * 1
    omega
  | t :: u :: r, h => by
    have h1 := h t List.mem_cons_self
    have h2 := mz_join (B := B) (u :: r) fun y hy => h y (List.mem_cons_of_mem _ hy)
    show (t ++ Str.ofString ", " ++ Str.join (Str.ofString ", ") (u :: r)).length ≤ (B + 2) * ((u :: r).length + 1)
    rw [cat_len, cat_len, show (Str.ofString ", ").length = 2 from by decide +kernel, Nat.mul_add]
    omega
theorem mz_tuple {B : Nat} {ts : List Str} (h : ∀ t ∈ ts, t.length ≤ B) : (tupleText ts).length ≤ (B + 2) * ts.length + 3 := by
  have h1 := mz_join ts h
  unfold tupleText
  have e1 : (Str.ofString "(").length = 1 := by decide +kernel
  have e2 : (Str.ofString ",)").length = 2 := by decide +kernel
  have e3 : (Str.ofString ")").length = 1 := by decide +kernel
  split
  · show (Str.ofString "(" ++ Str.join (Str.ofString ", ") ts ++ Str.ofString ",)").length ≤ _
    rw [cat_len, cat_len]
    omega
  · show (Str.ofString "(" ++ Str.join (Str.ofString ", ") ts ++ Str.ofString ")").length ≤ _
    rw [cat_len, cat_len]
    omega
theorem shownAll_mapQ : ∀ ds : List PyData, PyData.shownAll ds = ds.map PyData.shown
  | [] => rfl
  | d :: ds => by rw [PyData.shownAll, shownAll_mapQ ds]; rfl
theorem showableAll_of : ∀ {ds : List PyData}, (∀ d ∈ ds, d.showable = true) → PyData.showableAll ds = true
  | [], _ => rfl
  | d :: ds, h => by
    rw [PyData.showableAll, h d List.mem_cons_self, showableAll_of fun x hx => h x (List.mem_cons_of_mem _ hx)]
    rfl
theorem depthAll_of {n : Nat} : ∀ {ds : List PyData}, (∀ d ∈ ds, d.depth ≤ n) → PyData.depthAll ds ≤ n
  | [], _ => Nat.zero_le _
  | d :: ds, h => by
    rw [PyData.depthAll]
    exact Nat.max_le.mpr ⟨h d List.mem_cons_self, depthAll_of fun x hx => h x (List.mem_cons_of_mem _ hx)⟩
/-- showable, not too deep, not too long -/
structure ShD (n B : Nat) (d : PyData) : Prop where
  sh : d.showable = true
  dp : d.depth ≤ n
  ln : d.shown.length ≤ B
theorem shD_list {n B : Nat} {ds : List PyData} (h : ∀ d ∈ ds, ShD n B d) : ShD (n + 1) ((B + 2) * ds.length + 2) (.list ds) := by
  refine ⟨showableAll_of fun d hd => (h d hd).sh, Nat.succ_le_succ (depthAll_of fun d hd => (h d hd).dp), ?_⟩
  have e : (PyData.list ds).shown = listText (ds.map PyData.shown) := by rw [PyData.shown, shownAll_mapQ]
  rw [e]
  have a := mz_list (B := B) (ts := ds.map PyData.shown) fun t ht => by
    obtain ⟨d, hd, rfl⟩ := List.mem_map.mp ht
    exact (h d hd).ln
  rw [List.length_map] at a
  exact a
theorem shD_tup {n B : Nat} {ds : List PyData} (h : ∀ d ∈ ds, ShD n B d) : ShD (n + 1) ((B + 2) * ds.length + 3) (.tuple ds) := by
  refine ⟨showableAll_of fun d hd => (h d hd).sh, Nat.succ_le_succ (depthAll_of fun d hd => (h d hd).dp), ?_⟩
  have e : (PyData.tuple ds).shown = tupleText (ds.map PyData.shown) := by rw [PyData.shown, shownAll_mapQ]
  rw [e]
  have a := mz_tuple (B := B) (ts := ds.map PyData.shown) fun t ht => by
    obtain ⟨d, hd, rfl⟩ := List.mem_map.mp ht
    exact (h d hd).ln
  rw [List.length_map] at a
  exact a
theorem ShD.mono {n B m C : Nat} {d : PyData} (h : ShD n B d) (a : n ≤ m) (b : B ≤ C) : ShD m C d := ⟨h.sh, Nat.le_trans h.dp a, Nat.le_trans h.ln b⟩
theorem DqAll.app {K : PySem.W.Frag} {H : Hp} : ∀ {xs ys : List V} {ds es : List PyData}, DqAll K H xs ds → DqAll K H ys es → DqAll K H (xs ++ ys) (ds ++ es)
  | _, _, _, _, .nil, h => h
  | _, _, _, _, .cons h1 h2, h => .cons h1 (DqAll.app h2 h)
theorem DqAll.rep {K : PySem.W.Frag} {H : Hp} {x : V} {d : PyData} (h : Dq K H x d) : ∀ n, DqAll K H (List.replicate n x) (List.replicate n d)
  | 0 => .nil
  | n + 1 => .cons h (DqAll.rep h n)
end G
/-! own rules: a caught error stands on the abstract heap; try .. except with it; raise of an own class; defs called where an error is handled -/
namespace G
open PySem PySem.Spec PyProof.Rows L2
/-! ### a caught error -/
/-- at a: an error of the class at C whose dict is d -/
def exl (a C : Addr) (d : Option Addr) : HO := .ext fun h => ∃ (oe : Obj) (vs : Array Value), h.get? a = some oe ∧ oe.cls = .ref C ∧ oe.dict = d ∧ oe.data = .fields vs
theorem exl_noL {a C : Addr} {d : Option Addr} : noL (exl a C d) = true := rfl
theorem exl_ok {P : Program} {w : World} {H : Hp} {h : Heap} {a C : Addr} {d : Option Addr} {oe : Obj} {vs : Array Value} (e : h.get? a = some oe) (c : oe.cls = .ref C) (dd : oe.dict = d) (f : oe.data = .fields vs) : ObjOk P w H h a (exl a C d) :=
  ⟨⟨oe, vs, e, c, dd, f⟩, ⟨_, e⟩, fun h1 h2 z k => by
    obtain ⟨o1, v1, e1, r⟩ := z
    exact ⟨o1, v1, k _ e1, r⟩⟩
theorem exl_at {P : Program} {w : World} {H : Hp} {h : Heap} {a C : Addr} {d : Option Addr} (hok : HOk P w H h) (e : H a = some (exl a C d)) :
    ∃ (oe : Obj) (vs : Array Value), h.get? a = some oe ∧ oe.cls = .ref C ∧ oe.dict = d ∧ oe.data = .fields vs :=
  (show ObjOk P w H h a (.ext _) from hok a _ e).1
/-- x is a caught error of the class at C with the attributes fs -/
def ErrL (H : Hp) (x : V) (C : Addr) (fs : List (Str × V)) : Prop := ∃ (a : Addr) (d : Option Addr), x = .ref a ∧ H a = some (exl a C d) ∧
  match d with
  | none => fs = []
  | some dx => H dx = some (.xd fs)
theorem ErrL.same {H H' : Hp} {x : V} {C : Addr} {fs : List (Str × V)} (e : ErrL H x C fs) (s : Same H H') : ErrL H' x C fs := by
  obtain ⟨a, d, rfl, ea, q⟩ := e
  refine ⟨a, d, rfl, s _ _ ea, ?_⟩
  cases d with
  | none => exact q
  | some dx => exact s _ _ q
section
variable {X : Cx} {pins : List (Addr × Obj)} {σ : L2.St} {H : Hp} {s : Shared} {a C : Addr} {d : Option Addr} {oe : Obj} {vs : Array Value}
/-- an error that is known to nobody is taken onto the abstract heap -/
theorem adopt (I : Inv X pins σ H s) (e : s.heap.get? a = some oe) (c : oe.cls = .ref C) (dd : oe.dict = d) (f : oe.data = .fields vs) (na : H a = none) (n0 : X.s_0.heap.get? a = none)
    (nL : a ≠ X.env.locals) (np : ∀ p ∈ X.pn ++ pins, p.1 ≠ a) : Inv X pins σ (upd H a (exl a C d)) s := by
  have cm : ∀ x c', X.env.cells.lookup x = some c' → c' ≠ a := fun x c' hc z => by
    obtain ⟨v, o, ho, hd⟩ := I.cell x c' hc
    rw [z, e] at ho
    cases ho
    rw [f] at hd
    cases hd
  refine ⟨I.ok, I.os, I.bare, ⟨fun b o q n hb hx => I.base.keep b o q n hb hx, fun b o q n hb hx => I.base.slot b o q n hb hx, fun b o q n hx => ?_, I.base.there, fun b xs q => ?_, fun b o u q => ?_, fun b ps q => ?_⟩,
    I.loc, I.cell, ?_, fun x c' hc => ?_, fun p hp => ?_, fun b o q => ?_, I.len⟩
  · rw [upd_ne (fun z => by rw [z, n0] at q; cases q)]
    exact I.base.free b o q n hx
  · have z := I.base.tups b xs q
    rw [upd_ne (ne_of_none z na)]
    exact z
  · have z := I.base.frzs b o u q
    rw [upd_ne (ne_of_none z na)]
    exact z
  · obtain ⟨more, z⟩ := I.base.tbls b ps q
    exact ⟨more, by rw [upd_ne (ne_of_none z na)]; exact z⟩
  · rw [upd_ne nL.symm]
    exact I.free
  · rw [upd_ne (cm x c' hc)]
    exact I.freeC x c' hc
  · have z := I.pin p hp
    exact ⟨z.1, by rw [upd_ne (np p hp)]; exact z.2.1, z.2.2⟩
  · by_cases z : b = a
    · subst z
      rw [upd_same] at q
      cases q
      exact exl_ok e c dd f
    · rw [upd_ne z] at q
      exact (I.hok b o q).stay (fun _ _ _ y => y) (fun c' hc => by rw [upd_ne (ne_of_none hc na)]; exact hc) fun c' xs hc => by rw [upd_ne (ne_of_none hc na)]; exact hc
end
/-- what one clause wishes of an error of the body, which then stands on the heap -/
def wAd (n : Nat) (w : Value → Option Bool) (i : Nat) (ts : TS) (Wout : WX) (D : Ends) : WX := fun cls d σ H =>
  σ.length = n → ∃ b, w cls = some b ∧ (b = true → ∃ C, cls = .ref C ∧ ∀ a, H a = none → ts (gone i D) (σ.set i (some (.ref a))) (upd H a (exl a C d))) ∧ (b = false → Wout cls d σ H)
section
variable {X : Cx} {n : Str} {i : Nat} {te : Expr} {w : Value → Option Bool} {body suite : List Stmt} {b₀ : Stmt} {pos pos' : Pos} {tb : WX → TS} {ts : TS} {Wout : WX}
theorem ps_try_ad (stk : X.stack = X.env :: X.outer) (frm : X.env.frame = some X.env.locals) (hex : X.ex = []) (nod : X.N.Nodup) (at_ : X.N[i]? = some n) (lcl : X.env.kindOf n = some .local)
    (test : TestBy X te w) (out : Takes X Wout)
    (hb : ∀ (W : WX) (pn : List (Addr × Obj)) (xe : Value → Shared → Prop), Takes (X.tr pn xe) W → PassesOwn (model X.prog X.w) X.A X.env xe → PSs (X.tr pn xe) body (tb W))
    (hsu : ∀ (a : Addr) (pn : List (Addr × Obj)), PSs (X.suite a pn) (b₀ :: suite) ts) :
    PS X (.Try body [.ExceptHandler (some te) (some n) (b₀ :: suite) pos'] [] [] pos) (fun D σ H => tb (wAd X.N.length w i ts Wout D) D σ H) := by
  constructor
  intro pins s σ H D I h
  have good := I.ok
  have frs0 : X.A.frames = some (X.env :: X.outer) := good.frames.trans (by rw [stk])
  apply wpAny_Try_except
  let hd : List ExceptHandler := [.ExceptHandler (some te) (some n) (b₀ :: suite) pos']
  let after : Value → Shared → Prop := fun e s₁ => wpAny (model X.prog X.w) X.A (noteFrame e X.env) (fun _ s₂ =>
    wpAny (model X.prog X.w) X.A (setFlight e none) (fun _ s₃ => wpAny (model X.prog X.w) X.A (handleBy e X.env hd) (SP X pins D) X.xe s₃) X.xe s₂) X.xe s₁
  have caught : Takes (X.tr (X.pn ++ pins) after) (wAd X.N.length w i ts Wout D) := by
    rintro u s' ⟨a, B, sI, pins', σ', H', cls, d, rfl, J', nb, up, sky, na, os, ag, wish⟩
    obtain ⟨b, wb, yes, no⟩ := wish J'.len
    have J : Inv X pins σ' H' sI := J'.ofTry good
    rw [show (X.tr (X.pn ++ pins) after).stack = X.env :: X.outer from stk] at sky
    apply Sky.land Zc.steady frs0 frm sky
    intro h3 fl up3
    have J3 := J.landed (s' := { s' with heap := h3 }) nb fl.1 (up.trans up3) os ag
    obtain ⟨o3, v3, g3, z3, d3⟩ := fl.there
    have apart : ∀ (hh : Heap) (o : Obj) (vs : Array Value), hh.FunFrames B (X.env :: X.outer) → hh.get? a = some o → o.data = .fields vs → a ∉ frs (X.env :: X.outer) := by
      intro hh o vs ff e1 e2 hm
      obtain ⟨_, o', e', nf⟩ := ff.mem hm
      obtain rfl : o = o' := Option.some.inj (e1.symm.trans e')
      exact nf vs e2
    have off := apart h3 o3 v3 fl.2.2.1 g3 d3
    have offL : a ≠ X.env.locals := by
      rintro rfl
      exact off (List.mem_filterMap.mpr ⟨X.env, List.mem_cons_self, frm⟩)
    have offF : a ∉ X.fs := by
      intro hm
      obtain ⟨e, he, q⟩ := List.mem_filterMap.mp hm
      exact off (List.mem_filterMap.mpr ⟨e, List.mem_cons_of_mem _ he, q⟩)
    have bare_ : B.get? a = none := fl.2.1
    have newI : sI.heap.get? a = none := by
      cases q : sI.heap.get? a with
      | none => rfl
      | some o =>
        have z := nb a o q (by rw [show (X.tr (X.pn ++ pins) after).stack = X.env :: X.outer from stk]; exact off)
        rw [bare_] at z
        cases z
    have new0 : X.s_0.heap.get? a = none := by
      cases q : X.s_0.heap.get? a with
      | none => rfl
      | some o =>
        obtain ⟨o', z⟩ := J.base.there a o q (by rw [hex]; simp)
        rw [newI] at z
        cases z
    have newP : ∀ p ∈ X.pn ++ pins, p.1 ≠ a := fun p hp z => by
      have q := (J.pin p hp).1
      rw [z, newI] at q
      cases q
    apply wpAny_handleBy_cons (codeAny_handlers_test ?_) (by intro q; cases q)
    apply test a o3 (X.pn ++ pins) { s' with heap := h3 } σ' H' _ _ (J3.suite g3 d3 na offL offF)
    intro c h4 k4 tell
    have fl4 := flies_on fl k4
    have up4 : sI.heap.UpToSlots h4 := (up.trans up3).trans (Heap.UpToSlots.of_keeps k4)
    have g4 : h4.get? a = some o3 := k4 a o3 g3
    have kind : PySem.W.Looks (model X.prog X.w) h4 (typeOf (.ref a)) cls := fun A Q E s k q => wpAny_typeOf_ref (k _ _ g4) (by rw [z3.1]; exact q)
    apply (tell cls b wb kind).here
    cases b with
    | false =>
      show wpAny _ X.A (handleBy (.ref a) X.env []) _ _ _
      apply wpAny_handleBy_nil
      obtain ⟨_, _, _, oe, vs, T, oT, tt, p1, p2, p3, p4, _⟩ := id fl4
      unfold PySem.passOn
      refine wpAny_bind (wpAny_field p1 p3 p4 ?_)
      rw [if_neg (by simp)]
      have leave : wpAny (model X.prog X.w) X.A (setFlight (.ref a) X.env.frame) (fun _ s4 => wpAny (model X.prog X.w) X.A (throw (.ref a) : Sem Flow) (SP X pins D) X.xe s4) X.xe { s' with heap := h4 } := by
        rw [frm]
        apply HandSPX.setFlight_upZ fl4
        intro h5 held up5
        apply wpAny_throw
        apply out
        exact ⟨a, B, sI, pins, σ', H', cls, d, rfl, J, nb, up4.trans up5, .inr (.inr (by rw [stk]; exact held)), na, os, ag, no rfl⟩
      first
        | exact wpAny_bind (wpAny_pure (wpAny_bind leave))
        | exact wpAny_bind leave
    | true =>
      obtain ⟨C, rfl, go⟩ := yes rfl
      apply codeAny_handlers_suite_as
      apply HandSPX.lands_againZ fl4
      intro h5 fl5 up5
      have J5 := J.landed (s' := { s' with heap := h5 }) nb fl5.1 (up4.trans up5) os ag
      obtain ⟨o5, v5, g5, z5, d5⟩ := fl5.there
      have S5 : Inv (X.suite a (X.pn ++ pins)) [] σ' (upd H' a (exl a C d)) { s' with heap := h5 } := by
        have K5 := (adopt J5 g5 z5.1 z5.2 d5 na new0 offL newP)
        exact ⟨K5.ok.suite _ _, K5.os, K5.bare, K5.base, K5.loc, K5.cell, K5.free, K5.freeC, fun p hp => K5.pin p (by rw [List.append_nil] at hp; exact hp), K5.hok, K5.len⟩
      apply store_ok (X := X.suite a (X.pn ++ pins)) (v := .ref a) S5 nod at_ (.inl lcl) rfl ?_ (.inr lcl)
      intro s6 S6
      refine wpAny_mono ((hsu a (X.pn ++ pins)).run [] s6 _ _ _ S6 (go a na)) (fun f s7 sp => ?_) (fun _ _ z => z.elim)
      have away : ∀ {σ7 : L2.St} {H7 : Hp} {Q : Shared → Prop}, Inv (X.suite a (X.pn ++ pins)) [] σ7 H7 s7 → (∀ s8, Inv X pins (σ7.set i none) H7 s8 → Q s8) →
          wpAny (model X.prog X.w) X.A (do bindName X.env n .none; unbindBehindTheSuite X.env n pos') (fun _ s8 => Q s8) X.xe s7 :=
        fun {σ7 H7 Q} S7 q => gone_ok (⟨good, S7.os, S7.bare, S7.base, S7.loc, S7.cell, S7.free, S7.freeC, fun p hp => S7.pin p (List.mem_append_left _ hp), S7.hok, S7.len⟩ : Inv X pins σ7 H7 s7) nod at_ lcl q
      match f, sp with
      | .next, ⟨σ7, H7, S7, q7⟩ => exact away S7 fun s8 J8 => ⟨_, _, J8, q7⟩
      | .brk, ⟨σ7, H7, S7, q7⟩ => exact away S7 fun s8 J8 => ⟨_, _, J8, q7⟩
      | .cont, ⟨σ7, H7, S7, q7⟩ => exact away S7 fun s8 J8 => ⟨_, _, J8, q7⟩
      | .ret u, ⟨v7, σ7, H7, S7, r7, q7⟩ => exact away S7 fun s8 J8 => ⟨_, _, _, J8, r7, q7⟩
  refine wpAny_mono ((hb (wAd X.N.length w i ts Wout D) (X.pn ++ pins) after caught PassesOwn.looking).run [] s σ H D (I.toTry _) h) (fun f s1 sp => ?_) (fun _ _ z => z)
  match f, sp with
  | .next, ⟨σ1, H1, J1, q1⟩ => exact wpAny_execs_nil ⟨σ1, H1, J1.ofTry good, q1⟩
  | .brk, ⟨σ1, H1, J1, q1⟩ => exact ⟨σ1, H1, J1.ofTry good, q1⟩
  | .cont, ⟨σ1, H1, J1, q1⟩ => exact ⟨σ1, H1, J1.ofTry good, q1⟩
  | .ret u, ⟨v1, σ1, H1, J1, r1, q1⟩ => exact ⟨v1, σ1, H1, J1.ofTry good, r1, q1⟩
end
end G
/-! own rules: caught errors asked; raise C(e); defs called where an error is handled -/
namespace G
open PySem PySem.Spec PyProof.Rows L2
/-! ### caught errors asked -/
theorem ErrL.inst {X : Cx} {pins : List (Addr × Obj)} {σ : L2.St} {H : Hp} {s : Shared} {x : V} {C : Addr} {fs : List (Str × V)} (I : Inv X pins σ H s) (e : ErrL H x C fs) :
    ∃ a ox od, x = .ref a ∧ PySem.W.InstAt s.heap a ox C od := by
  obtain ⟨a, d, rfl, ea, q⟩ := e
  obtain ⟨oe, vs, ho, hc, hd, hf⟩ := exl_at I.hok ea
  have nc : PySem.W.notCls oe = true := by
    unfold PySem.W.notCls
    rw [hf]
  cases d with
  | none => exact ⟨a, oe, none, rfl, ho, hc, nc, by rw [hd]; trivial⟩
  | some dx =>
    obtain ⟨mA, ⟨oD, es, ep, hoD, r⟩, _⟩ := (show ObjOk X.prog X.w H s.heap dx (.xd fs) from I.hok dx _ q)
    exact ⟨a, oe, some oD, rfl, ho, hc, nc, by rw [hd]; exact hoD⟩
/-- isinstance(e, c), e a caught error of the i-th of the classes cl: f i -/
def rIsL (n : Nat) (cl : Nat → Addr) (c : V) (f : Nat → Bool) : List V → Hp → VK → Prop := fun xs H Q => ∃ (x : V) (i : Nat) (fs : List (Str × V)), xs = [x, c] ∧ i < n ∧ ErrL H x (cl i) fs ∧ Q (.bl (f i)) H
theorem cr_isL {X : Cx} {n : Nat} {cl : Nat → Addr} {c : V} {cv : Value} {f : Nat → Bool} (hc : ∀ u, RelV c u → u = cv) (hx : ∀ i < n, ExcC X.K (cl i)) (hk : ∀ i < n, PySem.W.kitOne X.K (.ref (cl i)) cv = some (f i)) :
    CallR X (.builtin "isinstance") (rIsL n cl c f) := by
  intro pins s σ H xs us Q I r h
  obtain ⟨x, i, fs, rfl, hi, e, q⟩ := h
  cases r with
  | cons rx rr =>
    cases rr with
    | cons rt rr =>
      cases rr
      obtain rfl := hc _ rt
      obtain ⟨a, ox, od, rfl, J⟩ := e.inst I
      obtain rfl := (show _ = Value.ref a from rx)
      exact PySem.W.kia_one (err_kitx (hx i hi)) I.kIn ⟨ox, od, J⟩ (hk i hi) (fun z => nomatch z) fun tk => ⟨.bl (f i), H, I.kept (t' := tk) fun _ _ z => z, rfl, q⟩
def tErrFldL (n : Nat) (cl : Nat → Addr) (ok : Nat → Bool) (f : Str) (te : TE) : TE := fun σ H Q => te σ H fun x H1 => ∃ (i : Nat) (fs : List (Str × V)) (v : V), ErrL H1 x (cl i) fs ∧ i < n ∧ ok i = true ∧ fs.lookup f = some v ∧ Q v H1
theorem pe_errfldL {X : Cx} {n : Nat} {cl : Nat → Addr} {ok : Nat → Bool} {f : Str} {e : Expr} {te : TE} {pos : Pos} (hx : ∀ i < n, XfC X.K (cl i)) (hno : ∀ i < n, ok i = true → PySem.W.findIn X.K (.ref (cl i)) f = some none)
    (he : PE X e te) (hb : attributeBase e f X.env (eval e X.env) = eval e X.env := by rfl) : PE X (.Attribute e f pos) (tErrFldL n cl ok f te) := by
  refine ⟨fun pins s σ H Q I h => ?_⟩
  refine attr_of hb (thn (he.run pins s σ H _ I h) ?_)
  rintro u s1 ⟨x, H1, I1, rx, i, fs, v, ⟨a, d, rfl, ea, q0⟩, hi, ho, hl, q⟩
  obtain rfl : u = Value.ref a := rx
  obtain ⟨oe, vs, hoe, hc, hd, hf⟩ := exl_at I1.hok ea
  cases d with
  | none =>
    rw [show fs = [] from q0] at hl
    cases hl
  | some dx =>
    obtain ⟨mA, hns, hr⟩ := (show ObjOk X.prog X.w H1 s1.heap dx (.xd fs) from I1.hok dx _ q0)
    obtain ⟨oD, hoD, look⟩ := lookIn_ns hns
    obtain ⟨u, hu, ru⟩ := RelO.some_of (v := v) (o := mA f) (by rw [← hl]; exact hr f)
    have nc : PySem.W.notCls oe = true := by
      unfold PySem.W.notCls
      rw [hf]
    have J : PySem.W.InstAt s1.heap a oe (cl i) (some oD) := ⟨hoe, hc, nc, by rw [hd]; exact hoD⟩
    have T := hx i hi
    exact HandSPX.exc_get I1.kIn J T.ga T.gg T.exC (PySem.W.findObj_own T.hdC (hno i hi ho) rfl (by rw [look, hu])) (handed_of ru) ⟨v, H1, I1.tok _, ru, q⟩

/-! ### raise C(e) -/
section
variable {X : Cx} {C : Addr} {n : Nat} {gF : List V → List (Str × V)} {x : Str} {ks : List Str} {sw : Bool} {p pos : Pos} {e : Expr} {es : List Expr} {ta : TA}
/-- C(e, ..), made to be raised: its dict d stands -/
def tErrR (C : Addr) (n : Nat) (gF : List V → List (Str × V)) (ta : TA) : L2.St → Hp → XK → Prop := fun σ H Q => ta σ H fun vs H1 => vs.length = n ∧ ∀ d H2, Same H1 H2 → H2 d = some (.xd (gF vs)) → Q (.ref C) (some d) H2
theorem pmk_err (c : ErK X.prog X.w X.K X.mg X.base x C n ks sw gF) (rs : Raises X (.ref C)) (hr : Room 2 X.A) (ha : PA X (e :: es) ta) (hn : n ≤ 2) (hg : Gl X x := by rfl) (hdb : (x == ("__debug__" : Str)) = false := by decide)
    (he : starEach (e :: es) X.env = (false, eval e X.env) :: starEach es X.env := by rfl) (hpl : (backTo pos (starEach es X.env)).any (·.1) = false := by rfl) :
    PMk X (.Call (.Name x p) (e :: es) [] pos) (tErrR C n gF ta) := by
  obtain ⟨B, newId, initId, tl, fI, fd, ps, b, T, iC, tI, F, hm, hb, _⟩ := c
  intro pins s σ H Q I h
  refine wpAny_Call_Name_kw (ld_glob I hg hm ?_ hdb)
  refine PySem.W.callWith_K (h₀ := X.base) I.ok.mod.kin T.kC (thn (ha.run pos pins s σ H _ I h) ?_) he hpl
  rintro us s1 ⟨vs, H1, I1, r, l, q⟩
  have lu : us.length = n := r.length.symm.trans l
  refine ⟨I1.kIn, ?_⟩
  show wpAny _ _ (call (.ref C) us) _ _ _
  obtain ⟨hp, g, d0, tk, os⟩ := s1
  obtain ⟨nm, N, qn, bs, bm, hd, sn, sub, ab, col, dd, k0, k1, k2, k3, k5, hC, hT⟩ := PySem.W.excInit_of I1.kIn T.ei
  have kk : ∀ c o, hp.get? c = some o → ((hp.push (PySem.W.kdv_tup us)).push (PySem.HandSPX.excO C hp.objs.size)).get? c = some o :=
    fun c o e => Heap.get?_push_of_some _ (Heap.get?_push_of_some _ e)
  have hsz : hp.objs.size ≤ hp.objs.size + 1 := Nat.le_succ _
  have hnone : H1 (hp.objs.size + 1) = none := I1.hok.fresh hsz
  have hget : ((hp.push (PySem.W.kdv_tup us)).push (PySem.HandSPX.excO C hp.objs.size)).get? (hp.objs.size + 1) = some (PySem.HandSPX.excO C hp.objs.size) := by heap_get
  have I2 : Inv X pins σ (upd H1 (hp.objs.size + 1) (exo (hp.objs.size + 1) C none)) ⟨(hp.push (PySem.W.kdv_tup us)).push (PySem.HandSPX.excO C hp.objs.size), g, d0, tk, os⟩ :=
    I1.laid (t' := tk) (a := hp.objs.size + 1) (o := exo (hp.objs.size + 1) C none) kk hsz (exo_ok hget)
  have hq : spE C n gF (.ref (hp.objs.size + 1) :: vs) (upd H1 (hp.objs.size + 1) (exo (hp.objs.size + 1) C none))
      (fun v H2 => v = .non ∧ ∃ d : Addr, H2 (hp.objs.size + 1) = some (exo (hp.objs.size + 1) C (some d)) ∧ H2 d = some (exd d (gF vs)) ∧ H1 d = none ∧ Q (.ref C) (some d) (upd (del H2 (hp.objs.size + 1)) d (.xd (gF vs)))) (fun _ _ _ => False) := by
    refine ⟨_, vs, rfl, l, upd_same, fun dx H2 nd k e ed => ⟨rfl, dx, e, ed, upd_free nd, q dx _ (fun c o z => ?_) upd_same⟩⟩
    have nc : c ≠ hp.objs.size + 1 := fun w => by rw [w, hnone] at z; cases z
    have nd' : H1 dx = none := upd_free nd
    rw [upd_ne (ne_of_none z nd'), del_ne nc]
    exact k c o nc (by rw [upd_ne nc]; exact z)
  refine wpAny_call (made_call b hT hC (Nat.le_trans (Nat.le_of_eq lu) (by rw [sizeLine_eq]; omega)) (PySem.W.looks_findIn I1.kIn iC) (fun self => PySem.W.bind_fn I1.kIn self tI) ?_)
  have bind := hb ⟨(hp.push (PySem.W.kdv_tup us)).push (PySem.HandSPX.excO C hp.objs.size), g, d0, tk, os⟩ (.ref (hp.objs.size + 1) :: us) I2.kIn (by
    have := F.len _ _ _ _ hq
    rw [List.length_cons] at this
    simp only [List.append_nil, List.length_cons]
    omega)
  rw [List.append_nil] at bind
  refine codeAny_mono (F.run _ X.stack _ _ _ (Value.ref (hp.objs.size + 1) :: us) (V.ref (hp.objs.size + 1) :: vs) _ (fun _ _ _ => False) (hr.make C us []) (I2.env0.make C us []) bind (.cons rfl r) hq) ?_
  intro r' s' hq'
  match r', hq' with
  | .error er, hq' => exact pass0 (X := X) pins σ _ _ er s' I2 hq'
  | .ok .next, hq' => exact hq'.elim
  | .ok .brk, hq' => exact hq'.elim
  | .ok .cont, hq' => exact hq'.elim
  | .ok (.ret u), hq' =>
    obtain ⟨v, H2, os2, bare2, un2, hok2, rv, ev, d, ea, ed, hd1, q2⟩ := hq'
    subst ev
    obtain ⟨h2, g2, d2, t2, os'⟩ := s'
    exact ⟨rv, mk_end rs I1 hsz kk un2 hok2 os2 bare2 ea ed hd1 q2⟩
end
/-- what a def lets out that it is told to let out -/
theorem passX {P : Program} {w : World} {K : PySem.W.Frag} {mg : Str → Option Value} {base : Heap} {N : List Str} {qual : Str} {scope : Scope} {f : Addr} {cd : Value} {A : Around} {outer : List Env} {s : Shared} {H : Hp} {E : XK} :
    Passes (L2.CX P w) (cxOf (L2.CX P w) P w K mg base N qual scope f cd A outer s H E) E :=
  passes_call (takes_of rfl rfl rfl rfl) fun _ _ _ _ h => h
theorem takesX {P : Program} {w : World} {K : PySem.W.Frag} {mg : Str → Option Value} {base : Heap} {N : List Str} {qual : Str} {scope : Scope} {f : Addr} {cd : Value} {A : Around} {outer : List Env} {s : Shared} {H : Hp} {E : XK} :
    Takes (cxOf (L2.CX P w) P w K mg base N qual scope f cd A outer s H E) (fun cls d _ H => E cls d H) := takes_of rfl rfl rfl rfl

/-! ### defs called where an error is handled -/
structure FnT (P : Program) (w : World) (K : PySem.W.Frag) (mg : Str → Option Value) (base : Heap) (k : Nat) (f : Addr) (fd : FuncData) (ps : List Str) (sp : Sp) : Prop where
  len : ∀ vs H Q E, sp vs H Q E → vs.length = ps.length
  run : ∀ (A : Around) (outer : List Env) (s : Shared) (H : Hp) (args : Args) (us : List Value) (vs : List V) (Q : VK) (E : XK), L2H.RoomH k A → A.guards = some [] → Env0 P w K mg base A outer s H →
    BindsTo s fd args (ps.zip us) → Vals vs us → sp vs H Q E → codeAny (model P w) A (.call (.ref f) args) (CR CX0 outer P w H s Q E) s
/-- the context of such a def's body -/
def cxT (P : Program) (w : World) (K : PySem.W.Frag) (mg : Str → Option Value) (base : Heap) (N : List Str) (qual : Str) (scope : Scope) (f : Addr) (cd : Value) (A : Around) (outer : List Env) (s : Shared) (H : Hp) (E : XK) : Cx :=
  { cxOf CX0 P w K mg base N qual scope f cd A outer s H E with calm := false }
theorem okT {P : Program} {w : World} {K : PySem.W.Frag} {mg : Str → Option Value} {base : Heap} {k : Nat} {f : Addr}
    {fd : FuncData} {x qual : Str} {params : Arguments} {body : List Stmt} {scope : Scope} {dvs : List V} {kws : List (Str × V)}
    {N ps : List Str} {sp : Sp} (F : FunD K x qual params body scope dvs kws f fd) (S : FnScope N ps scope)
    (len : ∀ vs H Q E, sp vs H Q E → vs.length = ps.length)
    (hbody : ∀ (cdv : Value) (A : Around) (outer : List Env) (s : Shared) (H : Hp) (vs : List V) (Q : VK) (E : XK),
      L2H.RoomH k (A.deeper (envOfC qual scope s.heap.objs.size f cdv)) → A.guards = some [] → sp vs H Q E →
      ∃ t, PSs (cxT P w K mg base N qual scope f cdv A outer s H E) body t ∧
        t { nx := fun _ H' => Q .non H', rt := Q } (start N vs) H) : FnT P w K mg base (k + 1) f fd ps sp := by
  obtain ⟨oc, od, dV, kV, doc, pm, an, cdv, ct, osl, rfl, lk, hcd, _, _⟩ := F.ex
  refine ⟨len, ?_⟩
  intro A outer s H args us vs Q E hr hgd e0 hb r hsp
  have hl := len _ _ _ _ hsp
  have st := fun b o e => (e0.bs b o e).1
  have kin : K.In s.heap := e0.mod.kin.keeps st
  have hlim : s.heap.NoLimit := e0.mod.nolimit.keeps st
  have kinds : ∀ y ∈ ps.zip us, scope.names.lookup y.1 = some .local ∨
      (scope.names.lookup y.1 = some .cell ∧ ((cellsFrom (s.heap.objs.size + 1) scope.names []).lookup y.1).isSome = true) := by
    rintro ⟨n, v⟩ hy
    have hp := S.par n (List.of_mem_zip hy).1
    exact hp.imp id fun q => ⟨q, PySem.W.cellsFrom_some _ _ _ (.inl q)⟩
  refine codeAny_call_function hr.depth (kin _ _ lk) rfl S.co S.gen rfl
    (PySem.W.codeRec_of kin hcd) (hb _ _ _ _ ?_)
  refine wpAny_newFunctionEnv_cells S.kind kinds ?_
  rintro env rfl s1 x
  refine ⟨hlim.keeps x.toInCall.keep, codeAny_func ?_⟩
  obtain ⟨t, ht, hq⟩ := hbody cdv A outer s H vs Q E (hr.deeper _) hgd hsp
  have e1 : Env0 P w K mg base { A with handled := none } outer s H := ⟨e0.frames, e0.mod, e0.bs, e0.bsz, e0.funs, e0.frf, e0.hok, e0.bare⟩
  have I1 := inv_start (CX := CX0) (E := E) S rfl e1 hl r x
  have I0 : Inv (cxT P w K mg base N qual scope f cdv A outer s H E) [] (start N vs) H s1 :=
    ⟨⟨I1.ok.mod, I1.ok.kind, I1.ok.glob, I1.ok.blt, I1.ok.above, I1.ok.inj, I1.ok.has, I1.ok.cab, (fun z => Bool.noConfusion (show false = true from z)), Around.frames_deeper e0.frames, I1.ok.stk, I1.ok.exf, I1.ok.bs, I1.ok.bsz, I1.ok.noex, I1.ok.exfs, I1.ok.funs, I1.ok.frf⟩,
      I1.os, I1.bare, I1.base, I1.loc, I1.cell, I1.free, I1.freeC, I1.pin, I1.hok, I1.len⟩
  refine wpAny_mono (ht.run [] s1 (start N vs) H _ I0 hq) ?_ (fun e s' hs => hs)
  intro fl s' hs
  cases fl with
  | brk => exact (hs.choose_spec.choose_spec.2).elim
  | cont => exact (hs.choose_spec.choose_spec.2).elim
  | ret u =>
    obtain ⟨v, σ', H', J, rv, q⟩ := hs
    exact ⟨v, H', J.os, J.bare, J.base, J.hok, rv, q⟩
  | next =>
    obtain ⟨σ', H', J, q⟩ := hs
    exact ⟨V.non, H', J.os, J.bare, J.base, J.hok, rfl, q⟩
/-- the module's name x is a def that keeps sp, called where an error is handled -/
def CalT (P : Program) (w : World) (K : PySem.W.Frag) (mg : Str → Option Value) (base : Heap) (k : Nat) (x : Str) (sp : Sp) : Prop :=
  ∃ f fd ps, FnT P w K mg base k f fd ps sp ∧ mg x = some (.ref f) ∧ PySem.W.keepIn K (.ref f) = true ∧ Binds K fd ps []
theorem CalT.mk {P : Program} {w : World} {K : PySem.W.Frag} {mg : Str → Option Value} {base : Heap} {k : Nat} {x qual : Str} {f : Addr} {fd : FuncData}
    {params : Arguments} {body : List Stmt} {scope : Scope} {ps : List Str} {sp : Sp} (F : FunD K x qual params body scope [] [] f fd)
    (ok : FnT P w K mg base k f fd ps sp) (hm : mg x = some (.ref f))
    (h : ∀ (kV doc pm : Value) (an : Option Addr) (cdv ct : Value) (us : List Value), us.length = ps.length → bindArgs (PySem.W.fnOf x qual params body scope .none kV doc pm an cdv ct) ⟨us, []⟩ = pure (ps.zip us)) :
    CalT P w K mg base k x sp := ⟨f, fd, ps, ok, hm, F.kp, F.bindsN h⟩
section
variable {X : Cx} {k : Nat} {sp : Sp} {x : Str} {p pos : Pos} {e : Expr} {es : List Expr} {t : TA}
theorem pe_calT (C : CalT X.prog X.w X.K X.mg X.base k x sp) (hr : L2H.RoomH k X.A) (hgd : X.A.guards = some [])
    (ha : PA X (e :: es) t) (hg : Gl X x := by rfl) (hdb : (x == ("__debug__" : Str)) = false := by decide)
    (he : starEach (e :: es) X.env = (false, eval e X.env) :: starEach es X.env := by rfl)
    (hpl : (backTo pos (starEach es X.env)).any (·.1) = false := by rfl) :
    PE X (.Call (.Name x p) (e :: es) [] pos) (tCall sp [] E0 t) := by
  obtain ⟨f, fd, ps, F, hm, hk, hb⟩ := C
  refine ⟨?_⟩
  intro pins s σ H Q I h
  refine wpAny_Call_Name_kw (ld_glob I hg hm ?_ hdb)
  refine PySem.W.callWith_K (h₀ := X.base) I.ok.mod.kin hk ?_ he hpl
  refine thn (ha.run pos pins s σ H _ I h) ?_
  rintro us s1 ⟨vs, H1, I1, r, q⟩
  have q' : sp vs H1 Q E0 := by
    have q0 : sp (vs ++ []) H1 Q E0 := q
    rwa [List.append_nil] at q0
  have hl := (r.length.symm.trans (F.len _ _ _ _ q'))
  have b := hb s1 us I1.kIn (by rw [List.append_nil]; exact hl)
  rw [List.append_nil] at b
  refine ⟨I1.kIn, wpAny_call (codeAny_mono (F.run X.A X.stack s1 H1 ⟨us, []⟩ us vs Q E0 hr hgd I1.env0 b r q') ?_)⟩
  intro r s' hq
  match r, hq with
  | .error e, hq => exact pass0 (X := X) pins σ H1 s1 e s' I1 hq
  | .ok (.ret u), hq => exact I1.after hq
  | .ok .next, hq => exact hq.elim
  | .ok .brk, hq => exact hq.elim
  | .ok .cont, hq => exact hq.elim
theorem pe_calT0 (C : CalT X.prog X.w X.K X.mg X.base k x sp) (hr : L2H.RoomH k X.A) (hgd : X.A.guards = some [])
    (hg : Gl X x := by rfl) (hdb : (x == ("__debug__" : Str)) = false := by decide) :
    PE X (.Call (.Name x p) [] [] pos) (tCall sp [] E0 tNil) := by
  obtain ⟨f, fd, ps, F, hm, hk, hb⟩ := C
  refine ⟨?_⟩
  intro pins s σ H Q I h
  refine wpAny_Call_Name_kw (ld_glob I hg hm ?_ hdb)
  refine PySem.W.callWith_K0 I.kIn hk ?_
  have q' : sp [] H Q E0 := h
  have b := hb s [] I.kIn (F.len _ _ _ _ q')
  refine wpAny_call (codeAny_mono (F.run X.A X.stack s H ⟨[], []⟩ [] [] Q E0 hr hgd I.env0 b .nil q') ?_)
  intro r s' hq
  match r, hq with
  | .error e, hq => exact pass0 (X := X) pins σ H s e s' I hq
  | .ok (.ret u), hq => exact I.after hq
  | .ok .next, hq => exact hq.elim
  | .ok .brk, hq => exact hq.elim
  | .ok .cont, hq => exact hq.elim
end
end G
/-! own rules: the head tells of tables of code objects; the law's call where some of its defs make lambdas -/
namespace G
open PySem PySem.Spec PyProof.Rows L2
/-! ### where the code object of a global def stands, and its table -/
def codeA (K : PySem.W.Frag) (x : Str) : Addr := match K.lookup (He.ga K x) with
  | some ⟨_, _, .func fd, _⟩ => (match fd.code with
    | .ref c => c
    | _ => 0)
  | _ => 0
def tabA (K : PySem.W.Frag) (x : Str) : Addr := match K.lookup (codeA K x) with
  | some ⟨_, _, .fields vs, _⟩ => (match (vs[11]? : Option Value) with
    | some (.ref P) => P
    | _ => 0)
  | _ => 0
def isEmptyTab : Option Obj → Bool
  | some ⟨.none, none, .fields a, sl⟩ => a.isEmpty && sl.isEmpty
  | _ => false
theorem emptyTab_of {o : Option Obj} (h : isEmptyTab o = true) : o = some { cls := .none, data := .fields #[] } := by
  unfold isEmptyTab at h
  split at h
  · rename_i a sl
    obtain ⟨h1, h2⟩ := He.ba h
    rw [Array.isEmpty_iff] at h1 h2
    rw [h1, h2]
  · cases h
def valS : Value → Bool
  | .str _ _ => true
  | _ => false
def valI : Value → Bool
  | .int _ _ => true
  | _ => false
def valB : Value → Bool
  | .bool _ => true
  | _ => false
def fnCodeB (K : PySem.W.Frag) (x : Str) : Bool := match K.lookup (He.ga K x) with
  | some ⟨_, _, .func fd, _⟩ => decide (fd.code = .ref (codeA K x))
  | _ => false
def codeB (K : PySem.W.Frag) (x : Str) : Bool := match K.lookup (codeA K x) with
  | some ⟨c, _, .fields vs, _⟩ => decide (c = .type "code") && (decide (vs[11]? = some (.ref (tabA K x))) && (decide (vs.getD 11 .none = .ref (tabA K x)) &&
    (valS (vs.getD 18 .none) && (valI (vs.getD 7 .none) && (valB (vs.getD 9 .none) && (valI (vs.getD 10 .none) && decide (codeA K x ≠ tabA K x)))))))
  | _ => false
def tabB (g : Addr → Option Obj) (K : PySem.W.Frag) (x : Str) : Bool := fnCodeB K x && (codeB K x && ((K.lookup (tabA K x)).isNone && isEmptyTab (g (tabA K x))))
/-- the def x makes code objects of its own: its code object, its table, which is empty -/
structure TabK (K : PySem.W.Frag) (h : Heap) (x : Str) : Prop where
  fn : ∀ oc od fd osl, K.lookup (He.ga K x) = some ⟨oc, od, .func fd, osl⟩ → fd.code = .ref (codeA K x)
  code : PySem.W.CodeHd h (codeA K x) (tabA K x)
  tab : h.get? (tabA K x) = some { cls := .none, data := .fields #[] }
  no : K.lookup (tabA K x) = none
theorem tabK_of {K : PySem.W.Frag} {h : Heap} {x : Str} (kin : K.In h) (e : tabB h.get? K x = true) : TabK K h x := by
  obtain ⟨h1, e⟩ := He.ba e
  obtain ⟨h2, e⟩ := He.ba e
  obtain ⟨h3, h4⟩ := He.ba e
  refine ⟨?_, ?_, emptyTab_of h4, Option.isNone_iff_eq_none.mp h3⟩
  · intro oc od fd osl q
    unfold fnCodeB at h1
    rw [q] at h1
    exact of_decide_eq_true h1
  · unfold codeB at h2
    split at h2
    · rename_i c od vs sl q
      obtain ⟨a1, h2⟩ := He.ba h2
      obtain ⟨a2, h2⟩ := He.ba h2
      obtain ⟨a3, h2⟩ := He.ba h2
      obtain ⟨a4, h2⟩ := He.ba h2
      obtain ⟨a5, h2⟩ := He.ba h2
      obtain ⟨a6, h2⟩ := He.ba h2
      obtain ⟨a7, a8⟩ := He.ba h2
      obtain ⟨file, tf, z1⟩ : ∃ a b, vs.getD 18 .none = Value.str a b := by
        cases z : vs.getD 18 .none <;> rw [z] at a4 <;> first | exact ⟨_, _, rfl⟩ | cases a4
      obtain ⟨fl, tg, z2⟩ : ∃ a b, vs.getD 7 .none = Value.int a b := by
        cases z : vs.getD 7 .none <;> rw [z] at a5 <;> first | exact ⟨_, _, rfl⟩ | cases a5
      obtain ⟨inF, z3⟩ : ∃ a, vs.getD 9 .none = Value.bool a := by
        cases z : vs.getD 9 .none <;> rw [z] at a6 <;> first | exact ⟨_, rfl⟩ | cases a6
      obtain ⟨tx, tt, z4⟩ : ∃ a b, vs.getD 10 .none = Value.int a b := by
        cases z : vs.getD 10 .none <;> rw [z] at a7 <;> first | exact ⟨_, _, rfl⟩ | cases a7
      exact ⟨_, vs, file, tf, fl, tg, inF, tx, tt, kin _ _ q, of_decide_eq_true a1, rfl, of_decide_eq_true a2, of_decide_eq_true a3, z1, z2, z3, z4, of_decide_eq_true a8⟩
    · cases h2
theorem TabK.keeps {K : PySem.W.Frag} {h h' : Heap} {x : Str} (t : TabK K h x) (k : ∀ b o, h.get? b = some o → h'.get? b = some o) : TabK K h' x :=
  ⟨t.fn, t.code.keeps k, k _ _ t.tab, t.no⟩
/-! ### the hook -/
abbrev AlT : Type := AlG × Bool
section
variable (as : List Addr) (fa : List He.Fa) (fn : List He.DefD) (gs : List GetD) (ex : List (PySem.W.Frag → Bool)) (ts : List Str)
/-- what stands at some addresses -/
def frT (g : Addr → Option Obj) : PySem.W.Frag := He.frG g as
def obsKT (g : Addr → Option Obj) : AlT := (obsK fa fn gs ex (frT as g), ts.all fun x => tabB g (frT as g) x)
def valT : AlT := (valK fn gs, true)
def hookT : PySem.W.Hook where
  α := AlT
  obs := fun s => obsKT as fa fn gs ex ts s.heap.get?
  val := fun _ => valT fn gs
  says := fun _ h => ∃ K : PySem.W.Frag, K.In h ∧ SaysG fa fn gs ex K ∧ ∀ x ∈ ts, TabK K h x
  of := fun _ s e => ⟨_, He.frG_in, congrArg (fun z : AlT => z.1) e, fun x hx => tabK_of (He.frG_in) (List.all_eq_true.mp (congrArg (fun z : AlT => z.2) e) x hx)⟩
  keeps := fun _ _ _ ⟨K, hK, c, t⟩ k => ⟨K, PySem.W.Frag.In.keeps hK k, c, fun x hx => (t x hx).keeps k⟩
end
theorem obsKT_eq {as : List Addr} {fa : List He.Fa} {fn : List He.DefD} {gs : List GetD} {ex : List (PySem.W.Frag → Bool)} {ts : List Str} {g : Addr → Option Obj} {s : Shared}
    (h : ∀ a, g a = s.heap.get? a) : obsKT as fa fn gs ex ts g = (hookT as fa fn gs ex ts).obs s := by
  have e : g = s.heap.get? := funext h
  rw [e]
  rfl
/-! ### a def that makes lambdas -/
/-- okG, with the def's code object told -/
theorem okGC {P : Program} {w : World} {K : PySem.W.Frag} {mg : Str → Option Value} {base : Heap} {CX : CXT} {k : Nat} {fd : FuncData} {x qual : Str} {params : Arguments} {body : List Stmt} {scope : Scope} {dvs : List V} {kws : List (Str × V)}
    {N ps : List Str} {sp : Sp} {y : Str} (F : FunD K x qual params body scope dvs kws (He.ga K y) fd) (S : FnScope N ps scope)
    (code : ∀ oc od fd osl, K.lookup (He.ga K y) = some ⟨oc, od, .func fd, osl⟩ → fd.code = .ref (codeA K y))
    (len : ∀ vs H Q E, sp vs H Q E → vs.length = ps.length)
    (hbody : ∀ (A : Around) (outer : List Env) (s : Shared) (H : Hp) (vs : List V) (Q : VK) (E : XK),
      Room k (A.deeper (envOfC qual scope s.heap.objs.size (He.ga K y) (.ref (codeA K y)))) → A.guards = some [] → sp vs H Q E →
      ∃ t, PSs (cxOf CX P w K mg base N qual scope (He.ga K y) (.ref (codeA K y)) A outer s H E) body t ∧
        t { nx := fun _ H' => Q .non H', rt := Q } (start N vs) H) : FnG P w K mg base CX (k + 1) (He.ga K y) fd ps sp := by
  obtain ⟨oc, od, dV, kV, doc, pm, an, cdv, ct, osl, rfl, lk, hcd, _, _⟩ := F.ex
  have e : cdv = .ref (codeA K y) := code _ _ _ _ lk
  subst e
  exact fng_of lk hcd S len fun A outer s H vs Q E hr hg hsp => hbody A outer s H vs Q E hr hg hsp
/-! ### the law's call -/
section
variable {P : Program} {w : World} {K : PySem.W.Frag} {mg mb : Str → Option Value} {CX : CXT} {k : Nat}
variable {fa sa : Addr} {fd : FuncData} {x : Str} {sp : Sp} {s : Shared} {us : List Value} {ns : List Int} {ts : List Str}
/-- only the script and empty tables stand -/
def OnlyT (K : PySem.W.Frag) (ts : List Str) (sa : Addr) (H : Hp) : Prop := ∀ b, H b = none ∨ (∃ y ∈ ts, b = tabA K y ∧ H b = some (.tbl #[])) ∨ (b = sa ∧ ∃ o xs, H b = some (.frz o (.lst xs)))
theorem law_coreT (H : Hp) (only : OnlyT K ts sa H) (seq : SqL K H sa (ns.map V.int)) (ok : HOk P w H s.heap) (out : H sa ≠ none → K.lookup sa = none) (tabs : ∀ y ∈ ts, TabK K s.heap y)
    (kin : K.In s.heap) (gl : s.heap.Ns mainGlobals mg) (bl : s.heap.Ns builtinsNs mb) (bb : ∀ y : Str, y ≠ "__name__" → mb y = bootBuiltins y) (lim : s.heap.NoLimit) (gens : s.gens = #[])
    (bmn : ∃ (bm : Addr) (ob : Obj), mg "__builtins__" = some (.ref bm) ∧ bm ≠ builtinsNs ∧ s.heap.get? bm = some ob ∧ ob.cls = .type "module" ∧ ob.dict = some builtinsNs ∧ ob.data = .plain)
    (obj : s.heap.get? sa = some { cls := .type "list", data := .seq us.toArray }) (room : Room k callerA)
    (F : ∀ base : Heap, K.In base → base.Ns mainGlobals mg → (∀ y ∈ ts, LamX.TabB base mg (codeA K y) (tabA K y)) → FnG P w K mg base CX k fa fd [x] sp) (bind : ∀ (t : Shared) (u : Value), BindsTo t fd ⟨[u], []⟩ [(x, u)])
    (keeps : sp [.ref sa] H (fun v _ => v = .bl true) fun _ _ _ => False) (noX : ∀ e t, CX [] H s (fun _ _ _ => False) e t → False) :
    codeAny (model P w) callerA (.call (.ref fa) ⟨[.ref sa], []⟩) (LawEnd s) s := by
  -- what is no sequence and no empty table is not tracked
  have free : ∀ {b : Addr} {o : Obj}, s.heap.get? b = some o → (∀ i n, o.data ≠ .seq i n) → o.data ≠ .fields #[] → H b = none := by
    intro b o e d1 d2
    rcases only b with z | ⟨y, hy, rfl, z⟩ | ⟨rfl, _⟩
    · exact z
    · rw [(tabs y hy).tab] at e
      exact absurd rfl (Option.some.inj e ▸ d2)
    · rw [obj] at e
      exact absurd rfl (Option.some.inj e ▸ d1 us.toArray 0)
  have sees : ∀ {b : Addr} {m : Str → Option Value}, s.heap.Ns b m → (hidT s.heap H).Ns b m := by
    rintro b m ⟨o, es, ep, e, d, r⟩
    exact ⟨o, es, ep, hidT_get e (free e (fun i n z => by rw [d] at z; cases z) (fun z => by rw [d] at z; cases z)), d, r⟩
  have kinB : K.In (hidT s.heap H) := by
    intro b o e
    refine hidT_get (kin b o e) ?_
    rcases only b with z | ⟨y, hy, rfl, z⟩ | ⟨rfl, _, _, z⟩
    · exact z
    · rw [(tabs y hy).no] at e
      cases e
    · rw [out (by simp [z])] at e
      cases e
  obtain ⟨mc, c1, c2⟩ := id lim
  have md : Mod K mg (hidT s.heap H) := ⟨kinB, sees gl, ⟨mb, sees bl, bb⟩, mc, sees c1, c2⟩
  have tb : ∀ y ∈ ts, LamX.TabB (hidT s.heap H) mg (codeA K y) (tabA K y) := by
    intro y hy
    have t := tabs y hy
    refine ⟨?_, ?_, ?_⟩
    · obtain ⟨o, vs, file, tf, fl, tg, inF, tx, tt, e, q1, q2, q3, rest⟩ := t.code
      refine ⟨o, vs, file, tf, fl, tg, inF, tx, tt, hidT_get e (free e ?_ ?_), q1, q2, q3, rest⟩
      · intro i n z
        rw [q2] at z
        cases z
      · intro z
        rw [q2] at z
        injection z with z
        rw [z] at q3
        cases q3
    · obtain ⟨bm, ob, b1, b2, b3, b4, b5, b6⟩ := bmn
      refine ⟨bm, ob, b1, b2, ?_, ?_, hidT_get b3 (free b3 (fun i n z => by rw [b6] at z; cases z) (fun z => by rw [b6] at z; cases z)), b4, b5, b6⟩
      · rintro rfl
        obtain ⟨o, es, ep, e, d, _⟩ := gl
        rw [b3] at e
        rw [Option.some.inj e, d] at b6
        cases b6
      · rintro rfl
        rw [t.tab] at b3
        rw [← Option.some.inj b3] at b6
        cases b6
    · intro z
      obtain ⟨o, es, ep, e, d, _⟩ := gl
      rw [z, t.tab] at e
      rw [← Option.some.inj e] at d
      cases d
  have none_in : ∀ b : Addr, b ∉ ([] : List Addr) := fun b z => nomatch z
  have env : Env0 P w K mg (hidT s.heap H) callerA [] s H :=
    ⟨rfl, md, fun b o e => of_hidT e, Nat.le_of_eq (hidT_size _ _), trivial, fun b z => absurd (show b ∈ ([] : List Addr) from z) (none_in b), ok, .of_eq gens⟩
  have run := (F _ kinB (sees gl) tb).run callerA [] s H ⟨[.ref sa], []⟩ [.ref sa] [.ref sa] _ _ room rfl env (bind s (.ref sa)) (.cons rfl .nil) keeps
  refine codeAny_mono run ?_
  rintro (e | fl) t h
  · exact (noX e t h).elim
  cases fl with
  | ret u =>
    obtain ⟨v, H', os, bare, un, ok', rv, hv⟩ := h
    obtain rfl : v = V.bl true := hv
    obtain rfl : u = Value.bool true := rv
    have grown : ∀ y ∈ ts, H (tabA K y) = some (.tbl #[]) → ∃ more : Array Value, t.heap.get? (tabA K y) = some { cls := .none, data := .fields more } := fun y hy z => by
      obtain ⟨more, q⟩ := un.tbls _ _ z
      exact ⟨_, ok' _ _ q⟩
    have there : ∀ b o, s.heap.get? b = some o → (t.heap.get? b = some o) ∨ ∃ y ∈ ts, b = tabA K y ∧ H b = some (.tbl #[]) := by
      intro b o e
      rcases only b with z | z | ⟨rfl, ob, xs, z⟩
      · exact .inl (un.keep b o e z (fun z => none_in b z) (by simp))
      · exact .inr z
      · obtain ⟨e1, _⟩ := ok _ _ z
        obtain ⟨e2, _⟩ := ok' _ _ (un.frzs _ ob _ z)
        rw [e] at e1
        exact .inl ((Option.some.inj e1) ▸ e2)
    refine ⟨rfl, ⟨fun b o e => ?_, fun b o e => ?_⟩, os, bare⟩
    · rcases there b o e with z | ⟨y, hy, rfl, z⟩
      · exact .inl z
      · obtain ⟨more, q⟩ := grown y hy z
        have tt := (tabs y hy).tab
        rw [tt] at e
        obtain rfl := Option.some.inj e
        exact .inr (.inl ⟨((tabs y hy).code.tab tt).isCodeTable, rfl, #[], more, rfl, by rw [Array.empty_append]; exact q⟩)
    · rcases there b o e with z | ⟨y, hy, rfl, z⟩
      · exact ⟨o, z⟩
      · obtain ⟨more, q⟩ := grown y hy z
        exact ⟨_, q⟩
  | next => exact h.elim
  | brk => exact h.elim
  | cont => exact h.elim
/-- the heap at the call: the tables, the script where it is not written -/
def HT (K : PySem.W.Frag) (ts : List Str) (more : Hp) : Hp := fun b => if ∃ y ∈ ts, b = tabA K y then some (.tbl #[]) else more b
theorem law_callT (kin : K.In s.heap) (gl : s.heap.Ns mainGlobals mg) (bl : s.heap.Ns builtinsNs mb) (bb : ∀ y : Str, y ≠ "__name__" → mb y = bootBuiltins y) (lim : s.heap.NoLimit) (gens : s.gens = #[])
    (bmn : ∃ (bm : Addr) (ob : Obj), mg "__builtins__" = some (.ref bm) ∧ bm ≠ builtinsNs ∧ s.heap.get? bm = some ob ∧ ob.cls = .type "module" ∧ ob.dict = some builtinsNs ∧ ob.data = .plain)
    (tabs : ∀ y ∈ ts, TabK K s.heap y)
    (obj : s.heap.get? sa = some { cls := .type "list", data := .seq us.toArray }) (iv : IntsAre us ns) (fits : ns.length ≤ sizeLine) (room : Room k callerA)
    (F : ∀ base : Heap, K.In base → base.Ns mainGlobals mg → (∀ y ∈ ts, LamX.TabB base mg (codeA K y) (tabA K y)) → FnG P w K mg base CX k fa fd [x] sp) (bind : ∀ (t : Shared) (u : Value), BindsTo t fd ⟨[u], []⟩ [(x, u)])
    (keeps : ∀ H : Hp, (∀ y ∈ ts, H (tabA K y) = some (.tbl #[])) → SqL K H sa (ns.map V.int) → sp [.ref sa] H (fun v _ => v = .bl true) fun _ _ _ => False) (noX : ∀ H e t, CX [] H s (fun _ _ _ => False) e t → False) :
    codeAny (model P w) callerA (.call (.ref fa) ⟨[.ref sa], []⟩) (LawEnd s) s := by
  have vs := vals_ints iv
  have ln := iv.length
  have noT : ¬ ∃ y ∈ ts, sa = tabA K y := by
    rintro ⟨y, hy, e⟩
    have z := (tabs y hy).tab
    rw [← e, obj] at z
    cases z
  have atT : ∀ more : Hp, ∀ y ∈ ts, HT K ts more (tabA K y) = some (.tbl #[]) := fun more y hy => if_pos ⟨y, hy, rfl⟩
  have okT : ∀ (more : Hp), (∀ b u, more b = some u → ObjOk P w (HT K ts more) s.heap b u) → HOk P w (HT K ts more) s.heap := by
    intro more hm b u z
    by_cases h : ∃ y ∈ ts, b = tabA K y
    · have z1 : some (HO.tbl #[]) = some u := (if_pos h).symm.trans z
      obtain rfl := Option.some.inj z1
      obtain ⟨y, hy, rfl⟩ := h
      exact (tabs y hy).tab
    · exact hm b u ((if_neg h).symm.trans z)
  cases own : K.lookup sa with
  | some o =>
    have e := kin sa o own
    rw [obj] at e
    obtain rfl := Option.some.inj e
    have q1 : SqL K (HT K ts fun _ => none) sa (ns.map V.int) := .inr ⟨_, us.toArray, _, own, rfl, rfl, rfl, by simpa [ln] using fits, by simpa using vs⟩
    refine law_coreT _ ?_ q1 (okT _ fun b u z => nomatch z) (fun z => absurd (if_neg noT) z) tabs kin gl bl bb lim gens bmn obj room F bind (keeps _ (atT _) q1) (noX _)
    intro b
    by_cases h : ∃ y ∈ ts, b = tabA K y
    · obtain ⟨y, hy, e⟩ := h
      exact .inr (.inl ⟨y, hy, e, if_pos ⟨y, hy, e⟩⟩)
    · exact .inl (if_neg h)
  | none =>
    let H : Hp := HT K ts fun b => if b = sa then some (.frz { cls := .type "list", data := .seq us.toArray } (.lst (ns.map V.int))) else none
    have at1 : H sa = some (.frz { cls := .type "list", data := .seq us.toArray } (.lst (ns.map V.int))) := (if_neg noT).trans (if_pos rfl)
    have q1 : SqL K H sa (ns.map V.int) := .inl (.inr ⟨_, at1⟩)
    refine law_coreT H ?_ q1 (okT _ fun b u z => ?_) (fun _ => own) tabs kin gl bl bb lim gens bmn obj room F bind (keeps H (atT _) q1) (noX H)
    · intro b
      by_cases h : ∃ y ∈ ts, b = tabA K y
      · obtain ⟨y, hy, e⟩ := h
        exact .inr (.inl ⟨y, hy, e, if_pos ⟨y, hy, e⟩⟩)
      · by_cases h2 : b = sa
        · exact .inr (.inr ⟨h2, _, _, h2 ▸ at1⟩)
        · exact .inl ((if_neg h).trans (if_neg h2))
    · by_cases h2 : b = sa
      · subst h2
        have z1 := (if_pos rfl).symm.trans z
        obtain rfl := Option.some.inj z1
        exact ⟨obj, by rw [List.length_map]; exact fits, us, _, vs, obj⟩
      · have z1 := (if_neg h2).symm.trans z
        cases z1
end
/-- the walk of a law with tables -/
theorem walkT {l : PySem.W.OpenLaw} {n k : Nat} {q : Program} {loose : List Str} {XP : (Str → Option Value) → Heap → Prop} {YP : World → Heap → Prop} {d : DefRec} {CX : CXT} {x : Str} {ts : List Str}
    (most : l.most = some n) (fits : n ≤ sizeLine) (dfl : d.params.defaults = []) (room : Room k callerA)
    (F : ∀ (w : World) (mg : Str → Option Value) (fa : Addr) (h : Heap), YP w h → h.Ns mainGlobals mg → mg d.name = some (.ref fa) →
      ∃ (K : PySem.W.Frag) (fd : FuncData) (sp : Sp), K.In h ∧ (∀ y ∈ ts, TabK K h y) ∧ (∀ (s : Shared) (u : Value), BindsTo s fd ⟨[u], []⟩ [(x, u)]) ∧
        (∀ (H : Hp) (a : Addr) (ns : List Int), ns.length ≤ n → (∀ y ∈ ts, H (tabA K y) = some (.tbl #[])) → SqL K H a (ns.map V.int) → sp [.ref a] H (fun v _ => v = .bl true) fun _ _ _ => False) ∧
        ∀ base : Heap, K.In base → base.Ns mainGlobals mg → (∀ y ∈ ts, LamX.TabB base mg (codeA K y) (tabA K y)) → FnG l.prog w K mg base CX k fa fd [x] sp)
    (noX : ∀ (H : Hp) (s : Shared) (e : Value) (s' : Shared), CX [] H s (fun _ _ _ => False) e s' → False) :
    PySem.W.WalkO q loose XP YP l.row.toRowW d [] (fun f vs => PySem.call f vs) := by
  refine Att.attach_call most dfl ?_
  intro w s0 s1 mg mb fa o pm cd doc sa us ns G Y ho hd hcd hmg obj iv len gens
  obtain ⟨K, fd, sp, kin, tabs, bind, keeps, Fk⟩ := F w mg fa _ Y G.T.g hmg
  exact law_callT kin G.T.g G.T.b G.T.builtins G.T.nolimit gens G.T.bmain tabs obj iv (Nat.le_trans len fits) room Fk bind (fun H o1 q1 => keeps H sa ns len o1 q1) fun H e t => noX H s1 e t
end G
/-! plain signs: texts of data hold signs below 128 alone -/
namespace G
open PySem PySem.Spec PyProof.Rows L2
def Asc (z : Str) : Prop := ∀ c ∈ z.cps.toList, c < 128
theorem Asc.ok {z : Str} (h : Asc z) : PyData.strOk z = true := by
  unfold PyData.strOk
  rw [← Array.all_toList, List.all_eq_true]
  exact fun c hc => decide_eq_true (Nat.lt_trans (h c hc) (by decide))
theorem asc_cat {x y : Str} (h : Asc x) (h' : Asc y) : Asc (x ++ y) := by
  intro c hc
  have e : (x ++ y).cps.toList = x.cps.toList ++ y.cps.toList := by
    show (x.cps ++ y.cps).toList = _
    rw [Array.toList_append]
  rw [e] at hc
  rcases List.mem_append.mp hc with hc | hc
  · exact h c hc
  · exact h' c hc
theorem asc_char : ∀ q ∈ [34, 39], ∀ c < 128, ∀ d ∈ Builtin.Str.reprChar q c, d < 128 := by decide +kernel
theorem asc_fold (q : Nat) (hq : q ∈ [34, 39]) : ∀ (l : List Nat) (acc : Array Nat), (∀ c ∈ l, c < 128) → (∀ c ∈ acc.toList, c < 128) → ∀ c ∈ (l.foldl (fun out c => out ++ (Builtin.Str.reprChar q c).toArray) acc).toList, c < 128
  | [], acc, _, h => h
  | x :: l, acc, hl, h => by
    rw [List.foldl_cons]
    refine asc_fold q hq l _ (fun c hc => hl c (List.mem_cons_of_mem _ hc)) fun c hc => ?_
    rw [Array.toList_append] at hc
    rcases List.mem_append.mp hc with hc | hc
    · exact h c hc
    · exact asc_char q hq x (hl x List.mem_cons_self) c hc
theorem asc_repr {z : Str} (h : Asc z) : Asc (reprText z) := by
  have hq : reprQuote z ∈ [34, 39] := by
    unfold reprQuote
    split <;> simp
  intro c hc
  unfold reprText at hc
  rw [Array.toList_push] at hc
  have q128 : reprQuote z < 128 := by
    unfold reprQuote
    split <;> decide
  rcases List.mem_append.mp hc with hc | hc
  · rw [← Array.foldl_toList] at hc
    exact asc_fold _ hq _ #[reprQuote z] h (fun d hd => by
      have : d = reprQuote z := by simpa using hd
      rw [this]
      exact q128) c hc
  · have : c = reprQuote z := by simpa using hc
    rw [this]
    exact q128
theorem asc_lit {z : Str} (h : (z.cps.toList.all fun c => decide (c < 128)) = true) : Asc z := fun c hc => of_decide_eq_true (List.all_eq_true.mp h c hc)
theorem asc_from : ∀ (ts : List Str) (k : Nat) (acc : Str), (∀ t ∈ ts, Asc t) → Asc acc → Asc (textFrom k acc ts)
  | [], k, acc, _, h => h
  | t :: ts, k, acc, ht, h => by
    show Asc (textFrom (k + 1) (acc ++ (if k > 0 then ", " else "" : String) ++ t) ts)
    refine asc_from ts (k + 1) _ (fun y hy => ht y (List.mem_cons_of_mem _ hy)) (asc_cat (asc_cat h ?_) (ht t List.mem_cons_self))
    split
    · exact asc_lit (by decide +kernel)
    · exact asc_lit (by decide +kernel)
theorem asc_list {ts : List Str} (h : ∀ t ∈ ts, Asc t) : Asc (listText ts) := by
  unfold listText
  exact asc_cat (asc_from ts 0 _ h (asc_lit (by decide +kernel))) (asc_lit (by decide +kernel))
theorem asc_join : ∀ ts : List Str, (∀ t ∈ ts, Asc t) → Asc (Str.join (Str.ofString ", ") ts)
  | [], _ => fun c hc => by cases hc
  | [t], h => h t List.mem_cons_self
  | t :: u :: r, h => by
    show Asc (t ++ Str.ofString ", " ++ Str.join (Str.ofString ", ") (u :: r))
    exact asc_cat (asc_cat (h t List.mem_cons_self) (asc_lit (by decide +kernel))) (asc_join (u :: r) fun y hy => h y (List.mem_cons_of_mem _ hy))
theorem asc_tuple {ts : List Str} (h : ∀ t ∈ ts, Asc t) : Asc (tupleText ts) := by
  unfold tupleText
  split
  · exact asc_cat (asc_cat (asc_lit (by decide +kernel)) (asc_join ts h)) (asc_lit (by decide +kernel))
  · exact asc_cat (asc_cat (asc_lit (by decide +kernel)) (asc_join ts h)) (asc_lit (by decide +kernel))
theorem asc_dlist {ds : List PyData} (h : ∀ d ∈ ds, Asc d.shown) : Asc (PyData.list ds).shown := by
  rw [PyData.shown, shownAll_mapQ]
  exact asc_list fun t ht => by
    obtain ⟨d, hd, rfl⟩ := List.mem_map.mp ht
    exact h d hd
theorem asc_dtup {ds : List PyData} (h : ∀ d ∈ ds, Asc d.shown) : Asc (PyData.tuple ds).shown := by
  rw [PyData.shown, shownAll_mapQ]
  exact asc_tuple fun t ht => by
    obtain ⟨d, hd, rfl⟩ := List.mem_map.mp ht
    exact h d hd
theorem asc_dbool (b : Bool) : Asc (PyData.bool b).shown := by
  cases b <;> exact asc_lit (by decide +kernel)
theorem asc_dstr {z : Str} (h : Asc z) : Asc (PyData.str z).shown := by
  rw [PyData.shown]
  exact asc_repr h
/-- two texts in a tuple: the same, compared -/
theorem two_eqv (a b : Str) : PyData.eqv (.tuple [.str a, .str b]) (.tuple [.str a, .str b]) = true := by
  simp [PyData.eqv, PyData.eqvAll]
theorem two_shaped {a b : Str} (ha : Asc a) (hb : Asc b) : SeqAt.shaped (.tuple [.str a, .str b]) = true := by
  unfold SeqAt.shaped
  rw [Bool.and_eq_true]
  refine ⟨?_, decide_eq_true (by simp [PyData.depth, PyData.depthAll])⟩
  show (PyData.strOk a && (PyData.strOk b && true)) = true
  rw [ha.ok, hb.ok]
  rfl
end G
/-! own rules: the law's call where some of its defs make lambdas -/
namespace G
open PySem PySem.Spec PyProof.Rows L2
/-! ### the law's call -/
section
variable {P : Program} {w : World} {K : PySem.W.Frag} {mg mb : Str → Option Value} {CX : CXT} {k : Nat}
variable {fa sa : Addr} {fd : FuncData} {x : Str} {sp : Sp} {s : Shared} {us : List Value} {ns : List Int} {ts : List Str}
/-- only the script and empty tables stand -/
def OnlyS (K : PySem.W.Frag) (ts : List Str) (sa : Addr) (H : Hp) : Prop := ∀ b, H b = none ∨ (∃ y ∈ ts, b = tabA K y ∧ H b = some (.tbl #[])) ∨ (b = sa ∧ ∃ o xs, H b = some (.frz o (.lst xs)))
theorem law_coreS (H : Hp) (only : OnlyS K ts sa H) (seq : SqL K H sa (ns.map V.int)) (ok : HOk P w H s.heap) (out : H sa ≠ none → K.lookup sa = none) (tabs : ∀ y ∈ ts, TabK K s.heap y)
    (kin : K.In s.heap) (gl : s.heap.Ns mainGlobals mg) (bl : s.heap.Ns builtinsNs mb) (bb : ∀ y : Str, y ≠ "__name__" → mb y = bootBuiltins y) (lim : s.heap.NoLimit) (gens : s.gens = #[]) (smm : ∃ mm, s.heap.Ns sysModules mm)
    (bmn : ∃ (bm : Addr) (ob : Obj), mg "__builtins__" = some (.ref bm) ∧ bm ≠ builtinsNs ∧ s.heap.get? bm = some ob ∧ ob.cls = .type "module" ∧ ob.dict = some builtinsNs ∧ ob.data = .plain)
    (obj : s.heap.get? sa = some { cls := .type "list", data := .seq us.toArray }) (room : Room k callerA)
    (F : ∀ base : Heap, K.In base → base.Ns mainGlobals mg → (∀ y ∈ ts, LamX.TabB base mg (codeA K y) (tabA K y)) → (base.get? sysModules).isSome = true → FnG P w K mg base CX k fa fd [x] sp) (bind : ∀ (t : Shared) (u : Value), BindsTo t fd ⟨[u], []⟩ [(x, u)])
    (keeps : sp [.ref sa] H (fun v _ => v = .bl true) fun _ _ _ => False) (noX : ∀ e t, CX [] H s (fun _ _ _ => False) e t → False) :
    codeAny (model P w) callerA (.call (.ref fa) ⟨[.ref sa], []⟩) (LawEnd s) s := by
  -- what is no sequence and no empty table is not tracked
  have free : ∀ {b : Addr} {o : Obj}, s.heap.get? b = some o → (∀ i n, o.data ≠ .seq i n) → o.data ≠ .fields #[] → H b = none := by
    intro b o e d1 d2
    rcases only b with z | ⟨y, hy, rfl, z⟩ | ⟨rfl, _⟩
    · exact z
    · rw [(tabs y hy).tab] at e
      exact absurd rfl (Option.some.inj e ▸ d2)
    · rw [obj] at e
      exact absurd rfl (Option.some.inj e ▸ d1 us.toArray 0)
  have sees : ∀ {b : Addr} {m : Str → Option Value}, s.heap.Ns b m → (hidT s.heap H).Ns b m := by
    rintro b m ⟨o, es, ep, e, d, r⟩
    exact ⟨o, es, ep, hidT_get e (free e (fun i n z => by rw [d] at z; cases z) (fun z => by rw [d] at z; cases z)), d, r⟩
  have kinB : K.In (hidT s.heap H) := by
    intro b o e
    refine hidT_get (kin b o e) ?_
    rcases only b with z | ⟨y, hy, rfl, z⟩ | ⟨rfl, _, _, z⟩
    · exact z
    · rw [(tabs y hy).no] at e
      cases e
    · rw [out (by simp [z])] at e
      cases e
  obtain ⟨mc, c1, c2⟩ := id lim
  have md : Mod K mg (hidT s.heap H) := ⟨kinB, sees gl, ⟨mb, sees bl, bb⟩, mc, sees c1, c2⟩
  have tb : ∀ y ∈ ts, LamX.TabB (hidT s.heap H) mg (codeA K y) (tabA K y) := by
    intro y hy
    have t := tabs y hy
    refine ⟨?_, ?_, ?_⟩
    · obtain ⟨o, vs, file, tf, fl, tg, inF, tx, tt, e, q1, q2, q3, rest⟩ := t.code
      refine ⟨o, vs, file, tf, fl, tg, inF, tx, tt, hidT_get e (free e ?_ ?_), q1, q2, q3, rest⟩
      · intro i n z
        rw [q2] at z
        cases z
      · intro z
        rw [q2] at z
        injection z with z
        rw [z] at q3
        cases q3
    · obtain ⟨bm, ob, b1, b2, b3, b4, b5, b6⟩ := bmn
      refine ⟨bm, ob, b1, b2, ?_, ?_, hidT_get b3 (free b3 (fun i n z => by rw [b6] at z; cases z) (fun z => by rw [b6] at z; cases z)), b4, b5, b6⟩
      · rintro rfl
        obtain ⟨o, es, ep, e, d, _⟩ := gl
        rw [b3] at e
        rw [Option.some.inj e, d] at b6
        cases b6
      · rintro rfl
        rw [t.tab] at b3
        rw [← Option.some.inj b3] at b6
        cases b6
    · intro z
      obtain ⟨o, es, ep, e, d, _⟩ := gl
      rw [z, t.tab] at e
      rw [← Option.some.inj e] at d
      cases d
  have none_in : ∀ b : Addr, b ∉ ([] : List Addr) := fun b z => nomatch z
  have env : Env0 P w K mg (hidT s.heap H) callerA [] s H :=
    ⟨rfl, md, fun b o e => of_hidT e, Nat.le_of_eq (hidT_size _ _), trivial, fun b z => absurd (show b ∈ ([] : List Addr) from z) (none_in b), ok, .of_eq gens⟩
  have smb : ((hidT s.heap H).get? sysModules).isSome = true := by
    obtain ⟨mm, z⟩ := smm
    obtain ⟨o, es, ep, e, _⟩ := sees z
    rw [e]
    rfl
  have run := (F _ kinB (sees gl) tb smb).run callerA [] s H ⟨[.ref sa], []⟩ [.ref sa] [.ref sa] _ _ room rfl env (bind s (.ref sa)) (.cons rfl .nil) keeps
  refine codeAny_mono run ?_
  rintro (e | fl) t h
  · exact (noX e t h).elim
  cases fl with
  | ret u =>
    obtain ⟨v, H', os, bare, un, ok', rv, hv⟩ := h
    obtain rfl : v = V.bl true := hv
    obtain rfl : u = Value.bool true := rv
    have grown : ∀ y ∈ ts, H (tabA K y) = some (.tbl #[]) → ∃ more : Array Value, t.heap.get? (tabA K y) = some { cls := .none, data := .fields more } := fun y hy z => by
      obtain ⟨more, q⟩ := un.tbls _ _ z
      exact ⟨_, ok' _ _ q⟩
    have there : ∀ b o, s.heap.get? b = some o → (t.heap.get? b = some o) ∨ ∃ y ∈ ts, b = tabA K y ∧ H b = some (.tbl #[]) := by
      intro b o e
      rcases only b with z | z | ⟨rfl, ob, xs, z⟩
      · exact .inl (un.keep b o e z (fun z => none_in b z) (by simp))
      · exact .inr z
      · obtain ⟨e1, _⟩ := ok _ _ z
        obtain ⟨e2, _⟩ := ok' _ _ (un.frzs _ ob _ z)
        rw [e] at e1
        exact .inl ((Option.some.inj e1) ▸ e2)
    refine ⟨rfl, ⟨fun b o e => ?_, fun b o e => ?_⟩, os, bare⟩
    · rcases there b o e with z | ⟨y, hy, rfl, z⟩
      · exact .inl z
      · obtain ⟨more, q⟩ := grown y hy z
        have tt := (tabs y hy).tab
        rw [tt] at e
        obtain rfl := Option.some.inj e
        exact .inr (.inl ⟨((tabs y hy).code.tab tt).isCodeTable, rfl, #[], more, rfl, by rw [Array.empty_append]; exact q⟩)
    · rcases there b o e with z | ⟨y, hy, rfl, z⟩
      · exact ⟨o, z⟩
      · obtain ⟨more, q⟩ := grown y hy z
        exact ⟨_, q⟩
  | next => exact h.elim
  | brk => exact h.elim
  | cont => exact h.elim
/-- the heap at the call: the tables, the script where it is not written -/
def HTs (K : PySem.W.Frag) (ts : List Str) (more : Hp) : Hp := fun b => if ∃ y ∈ ts, b = tabA K y then some (.tbl #[]) else more b
theorem law_callS (kin : K.In s.heap) (gl : s.heap.Ns mainGlobals mg) (bl : s.heap.Ns builtinsNs mb) (bb : ∀ y : Str, y ≠ "__name__" → mb y = bootBuiltins y) (lim : s.heap.NoLimit) (gens : s.gens = #[]) (smm : ∃ mm, s.heap.Ns sysModules mm)
    (bmn : ∃ (bm : Addr) (ob : Obj), mg "__builtins__" = some (.ref bm) ∧ bm ≠ builtinsNs ∧ s.heap.get? bm = some ob ∧ ob.cls = .type "module" ∧ ob.dict = some builtinsNs ∧ ob.data = .plain)
    (tabs : ∀ y ∈ ts, TabK K s.heap y)
    (obj : s.heap.get? sa = some { cls := .type "list", data := .seq us.toArray }) (iv : IntsAre us ns) (fits : ns.length ≤ sizeLine) (room : Room k callerA)
    (F : ∀ base : Heap, K.In base → base.Ns mainGlobals mg → (∀ y ∈ ts, LamX.TabB base mg (codeA K y) (tabA K y)) → (base.get? sysModules).isSome = true → FnG P w K mg base CX k fa fd [x] sp) (bind : ∀ (t : Shared) (u : Value), BindsTo t fd ⟨[u], []⟩ [(x, u)])
    (keeps : ∀ H : Hp, (∀ y ∈ ts, H (tabA K y) = some (.tbl #[])) → SqL K H sa (ns.map V.int) → sp [.ref sa] H (fun v _ => v = .bl true) fun _ _ _ => False) (noX : ∀ H e t, CX [] H s (fun _ _ _ => False) e t → False) :
    codeAny (model P w) callerA (.call (.ref fa) ⟨[.ref sa], []⟩) (LawEnd s) s := by
  have vs := vals_ints iv
  have ln := iv.length
  have noT : ¬ ∃ y ∈ ts, sa = tabA K y := by
    rintro ⟨y, hy, e⟩
    have z := (tabs y hy).tab
    rw [← e, obj] at z
    cases z
  have atT : ∀ more : Hp, ∀ y ∈ ts, HTs K ts more (tabA K y) = some (.tbl #[]) := fun more y hy => if_pos ⟨y, hy, rfl⟩
  have okT : ∀ (more : Hp), (∀ b u, more b = some u → ObjOk P w (HTs K ts more) s.heap b u) → HOk P w (HTs K ts more) s.heap := by
    intro more hm b u z
    by_cases h : ∃ y ∈ ts, b = tabA K y
    · have z1 : some (HO.tbl #[]) = some u := (if_pos h).symm.trans z
      obtain rfl := Option.some.inj z1
      obtain ⟨y, hy, rfl⟩ := h
      exact (tabs y hy).tab
    · exact hm b u ((if_neg h).symm.trans z)
  cases own : K.lookup sa with
  | some o =>
    have e := kin sa o own
    rw [obj] at e
    obtain rfl := Option.some.inj e
    have q1 : SqL K (HTs K ts fun _ => none) sa (ns.map V.int) := .inr ⟨_, us.toArray, _, own, rfl, rfl, rfl, by simpa [ln] using fits, by simpa using vs⟩
    refine law_coreS _ ?_ q1 (okT _ fun b u z => nomatch z) (fun z => absurd (if_neg noT) z) tabs kin gl bl bb lim gens smm bmn obj room F bind (keeps _ (atT _) q1) (noX _)
    intro b
    by_cases h : ∃ y ∈ ts, b = tabA K y
    · obtain ⟨y, hy, e⟩ := h
      exact .inr (.inl ⟨y, hy, e, if_pos ⟨y, hy, e⟩⟩)
    · exact .inl (if_neg h)
  | none =>
    let H : Hp := HTs K ts fun b => if b = sa then some (.frz { cls := .type "list", data := .seq us.toArray } (.lst (ns.map V.int))) else none
    have at1 : H sa = some (.frz { cls := .type "list", data := .seq us.toArray } (.lst (ns.map V.int))) := (if_neg noT).trans (if_pos rfl)
    have q1 : SqL K H sa (ns.map V.int) := .inl (.inr ⟨_, at1⟩)
    refine law_coreS H ?_ q1 (okT _ fun b u z => ?_) (fun _ => own) tabs kin gl bl bb lim gens smm bmn obj room F bind (keeps H (atT _) q1) (noX H)
    · intro b
      by_cases h : ∃ y ∈ ts, b = tabA K y
      · obtain ⟨y, hy, e⟩ := h
        exact .inr (.inl ⟨y, hy, e, if_pos ⟨y, hy, e⟩⟩)
      · by_cases h2 : b = sa
        · exact .inr (.inr ⟨h2, _, _, h2 ▸ at1⟩)
        · exact .inl ((if_neg h).trans (if_neg h2))
    · by_cases h2 : b = sa
      · subst h2
        have z1 := (if_pos rfl).symm.trans z
        obtain rfl := Option.some.inj z1
        exact ⟨obj, by rw [List.length_map]; exact fits, us, _, vs, obj⟩
      · have z1 := (if_neg h2).symm.trans z
        cases z1
end
/-- the walk of a law with tables -/
theorem walkS {l : PySem.W.OpenLaw} {n k : Nat} {q : Program} {loose : List Str} {XP : (Str → Option Value) → Heap → Prop} {YP : World → Heap → Prop} {d : DefRec} {CX : CXT} {x : Str} {ts : List Str}
    (most : l.most = some n) (fits : n ≤ sizeLine) (dfl : d.params.defaults = []) (room : Room k callerA) (imp : importsNone q = true)
    (F : ∀ (w : World) (mg : Str → Option Value) (fa : Addr) (h : Heap), YP w h → h.Ns mainGlobals mg → mg d.name = some (.ref fa) →
      (∀ (K : PySem.W.Frag) (y : Str) (d : DefRec), K.In h → (recsOf q).find? (fun e => e.name == y) = some d → PySem.W.tabIn K y = some (codeA K y, tabA K y) → PySem.W.CodeHd h (codeA K y) (tabA K y) ∧ h.get? (tabA K y) = some { cls := .none, data := .fields #[] }) →
      ∃ (K : PySem.W.Frag) (fd : FuncData) (sp : Sp), K.In h ∧ (∀ y ∈ ts, TabK K h y) ∧ (∀ (s : Shared) (u : Value), BindsTo s fd ⟨[u], []⟩ [(x, u)]) ∧
        (∀ (H : Hp) (a : Addr) (ns : List Int), ns.length ≤ n → (∀ y ∈ ts, H (tabA K y) = some (.tbl #[])) → SqL K H a (ns.map V.int) → sp [.ref a] H (fun v _ => v = .bl true) fun _ _ _ => False) ∧
        ∀ base : Heap, K.In base → base.Ns mainGlobals mg → (∀ y ∈ ts, LamX.TabB base mg (codeA K y) (tabA K y)) → (base.get? sysModules).isSome = true → FnG l.prog w K mg base CX k fa fd [x] sp)
    (noX : ∀ (H : Hp) (s : Shared) (e : Value) (s' : Shared), CX [] H s (fun _ _ _ => False) e s' → False) :
    PySem.W.WalkO q loose XP YP l.row.toRowW d [] (fun f vs => PySem.call f vs) := by
  refine Att.attach_call most dfl ?_
  intro w s0 s1 mg mb fa o pm cd doc sa us ns G Y ho hd hcd hmg obj iv len gens
  obtain ⟨K, fd, sp, kin, tabs, bind, keeps, Fk⟩ := F w mg fa _ Y G.T.g hmg (fun K y d kin hr ht => PySem.W.tab_of G.T kin hr ht)
  obtain ⟨mm, z, _⟩ := (G.T.seer imp).mods
  exact law_callS kin G.T.g G.T.b G.T.builtins G.T.nolimit gens ⟨mm, z⟩ G.T.bmain tabs obj iv (Nat.le_trans len fits) room Fk bind (fun H o1 q1 => keeps H sa ns len o1 q1) fun H e t => noX H s1 e t
end G
namespace G
open PySem PySem.Spec PyProof.Rows L2
theorem dq_ty {K : PySem.W.Frag} {H : Hp} {x : V} {z : PyData} (h : Dq K H x z) : (∃ s, x = .str s ∧ z = .str s) ∨ ((∀ s, x ≠ .str s) ∧ ∃ t : String, t ∈ ["NoneType", "bool", "int", "list", "tuple", "dict"] ∧ TyX K H x (.type t)) := by
  cases h with
  | non => exact .inr ⟨fun s e => (by cases e), "NoneType", by decide, .base .non⟩
  | bl b => exact .inr ⟨fun s e => (by cases e), "bool", by decide, .base (.bl b)⟩
  | int i => exact .inr ⟨fun s e => (by cases e), "int", by decide, .base (.int i)⟩
  | str x => exact .inl ⟨x, rfl, rfl⟩
  | lst e _ => exact .inr ⟨fun s e => (by cases e), "list", by decide, .base (.lst e)⟩
  | tup e _ => exact .inr ⟨fun s e => (by cases e), "tuple", by decide, sqT_ty e⟩
  | dct e _ _ => exact .inr ⟨fun s e => (by cases e), "dict", by decide, .base (.dK e)⟩
theorem not_str {K : PySem.W.Frag} : ∀ t ∈ ["NoneType", "bool", "int", "list", "tuple", "dict"], PySem.W.kitOne K (.type t) (.type "str") = some false := by
  intro t ht
  simp only [List.mem_cons, List.not_mem_nil, or_false] at ht
  rcases ht with rfl | rfl | rfl | rfl | rfl | rfl <;> exact kit_ty (by decide +kernel)
end G
namespace G
open PySem PySem.Spec PyProof.Rows L2
def top (i : Nat) : Stmt := PySem.Challenge.pw_gatecrowds_k05_rows_bent.main.body.getD i (.Pass ⟨0, 0, 0, 0⟩)
abbrev s_InvalidName___init__ : Stmt := inClass (top 2) 0
abbrev n_InvalidName___init__ : List Str := ["self", "given"]
theorem sc_InvalidName___init__ : FnScope n_InvalidName___init__ ["self", "given"] (defScope s_InvalidName___init__) := ⟨rfl, rfl, rfl, by decide +kernel, rfl, by decide +kernel, by decide +kernel⟩
abbrev s_InvalidText___init__ : Stmt := inClass (top 3) 0
abbrev n_InvalidText___init__ : List Str := ["self", "given"]
theorem sc_InvalidText___init__ : FnScope n_InvalidText___init__ ["self", "given"] (defScope s_InvalidText___init__) := ⟨rfl, rfl, rfl, by decide +kernel, rfl, by decide +kernel, by decide +kernel⟩
abbrev s_InvalidFlag___init__ : Stmt := inClass (top 4) 0
abbrev n_InvalidFlag___init__ : List Str := ["self", "given"]
theorem sc_InvalidFlag___init__ : FnScope n_InvalidFlag___init__ ["self", "given"] (defScope s_InvalidFlag___init__) := ⟨rfl, rfl, rfl, by decide +kernel, rfl, by decide +kernel, by decide +kernel⟩
abbrev s_InvalidNumber___init__ : Stmt := inClass (top 5) 0
abbrev n_InvalidNumber___init__ : List Str := ["self", "given"]
theorem sc_InvalidNumber___init__ : FnScope n_InvalidNumber___init__ ["self", "given"] (defScope s_InvalidNumber___init__) := ⟨rfl, rfl, rfl, by decide +kernel, rfl, by decide +kernel, by decide +kernel⟩
abbrev s_InvalidThing___init__ : Stmt := inClass (top 6) 0
abbrev n_InvalidThing___init__ : List Str := ["self", "given"]
theorem sc_InvalidThing___init__ : FnScope n_InvalidThing___init__ ["self", "given"] (defScope s_InvalidThing___init__) := ⟨rfl, rfl, rfl, by decide +kernel, rfl, by decide +kernel, by decide +kernel⟩
abbrev s_InvalidChoice___init__ : Stmt := inClass (top 7) 0
abbrev n_InvalidChoice___init__ : List Str := ["self", "given"]
theorem sc_InvalidChoice___init__ : FnScope n_InvalidChoice___init__ ["self", "given"] (defScope s_InvalidChoice___init__) := ⟨rfl, rfl, rfl, by decide +kernel, rfl, by decide +kernel, by decide +kernel⟩
abbrev s_InvalidWish___init__ : Stmt := inClass (top 8) 0
abbrev n_InvalidWish___init__ : List Str := ["self", "given"]
theorem sc_InvalidWish___init__ : FnScope n_InvalidWish___init__ ["self", "given"] (defScope s_InvalidWish___init__) := ⟨rfl, rfl, rfl, by decide +kernel, rfl, by decide +kernel, by decide +kernel⟩
abbrev s_InvalidSet___init__ : Stmt := inClass (top 9) 0
abbrev n_InvalidSet___init__ : List Str := ["self", "given"]
theorem sc_InvalidSet___init__ : FnScope n_InvalidSet___init__ ["self", "given"] (defScope s_InvalidSet___init__) := ⟨rfl, rfl, rfl, by decide +kernel, rfl, by decide +kernel, by decide +kernel⟩
abbrev s_InvalidIndex___init__ : Stmt := inClass (top 10) 0
abbrev n_InvalidIndex___init__ : List Str := ["self", "given"]
theorem sc_InvalidIndex___init__ : FnScope n_InvalidIndex___init__ ["self", "given"] (defScope s_InvalidIndex___init__) := ⟨rfl, rfl, rfl, by decide +kernel, rfl, by decide +kernel, by decide +kernel⟩
abbrev s_NotASystem___init__ : Stmt := inClass (top 11) 0
abbrev n_NotASystem___init__ : List Str := ["self", "given"]
theorem sc_NotASystem___init__ : FnScope n_NotASystem___init__ ["self", "given"] (defScope s_NotASystem___init__) := ⟨rfl, rfl, rfl, by decide +kernel, rfl, by decide +kernel, by decide +kernel⟩
abbrev s_InvalidGates___init__ : Stmt := inClass (top 12) 0
abbrev n_InvalidGates___init__ : List Str := ["self", "index"]
theorem sc_InvalidGates___init__ : FnScope n_InvalidGates___init__ ["self", "index"] (defScope s_InvalidGates___init__) := ⟨rfl, rfl, rfl, by decide +kernel, rfl, by decide +kernel, by decide +kernel⟩
abbrev s_InvalidKinds___init__ : Stmt := inClass (top 13) 0
abbrev n_InvalidKinds___init__ : List Str := ["self", "index"]
theorem sc_InvalidKinds___init__ : FnScope n_InvalidKinds___init__ ["self", "index"] (defScope s_InvalidKinds___init__) := ⟨rfl, rfl, rfl, by decide +kernel, rfl, by decide +kernel, by decide +kernel⟩
abbrev s_InvalidRows___init__ : Stmt := inClass (top 14) 0
abbrev n_InvalidRows___init__ : List Str := ["self", "index"]
theorem sc_InvalidRows___init__ : FnScope n_InvalidRows___init__ ["self", "index"] (defScope s_InvalidRows___init__) := ⟨rfl, rfl, rfl, by decide +kernel, rfl, by decide +kernel, by decide +kernel⟩
abbrev s_InvalidMembers___init__ : Stmt := inClass (top 15) 0
abbrev n_InvalidMembers___init__ : List Str := ["self", "index"]
theorem sc_InvalidMembers___init__ : FnScope n_InvalidMembers___init__ ["self", "index"] (defScope s_InvalidMembers___init__) := ⟨rfl, rfl, rfl, by decide +kernel, rfl, by decide +kernel, by decide +kernel⟩
abbrev s_InvalidNumbers___init__ : Stmt := inClass (top 16) 0
abbrev n_InvalidNumbers___init__ : List Str := ["self", "index"]
theorem sc_InvalidNumbers___init__ : FnScope n_InvalidNumbers___init__ ["self", "index"] (defScope s_InvalidNumbers___init__) := ⟨rfl, rfl, rfl, by decide +kernel, rfl, by decide +kernel, by decide +kernel⟩
abbrev s_InvalidRun___init__ : Stmt := inClass (top 17) 0
abbrev n_InvalidRun___init__ : List Str := ["self", "index"]
theorem sc_InvalidRun___init__ : FnScope n_InvalidRun___init__ ["self", "index"] (defScope s_InvalidRun___init__) := ⟨rfl, rfl, rfl, by decide +kernel, rfl, by decide +kernel, by decide +kernel⟩
abbrev s_InvalidThings___init__ : Stmt := inClass (top 18) 0
abbrev n_InvalidThings___init__ : List Str := ["self", "index"]
theorem sc_InvalidThings___init__ : FnScope n_InvalidThings___init__ ["self", "index"] (defScope s_InvalidThings___init__) := ⟨rfl, rfl, rfl, by decide +kernel, rfl, by decide +kernel, by decide +kernel⟩
abbrev s_InvalidChanges___init__ : Stmt := inClass (top 19) 0
abbrev n_InvalidChanges___init__ : List Str := ["self", "index"]
theorem sc_InvalidChanges___init__ : FnScope n_InvalidChanges___init__ ["self", "index"] (defScope s_InvalidChanges___init__) := ⟨rfl, rfl, rfl, by decide +kernel, rfl, by decide +kernel, by decide +kernel⟩
abbrev s_UnknownName___init__ : Stmt := inClass (top 21) 0
abbrev n_UnknownName___init__ : List Str := ["self", "given"]
theorem sc_UnknownName___init__ : FnScope n_UnknownName___init__ ["self", "given"] (defScope s_UnknownName___init__) := ⟨rfl, rfl, rfl, by decide +kernel, rfl, by decide +kernel, by decide +kernel⟩
abbrev s_UnknownHand___init__ : Stmt := inClass (top 22) 0
abbrev n_UnknownHand___init__ : List Str := ["self", "given"]
theorem sc_UnknownHand___init__ : FnScope n_UnknownHand___init__ ["self", "given"] (defScope s_UnknownHand___init__) := ⟨rfl, rfl, rfl, by decide +kernel, rfl, by decide +kernel, by decide +kernel⟩
abbrev s_InUse___init__ : Stmt := inClass (top 23) 0
abbrev n_InUse___init__ : List Str := ["self", "index"]
theorem sc_InUse___init__ : FnScope n_InUse___init__ ["self", "index"] (defScope s_InUse___init__) := ⟨rfl, rfl, rfl, by decide +kernel, rfl, by decide +kernel, by decide +kernel⟩
abbrev s_TooMany___init__ : Stmt := inClass (top 25) 0
abbrev n_TooMany___init__ : List Str := ["self", "limit"]
theorem sc_TooMany___init__ : FnScope n_TooMany___init__ ["self", "limit"] (defScope s_TooMany___init__) := ⟨rfl, rfl, rfl, by decide +kernel, rfl, by decide +kernel, by decide +kernel⟩
abbrev s_Alone___init__ : Stmt := inClass (top 26) 0
abbrev n_Alone___init__ : List Str := ["self", "given"]
theorem sc_Alone___init__ : FnScope n_Alone___init__ ["self", "given"] (defScope s_Alone___init__) := ⟨rfl, rfl, rfl, by decide +kernel, rfl, by decide +kernel, by decide +kernel⟩
abbrev s_Waits___init__ : Stmt := inClass (top 27) 0
abbrev n_Waits___init__ : List Str := ["self", "hand"]
theorem sc_Waits___init__ : FnScope n_Waits___init__ ["self", "hand"] (defScope s_Waits___init__) := ⟨rfl, rfl, rfl, by decide +kernel, rfl, by decide +kernel, by decide +kernel⟩
abbrev s_Ended___init__ : Stmt := inClass (top 28) 0
abbrev n_Ended___init__ : List Str := ["self", "hand"]
theorem sc_Ended___init__ : FnScope n_Ended___init__ ["self", "hand"] (defScope s_Ended___init__) := ⟨rfl, rfl, rfl, by decide +kernel, rfl, by decide +kernel, by decide +kernel⟩
abbrev s_Broken___init__ : Stmt := inClass (top 30) 0
abbrev n_Broken___init__ : List Str := ["self", "index", "shown"]
theorem sc_Broken___init__ : FnScope n_Broken___init__ ["self", "index", "shown"] (defScope s_Broken___init__) := ⟨rfl, rfl, rfl, by decide +kernel, rfl, by decide +kernel, by decide +kernel⟩
abbrev s_is_name : Stmt := top 37
abbrev n_is_name : List Str := ["value", "sign"]
theorem sc_is_name : FnScope n_is_name ["value"] (defScope s_is_name) := ⟨rfl, rfl, rfl, by decide +kernel, rfl, by decide +kernel, by decide +kernel⟩
abbrev s_Row___init__ : Stmt := inClass (top 41) 0
abbrev n_Row___init__ : List Str := ["self", "text", "label", "word", "gate", "value", "goals"]
theorem sc_Row___init__ : FnScope n_Row___init__ ["self", "text", "label", "word", "gate", "value", "goals"] (defScope s_Row___init__) := ⟨rfl, rfl, rfl, by decide +kernel, rfl, by decide +kernel, by decide +kernel⟩
abbrev s_digit_of : Stmt := top 42
abbrev n_digit_of : List Str := ["word"]
theorem sc_digit_of : FnScope n_digit_of ["word"] (defScope s_digit_of) := ⟨rfl, rfl, rfl, by decide +kernel, rfl, by decide +kernel, by decide +kernel⟩
abbrev s_row_of_words : Stmt := top 43
abbrev n_row_of_words : List Str := ["text", "label", "words", "word", "more", "goal"]
theorem sc_row_of_words : FnScope n_row_of_words ["text", "label", "words"] (defScope s_row_of_words) := ⟨rfl, rfl, rfl, by decide +kernel, rfl, by decide +kernel, by decide +kernel⟩
abbrev s_has_right_parts : Stmt := top 44
abbrev n_has_right_parts : List Str := ["row", "at"]
theorem sc_has_right_parts : FnScope n_has_right_parts ["row"] (defScope s_has_right_parts) := ⟨rfl, rfl, rfl, by decide +kernel, rfl, by decide +kernel, by decide +kernel⟩
abbrev s_parsed_row : Stmt := top 45
abbrev n_parsed_row : List Str := ["text", "label", "sign", "rest", "row"]
theorem sc_parsed_row : FnScope n_parsed_row ["text"] (defScope s_parsed_row) := ⟨rfl, rfl, rfl, by decide +kernel, rfl, by decide +kernel, by decide +kernel⟩
abbrev s_leads_within : Stmt := top 46
abbrev n_leads_within : List Str := ["row", "many", "goal"]
theorem sc_leads_within : FnScope n_leads_within ["row", "many"] (defScope s_leads_within) := ⟨rfl, rfl, rfl, by decide +kernel, rfl, by decide +kernel, by decide +kernel⟩
abbrev s_Kind___init__ : Stmt := inClass (top 48) 0
abbrev n_Kind___init__ : List Str := ["self", "name", "rows", "many", "members"]
theorem sc_Kind___init__ : FnScope n_Kind___init__ ["self", "name", "rows", "many", "members"] (defScope s_Kind___init__) := ⟨rfl, rfl, rfl, by decide +kernel, rfl, by decide +kernel, by decide +kernel⟩
abbrev s_Kind_name : Stmt := inClass (top 48) 1
abbrev n_Kind_name : List Str := ["self"]
theorem sc_Kind_name : FnScope n_Kind_name ["self"] (defScope s_Kind_name) := ⟨rfl, rfl, rfl, by decide +kernel, rfl, by decide +kernel, by decide +kernel⟩
abbrev s_Kind_rows : Stmt := inClass (top 48) 2
abbrev n_Kind_rows : List Str := ["self"]
theorem sc_Kind_rows : FnScope n_Kind_rows ["self"] (defScope s_Kind_rows) := ⟨rfl, rfl, rfl, by decide +kernel, rfl, by decide +kernel, by decide +kernel⟩
abbrev s_Kind_many : Stmt := inClass (top 48) 3
abbrev n_Kind_many : List Str := ["self"]
theorem sc_Kind_many : FnScope n_Kind_many ["self"] (defScope s_Kind_many) := ⟨rfl, rfl, rfl, by decide +kernel, rfl, by decide +kernel, by decide +kernel⟩
abbrev s_Kind_members : Stmt := inClass (top 48) 4
abbrev n_Kind_members : List Str := ["self"]
theorem sc_Kind_members : FnScope n_Kind_members ["self"] (defScope s_Kind_members) := ⟨rfl, rfl, rfl, by decide +kernel, rfl, by decide +kernel, by decide +kernel⟩
abbrev s_Kind___eq__ : Stmt := inClass (top 48) 5
abbrev n_Kind___eq__ : List Str := ["self", "other"]
theorem sc_Kind___eq__ : FnScope n_Kind___eq__ ["self", "other"] (defScope s_Kind___eq__) := ⟨rfl, rfl, rfl, by decide +kernel, rfl, by decide +kernel, by decide +kernel⟩
abbrev s_Kind___len__ : Stmt := inClass (top 48) 6
abbrev n_Kind___len__ : List Str := ["self"]
theorem sc_Kind___len__ : FnScope n_Kind___len__ ["self"] (defScope s_Kind___len__) := ⟨rfl, rfl, rfl, by decide +kernel, rfl, by decide +kernel, by decide +kernel⟩
abbrev s_parsed_rows : Stmt := top 49
abbrev n_parsed_rows : List Str := ["rows", "found", "index", "text", "row"]
theorem sc_parsed_rows : FnScope n_parsed_rows ["rows"] (defScope s_parsed_rows) := ⟨rfl, rfl, rfl, by decide +kernel, rfl, by decide +kernel, by decide +kernel⟩
abbrev s_check_members : Stmt := top 50
abbrev n_check_members : List Str := ["members", "index", "name"]
theorem sc_check_members : FnScope n_check_members ["members"] (defScope s_check_members) := ⟨rfl, rfl, rfl, by decide +kernel, rfl, by decide +kernel, by decide +kernel⟩
abbrev s__law_pool : Stmt := top 52
abbrev n__law_pool : List Str := ["_law_script", "_law_k", "_law_cell", "_law_digits"]
theorem sc__law_pool : FnScope n__law_pool ["_law_script", "_law_k"] (defScope s__law_pool) := ⟨rfl, rfl, rfl, by decide +kernel, rfl, by decide +kernel, by decide +kernel⟩
abbrev s__law_draw : Stmt := top 53
abbrev n__law_draw : List Str := ["_law_pool_here", "_law_most", "_law_digit"]
theorem sc__law_draw : FnScope n__law_draw ["_law_pool_here", "_law_most"] (defScope s__law_draw) := ⟨rfl, rfl, rfl, by decide +kernel, rfl, by decide +kernel, by decide +kernel⟩
abbrev s__law_words : Stmt := top 54
abbrev n__law_words : List Str := ["_law_words_here"]
theorem sc__law_words : FnScope n__law_words [] (defScope s__law_words) := ⟨rfl, rfl, rfl, by decide +kernel, rfl, by decide +kernel, by decide +kernel⟩
abbrev s__law_place : Stmt := top 55
abbrev n__law_place : List Str := ["_law_e", "_law_own", "_law_bases", "_law_at"]
theorem sc__law_place : FnScope n__law_place ["_law_e"] (defScope s__law_place) := ⟨rfl, rfl, rfl, by decide +kernel, rfl, by decide +kernel, by decide +kernel⟩
abbrev s__law_kept : Stmt := top 56
abbrev n__law_kept : List Str := ["_law_e", "_law_at"]
theorem sc__law_kept : FnScope n__law_kept ["_law_e", "_law_at"] (defScope s__law_kept) := ⟨rfl, rfl, rfl, by decide +kernel, rfl, by decide +kernel, by decide +kernel⟩
abbrev s__law_caught : Stmt := top 57
abbrev n__law_caught : List Str := ["_law_act", "_law_back", "_law_e", "_law_at"]
theorem sc__law_caught : FnScope n__law_caught ["_law_act"] (defScope s__law_caught) := ⟨rfl, rfl, rfl, by decide +kernel, rfl, by decide +kernel, by decide +kernel⟩
abbrev s__law_tag : Stmt := top 58
abbrev n__law_tag : List Str := ["_law_pool_here", "_law_words_here", "_law_signs", "_law_size", "_law_k"]
theorem sc__law_tag : FnScope n__law_tag ["_law_pool_here"] (defScope s__law_tag) := ⟨rfl, rfl, rfl, by decide +kernel, rfl, by decide +kernel, by decide +kernel⟩
abbrev s__law_line : Stmt := top 59
abbrev n__law_line : List Str := ["_law_pool_here", "_law_tags", "_law_most", "_law_way", "_law_tag_here", "_law_worth", "_law_goal", "_law_mark", "_law_goals", "_law_k"]
theorem sc__law_line : FnScope n__law_line ["_law_pool_here", "_law_tags", "_law_most"] (defScope s__law_line) := ⟨rfl, rfl, rfl, by decide +kernel, rfl, by decide +kernel, by decide +kernel⟩
abbrev s__law_lines : Stmt := top 60
abbrev n__law_lines : List Str := ["_law_pool_here", "_law_tags", "_law_most", "_law_k"]
theorem sc__law_lines : FnScope n__law_lines ["_law_pool_here", "_law_tags"] (defScope s__law_lines) := ⟨rfl, rfl, rfl, by decide +kernel, rfl, by decide +kernel, by decide +kernel⟩
abbrev s__law_is_tag : Stmt := top 61
abbrev n__law_is_tag : List Str := ["_law_thing", "_law_sign_here"]
theorem sc__law_is_tag : FnScope n__law_is_tag ["_law_thing"] (defScope s__law_is_tag) := ⟨rfl, rfl, rfl, by decide +kernel, rfl, by decide +kernel, by decide +kernel⟩
abbrev s__law_is_place : Stmt := top 62
abbrev n__law_is_place : List Str := ["_law_word", "_law_most", "_law_k"]
theorem sc__law_is_place : FnScope n__law_is_place ["_law_word", "_law_most"] (defScope s__law_is_place) := ⟨rfl, rfl, rfl, by decide +kernel, rfl, by decide +kernel, by decide +kernel⟩
abbrev s__law_bare : Stmt := top 63
abbrev n__law_bare : List Str := ["_law_line_here", "_law_words_here"]
theorem sc__law_bare : FnScope n__law_bare ["_law_line_here"] (defScope s__law_bare) := ⟨rfl, rfl, rfl, by decide +kernel, rfl, by decide +kernel, by decide +kernel⟩
abbrev s__law_is_line : Stmt := top 64
abbrev n__law_is_line : List Str := ["_law_thing", "_law_most", "_law_words_here", "_law_word", "_law_more", "_law_part", "_law_k"]
theorem sc__law_is_line : FnScope n__law_is_line ["_law_thing", "_law_most"] (defScope s__law_is_line) := ⟨rfl, rfl, rfl, by decide +kernel, rfl, by decide +kernel, by decide +kernel⟩
abbrev s__law_sign : Stmt := top 65
abbrev n__law_sign : List Str := ["_law_pool_here", "_law_signs"]
theorem sc__law_sign : FnScope n__law_sign ["_law_pool_here"] (defScope s__law_sign) := ⟨rfl, rfl, rfl, by decide +kernel, rfl, by decide +kernel, by decide +kernel⟩
abbrev s__law_bent_line : Stmt := top 66
abbrev n__law_bent_line : List Str := ["_law_pool_here", "_law_line_here", "_law_way", "_law_at", "_law_sign_here", "_law_words_here", "_law_which", "_law_on", "_law_menu"]
theorem sc__law_bent_line : FnScope n__law_bent_line ["_law_pool_here", "_law_line_here"] (defScope s__law_bent_line) := ⟨rfl, rfl, rfl, by decide +kernel, rfl, by decide +kernel, by decide +kernel⟩
abbrev s__law_spoiled : Stmt := top 67
abbrev n__law_spoiled : List Str := ["_law_pool_here", "_law_lines_here", "_law_way", "_law_at", "_law_which", "_law_thing"]
theorem sc__law_spoiled : FnScope n__law_spoiled ["_law_pool_here", "_law_lines_here"] (defScope s__law_spoiled) := ⟨rfl, rfl, rfl, by decide +kernel, rfl, by decide +kernel, by decide +kernel⟩
abbrev s__law_asked : Stmt := top 68
abbrev n__law_asked : List Str := ["_law_lines_here", "_law_wrong", "_law_k", "_law_told"]
theorem sc__law_asked : FnScope n__law_asked ["_law_lines_here"] (defScope s__law_asked) := ⟨rfl, rfl, rfl, by decide +kernel, rfl, by decide +kernel, by decide +kernel⟩
abbrev s__law_right : Stmt := top 69
abbrev n__law_right : List Str := ["_law_pool_here", "_law_tags", "_law_lines_here", "_law_turn"]
theorem sc__law_right : FnScope n__law_right ["_law_pool_here"] (defScope s__law_right) := ⟨rfl, rfl, rfl, by decide +kernel, rfl, by decide +kernel, by decide +kernel⟩
abbrev s_law : Stmt := top 70
abbrev n_law : List Str := ["_law_script", "_law_some", "_law_line_here", "_law_k", "_law_pool_here", "_law_turn"]
theorem sc_law : FnScope n_law ["_law_script"] (defScope s_law) := ⟨rfl, rfl, rfl, by decide +kernel, rfl, by decide +kernel, by decide +kernel⟩
/-- the keyword-only default x of the def at f, if it is an object -/
def kwdAt (f : Str × Option Str) (x : Str) (K : PySem.W.Frag) : Addr := match K.lookup (He.fAd K f) with
  | some ⟨_, _, .func fd, _⟩ => (match fd.kwdefaults with
    | .ref D => (match PySem.W.nsIn K D x with
      | some (some (.ref a)) => a
      | _ => 0)
    | _ => 0)
  | _ => 0
/-- the classes of errors, in their order -/
def nmE (i : Nat) : Str := (["InvalidName", "InvalidText", "InvalidFlag", "InvalidNumber", "InvalidThing", "InvalidChoice", "InvalidWish", "InvalidSet", "InvalidIndex", "NotASystem", "InvalidGates", "InvalidKinds", "InvalidRows", "InvalidMembers", "InvalidNumbers", "InvalidRun", "InvalidThings", "InvalidChanges", "UnknownName", "UnknownHand", "InUse", "TooMany", "Alone", "Waits", "Ended", "NothingToUndo", "Broken"] : List Str).getD i ""
def exB (c : Str) (K : PySem.W.Frag) : Bool := xfB K (He.ga K c) &&
  (decide (PySem.W.findIn K (.ref (He.ga K c)) "__class__" = some (some (.builtin "object.__class__"))) &&
  (decide (PySem.W.specialIn K (.builtin "object.__class__") "__get__" = some (some (.builtin "getset_descriptor.__get__"))) &&
  (decide (PySem.W.takesIn K (.builtin "object.__class__") = some true) &&
  decide (PySem.W.mroIn K (He.ga K c) (.type "object") = some true))))
theorem ex_of {c : Str} {K : PySem.W.Frag} (h : exB c K = true) : ExcC K (He.ga K c) ∧ XfC K (He.ga K c) := by
  obtain ⟨h5, h⟩ := He.ba h
  obtain ⟨h6, h⟩ := He.ba h
  obtain ⟨h7, h⟩ := He.ba h
  obtain ⟨h8, h9⟩ := He.ba h
  have x := xfB_ok h5
  exact ⟨⟨x.ga, x.gg, x.exC, x.hdC, of_decide_eq_true h6, of_decide_eq_true h7, of_decide_eq_true h8, of_decide_eq_true h9⟩, x⟩
def er0B (c : Str) (b : String) (K : PySem.W.Frag) : Bool := PySem.W.excIn K (He.ga K c) (tlE b) (b ++ ".__new__") && PySem.W.keepIn K (.ref (He.ga K c))
theorem er0_of {c : Str} {b : String} {K : PySem.W.Frag} (h : er0B c b K = true) : PySem.W.excIn K (He.ga K c) (tlE b) (b ++ ".__new__") = true ∧ PySem.W.keepIn K (.ref (He.ga K c)) = true := He.ba h
theorem all_of {n : Nat} {f : Nat → Bool} {p : Nat → Prop} (h : (List.range n).all f = true) (g : ∀ i, f i = true → p i) : ∀ i < n, p i :=
  fun i hi => g i (List.all_eq_true.mp h i (List.mem_range.mpr hi))
def d_InvalidName___init__ : He.DefD := ⟨("InvalidName", some "__init__"), "__init__", "InvalidName.__init__", defArgs s_InvalidName___init__, defBody s_InvalidName___init__, defScope s_InvalidName___init__, [], []⟩
def d_InvalidText___init__ : He.DefD := ⟨("InvalidText", some "__init__"), "__init__", "InvalidText.__init__", defArgs s_InvalidText___init__, defBody s_InvalidText___init__, defScope s_InvalidText___init__, [], []⟩
def d_InvalidFlag___init__ : He.DefD := ⟨("InvalidFlag", some "__init__"), "__init__", "InvalidFlag.__init__", defArgs s_InvalidFlag___init__, defBody s_InvalidFlag___init__, defScope s_InvalidFlag___init__, [], []⟩
def d_InvalidNumber___init__ : He.DefD := ⟨("InvalidNumber", some "__init__"), "__init__", "InvalidNumber.__init__", defArgs s_InvalidNumber___init__, defBody s_InvalidNumber___init__, defScope s_InvalidNumber___init__, [], []⟩
def d_InvalidThing___init__ : He.DefD := ⟨("InvalidThing", some "__init__"), "__init__", "InvalidThing.__init__", defArgs s_InvalidThing___init__, defBody s_InvalidThing___init__, defScope s_InvalidThing___init__, [], []⟩
def d_InvalidChoice___init__ : He.DefD := ⟨("InvalidChoice", some "__init__"), "__init__", "InvalidChoice.__init__", defArgs s_InvalidChoice___init__, defBody s_InvalidChoice___init__, defScope s_InvalidChoice___init__, [], []⟩
def d_InvalidWish___init__ : He.DefD := ⟨("InvalidWish", some "__init__"), "__init__", "InvalidWish.__init__", defArgs s_InvalidWish___init__, defBody s_InvalidWish___init__, defScope s_InvalidWish___init__, [], []⟩
def d_InvalidSet___init__ : He.DefD := ⟨("InvalidSet", some "__init__"), "__init__", "InvalidSet.__init__", defArgs s_InvalidSet___init__, defBody s_InvalidSet___init__, defScope s_InvalidSet___init__, [], []⟩
def d_InvalidIndex___init__ : He.DefD := ⟨("InvalidIndex", some "__init__"), "__init__", "InvalidIndex.__init__", defArgs s_InvalidIndex___init__, defBody s_InvalidIndex___init__, defScope s_InvalidIndex___init__, [], []⟩
def d_NotASystem___init__ : He.DefD := ⟨("NotASystem", some "__init__"), "__init__", "NotASystem.__init__", defArgs s_NotASystem___init__, defBody s_NotASystem___init__, defScope s_NotASystem___init__, [], []⟩
def d_InvalidGates___init__ : He.DefD := ⟨("InvalidGates", some "__init__"), "__init__", "InvalidGates.__init__", defArgs s_InvalidGates___init__, defBody s_InvalidGates___init__, defScope s_InvalidGates___init__, [], []⟩
def d_InvalidKinds___init__ : He.DefD := ⟨("InvalidKinds", some "__init__"), "__init__", "InvalidKinds.__init__", defArgs s_InvalidKinds___init__, defBody s_InvalidKinds___init__, defScope s_InvalidKinds___init__, [], []⟩
def d_InvalidRows___init__ : He.DefD := ⟨("InvalidRows", some "__init__"), "__init__", "InvalidRows.__init__", defArgs s_InvalidRows___init__, defBody s_InvalidRows___init__, defScope s_InvalidRows___init__, [], []⟩
def d_InvalidMembers___init__ : He.DefD := ⟨("InvalidMembers", some "__init__"), "__init__", "InvalidMembers.__init__", defArgs s_InvalidMembers___init__, defBody s_InvalidMembers___init__, defScope s_InvalidMembers___init__, [], []⟩
def d_InvalidNumbers___init__ : He.DefD := ⟨("InvalidNumbers", some "__init__"), "__init__", "InvalidNumbers.__init__", defArgs s_InvalidNumbers___init__, defBody s_InvalidNumbers___init__, defScope s_InvalidNumbers___init__, [], []⟩
def d_InvalidRun___init__ : He.DefD := ⟨("InvalidRun", some "__init__"), "__init__", "InvalidRun.__init__", defArgs s_InvalidRun___init__, defBody s_InvalidRun___init__, defScope s_InvalidRun___init__, [], []⟩
def d_InvalidThings___init__ : He.DefD := ⟨("InvalidThings", some "__init__"), "__init__", "InvalidThings.__init__", defArgs s_InvalidThings___init__, defBody s_InvalidThings___init__, defScope s_InvalidThings___init__, [], []⟩
def d_InvalidChanges___init__ : He.DefD := ⟨("InvalidChanges", some "__init__"), "__init__", "InvalidChanges.__init__", defArgs s_InvalidChanges___init__, defBody s_InvalidChanges___init__, defScope s_InvalidChanges___init__, [], []⟩
def d_UnknownName___init__ : He.DefD := ⟨("UnknownName", some "__init__"), "__init__", "UnknownName.__init__", defArgs s_UnknownName___init__, defBody s_UnknownName___init__, defScope s_UnknownName___init__, [], []⟩
def d_UnknownHand___init__ : He.DefD := ⟨("UnknownHand", some "__init__"), "__init__", "UnknownHand.__init__", defArgs s_UnknownHand___init__, defBody s_UnknownHand___init__, defScope s_UnknownHand___init__, [], []⟩
def d_InUse___init__ : He.DefD := ⟨("InUse", some "__init__"), "__init__", "InUse.__init__", defArgs s_InUse___init__, defBody s_InUse___init__, defScope s_InUse___init__, [], []⟩
def d_TooMany___init__ : He.DefD := ⟨("TooMany", some "__init__"), "__init__", "TooMany.__init__", defArgs s_TooMany___init__, defBody s_TooMany___init__, defScope s_TooMany___init__, [], []⟩
def d_Alone___init__ : He.DefD := ⟨("Alone", some "__init__"), "__init__", "Alone.__init__", defArgs s_Alone___init__, defBody s_Alone___init__, defScope s_Alone___init__, [], []⟩
def d_Waits___init__ : He.DefD := ⟨("Waits", some "__init__"), "__init__", "Waits.__init__", defArgs s_Waits___init__, defBody s_Waits___init__, defScope s_Waits___init__, [], []⟩
def d_Ended___init__ : He.DefD := ⟨("Ended", some "__init__"), "__init__", "Ended.__init__", defArgs s_Ended___init__, defBody s_Ended___init__, defScope s_Ended___init__, [], []⟩
def d_Broken___init__ : He.DefD := ⟨("Broken", some "__init__"), "__init__", "Broken.__init__", defArgs s_Broken___init__, defBody s_Broken___init__, defScope s_Broken___init__, [], []⟩
def d_is_name : He.DefD := ⟨("is_name", none), "is_name", "is_name", defArgs s_is_name, defBody s_is_name, defScope s_is_name, [], []⟩
def d_Row___init__ : He.DefD := ⟨("Row", some "__init__"), "__init__", "Row.__init__", defArgs s_Row___init__, defBody s_Row___init__, defScope s_Row___init__, [], [("gate", .non), ("value", .non), ("goals", .adr (kwdAt ("Row", some "__init__") "goals"))]⟩
def d_digit_of : He.DefD := ⟨("digit_of", none), "digit_of", "digit_of", defArgs s_digit_of, defBody s_digit_of, defScope s_digit_of, [], []⟩
def d_row_of_words : He.DefD := ⟨("row_of_words", none), "row_of_words", "row_of_words", defArgs s_row_of_words, defBody s_row_of_words, defScope s_row_of_words, [], []⟩
def d_has_right_parts : He.DefD := ⟨("has_right_parts", none), "has_right_parts", "has_right_parts", defArgs s_has_right_parts, defBody s_has_right_parts, defScope s_has_right_parts, [], []⟩
def d_parsed_row : He.DefD := ⟨("parsed_row", none), "parsed_row", "parsed_row", defArgs s_parsed_row, defBody s_parsed_row, defScope s_parsed_row, [], []⟩
def d_leads_within : He.DefD := ⟨("leads_within", none), "leads_within", "leads_within", defArgs s_leads_within, defBody s_leads_within, defScope s_leads_within, [], []⟩
def d_Kind___init__ : He.DefD := ⟨("Kind", some "__init__"), "__init__", "Kind.__init__", defArgs s_Kind___init__, defBody s_Kind___init__, defScope s_Kind___init__, [], [("many", .bl false), ("members", .adr (kwdAt ("Kind", some "__init__") "members"))]⟩
def d_Kind___eq__ : He.DefD := ⟨("Kind", some "__eq__"), "__eq__", "Kind.__eq__", defArgs s_Kind___eq__, defBody s_Kind___eq__, defScope s_Kind___eq__, [], []⟩
def d_Kind___len__ : He.DefD := ⟨("Kind", some "__len__"), "__len__", "Kind.__len__", defArgs s_Kind___len__, defBody s_Kind___len__, defScope s_Kind___len__, [], []⟩
def d_parsed_rows : He.DefD := ⟨("parsed_rows", none), "parsed_rows", "parsed_rows", defArgs s_parsed_rows, defBody s_parsed_rows, defScope s_parsed_rows, [], []⟩
def d_check_members : He.DefD := ⟨("check_members", none), "check_members", "check_members", defArgs s_check_members, defBody s_check_members, defScope s_check_members, [], []⟩
def d__law_pool : He.DefD := ⟨("_law_pool", none), "_law_pool", "_law_pool", defArgs s__law_pool, defBody s__law_pool, defScope s__law_pool, [], []⟩
def d__law_draw : He.DefD := ⟨("_law_draw", none), "_law_draw", "_law_draw", defArgs s__law_draw, defBody s__law_draw, defScope s__law_draw, [], []⟩
def d__law_words : He.DefD := ⟨("_law_words", none), "_law_words", "_law_words", defArgs s__law_words, defBody s__law_words, defScope s__law_words, [], []⟩
def d__law_place : He.DefD := ⟨("_law_place", none), "_law_place", "_law_place", defArgs s__law_place, defBody s__law_place, defScope s__law_place, [], []⟩
def d__law_kept : He.DefD := ⟨("_law_kept", none), "_law_kept", "_law_kept", defArgs s__law_kept, defBody s__law_kept, defScope s__law_kept, [], []⟩
def d__law_caught : He.DefD := ⟨("_law_caught", none), "_law_caught", "_law_caught", defArgs s__law_caught, defBody s__law_caught, defScope s__law_caught, [], []⟩
def d__law_tag : He.DefD := ⟨("_law_tag", none), "_law_tag", "_law_tag", defArgs s__law_tag, defBody s__law_tag, defScope s__law_tag, [], []⟩
def d__law_line : He.DefD := ⟨("_law_line", none), "_law_line", "_law_line", defArgs s__law_line, defBody s__law_line, defScope s__law_line, [], []⟩
def d__law_lines : He.DefD := ⟨("_law_lines", none), "_law_lines", "_law_lines", defArgs s__law_lines, defBody s__law_lines, defScope s__law_lines, [], []⟩
def d__law_is_tag : He.DefD := ⟨("_law_is_tag", none), "_law_is_tag", "_law_is_tag", defArgs s__law_is_tag, defBody s__law_is_tag, defScope s__law_is_tag, [], []⟩
def d__law_is_place : He.DefD := ⟨("_law_is_place", none), "_law_is_place", "_law_is_place", defArgs s__law_is_place, defBody s__law_is_place, defScope s__law_is_place, [], []⟩
def d__law_bare : He.DefD := ⟨("_law_bare", none), "_law_bare", "_law_bare", defArgs s__law_bare, defBody s__law_bare, defScope s__law_bare, [], []⟩
def d__law_is_line : He.DefD := ⟨("_law_is_line", none), "_law_is_line", "_law_is_line", defArgs s__law_is_line, defBody s__law_is_line, defScope s__law_is_line, [], []⟩
def d__law_sign : He.DefD := ⟨("_law_sign", none), "_law_sign", "_law_sign", defArgs s__law_sign, defBody s__law_sign, defScope s__law_sign, [], []⟩
def d__law_bent_line : He.DefD := ⟨("_law_bent_line", none), "_law_bent_line", "_law_bent_line", defArgs s__law_bent_line, defBody s__law_bent_line, defScope s__law_bent_line, [], []⟩
def d__law_spoiled : He.DefD := ⟨("_law_spoiled", none), "_law_spoiled", "_law_spoiled", defArgs s__law_spoiled, defBody s__law_spoiled, defScope s__law_spoiled, [], []⟩
def d__law_asked : He.DefD := ⟨("_law_asked", none), "_law_asked", "_law_asked", defArgs s__law_asked, defBody s__law_asked, defScope s__law_asked, [], []⟩
def d__law_right : He.DefD := ⟨("_law_right", none), "_law_right", "_law_right", defArgs s__law_right, defBody s__law_right, defScope s__law_right, [], []⟩
def d_law : He.DefD := ⟨("law", none), "law", "law", defArgs s_law, defBody s_law, defScope s_law, [], []⟩
structure Tx (K : PySem.W.Frag) (mg : Str → Option Value) : Prop where
  f_isinstance : mg "isinstance" = none
  f_str : mg "str" = none
  f_len : mg "len" = none
  f_all : mg "all" = none
  f_int : mg "int" = none
  f_tuple : mg "tuple" = none
  f_range : mg "range" = none
  f_enumerate : mg "enumerate" = none
  f_sum : mg "sum" = none
  f_abs : mg "abs" = none
  f_divmod : mg "divmod" = none
  f_ValueError : mg "ValueError" = none
  f_LookupError : mg "LookupError" = none
  f_ArithmeticError : mg "ArithmeticError" = none
  f_repr : mg "repr" = none
  f_min : mg "min" = none
  f_max : mg "max" = none
  g_MOST_ROWS : ∃ u, mg "MOST_ROWS" = some u ∧ RelV (.int 10) u
  g_MOST_VALUE : ∃ u, mg "MOST_VALUE" = some u ∧ RelV (.int 3) u
  g_LONGEST_NAME : ∃ u, mg "LONGEST_NAME" = some u ∧ RelV (.int 8) u
  g_LETTERS : ∃ u, mg "LETTERS" = some u ∧ RelV (.str "abcdefghijklmnopqrstuvwxyz") u
  g_SIGNS : ∃ u, mg "SIGNS" = some u ∧ RelV (.str "abcdefghijklmnopqrstuvwxyz0123456789") u
  g_DIGITS : ∃ u, mg "DIGITS" = some u ∧ RelV (.str "0123456789") u
  g_MOST_GOALS : ∃ u, mg "MOST_GOALS" = some u ∧ RelV (.int 4) u
  g_WrongValue : ∃ u, mg "WrongValue" = some u ∧ RelV (.ref (He.ga K "WrongValue")) u
  g_InvalidName : ∃ u, mg "InvalidName" = some u ∧ RelV (.ref (He.ga K "InvalidName")) u
  g_InvalidText : ∃ u, mg "InvalidText" = some u ∧ RelV (.ref (He.ga K "InvalidText")) u
  g_InvalidFlag : ∃ u, mg "InvalidFlag" = some u ∧ RelV (.ref (He.ga K "InvalidFlag")) u
  g_InvalidNumber : ∃ u, mg "InvalidNumber" = some u ∧ RelV (.ref (He.ga K "InvalidNumber")) u
  g_InvalidThing : ∃ u, mg "InvalidThing" = some u ∧ RelV (.ref (He.ga K "InvalidThing")) u
  g_InvalidChoice : ∃ u, mg "InvalidChoice" = some u ∧ RelV (.ref (He.ga K "InvalidChoice")) u
  g_InvalidWish : ∃ u, mg "InvalidWish" = some u ∧ RelV (.ref (He.ga K "InvalidWish")) u
  g_InvalidSet : ∃ u, mg "InvalidSet" = some u ∧ RelV (.ref (He.ga K "InvalidSet")) u
  g_InvalidIndex : ∃ u, mg "InvalidIndex" = some u ∧ RelV (.ref (He.ga K "InvalidIndex")) u
  g_NotASystem : ∃ u, mg "NotASystem" = some u ∧ RelV (.ref (He.ga K "NotASystem")) u
  g_InvalidGates : ∃ u, mg "InvalidGates" = some u ∧ RelV (.ref (He.ga K "InvalidGates")) u
  g_InvalidKinds : ∃ u, mg "InvalidKinds" = some u ∧ RelV (.ref (He.ga K "InvalidKinds")) u
  g_InvalidRows : ∃ u, mg "InvalidRows" = some u ∧ RelV (.ref (He.ga K "InvalidRows")) u
  g_InvalidMembers : ∃ u, mg "InvalidMembers" = some u ∧ RelV (.ref (He.ga K "InvalidMembers")) u
  g_InvalidNumbers : ∃ u, mg "InvalidNumbers" = some u ∧ RelV (.ref (He.ga K "InvalidNumbers")) u
  g_InvalidRun : ∃ u, mg "InvalidRun" = some u ∧ RelV (.ref (He.ga K "InvalidRun")) u
  g_InvalidThings : ∃ u, mg "InvalidThings" = some u ∧ RelV (.ref (He.ga K "InvalidThings")) u
  g_InvalidChanges : ∃ u, mg "InvalidChanges" = some u ∧ RelV (.ref (He.ga K "InvalidChanges")) u
  g_WrongName : ∃ u, mg "WrongName" = some u ∧ RelV (.ref (He.ga K "WrongName")) u
  g_UnknownName : ∃ u, mg "UnknownName" = some u ∧ RelV (.ref (He.ga K "UnknownName")) u
  g_UnknownHand : ∃ u, mg "UnknownHand" = some u ∧ RelV (.ref (He.ga K "UnknownHand")) u
  g_InUse : ∃ u, mg "InUse" = some u ∧ RelV (.ref (He.ga K "InUse")) u
  g_NoAnswer : ∃ u, mg "NoAnswer" = some u ∧ RelV (.ref (He.ga K "NoAnswer")) u
  g_TooMany : ∃ u, mg "TooMany" = some u ∧ RelV (.ref (He.ga K "TooMany")) u
  g_Alone : ∃ u, mg "Alone" = some u ∧ RelV (.ref (He.ga K "Alone")) u
  g_Waits : ∃ u, mg "Waits" = some u ∧ RelV (.ref (He.ga K "Waits")) u
  g_Ended : ∃ u, mg "Ended" = some u ∧ RelV (.ref (He.ga K "Ended")) u
  g_NothingToUndo : ∃ u, mg "NothingToUndo" = some u ∧ RelV (.ref (He.ga K "NothingToUndo")) u
  g_Broken : ∃ u, mg "Broken" = some u ∧ RelV (.ref (He.ga K "Broken")) u
  g_Row : ∃ u, mg "Row" = some u ∧ RelV (.ref (He.ga K "Row")) u
  c_Row : Cls K (He.ga K "Row")
  na_Row_goal : NoAttr K (He.ga K "Row") "goal"
  na_Row_text : NoAttr K (He.ga K "Row") "text"
  na_Row_label : NoAttr K (He.ga K "Row") "label"
  na_Row_word : NoAttr K (He.ga K "Row") "word"
  na_Row_gate : NoAttr K (He.ga K "Row") "gate"
  na_Row_value : NoAttr K (He.ga K "Row") "value"
  na_Row_goals : NoAttr K (He.ga K "Row") "goals"
  mk_Row : Mk K (He.ga K "Row") (He.ma K (He.ga K "Row") "__init__")
  g_Kind : ∃ u, mg "Kind" = some u ∧ RelV (.ref (He.ga K "Kind")) u
  c_Kind : Cls K (He.ga K "Kind")
  na_Kind_called : NoAttr K (He.ga K "Kind") "called"
  na_Kind_texts : NoAttr K (He.ga K "Kind") "texts"
  na_Kind_parsed : NoAttr K (He.ga K "Kind") "parsed"
  na_Kind_any_number : NoAttr K (He.ga K "Kind") "any_number"
  na_Kind_begun : NoAttr K (He.ga K "Kind") "begun"
  mk_Kind : Mk K (He.ga K "Kind") (He.ma K (He.ga K "Kind") "__init__")
  n_is_name : mg "is_name" = some (.ref (He.ga K "is_name"))
  n_digit_of : mg "digit_of" = some (.ref (He.ga K "digit_of"))
  n_row_of_words : mg "row_of_words" = some (.ref (He.ga K "row_of_words"))
  n_has_right_parts : mg "has_right_parts" = some (.ref (He.ga K "has_right_parts"))
  n_parsed_row : mg "parsed_row" = some (.ref (He.ga K "parsed_row"))
  n_leads_within : mg "leads_within" = some (.ref (He.ga K "leads_within"))
  n_parsed_rows : mg "parsed_rows" = some (.ref (He.ga K "parsed_rows"))
  n_check_members : mg "check_members" = some (.ref (He.ga K "check_members"))
  n__law_pool : mg "_law_pool" = some (.ref (He.ga K "_law_pool"))
  n__law_draw : mg "_law_draw" = some (.ref (He.ga K "_law_draw"))
  n__law_words : mg "_law_words" = some (.ref (He.ga K "_law_words"))
  n__law_place : mg "_law_place" = some (.ref (He.ga K "_law_place"))
  n__law_kept : mg "_law_kept" = some (.ref (He.ga K "_law_kept"))
  n__law_caught : mg "_law_caught" = some (.ref (He.ga K "_law_caught"))
  n__law_tag : mg "_law_tag" = some (.ref (He.ga K "_law_tag"))
  n__law_line : mg "_law_line" = some (.ref (He.ga K "_law_line"))
  n__law_lines : mg "_law_lines" = some (.ref (He.ga K "_law_lines"))
  n__law_is_tag : mg "_law_is_tag" = some (.ref (He.ga K "_law_is_tag"))
  n__law_is_place : mg "_law_is_place" = some (.ref (He.ga K "_law_is_place"))
  n__law_bare : mg "_law_bare" = some (.ref (He.ga K "_law_bare"))
  n__law_is_line : mg "_law_is_line" = some (.ref (He.ga K "_law_is_line"))
  n__law_sign : mg "_law_sign" = some (.ref (He.ga K "_law_sign"))
  n__law_bent_line : mg "_law_bent_line" = some (.ref (He.ga K "_law_bent_line"))
  n__law_spoiled : mg "_law_spoiled" = some (.ref (He.ga K "_law_spoiled"))
  n__law_asked : mg "_law_asked" = some (.ref (He.ga K "_law_asked"))
  n__law_right : mg "_law_right" = some (.ref (He.ga K "_law_right"))
  n_law : mg "law" = some (.ref (He.ga K "law"))
  i_Row : ClsI K (He.ga K "Row")
  nb_Row : PySem.W.findIn K (.ref (He.ga K "Row")) "__bool__" = some none
  nl_Row : PySem.W.findIn K (.ref (He.ga K "Row")) "__len__" = some none
  j_Row_Kind : ClsJ K (He.ga K "Row") (He.ga K "Kind")
  i_Kind : ClsI K (He.ga K "Kind")
  e_Kind : EqC K (He.ga K "Kind") (He.ma K (He.ga K "Kind") "__eq__")
  nb_Kind : PySem.W.findIn K (.ref (He.ga K "Kind")) "__bool__" = some none
  l_Kind : PySem.W.findIn K (.ref (He.ga K "Kind")) "__len__" = some (some (.ref (He.ma K (He.ga K "Kind") "__len__"))) ∧ PySem.W.isFn K (.ref (He.ma K (He.ga K "Kind") "__len__")) = true
  j_Kind_Row : ClsJ K (He.ga K "Kind") (He.ga K "Row")
  er_InvalidName : ErC K (He.ga K "InvalidName") "ValueError.__new__" (tlE "ValueError")
  ty_InvalidName : PySem.W.typeIn K (.ref (He.ga K "InvalidName")) = some (.type "type")
  in_InvalidName : PySem.W.findIn K (.ref (He.ga K "InvalidName")) "__init__" = some (some (.ref (He.ma K (He.ga K "InvalidName") "__init__"))) ∧ PySem.W.isFn K (.ref (He.ma K (He.ga K "InvalidName") "__init__")) = true
  no_InvalidName_given : PySem.W.findIn K (.ref (He.ga K "InvalidName")) "given" = some none
  er_InvalidText : ErC K (He.ga K "InvalidText") "ValueError.__new__" (tlE "ValueError")
  ty_InvalidText : PySem.W.typeIn K (.ref (He.ga K "InvalidText")) = some (.type "type")
  in_InvalidText : PySem.W.findIn K (.ref (He.ga K "InvalidText")) "__init__" = some (some (.ref (He.ma K (He.ga K "InvalidText") "__init__"))) ∧ PySem.W.isFn K (.ref (He.ma K (He.ga K "InvalidText") "__init__")) = true
  no_InvalidText_given : PySem.W.findIn K (.ref (He.ga K "InvalidText")) "given" = some none
  er_InvalidFlag : ErC K (He.ga K "InvalidFlag") "ValueError.__new__" (tlE "ValueError")
  ty_InvalidFlag : PySem.W.typeIn K (.ref (He.ga K "InvalidFlag")) = some (.type "type")
  in_InvalidFlag : PySem.W.findIn K (.ref (He.ga K "InvalidFlag")) "__init__" = some (some (.ref (He.ma K (He.ga K "InvalidFlag") "__init__"))) ∧ PySem.W.isFn K (.ref (He.ma K (He.ga K "InvalidFlag") "__init__")) = true
  no_InvalidFlag_given : PySem.W.findIn K (.ref (He.ga K "InvalidFlag")) "given" = some none
  er_InvalidNumber : ErC K (He.ga K "InvalidNumber") "ValueError.__new__" (tlE "ValueError")
  ty_InvalidNumber : PySem.W.typeIn K (.ref (He.ga K "InvalidNumber")) = some (.type "type")
  in_InvalidNumber : PySem.W.findIn K (.ref (He.ga K "InvalidNumber")) "__init__" = some (some (.ref (He.ma K (He.ga K "InvalidNumber") "__init__"))) ∧ PySem.W.isFn K (.ref (He.ma K (He.ga K "InvalidNumber") "__init__")) = true
  no_InvalidNumber_given : PySem.W.findIn K (.ref (He.ga K "InvalidNumber")) "given" = some none
  er_InvalidThing : ErC K (He.ga K "InvalidThing") "ValueError.__new__" (tlE "ValueError")
  ty_InvalidThing : PySem.W.typeIn K (.ref (He.ga K "InvalidThing")) = some (.type "type")
  in_InvalidThing : PySem.W.findIn K (.ref (He.ga K "InvalidThing")) "__init__" = some (some (.ref (He.ma K (He.ga K "InvalidThing") "__init__"))) ∧ PySem.W.isFn K (.ref (He.ma K (He.ga K "InvalidThing") "__init__")) = true
  no_InvalidThing_given : PySem.W.findIn K (.ref (He.ga K "InvalidThing")) "given" = some none
  er_InvalidChoice : ErC K (He.ga K "InvalidChoice") "ValueError.__new__" (tlE "ValueError")
  ty_InvalidChoice : PySem.W.typeIn K (.ref (He.ga K "InvalidChoice")) = some (.type "type")
  in_InvalidChoice : PySem.W.findIn K (.ref (He.ga K "InvalidChoice")) "__init__" = some (some (.ref (He.ma K (He.ga K "InvalidChoice") "__init__"))) ∧ PySem.W.isFn K (.ref (He.ma K (He.ga K "InvalidChoice") "__init__")) = true
  no_InvalidChoice_given : PySem.W.findIn K (.ref (He.ga K "InvalidChoice")) "given" = some none
  er_InvalidWish : ErC K (He.ga K "InvalidWish") "ValueError.__new__" (tlE "ValueError")
  ty_InvalidWish : PySem.W.typeIn K (.ref (He.ga K "InvalidWish")) = some (.type "type")
  in_InvalidWish : PySem.W.findIn K (.ref (He.ga K "InvalidWish")) "__init__" = some (some (.ref (He.ma K (He.ga K "InvalidWish") "__init__"))) ∧ PySem.W.isFn K (.ref (He.ma K (He.ga K "InvalidWish") "__init__")) = true
  no_InvalidWish_given : PySem.W.findIn K (.ref (He.ga K "InvalidWish")) "given" = some none
  er_InvalidSet : ErC K (He.ga K "InvalidSet") "ValueError.__new__" (tlE "ValueError")
  ty_InvalidSet : PySem.W.typeIn K (.ref (He.ga K "InvalidSet")) = some (.type "type")
  in_InvalidSet : PySem.W.findIn K (.ref (He.ga K "InvalidSet")) "__init__" = some (some (.ref (He.ma K (He.ga K "InvalidSet") "__init__"))) ∧ PySem.W.isFn K (.ref (He.ma K (He.ga K "InvalidSet") "__init__")) = true
  no_InvalidSet_given : PySem.W.findIn K (.ref (He.ga K "InvalidSet")) "given" = some none
  er_InvalidIndex : ErC K (He.ga K "InvalidIndex") "ValueError.__new__" (tlE "ValueError")
  ty_InvalidIndex : PySem.W.typeIn K (.ref (He.ga K "InvalidIndex")) = some (.type "type")
  in_InvalidIndex : PySem.W.findIn K (.ref (He.ga K "InvalidIndex")) "__init__" = some (some (.ref (He.ma K (He.ga K "InvalidIndex") "__init__"))) ∧ PySem.W.isFn K (.ref (He.ma K (He.ga K "InvalidIndex") "__init__")) = true
  no_InvalidIndex_given : PySem.W.findIn K (.ref (He.ga K "InvalidIndex")) "given" = some none
  er_NotASystem : ErC K (He.ga K "NotASystem") "ValueError.__new__" (tlE "ValueError")
  ty_NotASystem : PySem.W.typeIn K (.ref (He.ga K "NotASystem")) = some (.type "type")
  in_NotASystem : PySem.W.findIn K (.ref (He.ga K "NotASystem")) "__init__" = some (some (.ref (He.ma K (He.ga K "NotASystem") "__init__"))) ∧ PySem.W.isFn K (.ref (He.ma K (He.ga K "NotASystem") "__init__")) = true
  no_NotASystem_given : PySem.W.findIn K (.ref (He.ga K "NotASystem")) "given" = some none
  er_InvalidGates : ErC K (He.ga K "InvalidGates") "ValueError.__new__" (tlE "ValueError")
  ty_InvalidGates : PySem.W.typeIn K (.ref (He.ga K "InvalidGates")) = some (.type "type")
  in_InvalidGates : PySem.W.findIn K (.ref (He.ga K "InvalidGates")) "__init__" = some (some (.ref (He.ma K (He.ga K "InvalidGates") "__init__"))) ∧ PySem.W.isFn K (.ref (He.ma K (He.ga K "InvalidGates") "__init__")) = true
  no_InvalidGates_index : PySem.W.findIn K (.ref (He.ga K "InvalidGates")) "index" = some none
  er_InvalidKinds : ErC K (He.ga K "InvalidKinds") "ValueError.__new__" (tlE "ValueError")
  ty_InvalidKinds : PySem.W.typeIn K (.ref (He.ga K "InvalidKinds")) = some (.type "type")
  in_InvalidKinds : PySem.W.findIn K (.ref (He.ga K "InvalidKinds")) "__init__" = some (some (.ref (He.ma K (He.ga K "InvalidKinds") "__init__"))) ∧ PySem.W.isFn K (.ref (He.ma K (He.ga K "InvalidKinds") "__init__")) = true
  no_InvalidKinds_index : PySem.W.findIn K (.ref (He.ga K "InvalidKinds")) "index" = some none
  er_InvalidRows : ErC K (He.ga K "InvalidRows") "ValueError.__new__" (tlE "ValueError")
  ty_InvalidRows : PySem.W.typeIn K (.ref (He.ga K "InvalidRows")) = some (.type "type")
  in_InvalidRows : PySem.W.findIn K (.ref (He.ga K "InvalidRows")) "__init__" = some (some (.ref (He.ma K (He.ga K "InvalidRows") "__init__"))) ∧ PySem.W.isFn K (.ref (He.ma K (He.ga K "InvalidRows") "__init__")) = true
  no_InvalidRows_index : PySem.W.findIn K (.ref (He.ga K "InvalidRows")) "index" = some none
  er_InvalidMembers : ErC K (He.ga K "InvalidMembers") "ValueError.__new__" (tlE "ValueError")
  ty_InvalidMembers : PySem.W.typeIn K (.ref (He.ga K "InvalidMembers")) = some (.type "type")
  in_InvalidMembers : PySem.W.findIn K (.ref (He.ga K "InvalidMembers")) "__init__" = some (some (.ref (He.ma K (He.ga K "InvalidMembers") "__init__"))) ∧ PySem.W.isFn K (.ref (He.ma K (He.ga K "InvalidMembers") "__init__")) = true
  no_InvalidMembers_index : PySem.W.findIn K (.ref (He.ga K "InvalidMembers")) "index" = some none
  er_InvalidNumbers : ErC K (He.ga K "InvalidNumbers") "ValueError.__new__" (tlE "ValueError")
  ty_InvalidNumbers : PySem.W.typeIn K (.ref (He.ga K "InvalidNumbers")) = some (.type "type")
  in_InvalidNumbers : PySem.W.findIn K (.ref (He.ga K "InvalidNumbers")) "__init__" = some (some (.ref (He.ma K (He.ga K "InvalidNumbers") "__init__"))) ∧ PySem.W.isFn K (.ref (He.ma K (He.ga K "InvalidNumbers") "__init__")) = true
  no_InvalidNumbers_index : PySem.W.findIn K (.ref (He.ga K "InvalidNumbers")) "index" = some none
  er_InvalidRun : ErC K (He.ga K "InvalidRun") "ValueError.__new__" (tlE "ValueError")
  ty_InvalidRun : PySem.W.typeIn K (.ref (He.ga K "InvalidRun")) = some (.type "type")
  in_InvalidRun : PySem.W.findIn K (.ref (He.ga K "InvalidRun")) "__init__" = some (some (.ref (He.ma K (He.ga K "InvalidRun") "__init__"))) ∧ PySem.W.isFn K (.ref (He.ma K (He.ga K "InvalidRun") "__init__")) = true
  no_InvalidRun_index : PySem.W.findIn K (.ref (He.ga K "InvalidRun")) "index" = some none
  er_InvalidThings : ErC K (He.ga K "InvalidThings") "ValueError.__new__" (tlE "ValueError")
  ty_InvalidThings : PySem.W.typeIn K (.ref (He.ga K "InvalidThings")) = some (.type "type")
  in_InvalidThings : PySem.W.findIn K (.ref (He.ga K "InvalidThings")) "__init__" = some (some (.ref (He.ma K (He.ga K "InvalidThings") "__init__"))) ∧ PySem.W.isFn K (.ref (He.ma K (He.ga K "InvalidThings") "__init__")) = true
  no_InvalidThings_index : PySem.W.findIn K (.ref (He.ga K "InvalidThings")) "index" = some none
  er_InvalidChanges : ErC K (He.ga K "InvalidChanges") "ValueError.__new__" (tlE "ValueError")
  ty_InvalidChanges : PySem.W.typeIn K (.ref (He.ga K "InvalidChanges")) = some (.type "type")
  in_InvalidChanges : PySem.W.findIn K (.ref (He.ga K "InvalidChanges")) "__init__" = some (some (.ref (He.ma K (He.ga K "InvalidChanges") "__init__"))) ∧ PySem.W.isFn K (.ref (He.ma K (He.ga K "InvalidChanges") "__init__")) = true
  no_InvalidChanges_index : PySem.W.findIn K (.ref (He.ga K "InvalidChanges")) "index" = some none
  er_UnknownName : ErC K (He.ga K "UnknownName") "LookupError.__new__" (tlE "LookupError")
  ty_UnknownName : PySem.W.typeIn K (.ref (He.ga K "UnknownName")) = some (.type "type")
  in_UnknownName : PySem.W.findIn K (.ref (He.ga K "UnknownName")) "__init__" = some (some (.ref (He.ma K (He.ga K "UnknownName") "__init__"))) ∧ PySem.W.isFn K (.ref (He.ma K (He.ga K "UnknownName") "__init__")) = true
  no_UnknownName_given : PySem.W.findIn K (.ref (He.ga K "UnknownName")) "given" = some none
  er_UnknownHand : ErC K (He.ga K "UnknownHand") "LookupError.__new__" (tlE "LookupError")
  ty_UnknownHand : PySem.W.typeIn K (.ref (He.ga K "UnknownHand")) = some (.type "type")
  in_UnknownHand : PySem.W.findIn K (.ref (He.ga K "UnknownHand")) "__init__" = some (some (.ref (He.ma K (He.ga K "UnknownHand") "__init__"))) ∧ PySem.W.isFn K (.ref (He.ma K (He.ga K "UnknownHand") "__init__")) = true
  no_UnknownHand_given : PySem.W.findIn K (.ref (He.ga K "UnknownHand")) "given" = some none
  er_InUse : ErC K (He.ga K "InUse") "LookupError.__new__" (tlE "LookupError")
  ty_InUse : PySem.W.typeIn K (.ref (He.ga K "InUse")) = some (.type "type")
  in_InUse : PySem.W.findIn K (.ref (He.ga K "InUse")) "__init__" = some (some (.ref (He.ma K (He.ga K "InUse") "__init__"))) ∧ PySem.W.isFn K (.ref (He.ma K (He.ga K "InUse") "__init__")) = true
  no_InUse_index : PySem.W.findIn K (.ref (He.ga K "InUse")) "index" = some none
  er_TooMany : ErC K (He.ga K "TooMany") "ArithmeticError.__new__" (tlE "ArithmeticError")
  ty_TooMany : PySem.W.typeIn K (.ref (He.ga K "TooMany")) = some (.type "type")
  in_TooMany : PySem.W.findIn K (.ref (He.ga K "TooMany")) "__init__" = some (some (.ref (He.ma K (He.ga K "TooMany") "__init__"))) ∧ PySem.W.isFn K (.ref (He.ma K (He.ga K "TooMany") "__init__")) = true
  no_TooMany_limit : PySem.W.findIn K (.ref (He.ga K "TooMany")) "limit" = some none
  er_Alone : ErC K (He.ga K "Alone") "ArithmeticError.__new__" (tlE "ArithmeticError")
  ty_Alone : PySem.W.typeIn K (.ref (He.ga K "Alone")) = some (.type "type")
  in_Alone : PySem.W.findIn K (.ref (He.ga K "Alone")) "__init__" = some (some (.ref (He.ma K (He.ga K "Alone") "__init__"))) ∧ PySem.W.isFn K (.ref (He.ma K (He.ga K "Alone") "__init__")) = true
  no_Alone_given : PySem.W.findIn K (.ref (He.ga K "Alone")) "given" = some none
  er_Waits : ErC K (He.ga K "Waits") "ArithmeticError.__new__" (tlE "ArithmeticError")
  ty_Waits : PySem.W.typeIn K (.ref (He.ga K "Waits")) = some (.type "type")
  in_Waits : PySem.W.findIn K (.ref (He.ga K "Waits")) "__init__" = some (some (.ref (He.ma K (He.ga K "Waits") "__init__"))) ∧ PySem.W.isFn K (.ref (He.ma K (He.ga K "Waits") "__init__")) = true
  no_Waits_hand : PySem.W.findIn K (.ref (He.ga K "Waits")) "hand" = some none
  er_Ended : ErC K (He.ga K "Ended") "ArithmeticError.__new__" (tlE "ArithmeticError")
  ty_Ended : PySem.W.typeIn K (.ref (He.ga K "Ended")) = some (.type "type")
  in_Ended : PySem.W.findIn K (.ref (He.ga K "Ended")) "__init__" = some (some (.ref (He.ma K (He.ga K "Ended") "__init__"))) ∧ PySem.W.isFn K (.ref (He.ma K (He.ga K "Ended") "__init__")) = true
  no_Ended_hand : PySem.W.findIn K (.ref (He.ga K "Ended")) "hand" = some none
  ei_NothingToUndo : PySem.W.excIn K (He.ga K "NothingToUndo") (tlE "ArithmeticError") "ArithmeticError.__new__" = true ∧ PySem.W.keepIn K (.ref (He.ga K "NothingToUndo")) = true
  er_Broken : ErC K (He.ga K "Broken") "ArithmeticError.__new__" (tlE "ArithmeticError")
  ty_Broken : PySem.W.typeIn K (.ref (He.ga K "Broken")) = some (.type "type")
  in_Broken : PySem.W.findIn K (.ref (He.ga K "Broken")) "__init__" = some (some (.ref (He.ma K (He.ga K "Broken") "__init__"))) ∧ PySem.W.isFn K (.ref (He.ma K (He.ga K "Broken") "__init__")) = true
  no_Broken_index : PySem.W.findIn K (.ref (He.ga K "Broken")) "index" = some none
  no_Broken_shown : PySem.W.findIn K (.ref (He.ga K "Broken")) "shown" = some none
  ex_all : ∀ i < 27, ExcC K (He.ga K (nmE i)) ∧ XfC K (He.ga K (nmE i))
  nf_given : ∀ i < 27, ([0, 1, 2, 3, 4, 5, 6, 7, 8, 9, 18, 19, 22].contains i) = true → PySem.W.findIn K (.ref (He.ga K (nmE i))) "given" = some none
  nf_hand : ∀ i < 27, ([23, 24].contains i) = true → PySem.W.findIn K (.ref (He.ga K (nmE i))) "hand" = some none
  nf_index : ∀ i < 27, ([10, 11, 12, 13, 14, 15, 16, 17, 20, 26].contains i) = true → PySem.W.findIn K (.ref (He.ga K (nmE i))) "index" = some none
  nf_limit : ∀ i < 27, ([21].contains i) = true → PySem.W.findIn K (.ref (He.ga K (nmE i))) "limit" = some none
  nf_shown : ∀ i < 27, ([26].contains i) = true → PySem.W.findIn K (.ref (He.ga K (nmE i))) "shown" = some none
  k_InvalidName : ∀ i < 27, PySem.W.kitOne K (.ref (He.ga K (nmE i))) (.ref (He.ga K "InvalidName")) = some ((fun i => decide (i = 0)) i)
  k_InvalidText : ∀ i < 27, PySem.W.kitOne K (.ref (He.ga K (nmE i))) (.ref (He.ga K "InvalidText")) = some ((fun i => decide (i = 1)) i)
  k_InvalidFlag : ∀ i < 27, PySem.W.kitOne K (.ref (He.ga K (nmE i))) (.ref (He.ga K "InvalidFlag")) = some ((fun i => decide (i = 2)) i)
  k_InvalidNumber : ∀ i < 27, PySem.W.kitOne K (.ref (He.ga K (nmE i))) (.ref (He.ga K "InvalidNumber")) = some ((fun i => decide (i = 3)) i)
  k_InvalidThing : ∀ i < 27, PySem.W.kitOne K (.ref (He.ga K (nmE i))) (.ref (He.ga K "InvalidThing")) = some ((fun i => decide (i = 4)) i)
  k_InvalidChoice : ∀ i < 27, PySem.W.kitOne K (.ref (He.ga K (nmE i))) (.ref (He.ga K "InvalidChoice")) = some ((fun i => decide (i = 5)) i)
  k_InvalidWish : ∀ i < 27, PySem.W.kitOne K (.ref (He.ga K (nmE i))) (.ref (He.ga K "InvalidWish")) = some ((fun i => decide (i = 6)) i)
  k_InvalidSet : ∀ i < 27, PySem.W.kitOne K (.ref (He.ga K (nmE i))) (.ref (He.ga K "InvalidSet")) = some ((fun i => decide (i = 7)) i)
  k_InvalidIndex : ∀ i < 27, PySem.W.kitOne K (.ref (He.ga K (nmE i))) (.ref (He.ga K "InvalidIndex")) = some ((fun i => decide (i = 8)) i)
  k_NotASystem : ∀ i < 27, PySem.W.kitOne K (.ref (He.ga K (nmE i))) (.ref (He.ga K "NotASystem")) = some ((fun i => decide (i = 9)) i)
  k_InvalidGates : ∀ i < 27, PySem.W.kitOne K (.ref (He.ga K (nmE i))) (.ref (He.ga K "InvalidGates")) = some ((fun i => decide (i = 10)) i)
  k_InvalidKinds : ∀ i < 27, PySem.W.kitOne K (.ref (He.ga K (nmE i))) (.ref (He.ga K "InvalidKinds")) = some ((fun i => decide (i = 11)) i)
  k_InvalidRows : ∀ i < 27, PySem.W.kitOne K (.ref (He.ga K (nmE i))) (.ref (He.ga K "InvalidRows")) = some ((fun i => decide (i = 12)) i)
  k_InvalidMembers : ∀ i < 27, PySem.W.kitOne K (.ref (He.ga K (nmE i))) (.ref (He.ga K "InvalidMembers")) = some ((fun i => decide (i = 13)) i)
  k_InvalidNumbers : ∀ i < 27, PySem.W.kitOne K (.ref (He.ga K (nmE i))) (.ref (He.ga K "InvalidNumbers")) = some ((fun i => decide (i = 14)) i)
  k_InvalidRun : ∀ i < 27, PySem.W.kitOne K (.ref (He.ga K (nmE i))) (.ref (He.ga K "InvalidRun")) = some ((fun i => decide (i = 15)) i)
  k_InvalidThings : ∀ i < 27, PySem.W.kitOne K (.ref (He.ga K (nmE i))) (.ref (He.ga K "InvalidThings")) = some ((fun i => decide (i = 16)) i)
  k_InvalidChanges : ∀ i < 27, PySem.W.kitOne K (.ref (He.ga K (nmE i))) (.ref (He.ga K "InvalidChanges")) = some ((fun i => decide (i = 17)) i)
  k_UnknownName : ∀ i < 27, PySem.W.kitOne K (.ref (He.ga K (nmE i))) (.ref (He.ga K "UnknownName")) = some ((fun i => decide (i = 18)) i)
  k_UnknownHand : ∀ i < 27, PySem.W.kitOne K (.ref (He.ga K (nmE i))) (.ref (He.ga K "UnknownHand")) = some ((fun i => decide (i = 19)) i)
  k_InUse : ∀ i < 27, PySem.W.kitOne K (.ref (He.ga K (nmE i))) (.ref (He.ga K "InUse")) = some ((fun i => decide (i = 20)) i)
  k_TooMany : ∀ i < 27, PySem.W.kitOne K (.ref (He.ga K (nmE i))) (.ref (He.ga K "TooMany")) = some ((fun i => decide (i = 21)) i)
  k_Alone : ∀ i < 27, PySem.W.kitOne K (.ref (He.ga K (nmE i))) (.ref (He.ga K "Alone")) = some ((fun i => decide (i = 22)) i)
  k_Waits : ∀ i < 27, PySem.W.kitOne K (.ref (He.ga K (nmE i))) (.ref (He.ga K "Waits")) = some ((fun i => decide (i = 23)) i)
  k_Ended : ∀ i < 27, PySem.W.kitOne K (.ref (He.ga K (nmE i))) (.ref (He.ga K "Ended")) = some ((fun i => decide (i = 24)) i)
  k_NothingToUndo : ∀ i < 27, PySem.W.kitOne K (.ref (He.ga K (nmE i))) (.ref (He.ga K "NothingToUndo")) = some ((fun i => decide (i = 25)) i)
  k_Broken : ∀ i < 27, PySem.W.kitOne K (.ref (He.ga K (nmE i))) (.ref (He.ga K "Broken")) = some ((fun i => decide (i = 26)) i)
  k_WrongValue : ∀ i < 27, PySem.W.kitOne K (.ref (He.ga K (nmE i))) (.ref (He.ga K "WrongValue")) = some ((fun i => decide (i < 18)) i)
  k_WrongName : ∀ i < 27, PySem.W.kitOne K (.ref (He.ga K (nmE i))) (.ref (He.ga K "WrongName")) = some ((fun i => decide (17 < i) && decide (i < 21)) i)
  k_NoAnswer : ∀ i < 27, PySem.W.kitOne K (.ref (He.ga K (nmE i))) (.ref (He.ga K "NoAnswer")) = some ((fun i => decide (20 < i)) i)
  k_ArithmeticError : ∀ i < 27, PySem.W.kitOne K (.ref (He.ga K (nmE i))) (.type "ArithmeticError") = some ((fun i => decide (20 < i)) i)
  k_LookupError : ∀ i < 27, PySem.W.kitOne K (.ref (He.ga K (nmE i))) (.type "LookupError") = some ((fun i => decide (17 < i) && decide (i < 21)) i)
  k_ValueError : ∀ i < 27, PySem.W.kitOne K (.ref (He.ga K (nmE i))) (.type "ValueError") = some ((fun i => decide (i < 18)) i)
  xm_all : ∀ i < 27, PySem.W.exmAny K (.ref (He.ga K (nmE i))) [.ref (He.ga K "WrongValue"), .ref (He.ga K "WrongName"), .ref (He.ga K "NoAnswer")] = some true
  sm : (K.lookup sysModules).isSome = true
  kt_Row___init___goals : ∀ H, SqT K H (kwdAt ("Row", some "__init__") "goals" K) []
  kt_Kind___init___members : ∀ H, SqT K H (kwdAt ("Kind", some "__init__") "members" K) []
  p_Kind_name : ∀ (P : Program) (w : World) (base : Heap), GetP P w K mg base 1 (He.ga K "Kind") "name" "called"
  p_Kind_rows : ∀ (P : Program) (w : World) (base : Heap), GetP P w K mg base 1 (He.ga K "Kind") "rows" "texts"
  p_Kind_many : ∀ (P : Program) (w : World) (base : Heap), GetP P w K mg base 1 (He.ga K "Kind") "many" "any_number"
  p_Kind_members : ∀ (P : Program) (w : World) (base : Heap), GetP P w K mg base 1 (He.ga K "Kind") "members" "begun"
  d_InvalidName___init__ : ∃ fd, FunD K d_InvalidName___init__.name d_InvalidName___init__.qual d_InvalidName___init__.params d_InvalidName___init__.body d_InvalidName___init__.scope (d_InvalidName___init__.dvs K) (d_InvalidName___init__.kws K) (He.fAd K d_InvalidName___init__.at_) fd
  d_InvalidText___init__ : ∃ fd, FunD K d_InvalidText___init__.name d_InvalidText___init__.qual d_InvalidText___init__.params d_InvalidText___init__.body d_InvalidText___init__.scope (d_InvalidText___init__.dvs K) (d_InvalidText___init__.kws K) (He.fAd K d_InvalidText___init__.at_) fd
  d_InvalidFlag___init__ : ∃ fd, FunD K d_InvalidFlag___init__.name d_InvalidFlag___init__.qual d_InvalidFlag___init__.params d_InvalidFlag___init__.body d_InvalidFlag___init__.scope (d_InvalidFlag___init__.dvs K) (d_InvalidFlag___init__.kws K) (He.fAd K d_InvalidFlag___init__.at_) fd
  d_InvalidNumber___init__ : ∃ fd, FunD K d_InvalidNumber___init__.name d_InvalidNumber___init__.qual d_InvalidNumber___init__.params d_InvalidNumber___init__.body d_InvalidNumber___init__.scope (d_InvalidNumber___init__.dvs K) (d_InvalidNumber___init__.kws K) (He.fAd K d_InvalidNumber___init__.at_) fd
  d_InvalidThing___init__ : ∃ fd, FunD K d_InvalidThing___init__.name d_InvalidThing___init__.qual d_InvalidThing___init__.params d_InvalidThing___init__.body d_InvalidThing___init__.scope (d_InvalidThing___init__.dvs K) (d_InvalidThing___init__.kws K) (He.fAd K d_InvalidThing___init__.at_) fd
  d_InvalidChoice___init__ : ∃ fd, FunD K d_InvalidChoice___init__.name d_InvalidChoice___init__.qual d_InvalidChoice___init__.params d_InvalidChoice___init__.body d_InvalidChoice___init__.scope (d_InvalidChoice___init__.dvs K) (d_InvalidChoice___init__.kws K) (He.fAd K d_InvalidChoice___init__.at_) fd
  d_InvalidWish___init__ : ∃ fd, FunD K d_InvalidWish___init__.name d_InvalidWish___init__.qual d_InvalidWish___init__.params d_InvalidWish___init__.body d_InvalidWish___init__.scope (d_InvalidWish___init__.dvs K) (d_InvalidWish___init__.kws K) (He.fAd K d_InvalidWish___init__.at_) fd
  d_InvalidSet___init__ : ∃ fd, FunD K d_InvalidSet___init__.name d_InvalidSet___init__.qual d_InvalidSet___init__.params d_InvalidSet___init__.body d_InvalidSet___init__.scope (d_InvalidSet___init__.dvs K) (d_InvalidSet___init__.kws K) (He.fAd K d_InvalidSet___init__.at_) fd
  d_InvalidIndex___init__ : ∃ fd, FunD K d_InvalidIndex___init__.name d_InvalidIndex___init__.qual d_InvalidIndex___init__.params d_InvalidIndex___init__.body d_InvalidIndex___init__.scope (d_InvalidIndex___init__.dvs K) (d_InvalidIndex___init__.kws K) (He.fAd K d_InvalidIndex___init__.at_) fd
  d_NotASystem___init__ : ∃ fd, FunD K d_NotASystem___init__.name d_NotASystem___init__.qual d_NotASystem___init__.params d_NotASystem___init__.body d_NotASystem___init__.scope (d_NotASystem___init__.dvs K) (d_NotASystem___init__.kws K) (He.fAd K d_NotASystem___init__.at_) fd
  d_InvalidGates___init__ : ∃ fd, FunD K d_InvalidGates___init__.name d_InvalidGates___init__.qual d_InvalidGates___init__.params d_InvalidGates___init__.body d_InvalidGates___init__.scope (d_InvalidGates___init__.dvs K) (d_InvalidGates___init__.kws K) (He.fAd K d_InvalidGates___init__.at_) fd
  d_InvalidKinds___init__ : ∃ fd, FunD K d_InvalidKinds___init__.name d_InvalidKinds___init__.qual d_InvalidKinds___init__.params d_InvalidKinds___init__.body d_InvalidKinds___init__.scope (d_InvalidKinds___init__.dvs K) (d_InvalidKinds___init__.kws K) (He.fAd K d_InvalidKinds___init__.at_) fd
  d_InvalidRows___init__ : ∃ fd, FunD K d_InvalidRows___init__.name d_InvalidRows___init__.qual d_InvalidRows___init__.params d_InvalidRows___init__.body d_InvalidRows___init__.scope (d_InvalidRows___init__.dvs K) (d_InvalidRows___init__.kws K) (He.fAd K d_InvalidRows___init__.at_) fd
  d_InvalidMembers___init__ : ∃ fd, FunD K d_InvalidMembers___init__.name d_InvalidMembers___init__.qual d_InvalidMembers___init__.params d_InvalidMembers___init__.body d_InvalidMembers___init__.scope (d_InvalidMembers___init__.dvs K) (d_InvalidMembers___init__.kws K) (He.fAd K d_InvalidMembers___init__.at_) fd
  d_InvalidNumbers___init__ : ∃ fd, FunD K d_InvalidNumbers___init__.name d_InvalidNumbers___init__.qual d_InvalidNumbers___init__.params d_InvalidNumbers___init__.body d_InvalidNumbers___init__.scope (d_InvalidNumbers___init__.dvs K) (d_InvalidNumbers___init__.kws K) (He.fAd K d_InvalidNumbers___init__.at_) fd
  d_InvalidRun___init__ : ∃ fd, FunD K d_InvalidRun___init__.name d_InvalidRun___init__.qual d_InvalidRun___init__.params d_InvalidRun___init__.body d_InvalidRun___init__.scope (d_InvalidRun___init__.dvs K) (d_InvalidRun___init__.kws K) (He.fAd K d_InvalidRun___init__.at_) fd
  d_InvalidThings___init__ : ∃ fd, FunD K d_InvalidThings___init__.name d_InvalidThings___init__.qual d_InvalidThings___init__.params d_InvalidThings___init__.body d_InvalidThings___init__.scope (d_InvalidThings___init__.dvs K) (d_InvalidThings___init__.kws K) (He.fAd K d_InvalidThings___init__.at_) fd
  d_InvalidChanges___init__ : ∃ fd, FunD K d_InvalidChanges___init__.name d_InvalidChanges___init__.qual d_InvalidChanges___init__.params d_InvalidChanges___init__.body d_InvalidChanges___init__.scope (d_InvalidChanges___init__.dvs K) (d_InvalidChanges___init__.kws K) (He.fAd K d_InvalidChanges___init__.at_) fd
  d_UnknownName___init__ : ∃ fd, FunD K d_UnknownName___init__.name d_UnknownName___init__.qual d_UnknownName___init__.params d_UnknownName___init__.body d_UnknownName___init__.scope (d_UnknownName___init__.dvs K) (d_UnknownName___init__.kws K) (He.fAd K d_UnknownName___init__.at_) fd
  d_UnknownHand___init__ : ∃ fd, FunD K d_UnknownHand___init__.name d_UnknownHand___init__.qual d_UnknownHand___init__.params d_UnknownHand___init__.body d_UnknownHand___init__.scope (d_UnknownHand___init__.dvs K) (d_UnknownHand___init__.kws K) (He.fAd K d_UnknownHand___init__.at_) fd
  d_InUse___init__ : ∃ fd, FunD K d_InUse___init__.name d_InUse___init__.qual d_InUse___init__.params d_InUse___init__.body d_InUse___init__.scope (d_InUse___init__.dvs K) (d_InUse___init__.kws K) (He.fAd K d_InUse___init__.at_) fd
  d_TooMany___init__ : ∃ fd, FunD K d_TooMany___init__.name d_TooMany___init__.qual d_TooMany___init__.params d_TooMany___init__.body d_TooMany___init__.scope (d_TooMany___init__.dvs K) (d_TooMany___init__.kws K) (He.fAd K d_TooMany___init__.at_) fd
  d_Alone___init__ : ∃ fd, FunD K d_Alone___init__.name d_Alone___init__.qual d_Alone___init__.params d_Alone___init__.body d_Alone___init__.scope (d_Alone___init__.dvs K) (d_Alone___init__.kws K) (He.fAd K d_Alone___init__.at_) fd
  d_Waits___init__ : ∃ fd, FunD K d_Waits___init__.name d_Waits___init__.qual d_Waits___init__.params d_Waits___init__.body d_Waits___init__.scope (d_Waits___init__.dvs K) (d_Waits___init__.kws K) (He.fAd K d_Waits___init__.at_) fd
  d_Ended___init__ : ∃ fd, FunD K d_Ended___init__.name d_Ended___init__.qual d_Ended___init__.params d_Ended___init__.body d_Ended___init__.scope (d_Ended___init__.dvs K) (d_Ended___init__.kws K) (He.fAd K d_Ended___init__.at_) fd
  d_Broken___init__ : ∃ fd, FunD K d_Broken___init__.name d_Broken___init__.qual d_Broken___init__.params d_Broken___init__.body d_Broken___init__.scope (d_Broken___init__.dvs K) (d_Broken___init__.kws K) (He.fAd K d_Broken___init__.at_) fd
  d_is_name : ∃ fd, FunD K d_is_name.name d_is_name.qual d_is_name.params d_is_name.body d_is_name.scope (d_is_name.dvs K) (d_is_name.kws K) (He.fAd K d_is_name.at_) fd
  d_Row___init__ : ∃ fd, FunD K d_Row___init__.name d_Row___init__.qual d_Row___init__.params d_Row___init__.body d_Row___init__.scope (d_Row___init__.dvs K) (d_Row___init__.kws K) (He.fAd K d_Row___init__.at_) fd
  d_digit_of : ∃ fd, FunD K d_digit_of.name d_digit_of.qual d_digit_of.params d_digit_of.body d_digit_of.scope (d_digit_of.dvs K) (d_digit_of.kws K) (He.fAd K d_digit_of.at_) fd
  d_row_of_words : ∃ fd, FunD K d_row_of_words.name d_row_of_words.qual d_row_of_words.params d_row_of_words.body d_row_of_words.scope (d_row_of_words.dvs K) (d_row_of_words.kws K) (He.fAd K d_row_of_words.at_) fd
  d_has_right_parts : ∃ fd, FunD K d_has_right_parts.name d_has_right_parts.qual d_has_right_parts.params d_has_right_parts.body d_has_right_parts.scope (d_has_right_parts.dvs K) (d_has_right_parts.kws K) (He.fAd K d_has_right_parts.at_) fd
  d_parsed_row : ∃ fd, FunD K d_parsed_row.name d_parsed_row.qual d_parsed_row.params d_parsed_row.body d_parsed_row.scope (d_parsed_row.dvs K) (d_parsed_row.kws K) (He.fAd K d_parsed_row.at_) fd
  d_leads_within : ∃ fd, FunD K d_leads_within.name d_leads_within.qual d_leads_within.params d_leads_within.body d_leads_within.scope (d_leads_within.dvs K) (d_leads_within.kws K) (He.fAd K d_leads_within.at_) fd
  d_Kind___init__ : ∃ fd, FunD K d_Kind___init__.name d_Kind___init__.qual d_Kind___init__.params d_Kind___init__.body d_Kind___init__.scope (d_Kind___init__.dvs K) (d_Kind___init__.kws K) (He.fAd K d_Kind___init__.at_) fd
  d_Kind___eq__ : ∃ fd, FunD K d_Kind___eq__.name d_Kind___eq__.qual d_Kind___eq__.params d_Kind___eq__.body d_Kind___eq__.scope (d_Kind___eq__.dvs K) (d_Kind___eq__.kws K) (He.fAd K d_Kind___eq__.at_) fd
  d_Kind___len__ : ∃ fd, FunD K d_Kind___len__.name d_Kind___len__.qual d_Kind___len__.params d_Kind___len__.body d_Kind___len__.scope (d_Kind___len__.dvs K) (d_Kind___len__.kws K) (He.fAd K d_Kind___len__.at_) fd
  d_parsed_rows : ∃ fd, FunD K d_parsed_rows.name d_parsed_rows.qual d_parsed_rows.params d_parsed_rows.body d_parsed_rows.scope (d_parsed_rows.dvs K) (d_parsed_rows.kws K) (He.fAd K d_parsed_rows.at_) fd
  d_check_members : ∃ fd, FunD K d_check_members.name d_check_members.qual d_check_members.params d_check_members.body d_check_members.scope (d_check_members.dvs K) (d_check_members.kws K) (He.fAd K d_check_members.at_) fd
  d__law_pool : ∃ fd, FunD K d__law_pool.name d__law_pool.qual d__law_pool.params d__law_pool.body d__law_pool.scope (d__law_pool.dvs K) (d__law_pool.kws K) (He.fAd K d__law_pool.at_) fd
  d__law_draw : ∃ fd, FunD K d__law_draw.name d__law_draw.qual d__law_draw.params d__law_draw.body d__law_draw.scope (d__law_draw.dvs K) (d__law_draw.kws K) (He.fAd K d__law_draw.at_) fd
  d__law_words : ∃ fd, FunD K d__law_words.name d__law_words.qual d__law_words.params d__law_words.body d__law_words.scope (d__law_words.dvs K) (d__law_words.kws K) (He.fAd K d__law_words.at_) fd
  d__law_place : ∃ fd, FunD K d__law_place.name d__law_place.qual d__law_place.params d__law_place.body d__law_place.scope (d__law_place.dvs K) (d__law_place.kws K) (He.fAd K d__law_place.at_) fd
  d__law_kept : ∃ fd, FunD K d__law_kept.name d__law_kept.qual d__law_kept.params d__law_kept.body d__law_kept.scope (d__law_kept.dvs K) (d__law_kept.kws K) (He.fAd K d__law_kept.at_) fd
  d__law_caught : ∃ fd, FunD K d__law_caught.name d__law_caught.qual d__law_caught.params d__law_caught.body d__law_caught.scope (d__law_caught.dvs K) (d__law_caught.kws K) (He.fAd K d__law_caught.at_) fd
  d__law_tag : ∃ fd, FunD K d__law_tag.name d__law_tag.qual d__law_tag.params d__law_tag.body d__law_tag.scope (d__law_tag.dvs K) (d__law_tag.kws K) (He.fAd K d__law_tag.at_) fd
  d__law_line : ∃ fd, FunD K d__law_line.name d__law_line.qual d__law_line.params d__law_line.body d__law_line.scope (d__law_line.dvs K) (d__law_line.kws K) (He.fAd K d__law_line.at_) fd
  d__law_lines : ∃ fd, FunD K d__law_lines.name d__law_lines.qual d__law_lines.params d__law_lines.body d__law_lines.scope (d__law_lines.dvs K) (d__law_lines.kws K) (He.fAd K d__law_lines.at_) fd
  d__law_is_tag : ∃ fd, FunD K d__law_is_tag.name d__law_is_tag.qual d__law_is_tag.params d__law_is_tag.body d__law_is_tag.scope (d__law_is_tag.dvs K) (d__law_is_tag.kws K) (He.fAd K d__law_is_tag.at_) fd
  d__law_is_place : ∃ fd, FunD K d__law_is_place.name d__law_is_place.qual d__law_is_place.params d__law_is_place.body d__law_is_place.scope (d__law_is_place.dvs K) (d__law_is_place.kws K) (He.fAd K d__law_is_place.at_) fd
  d__law_bare : ∃ fd, FunD K d__law_bare.name d__law_bare.qual d__law_bare.params d__law_bare.body d__law_bare.scope (d__law_bare.dvs K) (d__law_bare.kws K) (He.fAd K d__law_bare.at_) fd
  d__law_is_line : ∃ fd, FunD K d__law_is_line.name d__law_is_line.qual d__law_is_line.params d__law_is_line.body d__law_is_line.scope (d__law_is_line.dvs K) (d__law_is_line.kws K) (He.fAd K d__law_is_line.at_) fd
  d__law_sign : ∃ fd, FunD K d__law_sign.name d__law_sign.qual d__law_sign.params d__law_sign.body d__law_sign.scope (d__law_sign.dvs K) (d__law_sign.kws K) (He.fAd K d__law_sign.at_) fd
  d__law_bent_line : ∃ fd, FunD K d__law_bent_line.name d__law_bent_line.qual d__law_bent_line.params d__law_bent_line.body d__law_bent_line.scope (d__law_bent_line.dvs K) (d__law_bent_line.kws K) (He.fAd K d__law_bent_line.at_) fd
  d__law_spoiled : ∃ fd, FunD K d__law_spoiled.name d__law_spoiled.qual d__law_spoiled.params d__law_spoiled.body d__law_spoiled.scope (d__law_spoiled.dvs K) (d__law_spoiled.kws K) (He.fAd K d__law_spoiled.at_) fd
  d__law_asked : ∃ fd, FunD K d__law_asked.name d__law_asked.qual d__law_asked.params d__law_asked.body d__law_asked.scope (d__law_asked.dvs K) (d__law_asked.kws K) (He.fAd K d__law_asked.at_) fd
  d__law_right : ∃ fd, FunD K d__law_right.name d__law_right.qual d__law_right.params d__law_right.body d__law_right.scope (d__law_right.dvs K) (d__law_right.kws K) (He.fAd K d__law_right.at_) fd
  d_law : ∃ fd, FunD K d_law.name d_law.qual d_law.params d_law.body d_law.scope (d_law.dvs K) (d_law.kws K) (He.fAd K d_law.at_) fd
def fa : List He.Fa := [.free "isinstance", .free "str", .free "len", .free "all", .free "int", .free "tuple", .free "range", .free "enumerate", .free "sum", .free "abs", .free "divmod", .free "ValueError", .free "LookupError", .free "ArithmeticError", .free "repr", .free "min", .free "max", .int "MOST_ROWS" 10, .int "MOST_VALUE" 3, .int "LONGEST_NAME" 8, .str "LETTERS" "abcdefghijklmnopqrstuvwxyz", .str "SIGNS" "abcdefghijklmnopqrstuvwxyz0123456789", .str "DIGITS" "0123456789", .int "MOST_GOALS" 4, .glo "WrongValue", .glo "InvalidName", .glo "InvalidText", .glo "InvalidFlag", .glo "InvalidNumber", .glo "InvalidThing", .glo "InvalidChoice", .glo "InvalidWish", .glo "InvalidSet", .glo "InvalidIndex", .glo "NotASystem", .glo "InvalidGates", .glo "InvalidKinds", .glo "InvalidRows", .glo "InvalidMembers", .glo "InvalidNumbers", .glo "InvalidRun", .glo "InvalidThings", .glo "InvalidChanges", .glo "WrongName", .glo "UnknownName", .glo "UnknownHand", .glo "InUse", .glo "NoAnswer", .glo "TooMany", .glo "Alone", .glo "Waits", .glo "Ended", .glo "NothingToUndo", .glo "Broken", .glo "Row", .cls "Row", .noat "Row" "goal", .noat "Row" "text", .noat "Row" "label", .noat "Row" "word", .noat "Row" "gate", .noat "Row" "value", .noat "Row" "goals", .mkr "Row", .glo "Kind", .cls "Kind", .noat "Kind" "called", .noat "Kind" "texts", .noat "Kind" "parsed", .noat "Kind" "any_number", .noat "Kind" "begun", .mkr "Kind", .glo "is_name", .glo "digit_of", .glo "row_of_words", .glo "has_right_parts", .glo "parsed_row", .glo "leads_within", .glo "parsed_rows", .glo "check_members", .glo "_law_pool", .glo "_law_draw", .glo "_law_words", .glo "_law_place", .glo "_law_kept", .glo "_law_caught", .glo "_law_tag", .glo "_law_line", .glo "_law_lines", .glo "_law_is_tag", .glo "_law_is_place", .glo "_law_bare", .glo "_law_is_line", .glo "_law_sign", .glo "_law_bent_line", .glo "_law_spoiled", .glo "_law_asked", .glo "_law_right", .glo "law"]
def fn : List He.DefD := [d_InvalidName___init__, d_InvalidText___init__, d_InvalidFlag___init__, d_InvalidNumber___init__, d_InvalidThing___init__, d_InvalidChoice___init__, d_InvalidWish___init__, d_InvalidSet___init__, d_InvalidIndex___init__, d_NotASystem___init__, d_InvalidGates___init__, d_InvalidKinds___init__, d_InvalidRows___init__, d_InvalidMembers___init__, d_InvalidNumbers___init__, d_InvalidRun___init__, d_InvalidThings___init__, d_InvalidChanges___init__, d_UnknownName___init__, d_UnknownHand___init__, d_InUse___init__, d_TooMany___init__, d_Alone___init__, d_Waits___init__, d_Ended___init__, d_Broken___init__, d_is_name, d_Row___init__, d_digit_of, d_row_of_words, d_has_right_parts, d_parsed_row, d_leads_within, d_Kind___init__, d_Kind___eq__, d_Kind___len__, d_parsed_rows, d_check_members, d__law_pool, d__law_draw, d__law_words, d__law_place, d__law_kept, d__law_caught, d__law_tag, d__law_line, d__law_lines, d__law_is_tag, d__law_is_place, d__law_bare, d__law_is_line, d__law_sign, d__law_bent_line, d__law_spoiled, d__law_asked, d__law_right, d_law]
def exs : List (PySem.W.Frag → Bool) := [clsIB "Row", noB "Row" "__bool__", noB "Row" "__len__", clsJB "Row" "Kind", clsIB "Kind", eqCB "Kind", noB "Kind" "__bool__", lenB "Kind", clsJB "Kind" "Row", erB "InvalidName" "ValueError.__new__" (tlE "ValueError"), (fun K => decide (PySem.W.typeIn K (.ref (He.ga K "InvalidName")) = some (.type "type"))), mthB "InvalidName" "__init__", noB "InvalidName" "given", erB "InvalidText" "ValueError.__new__" (tlE "ValueError"), (fun K => decide (PySem.W.typeIn K (.ref (He.ga K "InvalidText")) = some (.type "type"))), mthB "InvalidText" "__init__", noB "InvalidText" "given", erB "InvalidFlag" "ValueError.__new__" (tlE "ValueError"), (fun K => decide (PySem.W.typeIn K (.ref (He.ga K "InvalidFlag")) = some (.type "type"))), mthB "InvalidFlag" "__init__", noB "InvalidFlag" "given", erB "InvalidNumber" "ValueError.__new__" (tlE "ValueError"), (fun K => decide (PySem.W.typeIn K (.ref (He.ga K "InvalidNumber")) = some (.type "type"))), mthB "InvalidNumber" "__init__", noB "InvalidNumber" "given", erB "InvalidThing" "ValueError.__new__" (tlE "ValueError"), (fun K => decide (PySem.W.typeIn K (.ref (He.ga K "InvalidThing")) = some (.type "type"))), mthB "InvalidThing" "__init__", noB "InvalidThing" "given", erB "InvalidChoice" "ValueError.__new__" (tlE "ValueError"), (fun K => decide (PySem.W.typeIn K (.ref (He.ga K "InvalidChoice")) = some (.type "type"))), mthB "InvalidChoice" "__init__", noB "InvalidChoice" "given", erB "InvalidWish" "ValueError.__new__" (tlE "ValueError"), (fun K => decide (PySem.W.typeIn K (.ref (He.ga K "InvalidWish")) = some (.type "type"))), mthB "InvalidWish" "__init__", noB "InvalidWish" "given", erB "InvalidSet" "ValueError.__new__" (tlE "ValueError"), (fun K => decide (PySem.W.typeIn K (.ref (He.ga K "InvalidSet")) = some (.type "type"))), mthB "InvalidSet" "__init__", noB "InvalidSet" "given", erB "InvalidIndex" "ValueError.__new__" (tlE "ValueError"), (fun K => decide (PySem.W.typeIn K (.ref (He.ga K "InvalidIndex")) = some (.type "type"))), mthB "InvalidIndex" "__init__", noB "InvalidIndex" "given", erB "NotASystem" "ValueError.__new__" (tlE "ValueError"), (fun K => decide (PySem.W.typeIn K (.ref (He.ga K "NotASystem")) = some (.type "type"))), mthB "NotASystem" "__init__", noB "NotASystem" "given", erB "InvalidGates" "ValueError.__new__" (tlE "ValueError"), (fun K => decide (PySem.W.typeIn K (.ref (He.ga K "InvalidGates")) = some (.type "type"))), mthB "InvalidGates" "__init__", noB "InvalidGates" "index", erB "InvalidKinds" "ValueError.__new__" (tlE "ValueError"), (fun K => decide (PySem.W.typeIn K (.ref (He.ga K "InvalidKinds")) = some (.type "type"))), mthB "InvalidKinds" "__init__", noB "InvalidKinds" "index", erB "InvalidRows" "ValueError.__new__" (tlE "ValueError"), (fun K => decide (PySem.W.typeIn K (.ref (He.ga K "InvalidRows")) = some (.type "type"))), mthB "InvalidRows" "__init__", noB "InvalidRows" "index", erB "InvalidMembers" "ValueError.__new__" (tlE "ValueError"), (fun K => decide (PySem.W.typeIn K (.ref (He.ga K "InvalidMembers")) = some (.type "type"))), mthB "InvalidMembers" "__init__", noB "InvalidMembers" "index", erB "InvalidNumbers" "ValueError.__new__" (tlE "ValueError"), (fun K => decide (PySem.W.typeIn K (.ref (He.ga K "InvalidNumbers")) = some (.type "type"))), mthB "InvalidNumbers" "__init__", noB "InvalidNumbers" "index", erB "InvalidRun" "ValueError.__new__" (tlE "ValueError"), (fun K => decide (PySem.W.typeIn K (.ref (He.ga K "InvalidRun")) = some (.type "type"))), mthB "InvalidRun" "__init__", noB "InvalidRun" "index", erB "InvalidThings" "ValueError.__new__" (tlE "ValueError"), (fun K => decide (PySem.W.typeIn K (.ref (He.ga K "InvalidThings")) = some (.type "type"))), mthB "InvalidThings" "__init__", noB "InvalidThings" "index", erB "InvalidChanges" "ValueError.__new__" (tlE "ValueError"), (fun K => decide (PySem.W.typeIn K (.ref (He.ga K "InvalidChanges")) = some (.type "type"))), mthB "InvalidChanges" "__init__", noB "InvalidChanges" "index", erB "UnknownName" "LookupError.__new__" (tlE "LookupError"), (fun K => decide (PySem.W.typeIn K (.ref (He.ga K "UnknownName")) = some (.type "type"))), mthB "UnknownName" "__init__", noB "UnknownName" "given", erB "UnknownHand" "LookupError.__new__" (tlE "LookupError"), (fun K => decide (PySem.W.typeIn K (.ref (He.ga K "UnknownHand")) = some (.type "type"))), mthB "UnknownHand" "__init__", noB "UnknownHand" "given", erB "InUse" "LookupError.__new__" (tlE "LookupError"), (fun K => decide (PySem.W.typeIn K (.ref (He.ga K "InUse")) = some (.type "type"))), mthB "InUse" "__init__", noB "InUse" "index", erB "TooMany" "ArithmeticError.__new__" (tlE "ArithmeticError"), (fun K => decide (PySem.W.typeIn K (.ref (He.ga K "TooMany")) = some (.type "type"))), mthB "TooMany" "__init__", noB "TooMany" "limit", erB "Alone" "ArithmeticError.__new__" (tlE "ArithmeticError"), (fun K => decide (PySem.W.typeIn K (.ref (He.ga K "Alone")) = some (.type "type"))), mthB "Alone" "__init__", noB "Alone" "given", erB "Waits" "ArithmeticError.__new__" (tlE "ArithmeticError"), (fun K => decide (PySem.W.typeIn K (.ref (He.ga K "Waits")) = some (.type "type"))), mthB "Waits" "__init__", noB "Waits" "hand", erB "Ended" "ArithmeticError.__new__" (tlE "ArithmeticError"), (fun K => decide (PySem.W.typeIn K (.ref (He.ga K "Ended")) = some (.type "type"))), mthB "Ended" "__init__", noB "Ended" "hand", er0B "NothingToUndo" "ArithmeticError", erB "Broken" "ArithmeticError.__new__" (tlE "ArithmeticError"), (fun K => decide (PySem.W.typeIn K (.ref (He.ga K "Broken")) = some (.type "type"))), mthB "Broken" "__init__", noB "Broken" "index", noB "Broken" "shown", (fun K => (List.range 27).all fun i => exB (nmE i) K), (fun K => (List.range 27).all fun i => !([0, 1, 2, 3, 4, 5, 6, 7, 8, 9, 18, 19, 22].contains i) || noB (nmE i) "given" K), (fun K => (List.range 27).all fun i => !([23, 24].contains i) || noB (nmE i) "hand" K), (fun K => (List.range 27).all fun i => !([10, 11, 12, 13, 14, 15, 16, 17, 20, 26].contains i) || noB (nmE i) "index" K), (fun K => (List.range 27).all fun i => !([21].contains i) || noB (nmE i) "limit" K), (fun K => (List.range 27).all fun i => !([26].contains i) || noB (nmE i) "shown" K), (fun K => (List.range 27).all fun i => decide (PySem.W.kitOne K (.ref (He.ga K (nmE i))) (.ref (He.ga K "InvalidName")) = some ((fun i => decide (i = 0)) i))), (fun K => (List.range 27).all fun i => decide (PySem.W.kitOne K (.ref (He.ga K (nmE i))) (.ref (He.ga K "InvalidText")) = some ((fun i => decide (i = 1)) i))), (fun K => (List.range 27).all fun i => decide (PySem.W.kitOne K (.ref (He.ga K (nmE i))) (.ref (He.ga K "InvalidFlag")) = some ((fun i => decide (i = 2)) i))), (fun K => (List.range 27).all fun i => decide (PySem.W.kitOne K (.ref (He.ga K (nmE i))) (.ref (He.ga K "InvalidNumber")) = some ((fun i => decide (i = 3)) i))), (fun K => (List.range 27).all fun i => decide (PySem.W.kitOne K (.ref (He.ga K (nmE i))) (.ref (He.ga K "InvalidThing")) = some ((fun i => decide (i = 4)) i))), (fun K => (List.range 27).all fun i => decide (PySem.W.kitOne K (.ref (He.ga K (nmE i))) (.ref (He.ga K "InvalidChoice")) = some ((fun i => decide (i = 5)) i))), (fun K => (List.range 27).all fun i => decide (PySem.W.kitOne K (.ref (He.ga K (nmE i))) (.ref (He.ga K "InvalidWish")) = some ((fun i => decide (i = 6)) i))), (fun K => (List.range 27).all fun i => decide (PySem.W.kitOne K (.ref (He.ga K (nmE i))) (.ref (He.ga K "InvalidSet")) = some ((fun i => decide (i = 7)) i))), (fun K => (List.range 27).all fun i => decide (PySem.W.kitOne K (.ref (He.ga K (nmE i))) (.ref (He.ga K "InvalidIndex")) = some ((fun i => decide (i = 8)) i))), (fun K => (List.range 27).all fun i => decide (PySem.W.kitOne K (.ref (He.ga K (nmE i))) (.ref (He.ga K "NotASystem")) = some ((fun i => decide (i = 9)) i))), (fun K => (List.range 27).all fun i => decide (PySem.W.kitOne K (.ref (He.ga K (nmE i))) (.ref (He.ga K "InvalidGates")) = some ((fun i => decide (i = 10)) i))), (fun K => (List.range 27).all fun i => decide (PySem.W.kitOne K (.ref (He.ga K (nmE i))) (.ref (He.ga K "InvalidKinds")) = some ((fun i => decide (i = 11)) i))), (fun K => (List.range 27).all fun i => decide (PySem.W.kitOne K (.ref (He.ga K (nmE i))) (.ref (He.ga K "InvalidRows")) = some ((fun i => decide (i = 12)) i))), (fun K => (List.range 27).all fun i => decide (PySem.W.kitOne K (.ref (He.ga K (nmE i))) (.ref (He.ga K "InvalidMembers")) = some ((fun i => decide (i = 13)) i))), (fun K => (List.range 27).all fun i => decide (PySem.W.kitOne K (.ref (He.ga K (nmE i))) (.ref (He.ga K "InvalidNumbers")) = some ((fun i => decide (i = 14)) i))), (fun K => (List.range 27).all fun i => decide (PySem.W.kitOne K (.ref (He.ga K (nmE i))) (.ref (He.ga K "InvalidRun")) = some ((fun i => decide (i = 15)) i))), (fun K => (List.range 27).all fun i => decide (PySem.W.kitOne K (.ref (He.ga K (nmE i))) (.ref (He.ga K "InvalidThings")) = some ((fun i => decide (i = 16)) i))), (fun K => (List.range 27).all fun i => decide (PySem.W.kitOne K (.ref (He.ga K (nmE i))) (.ref (He.ga K "InvalidChanges")) = some ((fun i => decide (i = 17)) i))), (fun K => (List.range 27).all fun i => decide (PySem.W.kitOne K (.ref (He.ga K (nmE i))) (.ref (He.ga K "UnknownName")) = some ((fun i => decide (i = 18)) i))), (fun K => (List.range 27).all fun i => decide (PySem.W.kitOne K (.ref (He.ga K (nmE i))) (.ref (He.ga K "UnknownHand")) = some ((fun i => decide (i = 19)) i))), (fun K => (List.range 27).all fun i => decide (PySem.W.kitOne K (.ref (He.ga K (nmE i))) (.ref (He.ga K "InUse")) = some ((fun i => decide (i = 20)) i))), (fun K => (List.range 27).all fun i => decide (PySem.W.kitOne K (.ref (He.ga K (nmE i))) (.ref (He.ga K "TooMany")) = some ((fun i => decide (i = 21)) i))), (fun K => (List.range 27).all fun i => decide (PySem.W.kitOne K (.ref (He.ga K (nmE i))) (.ref (He.ga K "Alone")) = some ((fun i => decide (i = 22)) i))), (fun K => (List.range 27).all fun i => decide (PySem.W.kitOne K (.ref (He.ga K (nmE i))) (.ref (He.ga K "Waits")) = some ((fun i => decide (i = 23)) i))), (fun K => (List.range 27).all fun i => decide (PySem.W.kitOne K (.ref (He.ga K (nmE i))) (.ref (He.ga K "Ended")) = some ((fun i => decide (i = 24)) i))), (fun K => (List.range 27).all fun i => decide (PySem.W.kitOne K (.ref (He.ga K (nmE i))) (.ref (He.ga K "NothingToUndo")) = some ((fun i => decide (i = 25)) i))), (fun K => (List.range 27).all fun i => decide (PySem.W.kitOne K (.ref (He.ga K (nmE i))) (.ref (He.ga K "Broken")) = some ((fun i => decide (i = 26)) i))), (fun K => (List.range 27).all fun i => decide (PySem.W.kitOne K (.ref (He.ga K (nmE i))) (.ref (He.ga K "WrongValue")) = some ((fun i => decide (i < 18)) i))), (fun K => (List.range 27).all fun i => decide (PySem.W.kitOne K (.ref (He.ga K (nmE i))) (.ref (He.ga K "WrongName")) = some ((fun i => decide (17 < i) && decide (i < 21)) i))), (fun K => (List.range 27).all fun i => decide (PySem.W.kitOne K (.ref (He.ga K (nmE i))) (.ref (He.ga K "NoAnswer")) = some ((fun i => decide (20 < i)) i))), (fun K => (List.range 27).all fun i => decide (PySem.W.kitOne K (.ref (He.ga K (nmE i))) (.type "ArithmeticError") = some ((fun i => decide (20 < i)) i))), (fun K => (List.range 27).all fun i => decide (PySem.W.kitOne K (.ref (He.ga K (nmE i))) (.type "LookupError") = some ((fun i => decide (17 < i) && decide (i < 21)) i))), (fun K => (List.range 27).all fun i => decide (PySem.W.kitOne K (.ref (He.ga K (nmE i))) (.type "ValueError") = some ((fun i => decide (i < 18)) i))), (fun K => (List.range 27).all fun i => decide (PySem.W.exmAny K (.ref (He.ga K (nmE i))) [.ref (He.ga K "WrongValue"), .ref (He.ga K "WrongName"), .ref (He.ga K "NoAnswer")] = some true)), (fun K => (K.lookup sysModules).isSome), (fun K => noneIn K (kwdAt ("Row", some "__init__") "goals" K)), (fun K => noneIn K (kwdAt ("Kind", some "__init__") "members" K))]
def gets : List GetD := [⟨"Kind", "name", "property", defArgs s_Kind_name, defBody s_Kind_name, defScope s_Kind_name⟩, ⟨"Kind", "rows", "property", defArgs s_Kind_rows, defBody s_Kind_rows, defScope s_Kind_rows⟩, ⟨"Kind", "many", "property", defArgs s_Kind_many, defBody s_Kind_many, defScope s_Kind_many⟩, ⟨"Kind", "members", "property", defArgs s_Kind_members, defBody s_Kind_members, defScope s_Kind_members⟩]
theorem tx_of {K : PySem.W.Frag} {h : Heap} {mg : Str → Option Value} (X : K.In h) (G : h.Ns mainGlobals mg) (cg : SaysG fa fn gets exs K) : Tx K mg := by
  have c := cg.d
  exact {
    f_isinstance := He.free_ok X G (c.fact 0 rfl)
    f_str := He.free_ok X G (c.fact 1 rfl)
    f_len := He.free_ok X G (c.fact 2 rfl)
    f_all := He.free_ok X G (c.fact 3 rfl)
    f_int := He.free_ok X G (c.fact 4 rfl)
    f_tuple := He.free_ok X G (c.fact 5 rfl)
    f_range := He.free_ok X G (c.fact 6 rfl)
    f_enumerate := He.free_ok X G (c.fact 7 rfl)
    f_sum := He.free_ok X G (c.fact 8 rfl)
    f_abs := He.free_ok X G (c.fact 9 rfl)
    f_divmod := He.free_ok X G (c.fact 10 rfl)
    f_ValueError := He.free_ok X G (c.fact 11 rfl)
    f_LookupError := He.free_ok X G (c.fact 12 rfl)
    f_ArithmeticError := He.free_ok X G (c.fact 13 rfl)
    f_repr := He.free_ok X G (c.fact 14 rfl)
    f_min := He.free_ok X G (c.fact 15 rfl)
    f_max := He.free_ok X G (c.fact 16 rfl)
    g_MOST_ROWS := (He.int_ok X G (c.fact 17 rfl)).elim fun t e => ⟨_, e, t, rfl⟩
    g_MOST_VALUE := (He.int_ok X G (c.fact 18 rfl)).elim fun t e => ⟨_, e, t, rfl⟩
    g_LONGEST_NAME := (He.int_ok X G (c.fact 19 rfl)).elim fun t e => ⟨_, e, t, rfl⟩
    g_LETTERS := (He.str_ok X G (c.fact 20 rfl)).elim fun t e => ⟨_, e, t, rfl⟩
    g_SIGNS := (He.str_ok X G (c.fact 21 rfl)).elim fun t e => ⟨_, e, t, rfl⟩
    g_DIGITS := (He.str_ok X G (c.fact 22 rfl)).elim fun t e => ⟨_, e, t, rfl⟩
    g_MOST_GOALS := (He.int_ok X G (c.fact 23 rfl)).elim fun t e => ⟨_, e, t, rfl⟩
    g_WrongValue := ⟨_, He.glo_ok X G (c.fact 24 rfl), rfl⟩
    g_InvalidName := ⟨_, He.glo_ok X G (c.fact 25 rfl), rfl⟩
    g_InvalidText := ⟨_, He.glo_ok X G (c.fact 26 rfl), rfl⟩
    g_InvalidFlag := ⟨_, He.glo_ok X G (c.fact 27 rfl), rfl⟩
    g_InvalidNumber := ⟨_, He.glo_ok X G (c.fact 28 rfl), rfl⟩
    g_InvalidThing := ⟨_, He.glo_ok X G (c.fact 29 rfl), rfl⟩
    g_InvalidChoice := ⟨_, He.glo_ok X G (c.fact 30 rfl), rfl⟩
    g_InvalidWish := ⟨_, He.glo_ok X G (c.fact 31 rfl), rfl⟩
    g_InvalidSet := ⟨_, He.glo_ok X G (c.fact 32 rfl), rfl⟩
    g_InvalidIndex := ⟨_, He.glo_ok X G (c.fact 33 rfl), rfl⟩
    g_NotASystem := ⟨_, He.glo_ok X G (c.fact 34 rfl), rfl⟩
    g_InvalidGates := ⟨_, He.glo_ok X G (c.fact 35 rfl), rfl⟩
    g_InvalidKinds := ⟨_, He.glo_ok X G (c.fact 36 rfl), rfl⟩
    g_InvalidRows := ⟨_, He.glo_ok X G (c.fact 37 rfl), rfl⟩
    g_InvalidMembers := ⟨_, He.glo_ok X G (c.fact 38 rfl), rfl⟩
    g_InvalidNumbers := ⟨_, He.glo_ok X G (c.fact 39 rfl), rfl⟩
    g_InvalidRun := ⟨_, He.glo_ok X G (c.fact 40 rfl), rfl⟩
    g_InvalidThings := ⟨_, He.glo_ok X G (c.fact 41 rfl), rfl⟩
    g_InvalidChanges := ⟨_, He.glo_ok X G (c.fact 42 rfl), rfl⟩
    g_WrongName := ⟨_, He.glo_ok X G (c.fact 43 rfl), rfl⟩
    g_UnknownName := ⟨_, He.glo_ok X G (c.fact 44 rfl), rfl⟩
    g_UnknownHand := ⟨_, He.glo_ok X G (c.fact 45 rfl), rfl⟩
    g_InUse := ⟨_, He.glo_ok X G (c.fact 46 rfl), rfl⟩
    g_NoAnswer := ⟨_, He.glo_ok X G (c.fact 47 rfl), rfl⟩
    g_TooMany := ⟨_, He.glo_ok X G (c.fact 48 rfl), rfl⟩
    g_Alone := ⟨_, He.glo_ok X G (c.fact 49 rfl), rfl⟩
    g_Waits := ⟨_, He.glo_ok X G (c.fact 50 rfl), rfl⟩
    g_Ended := ⟨_, He.glo_ok X G (c.fact 51 rfl), rfl⟩
    g_NothingToUndo := ⟨_, He.glo_ok X G (c.fact 52 rfl), rfl⟩
    g_Broken := ⟨_, He.glo_ok X G (c.fact 53 rfl), rfl⟩
    g_Row := ⟨_, He.glo_ok X G (c.fact 54 rfl), rfl⟩
    c_Row := He.cls_ok (c.fact 55 rfl)
    na_Row_goal := He.noat_ok (c.fact 56 rfl)
    na_Row_text := He.noat_ok (c.fact 57 rfl)
    na_Row_label := He.noat_ok (c.fact 58 rfl)
    na_Row_word := He.noat_ok (c.fact 59 rfl)
    na_Row_gate := He.noat_ok (c.fact 60 rfl)
    na_Row_value := He.noat_ok (c.fact 61 rfl)
    na_Row_goals := He.noat_ok (c.fact 62 rfl)
    mk_Row := He.mkr_ok (c.fact 63 rfl)
    g_Kind := ⟨_, He.glo_ok X G (c.fact 64 rfl), rfl⟩
    c_Kind := He.cls_ok (c.fact 65 rfl)
    na_Kind_called := He.noat_ok (c.fact 66 rfl)
    na_Kind_texts := He.noat_ok (c.fact 67 rfl)
    na_Kind_parsed := He.noat_ok (c.fact 68 rfl)
    na_Kind_any_number := He.noat_ok (c.fact 69 rfl)
    na_Kind_begun := He.noat_ok (c.fact 70 rfl)
    mk_Kind := He.mkr_ok (c.fact 71 rfl)
    n_is_name := He.glo_ok X G (c.fact 72 rfl)
    n_digit_of := He.glo_ok X G (c.fact 73 rfl)
    n_row_of_words := He.glo_ok X G (c.fact 74 rfl)
    n_has_right_parts := He.glo_ok X G (c.fact 75 rfl)
    n_parsed_row := He.glo_ok X G (c.fact 76 rfl)
    n_leads_within := He.glo_ok X G (c.fact 77 rfl)
    n_parsed_rows := He.glo_ok X G (c.fact 78 rfl)
    n_check_members := He.glo_ok X G (c.fact 79 rfl)
    n__law_pool := He.glo_ok X G (c.fact 80 rfl)
    n__law_draw := He.glo_ok X G (c.fact 81 rfl)
    n__law_words := He.glo_ok X G (c.fact 82 rfl)
    n__law_place := He.glo_ok X G (c.fact 83 rfl)
    n__law_kept := He.glo_ok X G (c.fact 84 rfl)
    n__law_caught := He.glo_ok X G (c.fact 85 rfl)
    n__law_tag := He.glo_ok X G (c.fact 86 rfl)
    n__law_line := He.glo_ok X G (c.fact 87 rfl)
    n__law_lines := He.glo_ok X G (c.fact 88 rfl)
    n__law_is_tag := He.glo_ok X G (c.fact 89 rfl)
    n__law_is_place := He.glo_ok X G (c.fact 90 rfl)
    n__law_bare := He.glo_ok X G (c.fact 91 rfl)
    n__law_is_line := He.glo_ok X G (c.fact 92 rfl)
    n__law_sign := He.glo_ok X G (c.fact 93 rfl)
    n__law_bent_line := He.glo_ok X G (c.fact 94 rfl)
    n__law_spoiled := He.glo_ok X G (c.fact 95 rfl)
    n__law_asked := He.glo_ok X G (c.fact 96 rfl)
    n__law_right := He.glo_ok X G (c.fact 97 rfl)
    n_law := He.glo_ok X G (c.fact 98 rfl)
    d_InvalidName___init__ := c.def_ 0 rfl
    d_InvalidText___init__ := c.def_ 1 rfl
    d_InvalidFlag___init__ := c.def_ 2 rfl
    d_InvalidNumber___init__ := c.def_ 3 rfl
    d_InvalidThing___init__ := c.def_ 4 rfl
    d_InvalidChoice___init__ := c.def_ 5 rfl
    d_InvalidWish___init__ := c.def_ 6 rfl
    d_InvalidSet___init__ := c.def_ 7 rfl
    d_InvalidIndex___init__ := c.def_ 8 rfl
    d_NotASystem___init__ := c.def_ 9 rfl
    d_InvalidGates___init__ := c.def_ 10 rfl
    d_InvalidKinds___init__ := c.def_ 11 rfl
    d_InvalidRows___init__ := c.def_ 12 rfl
    d_InvalidMembers___init__ := c.def_ 13 rfl
    d_InvalidNumbers___init__ := c.def_ 14 rfl
    d_InvalidRun___init__ := c.def_ 15 rfl
    d_InvalidThings___init__ := c.def_ 16 rfl
    d_InvalidChanges___init__ := c.def_ 17 rfl
    d_UnknownName___init__ := c.def_ 18 rfl
    d_UnknownHand___init__ := c.def_ 19 rfl
    d_InUse___init__ := c.def_ 20 rfl
    d_TooMany___init__ := c.def_ 21 rfl
    d_Alone___init__ := c.def_ 22 rfl
    d_Waits___init__ := c.def_ 23 rfl
    d_Ended___init__ := c.def_ 24 rfl
    d_Broken___init__ := c.def_ 25 rfl
    d_is_name := c.def_ 26 rfl
    d_Row___init__ := c.def_ 27 rfl
    d_digit_of := c.def_ 28 rfl
    d_row_of_words := c.def_ 29 rfl
    d_has_right_parts := c.def_ 30 rfl
    d_parsed_row := c.def_ 31 rfl
    d_leads_within := c.def_ 32 rfl
    d_Kind___init__ := c.def_ 33 rfl
    d_Kind___eq__ := c.def_ 34 rfl
    d_Kind___len__ := c.def_ 35 rfl
    d_parsed_rows := c.def_ 36 rfl
    d_check_members := c.def_ 37 rfl
    d__law_pool := c.def_ 38 rfl
    d__law_draw := c.def_ 39 rfl
    d__law_words := c.def_ 40 rfl
    d__law_place := c.def_ 41 rfl
    d__law_kept := c.def_ 42 rfl
    d__law_caught := c.def_ 43 rfl
    d__law_tag := c.def_ 44 rfl
    d__law_line := c.def_ 45 rfl
    d__law_lines := c.def_ 46 rfl
    d__law_is_tag := c.def_ 47 rfl
    d__law_is_place := c.def_ 48 rfl
    d__law_bare := c.def_ 49 rfl
    d__law_is_line := c.def_ 50 rfl
    d__law_sign := c.def_ 51 rfl
    d__law_bent_line := c.def_ 52 rfl
    d__law_spoiled := c.def_ 53 rfl
    d__law_asked := c.def_ 54 rfl
    d__law_right := c.def_ 55 rfl
    d_law := c.def_ 56 rfl
    i_Row := clsI_of (cg.more 0 rfl)
    nb_Row := no_of (cg.more 1 rfl)
    nl_Row := no_of (cg.more 2 rfl)
    j_Row_Kind := clsJ_of (cg.more 3 rfl)
    i_Kind := clsI_of (cg.more 4 rfl)
    e_Kind := eqC_of (cg.more 5 rfl)
    nb_Kind := no_of (cg.more 6 rfl)
    l_Kind := len_of (cg.more 7 rfl)
    j_Kind_Row := clsJ_of (cg.more 8 rfl)
    er_InvalidName := er_of (cg.more 9 rfl)
    ty_InvalidName := of_decide_eq_true (cg.more 10 rfl)
    in_InvalidName := mth_of (cg.more 11 rfl)
    no_InvalidName_given := no_of (cg.more 12 rfl)
    er_InvalidText := er_of (cg.more 13 rfl)
    ty_InvalidText := of_decide_eq_true (cg.more 14 rfl)
    in_InvalidText := mth_of (cg.more 15 rfl)
    no_InvalidText_given := no_of (cg.more 16 rfl)
    er_InvalidFlag := er_of (cg.more 17 rfl)
    ty_InvalidFlag := of_decide_eq_true (cg.more 18 rfl)
    in_InvalidFlag := mth_of (cg.more 19 rfl)
    no_InvalidFlag_given := no_of (cg.more 20 rfl)
    er_InvalidNumber := er_of (cg.more 21 rfl)
    ty_InvalidNumber := of_decide_eq_true (cg.more 22 rfl)
    in_InvalidNumber := mth_of (cg.more 23 rfl)
    no_InvalidNumber_given := no_of (cg.more 24 rfl)
    er_InvalidThing := er_of (cg.more 25 rfl)
    ty_InvalidThing := of_decide_eq_true (cg.more 26 rfl)
    in_InvalidThing := mth_of (cg.more 27 rfl)
    no_InvalidThing_given := no_of (cg.more 28 rfl)
    er_InvalidChoice := er_of (cg.more 29 rfl)
    ty_InvalidChoice := of_decide_eq_true (cg.more 30 rfl)
    in_InvalidChoice := mth_of (cg.more 31 rfl)
    no_InvalidChoice_given := no_of (cg.more 32 rfl)
    er_InvalidWish := er_of (cg.more 33 rfl)
    ty_InvalidWish := of_decide_eq_true (cg.more 34 rfl)
    in_InvalidWish := mth_of (cg.more 35 rfl)
    no_InvalidWish_given := no_of (cg.more 36 rfl)
    er_InvalidSet := er_of (cg.more 37 rfl)
    ty_InvalidSet := of_decide_eq_true (cg.more 38 rfl)
    in_InvalidSet := mth_of (cg.more 39 rfl)
    no_InvalidSet_given := no_of (cg.more 40 rfl)
    er_InvalidIndex := er_of (cg.more 41 rfl)
    ty_InvalidIndex := of_decide_eq_true (cg.more 42 rfl)
    in_InvalidIndex := mth_of (cg.more 43 rfl)
    no_InvalidIndex_given := no_of (cg.more 44 rfl)
    er_NotASystem := er_of (cg.more 45 rfl)
    ty_NotASystem := of_decide_eq_true (cg.more 46 rfl)
    in_NotASystem := mth_of (cg.more 47 rfl)
    no_NotASystem_given := no_of (cg.more 48 rfl)
    er_InvalidGates := er_of (cg.more 49 rfl)
    ty_InvalidGates := of_decide_eq_true (cg.more 50 rfl)
    in_InvalidGates := mth_of (cg.more 51 rfl)
    no_InvalidGates_index := no_of (cg.more 52 rfl)
    er_InvalidKinds := er_of (cg.more 53 rfl)
    ty_InvalidKinds := of_decide_eq_true (cg.more 54 rfl)
    in_InvalidKinds := mth_of (cg.more 55 rfl)
    no_InvalidKinds_index := no_of (cg.more 56 rfl)
    er_InvalidRows := er_of (cg.more 57 rfl)
    ty_InvalidRows := of_decide_eq_true (cg.more 58 rfl)
    in_InvalidRows := mth_of (cg.more 59 rfl)
    no_InvalidRows_index := no_of (cg.more 60 rfl)
    er_InvalidMembers := er_of (cg.more 61 rfl)
    ty_InvalidMembers := of_decide_eq_true (cg.more 62 rfl)
    in_InvalidMembers := mth_of (cg.more 63 rfl)
    no_InvalidMembers_index := no_of (cg.more 64 rfl)
    er_InvalidNumbers := er_of (cg.more 65 rfl)
    ty_InvalidNumbers := of_decide_eq_true (cg.more 66 rfl)
    in_InvalidNumbers := mth_of (cg.more 67 rfl)
    no_InvalidNumbers_index := no_of (cg.more 68 rfl)
    er_InvalidRun := er_of (cg.more 69 rfl)
    ty_InvalidRun := of_decide_eq_true (cg.more 70 rfl)
    in_InvalidRun := mth_of (cg.more 71 rfl)
    no_InvalidRun_index := no_of (cg.more 72 rfl)
    er_InvalidThings := er_of (cg.more 73 rfl)
    ty_InvalidThings := of_decide_eq_true (cg.more 74 rfl)
    in_InvalidThings := mth_of (cg.more 75 rfl)
    no_InvalidThings_index := no_of (cg.more 76 rfl)
    er_InvalidChanges := er_of (cg.more 77 rfl)
    ty_InvalidChanges := of_decide_eq_true (cg.more 78 rfl)
    in_InvalidChanges := mth_of (cg.more 79 rfl)
    no_InvalidChanges_index := no_of (cg.more 80 rfl)
    er_UnknownName := er_of (cg.more 81 rfl)
    ty_UnknownName := of_decide_eq_true (cg.more 82 rfl)
    in_UnknownName := mth_of (cg.more 83 rfl)
    no_UnknownName_given := no_of (cg.more 84 rfl)
    er_UnknownHand := er_of (cg.more 85 rfl)
    ty_UnknownHand := of_decide_eq_true (cg.more 86 rfl)
    in_UnknownHand := mth_of (cg.more 87 rfl)
    no_UnknownHand_given := no_of (cg.more 88 rfl)
    er_InUse := er_of (cg.more 89 rfl)
    ty_InUse := of_decide_eq_true (cg.more 90 rfl)
    in_InUse := mth_of (cg.more 91 rfl)
    no_InUse_index := no_of (cg.more 92 rfl)
    er_TooMany := er_of (cg.more 93 rfl)
    ty_TooMany := of_decide_eq_true (cg.more 94 rfl)
    in_TooMany := mth_of (cg.more 95 rfl)
    no_TooMany_limit := no_of (cg.more 96 rfl)
    er_Alone := er_of (cg.more 97 rfl)
    ty_Alone := of_decide_eq_true (cg.more 98 rfl)
    in_Alone := mth_of (cg.more 99 rfl)
    no_Alone_given := no_of (cg.more 100 rfl)
    er_Waits := er_of (cg.more 101 rfl)
    ty_Waits := of_decide_eq_true (cg.more 102 rfl)
    in_Waits := mth_of (cg.more 103 rfl)
    no_Waits_hand := no_of (cg.more 104 rfl)
    er_Ended := er_of (cg.more 105 rfl)
    ty_Ended := of_decide_eq_true (cg.more 106 rfl)
    in_Ended := mth_of (cg.more 107 rfl)
    no_Ended_hand := no_of (cg.more 108 rfl)
    ei_NothingToUndo := er0_of (cg.more 109 rfl)
    er_Broken := er_of (cg.more 110 rfl)
    ty_Broken := of_decide_eq_true (cg.more 111 rfl)
    in_Broken := mth_of (cg.more 112 rfl)
    no_Broken_index := no_of (cg.more 113 rfl)
    no_Broken_shown := no_of (cg.more 114 rfl)
    ex_all := all_of (cg.more 115 rfl) fun i => ex_of
    nf_given := all_of (cg.more 116 rfl) fun i h ho => by rw [ho] at h; exact no_of h
    nf_hand := all_of (cg.more 117 rfl) fun i h ho => by rw [ho] at h; exact no_of h
    nf_index := all_of (cg.more 118 rfl) fun i h ho => by rw [ho] at h; exact no_of h
    nf_limit := all_of (cg.more 119 rfl) fun i h ho => by rw [ho] at h; exact no_of h
    nf_shown := all_of (cg.more 120 rfl) fun i h ho => by rw [ho] at h; exact no_of h
    k_InvalidName := all_of (cg.more 121 rfl) fun i => of_decide_eq_true
    k_InvalidText := all_of (cg.more 122 rfl) fun i => of_decide_eq_true
    k_InvalidFlag := all_of (cg.more 123 rfl) fun i => of_decide_eq_true
    k_InvalidNumber := all_of (cg.more 124 rfl) fun i => of_decide_eq_true
    k_InvalidThing := all_of (cg.more 125 rfl) fun i => of_decide_eq_true
    k_InvalidChoice := all_of (cg.more 126 rfl) fun i => of_decide_eq_true
    k_InvalidWish := all_of (cg.more 127 rfl) fun i => of_decide_eq_true
    k_InvalidSet := all_of (cg.more 128 rfl) fun i => of_decide_eq_true
    k_InvalidIndex := all_of (cg.more 129 rfl) fun i => of_decide_eq_true
    k_NotASystem := all_of (cg.more 130 rfl) fun i => of_decide_eq_true
    k_InvalidGates := all_of (cg.more 131 rfl) fun i => of_decide_eq_true
    k_InvalidKinds := all_of (cg.more 132 rfl) fun i => of_decide_eq_true
    k_InvalidRows := all_of (cg.more 133 rfl) fun i => of_decide_eq_true
    k_InvalidMembers := all_of (cg.more 134 rfl) fun i => of_decide_eq_true
    k_InvalidNumbers := all_of (cg.more 135 rfl) fun i => of_decide_eq_true
    k_InvalidRun := all_of (cg.more 136 rfl) fun i => of_decide_eq_true
    k_InvalidThings := all_of (cg.more 137 rfl) fun i => of_decide_eq_true
    k_InvalidChanges := all_of (cg.more 138 rfl) fun i => of_decide_eq_true
    k_UnknownName := all_of (cg.more 139 rfl) fun i => of_decide_eq_true
    k_UnknownHand := all_of (cg.more 140 rfl) fun i => of_decide_eq_true
    k_InUse := all_of (cg.more 141 rfl) fun i => of_decide_eq_true
    k_TooMany := all_of (cg.more 142 rfl) fun i => of_decide_eq_true
    k_Alone := all_of (cg.more 143 rfl) fun i => of_decide_eq_true
    k_Waits := all_of (cg.more 144 rfl) fun i => of_decide_eq_true
    k_Ended := all_of (cg.more 145 rfl) fun i => of_decide_eq_true
    k_NothingToUndo := all_of (cg.more 146 rfl) fun i => of_decide_eq_true
    k_Broken := all_of (cg.more 147 rfl) fun i => of_decide_eq_true
    k_WrongValue := all_of (cg.more 148 rfl) fun i => of_decide_eq_true
    k_WrongName := all_of (cg.more 149 rfl) fun i => of_decide_eq_true
    k_NoAnswer := all_of (cg.more 150 rfl) fun i => of_decide_eq_true
    k_ArithmeticError := all_of (cg.more 151 rfl) fun i => of_decide_eq_true
    k_LookupError := all_of (cg.more 152 rfl) fun i => of_decide_eq_true
    k_ValueError := all_of (cg.more 153 rfl) fun i => of_decide_eq_true
    xm_all := all_of (cg.more 154 rfl) fun i => of_decide_eq_true
    sm := cg.more 155 rfl
    kt_Row___init___goals := noneIn_of (cg.more 156 rfl)
    kt_Kind___init___members := noneIn_of (cg.more 157 rfl)
    p_Kind_name := fun P w base => getP_of (d := ⟨"Kind", "name", "property", defArgs s_Kind_name, defBody s_Kind_name, defScope s_Kind_name⟩) (cg.getter 0 rfl).2 (cg.getter 0 rfl).1 rfl (He.cls_ok (c.fact 65 rfl)) (He.noat_ok (c.fact 66 rfl)) sc_Kind_name rfl fun _ _ _ _ _ _ us hl => match us, hl with | [_], _ => rfl
    p_Kind_rows := fun P w base => getP_of (d := ⟨"Kind", "rows", "property", defArgs s_Kind_rows, defBody s_Kind_rows, defScope s_Kind_rows⟩) (cg.getter 1 rfl).2 (cg.getter 1 rfl).1 rfl (He.cls_ok (c.fact 65 rfl)) (He.noat_ok (c.fact 67 rfl)) sc_Kind_rows rfl fun _ _ _ _ _ _ us hl => match us, hl with | [_], _ => rfl
    p_Kind_many := fun P w base => getP_of (d := ⟨"Kind", "many", "property", defArgs s_Kind_many, defBody s_Kind_many, defScope s_Kind_many⟩) (cg.getter 2 rfl).2 (cg.getter 2 rfl).1 rfl (He.cls_ok (c.fact 65 rfl)) (He.noat_ok (c.fact 69 rfl)) sc_Kind_many rfl fun _ _ _ _ _ _ us hl => match us, hl with | [_], _ => rfl
    p_Kind_members := fun P w base => getP_of (d := ⟨"Kind", "members", "property", defArgs s_Kind_members, defBody s_Kind_members, defScope s_Kind_members⟩) (cg.getter 3 rfl).2 (cg.getter 3 rfl).1 rfl (He.cls_ok (c.fact 65 rfl)) (He.noat_ok (c.fact 70 rfl)) sc_Kind_members rfl fun _ _ _ _ _ _ us hl => match us, hl with | [_], _ => rfl
  }
abbrev R : PySem.W.OpenRow := PySem.W.OpenLaw.row PySem.Challenge.rw_gatecrowds_k05_rows_bent
abbrev tbs : List Str := ["_law_asked"]
/-- the addresses that the facts look at -/
def adds : List Addr := [3, 6, 4, 24, 44, 63, 82, 101, 120, 139, 158, 177, 196, 215, 234, 253, 272, 291, 310, 329, 348, 367, 379, 399, 418, 437, 449, 469, 488, 507, 526, 538, 557, 564, 583, 594, 599, 604, 611, 616, 681, 692, 699, 706, 713, 720, 727, 734, 741, 746, 751, 756, 761, 766, 773, 778, 785, 792, 799, 804, 811, 816, 0, 23, 43, 62, 81, 100, 119, 138, 157, 176, 195, 214, 233, 252, 271, 290, 309, 328, 347, 366, 378, 398, 417, 436, 448, 468, 487, 506, 525, 537, 556, 563, 582, 593, 598, 603, 610, 615, 680, 691, 698, 705, 712, 719, 726, 733, 740, 745, 750, 755, 760, 765, 772, 777, 784, 791, 798, 803, 810, 815, 22, 25, 41, 42, 60, 61, 79, 80, 98, 99, 117, 118, 136, 137, 155, 156, 174, 175, 193, 194, 212, 213, 231, 232, 250, 251, 269, 270, 288, 289, 307, 308, 326, 327, 345, 346, 364, 365, 377, 380, 396, 397, 415, 416, 434, 435, 447, 450, 466, 467, 485, 486, 504, 505, 523, 524, 536, 554, 555, 560, 562, 580, 581, 584, 585, 588, 590, 591, 592, 595, 597, 600, 602, 605, 607, 608, 609, 612, 614, 632, 640, 648, 656, 664, 671, 678, 679, 682, 683, 686, 688, 689, 690, 693, 695, 696, 697, 700, 702, 703, 704, 707, 709, 710, 711, 714, 716, 717, 718, 721, 723, 724, 725, 728, 730, 731, 732, 735, 737, 738, 739, 742, 744, 747, 749, 752, 754, 757, 759, 762, 764, 767, 769, 770, 771, 774, 776, 779, 781, 782, 783, 786, 788, 789, 790, 793, 795, 796, 797, 800, 802, 805, 807, 808, 809, 812, 814, 40, 59, 78, 97, 116, 135, 154, 173, 192, 211, 230, 249, 268, 287, 306, 325, 344, 363, 395, 414, 433, 465, 484, 503, 522, 553, 579, 573, 631, 625, 639, 647, 655, 663, 670, 677, 35, 37, 38, 39, 54, 56, 57, 58, 73, 75, 76, 77, 92, 94, 95, 96, 111, 113, 114, 115, 130, 132, 133, 134, 149, 151, 152, 153, 168, 170, 171, 172, 187, 189, 190, 191, 206, 208, 209, 210, 225, 227, 228, 229, 244, 246, 247, 248, 263, 265, 266, 267, 282, 284, 285, 286, 301, 303, 304, 305, 320, 322, 323, 324, 339, 341, 342, 343, 358, 360, 361, 362, 390, 392, 393, 394, 409, 411, 412, 413, 428, 430, 431, 432, 460, 462, 463, 464, 479, 481, 482, 483, 498, 500, 501, 502, 517, 519, 520, 521, 548, 550, 551, 552, 574, 576, 577, 578, 572, 626, 628, 629, 630, 624, 638, 646, 654, 662, 665, 667, 668, 669, 672, 674, 675, 676, 633, 635, 636, 637, 641, 643, 644, 645, 649, 651, 652, 653, 657, 659, 660, 661, 2, 1]
abbrev hk : PySem.W.Hook := hookT adds fa fn gets exs tbs
end G
namespace G
open PySem PySem.Spec PyProof.Rows L2
/-- what is left for the law, where K is what the head tells -/
def LawF (w : World) (mg : Str → Option Value) (f : Addr) (h : Heap) (K : PySem.W.Frag) : Prop :=
  ∃ (fd : FuncData) (sp : Sp), (∀ (s : Shared) (u : Value), BindsTo s fd ⟨[u], []⟩ [("_law_script", u)]) ∧
    (∀ (H : Hp) (a : Addr) (ns : List Int), ns.length ≤ 63 → (∀ y ∈ tbs, H (tabA K y) = some (.tbl #[])) → SqL K H a (ns.map V.int) → sp [.ref a] H (fun v _ => v = .bl true) fun _ _ _ => False) ∧
    ∀ base : Heap, K.In base → base.Ns mainGlobals mg → (∀ y ∈ tbs, LamX.TabB base mg (codeA K y) (tabA K y)) → (base.get? sysModules).isSome = true → FnG (PySem.Challenge.rw_gatecrowds_k05_rows_bent).prog w K mg base CX0 12 f fd ["_law_script"] sp
def tabKB (K : PySem.W.Frag) (ts : List Addr) (x : Str) : Bool := fnCodeB K x && (codeB K x && ((K.lookup (tabA K x)).isNone && ts.contains (tabA K x)))
theorem tabK_km {K : PySem.W.Frag} {h : Heap} {x : Str} {ts : List Addr} (kin : K.In h) (tb : ∀ P ∈ ts, h.get? P = some (PySem.W.tabObj #[])) (e : tabKB K ts x = true) : TabK K h x := by
  unfold tabKB at e
  obtain ⟨h1, e⟩ := He.ba e
  obtain ⟨h2, e⟩ := He.ba e
  obtain ⟨h3, h4⟩ := He.ba e
  refine tabK_of kin ?_
  have h5 := tb _ (by simpa using h4)
  unfold tabB
  rw [h1, h2, h3, h5]
  rfl
/-- what remains once the head is run -/
abbrev Rest : Prop := ∀ (w : World) (mg : Str → Option Value) (f : Addr) (h : Heap) (K : PySem.W.Frag), K.In h → h.Ns mainGlobals mg → mg ("law" : Str) = some (.ref f) →
  SaysG fa fn gets exs K → (∀ y ∈ tbs, TabK K h y) → LawF w mg f h K
theorem lawF_km {Kp : PySem.Params → PySem.W.Frag} {as : List Addr} {e : ∀ P, as = (Kp P).map (·.1)} {ts : List Addr} {w : World} {mg : Str → Option Value} {f : Addr} {h : Heap} (Y : (PySem.W.kmHook Kp as e ts).says w h)
    (a : tbs.all (tabKB (Kp w.params) ts) = true) (b : SaysG fa fn gets exs (Kp w.params)) (F : Rest) (Gl : h.Ns mainGlobals mg) (own : mg ("law" : Str) = some (.ref f)) :
    ∃ (K : PySem.W.Frag) (fd : FuncData) (sp : Sp), K.In h ∧ (∀ y ∈ tbs, TabK K h y) ∧ (∀ (s : Shared) (u : Value), BindsTo s fd ⟨[u], []⟩ [("_law_script", u)]) ∧
      (∀ (H : Hp) (a : Addr) (ns : List Int), ns.length ≤ 63 → (∀ y ∈ tbs, H (tabA K y) = some (.tbl #[])) → SqL K H a (ns.map V.int) → sp [.ref a] H (fun v _ => v = .bl true) fun _ _ _ => False) ∧
      ∀ base : Heap, K.In base → base.Ns mainGlobals mg → (∀ y ∈ tbs, LamX.TabB base mg (codeA K y) (tabA K y)) → (base.get? sysModules).isSome = true → FnG (PySem.Challenge.rw_gatecrowds_k05_rows_bent).prog w K mg base CX0 12 f fd ["_law_script"] sp := by
  have kin := PySem.W.km_in_of Y
  have tk : ∀ y ∈ tbs, TabK (Kp w.params) h y := fun y hy => tabK_km kin (PySem.W.km_tabs_of Y) (List.all_eq_true.mp a y hy)
  obtain ⟨fd, sp, x1, x2, x3⟩ := F w mg f h _ kin Gl own b tk
  exact ⟨_, fd, sp, kin, tk, x1, x2, x3⟩
end G
namespace G
open PySem PySem.Spec PyProof.Rows L2
/-! ### the head's run, looked at in parts: each part its own theorem -/
def ob (s : PySem.W.SharedT) : AlT := obsKT adds fa fn gets exs tbs (HandSHeadRun.getT s)
theorem ob_eq (s : PySem.W.SharedT) : ob s = hk.obs s.abs := obsKT_eq (HandSHeadRun.getT_eq s)
def names : List PySem.Str := (["WrongValue", "InvalidName", "InvalidText", "InvalidFlag", "InvalidNumber", "InvalidThing", "InvalidChoice", "InvalidWish", "InvalidSet", "InvalidIndex", "NotASystem", "InvalidGates", "InvalidKinds", "InvalidRows", "InvalidMembers", "InvalidNumbers", "InvalidRun", "InvalidThings", "InvalidChanges", "WrongName"] : List PySem.Str) ++ (["UnknownName", "UnknownHand", "InUse", "NoAnswer", "TooMany", "Alone", "Waits", "Ended", "NothingToUndo", "Broken", "MOST_ROWS", "MOST_VALUE", "LONGEST_NAME", "LETTERS", "SIGNS", "is_name", "DIGITS", "MOST_GOALS", "Row", "digit_of"] : List PySem.Str) ++ (["row_of_words", "has_right_parts", "parsed_row", "leads_within", "Kind", "parsed_rows", "check_members", "_law_pool", "_law_draw", "_law_words", "_law_place", "_law_kept", "_law_caught", "_law_tag", "_law_line", "_law_lines", "_law_is_tag", "_law_is_place", "_law_bare", "_law_is_line"] : List PySem.Str) ++ (["_law_sign", "_law_bent_line", "_law_spoiled", "_law_asked", "_law_right"] : List PySem.Str)
noncomputable abbrev theEnd (w : World) (os : OsState) : Option PySem.W.SharedT := HandSHeadRun.endF (HandSHeadRun.stepQ (HandSHeadRun.denQ HandSHeadRun.tabQ) R.prog w) 20000 R.prog w os
theorem run1 (w : World) (os : OsState) : (theEnd w os).map (fun s => HandSHeadRun.looksF R.prog (PySem.W.boot_heap w.params) s.abs) = some true := by kernel_rfl
theorem run2 (w : World) (os : OsState) : (theEnd w os).map (fun s => HandSHeadRun.seenQ (PySem.W.view R.prog [70]) names (importedModules R.prog.main.body) (fun s => PySem.W.xlAt (PySem.W.view R.prog [70]) [] s && PySem.W.recOk R.toRowW.records s) s.abs) = some (PySem.W.openGood (PySem.W.view R.prog [70]) names) := by kernel_rfl
/-- the fragment at the end -/
abbrev endFr (s : PySem.W.SharedT) : PySem.W.Frag := frT adds (HandSHeadRun.getT s)
theorem run3 (w : World) (os : OsState) : (theEnd w os).map (fun s => He.obsD fa fn (endFr s)) = some (He.valD fn) := by kernel_rfl
theorem run4 (w : World) (os : OsState) : (theEnd w os).map (fun s => exs.all fun f => f (endFr s)) = some true := by kernel_rfl
theorem run7 (w : World) (os : OsState) : (theEnd w os).map (fun s => ((gets.all fun d => d.ok (endFr s), gets.map fun d => obsF (endFr s) (d.at (endFr s))), tbs.all fun x => tabB (HandSHeadRun.getT s) (endFr s) x)) = some ((true, gets.map GetD.val), true) := by kernel_rfl
theorem at_some {α β : Type} {o : Option α} {f : α → β} {b : β} {s : α} (e : o = some s) (h : o.map f = some b) : f s = b := by
  rw [e] at h
  exact Option.some.inj h
theorem run (w : World) : HandSHeadRun.RunEq R (PySem.W.view R.prog [70]) hk ob 20000 names w := fun os => by
  obtain ⟨s, e, _⟩ := Option.map_eq_some_iff.mp (run1 w os)
  have q1 := at_some e (run1 w os)
  have q2 := at_some e (run2 w os)
  have q3 := at_some e (run3 w os)
  have q4 := at_some e (run4 w os)
  have q7 := at_some e (run7 w os)
  obtain ⟨q9, q8⟩ := Prod.mk.inj q7
  have e' : HandSHeadRun.endF (HandSHeadRun.stepQ (HandSHeadRun.denQ HandSHeadRun.tabQ) R.prog w) 20000 R.prog w os = some s := e
  have o : ob s = hk.val w := by
    show (((He.obsD fa fn (endFr s), ((exs.all fun f => f (endFr s)) && gets.all fun d => d.ok (endFr s)), gets.map fun d => obsF (endFr s) (d.at (endFr s))) : AlG), tbs.all fun x => tabB (HandSHeadRun.getT s) (endFr s) x) = ((He.valD fn, true, gets.map GetD.val), true)
    rw [q3, q4, q8, (Prod.mk.inj q9).1, (Prod.mk.inj q9).2]
    rfl
  rw [e']
  show some (_, _, ob s) = some (true, PySem.W.openGood _ names, hk.val w)
  rw [o]
  exact congrArg some (Prod.ext q1 (Prod.ext q2 rfl))
end G
open PySem PySem.W PySem.Calls PyProof.Rows
theorem G.kread_of (F : G.Rest) : PySem.Challenge.rw_gatecrowds_k05_rows_bent.Holds := by
  w_on; o_law
  refine HandSHeadRun.head_any (r := G.R) (q := view G.R.prog [70]) (H := G.hk) (ob := G.ob) (M := 20000) (loose := G.names) (d := HandSHeadRun.topDef G.R.prog 70) (kwd := []) G.ob_eq
    (by kernel_rfl) (fun s => by kernel_rfl) G.run (by kernel_rfl) (by kernel_rfl) (by kernel_rfl) (by rfl) (by first | assumption | decide +kernel) (by decide +kernel)
    ⟨rfl, rfl, rfl, rfl, rfl, by decide +kernel⟩ ?hw ?call
  case hw => w_witness2
  case call =>
    refine G.walkS (l := PySem.Challenge.rw_gatecrowds_k05_rows_bent) (n := 63) (k := 12) (x := "_law_script") (ts := G.tbs) (CX := L2.CX0) rfl (by decide) (by kernel_rfl) ⟨rfl, by decide, by decide⟩ (by kernel_rfl) ?F (fun _ _ _ _ z => z)
    intro w mg fa h Y Gl own _
    obtain ⟨K, kin, c, t⟩ := Y
    have own' : mg ("law" : PySem.Str) = some (.ref fa) := by
      have e : (HandSHeadRun.topDef G.R.prog 70).name = ("law" : PySem.Str) := by kernel_rfl
      rw [← e]
      exact own
    obtain ⟨fd, sp, x1, x2, x3⟩ := F w mg fa h K kin Gl own' c t
    exact ⟨K, fd, sp, kin, t, x1, x2, x3⟩
namespace G
open PySem PySem.Spec PyProof.Rows L2
/-! ### the constructors of errors -/
section
variable {K : PySem.W.Frag} {mg : Str → Option Value}
theorem e_InvalidName_given {P : Program} {w : World} {base : Heap} (T : Tx K mg) : ErK P w K mg base "InvalidName" (He.ga K "InvalidName") 1 ["given"] false (gF1 "given") := by
  obtain ⟨fd, F⟩ := T.d_InvalidName___init__
  exact erK_of base_VE T.er_InvalidName T.in_InvalidName.1 T.in_InvalidName.2 F (ok_err1 base_VE T.er_InvalidName T.no_InvalidName_given F sc_InvalidName___init__ rfl) T.g_InvalidName (fun _ _ _ _ _ _ us hl => match us, hl with | [_, _], _ => rfl) (fun _ _ _ _ _ _ us ws l1 l2 => match us, ws, l1, l2 with | [_], [_], _, _ => rfl)
theorem e_InvalidName {P : Program} {w : World} {base : Heap} (T : Tx K mg) : ErK P w K mg base "InvalidName" (He.ga K "InvalidName") 1 ["given"] false (gF1 "given") := e_InvalidName_given T
theorem e_InvalidText_given {P : Program} {w : World} {base : Heap} (T : Tx K mg) : ErK P w K mg base "InvalidText" (He.ga K "InvalidText") 1 ["given"] false (gF1 "given") := by
  obtain ⟨fd, F⟩ := T.d_InvalidText___init__
  exact erK_of base_VE T.er_InvalidText T.in_InvalidText.1 T.in_InvalidText.2 F (ok_err1 base_VE T.er_InvalidText T.no_InvalidText_given F sc_InvalidText___init__ rfl) T.g_InvalidText (fun _ _ _ _ _ _ us hl => match us, hl with | [_, _], _ => rfl) (fun _ _ _ _ _ _ us ws l1 l2 => match us, ws, l1, l2 with | [_], [_], _, _ => rfl)
theorem e_InvalidText {P : Program} {w : World} {base : Heap} (T : Tx K mg) : ErK P w K mg base "InvalidText" (He.ga K "InvalidText") 1 ["given"] false (gF1 "given") := e_InvalidText_given T
theorem e_InvalidFlag_given {P : Program} {w : World} {base : Heap} (T : Tx K mg) : ErK P w K mg base "InvalidFlag" (He.ga K "InvalidFlag") 1 ["given"] false (gF1 "given") := by
  obtain ⟨fd, F⟩ := T.d_InvalidFlag___init__
  exact erK_of base_VE T.er_InvalidFlag T.in_InvalidFlag.1 T.in_InvalidFlag.2 F (ok_err1 base_VE T.er_InvalidFlag T.no_InvalidFlag_given F sc_InvalidFlag___init__ rfl) T.g_InvalidFlag (fun _ _ _ _ _ _ us hl => match us, hl with | [_, _], _ => rfl) (fun _ _ _ _ _ _ us ws l1 l2 => match us, ws, l1, l2 with | [_], [_], _, _ => rfl)
theorem e_InvalidFlag {P : Program} {w : World} {base : Heap} (T : Tx K mg) : ErK P w K mg base "InvalidFlag" (He.ga K "InvalidFlag") 1 ["given"] false (gF1 "given") := e_InvalidFlag_given T
theorem e_InvalidNumber_given {P : Program} {w : World} {base : Heap} (T : Tx K mg) : ErK P w K mg base "InvalidNumber" (He.ga K "InvalidNumber") 1 ["given"] false (gF1 "given") := by
  obtain ⟨fd, F⟩ := T.d_InvalidNumber___init__
  exact erK_of base_VE T.er_InvalidNumber T.in_InvalidNumber.1 T.in_InvalidNumber.2 F (ok_err1 base_VE T.er_InvalidNumber T.no_InvalidNumber_given F sc_InvalidNumber___init__ rfl) T.g_InvalidNumber (fun _ _ _ _ _ _ us hl => match us, hl with | [_, _], _ => rfl) (fun _ _ _ _ _ _ us ws l1 l2 => match us, ws, l1, l2 with | [_], [_], _, _ => rfl)
theorem e_InvalidNumber {P : Program} {w : World} {base : Heap} (T : Tx K mg) : ErK P w K mg base "InvalidNumber" (He.ga K "InvalidNumber") 1 ["given"] false (gF1 "given") := e_InvalidNumber_given T
theorem e_InvalidThing_given {P : Program} {w : World} {base : Heap} (T : Tx K mg) : ErK P w K mg base "InvalidThing" (He.ga K "InvalidThing") 1 ["given"] false (gF1 "given") := by
  obtain ⟨fd, F⟩ := T.d_InvalidThing___init__
  exact erK_of base_VE T.er_InvalidThing T.in_InvalidThing.1 T.in_InvalidThing.2 F (ok_err1 base_VE T.er_InvalidThing T.no_InvalidThing_given F sc_InvalidThing___init__ rfl) T.g_InvalidThing (fun _ _ _ _ _ _ us hl => match us, hl with | [_, _], _ => rfl) (fun _ _ _ _ _ _ us ws l1 l2 => match us, ws, l1, l2 with | [_], [_], _, _ => rfl)
theorem e_InvalidThing {P : Program} {w : World} {base : Heap} (T : Tx K mg) : ErK P w K mg base "InvalidThing" (He.ga K "InvalidThing") 1 ["given"] false (gF1 "given") := e_InvalidThing_given T
theorem e_InvalidChoice_given {P : Program} {w : World} {base : Heap} (T : Tx K mg) : ErK P w K mg base "InvalidChoice" (He.ga K "InvalidChoice") 1 ["given"] false (gF1 "given") := by
  obtain ⟨fd, F⟩ := T.d_InvalidChoice___init__
  exact erK_of base_VE T.er_InvalidChoice T.in_InvalidChoice.1 T.in_InvalidChoice.2 F (ok_err1 base_VE T.er_InvalidChoice T.no_InvalidChoice_given F sc_InvalidChoice___init__ rfl) T.g_InvalidChoice (fun _ _ _ _ _ _ us hl => match us, hl with | [_, _], _ => rfl) (fun _ _ _ _ _ _ us ws l1 l2 => match us, ws, l1, l2 with | [_], [_], _, _ => rfl)
theorem e_InvalidChoice {P : Program} {w : World} {base : Heap} (T : Tx K mg) : ErK P w K mg base "InvalidChoice" (He.ga K "InvalidChoice") 1 ["given"] false (gF1 "given") := e_InvalidChoice_given T
theorem e_InvalidWish_given {P : Program} {w : World} {base : Heap} (T : Tx K mg) : ErK P w K mg base "InvalidWish" (He.ga K "InvalidWish") 1 ["given"] false (gF1 "given") := by
  obtain ⟨fd, F⟩ := T.d_InvalidWish___init__
  exact erK_of base_VE T.er_InvalidWish T.in_InvalidWish.1 T.in_InvalidWish.2 F (ok_err1 base_VE T.er_InvalidWish T.no_InvalidWish_given F sc_InvalidWish___init__ rfl) T.g_InvalidWish (fun _ _ _ _ _ _ us hl => match us, hl with | [_, _], _ => rfl) (fun _ _ _ _ _ _ us ws l1 l2 => match us, ws, l1, l2 with | [_], [_], _, _ => rfl)
theorem e_InvalidWish {P : Program} {w : World} {base : Heap} (T : Tx K mg) : ErK P w K mg base "InvalidWish" (He.ga K "InvalidWish") 1 ["given"] false (gF1 "given") := e_InvalidWish_given T
theorem e_InvalidSet_given {P : Program} {w : World} {base : Heap} (T : Tx K mg) : ErK P w K mg base "InvalidSet" (He.ga K "InvalidSet") 1 ["given"] false (gF1 "given") := by
  obtain ⟨fd, F⟩ := T.d_InvalidSet___init__
  exact erK_of base_VE T.er_InvalidSet T.in_InvalidSet.1 T.in_InvalidSet.2 F (ok_err1 base_VE T.er_InvalidSet T.no_InvalidSet_given F sc_InvalidSet___init__ rfl) T.g_InvalidSet (fun _ _ _ _ _ _ us hl => match us, hl with | [_, _], _ => rfl) (fun _ _ _ _ _ _ us ws l1 l2 => match us, ws, l1, l2 with | [_], [_], _, _ => rfl)
theorem e_InvalidSet {P : Program} {w : World} {base : Heap} (T : Tx K mg) : ErK P w K mg base "InvalidSet" (He.ga K "InvalidSet") 1 ["given"] false (gF1 "given") := e_InvalidSet_given T
theorem e_InvalidIndex_given {P : Program} {w : World} {base : Heap} (T : Tx K mg) : ErK P w K mg base "InvalidIndex" (He.ga K "InvalidIndex") 1 ["given"] false (gF1 "given") := by
  obtain ⟨fd, F⟩ := T.d_InvalidIndex___init__
  exact erK_of base_VE T.er_InvalidIndex T.in_InvalidIndex.1 T.in_InvalidIndex.2 F (ok_err1 base_VE T.er_InvalidIndex T.no_InvalidIndex_given F sc_InvalidIndex___init__ rfl) T.g_InvalidIndex (fun _ _ _ _ _ _ us hl => match us, hl with | [_, _], _ => rfl) (fun _ _ _ _ _ _ us ws l1 l2 => match us, ws, l1, l2 with | [_], [_], _, _ => rfl)
theorem e_InvalidIndex {P : Program} {w : World} {base : Heap} (T : Tx K mg) : ErK P w K mg base "InvalidIndex" (He.ga K "InvalidIndex") 1 ["given"] false (gF1 "given") := e_InvalidIndex_given T
theorem e_NotASystem_given {P : Program} {w : World} {base : Heap} (T : Tx K mg) : ErK P w K mg base "NotASystem" (He.ga K "NotASystem") 1 ["given"] false (gF1 "given") := by
  obtain ⟨fd, F⟩ := T.d_NotASystem___init__
  exact erK_of base_VE T.er_NotASystem T.in_NotASystem.1 T.in_NotASystem.2 F (ok_err1 base_VE T.er_NotASystem T.no_NotASystem_given F sc_NotASystem___init__ rfl) T.g_NotASystem (fun _ _ _ _ _ _ us hl => match us, hl with | [_, _], _ => rfl) (fun _ _ _ _ _ _ us ws l1 l2 => match us, ws, l1, l2 with | [_], [_], _, _ => rfl)
theorem e_NotASystem {P : Program} {w : World} {base : Heap} (T : Tx K mg) : ErK P w K mg base "NotASystem" (He.ga K "NotASystem") 1 ["given"] false (gF1 "given") := e_NotASystem_given T
theorem e_InvalidGates_index {P : Program} {w : World} {base : Heap} (T : Tx K mg) : ErK P w K mg base "InvalidGates" (He.ga K "InvalidGates") 1 ["index"] false (gF1 "index") := by
  obtain ⟨fd, F⟩ := T.d_InvalidGates___init__
  exact erK_of base_VE T.er_InvalidGates T.in_InvalidGates.1 T.in_InvalidGates.2 F (ok_err1 base_VE T.er_InvalidGates T.no_InvalidGates_index F sc_InvalidGates___init__ rfl) T.g_InvalidGates (fun _ _ _ _ _ _ us hl => match us, hl with | [_, _], _ => rfl) (fun _ _ _ _ _ _ us ws l1 l2 => match us, ws, l1, l2 with | [_], [_], _, _ => rfl)
theorem e_InvalidGates {P : Program} {w : World} {base : Heap} (T : Tx K mg) : ErK P w K mg base "InvalidGates" (He.ga K "InvalidGates") 1 ["index"] false (gF1 "index") := e_InvalidGates_index T
theorem e_InvalidKinds_index {P : Program} {w : World} {base : Heap} (T : Tx K mg) : ErK P w K mg base "InvalidKinds" (He.ga K "InvalidKinds") 1 ["index"] false (gF1 "index") := by
  obtain ⟨fd, F⟩ := T.d_InvalidKinds___init__
  exact erK_of base_VE T.er_InvalidKinds T.in_InvalidKinds.1 T.in_InvalidKinds.2 F (ok_err1 base_VE T.er_InvalidKinds T.no_InvalidKinds_index F sc_InvalidKinds___init__ rfl) T.g_InvalidKinds (fun _ _ _ _ _ _ us hl => match us, hl with | [_, _], _ => rfl) (fun _ _ _ _ _ _ us ws l1 l2 => match us, ws, l1, l2 with | [_], [_], _, _ => rfl)
theorem e_InvalidKinds {P : Program} {w : World} {base : Heap} (T : Tx K mg) : ErK P w K mg base "InvalidKinds" (He.ga K "InvalidKinds") 1 ["index"] false (gF1 "index") := e_InvalidKinds_index T
theorem e_InvalidRows_index {P : Program} {w : World} {base : Heap} (T : Tx K mg) : ErK P w K mg base "InvalidRows" (He.ga K "InvalidRows") 1 ["index"] false (gF1 "index") := by
  obtain ⟨fd, F⟩ := T.d_InvalidRows___init__
  exact erK_of base_VE T.er_InvalidRows T.in_InvalidRows.1 T.in_InvalidRows.2 F (ok_err1 base_VE T.er_InvalidRows T.no_InvalidRows_index F sc_InvalidRows___init__ rfl) T.g_InvalidRows (fun _ _ _ _ _ _ us hl => match us, hl with | [_, _], _ => rfl) (fun _ _ _ _ _ _ us ws l1 l2 => match us, ws, l1, l2 with | [_], [_], _, _ => rfl)
theorem e_InvalidRows {P : Program} {w : World} {base : Heap} (T : Tx K mg) : ErK P w K mg base "InvalidRows" (He.ga K "InvalidRows") 1 ["index"] false (gF1 "index") := e_InvalidRows_index T
theorem e_InvalidMembers_index {P : Program} {w : World} {base : Heap} (T : Tx K mg) : ErK P w K mg base "InvalidMembers" (He.ga K "InvalidMembers") 1 ["index"] false (gF1 "index") := by
  obtain ⟨fd, F⟩ := T.d_InvalidMembers___init__
  exact erK_of base_VE T.er_InvalidMembers T.in_InvalidMembers.1 T.in_InvalidMembers.2 F (ok_err1 base_VE T.er_InvalidMembers T.no_InvalidMembers_index F sc_InvalidMembers___init__ rfl) T.g_InvalidMembers (fun _ _ _ _ _ _ us hl => match us, hl with | [_, _], _ => rfl) (fun _ _ _ _ _ _ us ws l1 l2 => match us, ws, l1, l2 with | [_], [_], _, _ => rfl)
theorem e_InvalidMembers {P : Program} {w : World} {base : Heap} (T : Tx K mg) : ErK P w K mg base "InvalidMembers" (He.ga K "InvalidMembers") 1 ["index"] false (gF1 "index") := e_InvalidMembers_index T
theorem e_InvalidNumbers_index {P : Program} {w : World} {base : Heap} (T : Tx K mg) : ErK P w K mg base "InvalidNumbers" (He.ga K "InvalidNumbers") 1 ["index"] false (gF1 "index") := by
  obtain ⟨fd, F⟩ := T.d_InvalidNumbers___init__
  exact erK_of base_VE T.er_InvalidNumbers T.in_InvalidNumbers.1 T.in_InvalidNumbers.2 F (ok_err1 base_VE T.er_InvalidNumbers T.no_InvalidNumbers_index F sc_InvalidNumbers___init__ rfl) T.g_InvalidNumbers (fun _ _ _ _ _ _ us hl => match us, hl with | [_, _], _ => rfl) (fun _ _ _ _ _ _ us ws l1 l2 => match us, ws, l1, l2 with | [_], [_], _, _ => rfl)
theorem e_InvalidNumbers {P : Program} {w : World} {base : Heap} (T : Tx K mg) : ErK P w K mg base "InvalidNumbers" (He.ga K "InvalidNumbers") 1 ["index"] false (gF1 "index") := e_InvalidNumbers_index T
theorem e_InvalidRun_index {P : Program} {w : World} {base : Heap} (T : Tx K mg) : ErK P w K mg base "InvalidRun" (He.ga K "InvalidRun") 1 ["index"] false (gF1 "index") := by
  obtain ⟨fd, F⟩ := T.d_InvalidRun___init__
  exact erK_of base_VE T.er_InvalidRun T.in_InvalidRun.1 T.in_InvalidRun.2 F (ok_err1 base_VE T.er_InvalidRun T.no_InvalidRun_index F sc_InvalidRun___init__ rfl) T.g_InvalidRun (fun _ _ _ _ _ _ us hl => match us, hl with | [_, _], _ => rfl) (fun _ _ _ _ _ _ us ws l1 l2 => match us, ws, l1, l2 with | [_], [_], _, _ => rfl)
theorem e_InvalidRun {P : Program} {w : World} {base : Heap} (T : Tx K mg) : ErK P w K mg base "InvalidRun" (He.ga K "InvalidRun") 1 ["index"] false (gF1 "index") := e_InvalidRun_index T
theorem e_InvalidThings_index {P : Program} {w : World} {base : Heap} (T : Tx K mg) : ErK P w K mg base "InvalidThings" (He.ga K "InvalidThings") 1 ["index"] false (gF1 "index") := by
  obtain ⟨fd, F⟩ := T.d_InvalidThings___init__
  exact erK_of base_VE T.er_InvalidThings T.in_InvalidThings.1 T.in_InvalidThings.2 F (ok_err1 base_VE T.er_InvalidThings T.no_InvalidThings_index F sc_InvalidThings___init__ rfl) T.g_InvalidThings (fun _ _ _ _ _ _ us hl => match us, hl with | [_, _], _ => rfl) (fun _ _ _ _ _ _ us ws l1 l2 => match us, ws, l1, l2 with | [_], [_], _, _ => rfl)
theorem e_InvalidThings {P : Program} {w : World} {base : Heap} (T : Tx K mg) : ErK P w K mg base "InvalidThings" (He.ga K "InvalidThings") 1 ["index"] false (gF1 "index") := e_InvalidThings_index T
theorem e_InvalidChanges_index {P : Program} {w : World} {base : Heap} (T : Tx K mg) : ErK P w K mg base "InvalidChanges" (He.ga K "InvalidChanges") 1 ["index"] false (gF1 "index") := by
  obtain ⟨fd, F⟩ := T.d_InvalidChanges___init__
  exact erK_of base_VE T.er_InvalidChanges T.in_InvalidChanges.1 T.in_InvalidChanges.2 F (ok_err1 base_VE T.er_InvalidChanges T.no_InvalidChanges_index F sc_InvalidChanges___init__ rfl) T.g_InvalidChanges (fun _ _ _ _ _ _ us hl => match us, hl with | [_, _], _ => rfl) (fun _ _ _ _ _ _ us ws l1 l2 => match us, ws, l1, l2 with | [_], [_], _, _ => rfl)
theorem e_InvalidChanges {P : Program} {w : World} {base : Heap} (T : Tx K mg) : ErK P w K mg base "InvalidChanges" (He.ga K "InvalidChanges") 1 ["index"] false (gF1 "index") := e_InvalidChanges_index T
theorem e_UnknownName_given {P : Program} {w : World} {base : Heap} (T : Tx K mg) : ErK P w K mg base "UnknownName" (He.ga K "UnknownName") 1 ["given"] false (gF1 "given") := by
  obtain ⟨fd, F⟩ := T.d_UnknownName___init__
  exact erK_of base_LE T.er_UnknownName T.in_UnknownName.1 T.in_UnknownName.2 F (ok_err1 base_LE T.er_UnknownName T.no_UnknownName_given F sc_UnknownName___init__ rfl) T.g_UnknownName (fun _ _ _ _ _ _ us hl => match us, hl with | [_, _], _ => rfl) (fun _ _ _ _ _ _ us ws l1 l2 => match us, ws, l1, l2 with | [_], [_], _, _ => rfl)
theorem e_UnknownName {P : Program} {w : World} {base : Heap} (T : Tx K mg) : ErK P w K mg base "UnknownName" (He.ga K "UnknownName") 1 ["given"] false (gF1 "given") := e_UnknownName_given T
theorem e_UnknownHand_given {P : Program} {w : World} {base : Heap} (T : Tx K mg) : ErK P w K mg base "UnknownHand" (He.ga K "UnknownHand") 1 ["given"] false (gF1 "given") := by
  obtain ⟨fd, F⟩ := T.d_UnknownHand___init__
  exact erK_of base_LE T.er_UnknownHand T.in_UnknownHand.1 T.in_UnknownHand.2 F (ok_err1 base_LE T.er_UnknownHand T.no_UnknownHand_given F sc_UnknownHand___init__ rfl) T.g_UnknownHand (fun _ _ _ _ _ _ us hl => match us, hl with | [_, _], _ => rfl) (fun _ _ _ _ _ _ us ws l1 l2 => match us, ws, l1, l2 with | [_], [_], _, _ => rfl)
theorem e_UnknownHand {P : Program} {w : World} {base : Heap} (T : Tx K mg) : ErK P w K mg base "UnknownHand" (He.ga K "UnknownHand") 1 ["given"] false (gF1 "given") := e_UnknownHand_given T
theorem e_InUse_index {P : Program} {w : World} {base : Heap} (T : Tx K mg) : ErK P w K mg base "InUse" (He.ga K "InUse") 1 ["index"] false (gF1 "index") := by
  obtain ⟨fd, F⟩ := T.d_InUse___init__
  exact erK_of base_LE T.er_InUse T.in_InUse.1 T.in_InUse.2 F (ok_err1 base_LE T.er_InUse T.no_InUse_index F sc_InUse___init__ rfl) T.g_InUse (fun _ _ _ _ _ _ us hl => match us, hl with | [_, _], _ => rfl) (fun _ _ _ _ _ _ us ws l1 l2 => match us, ws, l1, l2 with | [_], [_], _, _ => rfl)
theorem e_InUse {P : Program} {w : World} {base : Heap} (T : Tx K mg) : ErK P w K mg base "InUse" (He.ga K "InUse") 1 ["index"] false (gF1 "index") := e_InUse_index T
theorem e_TooMany_limit {P : Program} {w : World} {base : Heap} (T : Tx K mg) : ErK P w K mg base "TooMany" (He.ga K "TooMany") 1 ["limit"] false (gF1 "limit") := by
  obtain ⟨fd, F⟩ := T.d_TooMany___init__
  exact erK_of base_AE T.er_TooMany T.in_TooMany.1 T.in_TooMany.2 F (ok_err1 base_AE T.er_TooMany T.no_TooMany_limit F sc_TooMany___init__ rfl) T.g_TooMany (fun _ _ _ _ _ _ us hl => match us, hl with | [_, _], _ => rfl) (fun _ _ _ _ _ _ us ws l1 l2 => match us, ws, l1, l2 with | [_], [_], _, _ => rfl)
theorem e_TooMany {P : Program} {w : World} {base : Heap} (T : Tx K mg) : ErK P w K mg base "TooMany" (He.ga K "TooMany") 1 ["limit"] false (gF1 "limit") := e_TooMany_limit T
theorem e_Alone_given {P : Program} {w : World} {base : Heap} (T : Tx K mg) : ErK P w K mg base "Alone" (He.ga K "Alone") 1 ["given"] false (gF1 "given") := by
  obtain ⟨fd, F⟩ := T.d_Alone___init__
  exact erK_of base_AE T.er_Alone T.in_Alone.1 T.in_Alone.2 F (ok_err1 base_AE T.er_Alone T.no_Alone_given F sc_Alone___init__ rfl) T.g_Alone (fun _ _ _ _ _ _ us hl => match us, hl with | [_, _], _ => rfl) (fun _ _ _ _ _ _ us ws l1 l2 => match us, ws, l1, l2 with | [_], [_], _, _ => rfl)
theorem e_Alone {P : Program} {w : World} {base : Heap} (T : Tx K mg) : ErK P w K mg base "Alone" (He.ga K "Alone") 1 ["given"] false (gF1 "given") := e_Alone_given T
theorem e_Waits_hand {P : Program} {w : World} {base : Heap} (T : Tx K mg) : ErK P w K mg base "Waits" (He.ga K "Waits") 1 ["hand"] false (gF1 "hand") := by
  obtain ⟨fd, F⟩ := T.d_Waits___init__
  exact erK_of base_AE T.er_Waits T.in_Waits.1 T.in_Waits.2 F (ok_err1 base_AE T.er_Waits T.no_Waits_hand F sc_Waits___init__ rfl) T.g_Waits (fun _ _ _ _ _ _ us hl => match us, hl with | [_, _], _ => rfl) (fun _ _ _ _ _ _ us ws l1 l2 => match us, ws, l1, l2 with | [_], [_], _, _ => rfl)
theorem e_Waits {P : Program} {w : World} {base : Heap} (T : Tx K mg) : ErK P w K mg base "Waits" (He.ga K "Waits") 1 ["hand"] false (gF1 "hand") := e_Waits_hand T
theorem e_Ended_hand {P : Program} {w : World} {base : Heap} (T : Tx K mg) : ErK P w K mg base "Ended" (He.ga K "Ended") 1 ["hand"] false (gF1 "hand") := by
  obtain ⟨fd, F⟩ := T.d_Ended___init__
  exact erK_of base_AE T.er_Ended T.in_Ended.1 T.in_Ended.2 F (ok_err1 base_AE T.er_Ended T.no_Ended_hand F sc_Ended___init__ rfl) T.g_Ended (fun _ _ _ _ _ _ us hl => match us, hl with | [_, _], _ => rfl) (fun _ _ _ _ _ _ us ws l1 l2 => match us, ws, l1, l2 with | [_], [_], _, _ => rfl)
theorem e_Ended {P : Program} {w : World} {base : Heap} (T : Tx K mg) : ErK P w K mg base "Ended" (He.ga K "Ended") 1 ["hand"] false (gF1 "hand") := e_Ended_hand T
theorem e_Broken_index_shown {P : Program} {w : World} {base : Heap} (T : Tx K mg) : ErK P w K mg base "Broken" (He.ga K "Broken") 2 ["index", "shown"] false (gF2 "index" "shown") := by
  obtain ⟨fd, F⟩ := T.d_Broken___init__
  exact erK_of base_AE T.er_Broken T.in_Broken.1 T.in_Broken.2 F (ok_err2 base_AE T.er_Broken T.no_Broken_index T.no_Broken_shown F sc_Broken___init__ rfl) T.g_Broken (fun _ _ _ _ _ _ us hl => match us, hl with | [_, _, _], _ => rfl) (fun _ _ _ _ _ _ us ws l1 l2 => match us, ws, l1, l2 with | [_], [_, _], _, _ => rfl)
theorem e_Broken {P : Program} {w : World} {base : Heap} (T : Tx K mg) : ErK P w K mg base "Broken" (He.ga K "Broken") 2 ["index", "shown"] false (gF2 "index" "shown") := e_Broken_index_shown T
end
end G
/-! ### small tactics -/
local macro_rules | `(tactic| walk_at "g hp") => `(tactic| first
  | assumption
  | exact L2.upd_same
  | (refine G.upd_get (by assumption) ?_; walk_at "g hp")
  | (refine G.same_get (by assumption) ?_; walk_at "g hp")
  | (refine G.Pl.obj (by assumption) (by walk_at "g pool") ?_ rfl; walk_at "g hp")
  | (refine G.Pl.get (by assumption) ?_ (by walk_at "g ne"); walk_at "g hp"))
local macro_rules | `(tactic| walk_at "g but") => `(tactic| first
  | assumption
  | exact G.But.refl _ _
  | exact L2.Same.refl _
  | (refine G.But.at ?_; walk_at "g but")
  | (refine G.But.new ?_ (by assumption); walk_at "g but")
  | (refine L2.Same.new ?_ (by assumption); walk_at "g but")
  | (refine G.Pl.new ?_ (by assumption); walk_at "g but")
  | (refine G.Pl.own ?_ (by assumption) (by walk_at "g ne"); walk_at "g but")
  | (refine G.Pl.same ?_ (by assumption); walk_at "g but")
  | (refine G.Pl.trans ?_ (by assumption); walk_at "g but")
  | (refine G.But.same ?_ (by assumption); walk_at "g but")
  | (refine G.But.of ?_; walk_at "g but")
  | (refine L2.Same.trans ?_ (by assumption); walk_at "g but")
  | (refine G.Pl.refl ?_; walk_at "g pool"))
local macro_rules | `(tactic| walk_at "g ne") => `(tactic| first
  | assumption
  | (refine G.PoolAt.ne_new ?_ (by assumption); walk_at "g pool"))
local macro_rules | `(tactic| walk_at "g pool") => `(tactic| first
  | assumption
  | exact G.Pl.pool (by assumption)
  | (refine G.PoolAt.new ?_ (by assumption); walk_at "g pool")
  | (refine G.PoolAt.same ?_ (by assumption); walk_at "g pool"))
local macro_rules | `(tactic| walk_at "g and") => `(tactic| first
  | (show (_ : Int) < _; omega)
  | exact rfl
  | assumption
  | exact L2.upd_same
  | exact ⟨_, rfl⟩
  | exact L2.ClsV.ty _
  | exact L2.ClsV.own _
  | exact L2.TyX.base (L2.TyOf.str _)
  | exact L2.TyX.base (L2.TyOf.int _)
  | exact L2.TyX.base (L2.TyOf.bl _)
  | exact L2.TyX.base L2.TyOf.non
  | exact L2.kit_ty (by decide +kernel)
  | exact L2.SqL.of (by walk_at "g hp")
  | exact L2.SqT.of (by walk_at "g hp")
  | exact Or.inl (by assumption)
  | exact Or.inr (by assumption)
  | exact Or.inr ((show ∀ H, L2.SqT _ H _ _ by assumption) _)
  | exact (show ∀ H, L2.SqT _ H _ _ by assumption) _
  | exact G.sqT_ty (by assumption)
  | exact G.sqT_ty ((show ∀ H, L2.SqT _ H _ _ by assumption) _)
  | exact Or.inl (L2.SqL.of (by walk_at "g hp"))
  | exact Or.inr (L2.SqT.of (by walk_at "g hp"))
  | walk_at "g pool"
  | (show (_ : Int) < _; decide)
  | (show (_ : Int) < _; omega)
  | (show (_ : Int) ≤ _; omega)
  | exact ⟨by decide, by decide, by decide⟩
  | exact ⟨by decide, by decide⟩
  | exact ⟨by omega, by omega⟩
  | exact Or.inl ⟨by omega, by omega⟩
  | exact Or.inr ⟨by omega, by omega⟩
  | (show (_ : Int) ≤ _; decide)
  | (show (_ : Nat) ≤ _; exact Nat.le_of_ble_eq_true rfl)
  | (show (_ : Nat) < _; exact Nat.le_of_ble_eq_true rfl)
  | (show (_ : Nat) ≤ _; omega)
  | (show (_ : Nat) ≤ _; simp only [G.cat_len]; omega)
  | walk_at "g hp")
local macro_rules | `(tactic| walk_at "rd") => `(tactic| repeat (first
  | (apply And.intro; (focus (walk_at "g and")))
  | (refine L2.iteT ?_)
  | (refine Or.inl ⟨_, rfl, ?_⟩)
  | (refine Or.inr ⟨_, rfl, ?_⟩)
  | (refine L2.iteF ?_)
  | (refine G.iteKT (by decide +kernel) ?_)
  | (refine G.iteKF (by decide +kernel) ?_)
  | (apply Exists.intro (α := L2.V))
  | (apply Exists.intro (α := Int))
  | (apply Exists.intro (α := PySem.Str))
  | (apply Exists.intro (α := Bool))
  | (apply Exists.intro (α := PySem.Value))
  | (apply Exists.intro (α := PySem.Addr))
  | (apply Exists.intro (α := List L2.V))
  | (apply Exists.intro (α := List (PySem.Str × L2.V)))
  | (apply Exists.intro (α := Nat))
  | (apply Exists.intro (α := List PySem.Str))
  | (apply Exists.intro (α := List Bool))
  | (apply Exists.intro (α := List Nat))
  ))

namespace G
open PySem PySem.Spec PyProof.Rows L2
/-! ### names -/
def lettersS : Str := "abcdefghijklmnopqrstuvwxyz"
def signsS : Str := "abcdefghijklmnopqrstuvwxyz0123456789"
def isLetter (c : Nat) : Bool := decide (c ∈ lettersS.cps.toList)
def isSign (c : Nat) : Bool := decide (c ∈ signsS.cps.toList)
def isNameL (l : List Nat) : Bool := decide (1 ≤ l.length) && decide (l.length ≤ 8) && isLetter (l.headD 0) && l.all isSign
def isNameS (z : Str) : Bool := isNameL z.cps.toList
theorem isNameS_eq (z : Str) : isNameS z = (decide (1 ≤ z.length) && decide (z.length ≤ 8) && isLetter (z.cps.toList.headD 0) && z.cps.toList.all isSign) := by
  unfold isNameS isNameL
  rw [str_len]
theorem at_head {c : Nat} {r : List Nat} : atI (c :: r) 0 = some c := atI_nat (j := 0) rfl
def fSign : V → V
  | .str s => .bl (isSign (s.cps.getD 0 0))
  | _ => .non
theorem signs_map (z : Str) : (signs z).map fSign = (z.cps.toList.map isSign).map V.bl := by
  unfold signs
  rw [List.map_map, List.map_map]
  rfl
theorem all_map {α : Type} (l : List α) (f : α → Bool) : (l.map f).all id = l.all f := by
  induction l with
  | nil => rfl
  | cons a l ih => simp
section
variable {P : Program} {w : World} {K : PySem.W.Frag} {mg : Str → Option Value} {base : Heap} {CX : CXT}
def spIsName (K : PySem.W.Frag) : Sp := fun vs H Q _ => ∃ x : V, vs = [x] ∧
  ((∃ z : Str, x = .str z ∧ z.length ≤ sizeLine ∧ ∀ H', Same H H' → Q (.bl (isNameS z)) H') ∨
   (∃ t, TyX K H x t ∧ PySem.W.kitOne K t (.type "str") = some false ∧ Q (.bl false) H))
theorem ok_is_name {f : Addr} {fd : FuncData} {dvs : List V} {kws : List (Str × V)} (T : Tx K mg)
    (F : FunD K "is_name" "is_name" (defArgs s_is_name) (defBody s_is_name) (defScope s_is_name) dvs kws f fd) :
    FnOk P w K mg base CX 1 f fd ["value"] (spIsName K) := by
  refine F.ok sc_is_name (fun vs H Q E h => ?_) (fun cdv A outer s H vs Q E hr h => ?_)
  · obtain ⟨x, rfl, _⟩ := h
    rfl
  · obtain ⟨x, rfl, h⟩ := h
    refine ⟨_, PSs.nox (pss_cons (ps_if (PW.pt (pw_or (pt_not (pt_val (pe_callB call_isi rfl T.f_isinstance (by decide +kernel) (pa_cons (pv 0) (pa_cons (pe_bltn (v := .ty "str") (u := .type "str") rfl T.f_str (by decide +kernel) rfl) pa_nil))))) (pw_or1 (pt_not (pt_chain op_le op_le pe_int (pe_callB call_len_str rfl T.f_len (by decide +kernel) (pa_cons (pv 0) pa_nil)) (pe_gl T.g_LONGEST_NAME)))))) (pss_one (ps_ret pe_bl)) pss_nil)
    (pss_one (ps_ret (pe_and (pe_cmpR op_in_sign (pe_ix ix_str (pv 0) pe_int (fun _ _ => rfl)) (pe_gl T.g_LETTERS) rfl) (pe_one (pe_callB (cr_all rfl) rfl T.f_all (by decide +kernel) (pa_cons (pe_lc (own := [("sign", 1)]) (g := gName 1) (tt := tYes) rfl sc_is_name.nd (pi_str (pv 0)) (blkOk_by (own := [("sign", 1)]) (N := n_is_name) (sc := defScope s_is_name) (by decide +kernel)) (fun _ _ _ _ _ => (pg_name (i := 1) sc_is_name.nd rfl (Or.inl rfl))) (fun _ _ _ _ _ => pts_nil) (fun _ _ _ _ _ => (pe_cmpR op_in_sign (pv 1) (pe_gl T.g_SIGNS) rfl))) pa_nil))))))), ?_⟩
    rcases h with ⟨z, rfl, hz, q⟩ | ⟨t, ty, ek, q⟩
    · -- a text
      walk_at "rd"
      refine iteD (fun h1 => ?_) (fun h1 => ?_)
      · walk_at "rd"
        refine iteND (fun h2 => ?_) (fun h2 => ?_)
        · have e : isNameS z = false := by
            rw [isNameS_eq, decide_eq_false (show ¬ z.length ≤ 8 by omega)]
            simp
          exact ret_eq (q H (Same.refl H)) (by rw [e])
        · obtain ⟨c, r, ez⟩ : ∃ c r, z.cps.toList = c :: r := by
            rw [str_len] at h1
            cases e : z.cps.toList with
            | nil => rw [e] at h1; simp at h1
            | cons c r => exact ⟨c, r, rfl⟩
          walk_at "rd"
          apply And.intro
          · rw [ez]
            exact at_head
          walk_at "rd"
          refine iteD (fun h3 => ?_) (fun h3 => ?_)
          · walk_at "rd"
            intro D nD
            refine lcP (wk_str z) fSign (fun _ => trivial) (by rw [signs_len]; have := str_len z; simp at this; rw [sizeLine_eq]; omega) ?_ ?_
            · intro i x acc Q' hx hq
              obtain ⟨u, hu, rfl⟩ : ∃ u, z.cps.toList[i]? = some u ∧ x = V.str ⟨#[u]⟩ := by
                unfold signs at hx
                rw [List.getElem?_map] at hx
                cases e : z.cps.toList[i]? with
                | none => rw [e] at hx; cases hx
                | some u => rw [e] at hx; exact ⟨u, rfl, (Option.some.inj hx).symm⟩
              walk_at "rd"
              exact hq
            · refine ⟨D, z.cps.toList.map isSign, rfl, SqL.of ?_, ?_⟩
              · rw [signs_map]; exact upd_same
              · have e : isNameS z = (z.cps.toList.map isSign).all id := by
                  rw [isNameS_eq, all_map, decide_eq_true (show 1 ≤ z.length by omega), decide_eq_true (show z.length ≤ 8 by omega), ez]
                  have hl : isLetter c = true := decide_eq_true h3
                  simp [hl]
                exact ret_eq (q _ ((Same.refl H).new nD)) (by rw [e])
          · have e : isNameS z = false := by
              rw [isNameS_eq, ez]
              have hl : isLetter c = false := decide_eq_false h3
              simp [hl]
            exact ret_eq (q H (Same.refl H)) (by rw [e])
      · walk_at "rd"
        have e : isNameS z = false := by
          rw [isNameS_eq, decide_eq_false (show ¬ 1 ≤ z.length by omega)]
          simp
        exact ret_eq (q H (Same.refl H)) (by rw [e])
    · walk_at "rd"
      exact q
theorem c_is_name (T : Tx K mg) : CalO P w K mg base CX 1 "is_name" [] (spIsName K) := by
  obtain ⟨fd, F⟩ := T.d_is_name
  exact .mk F (ok_is_name T F) T.n_is_name fun _ _ _ _ _ _ us hl => match us, hl with | [_], _ => rfl
end
end G
namespace G
open PySem PySem.Spec PyProof.Rows L2
/-! ### the draws -/
theorem cut_take (xs : List V) (k : Nat) : cutV xs none (some (k : Int)) = xs.take k := by
  unfold cutV
  rw [HT.sIx_none, HT.sIx_nat]
  simp only [List.drop_zero, Nat.sub_zero]
  rcases Nat.le_total k xs.length with h | h
  · rw [Nat.min_eq_left h]
  · rw [Nat.min_eq_right h, List.take_of_length_le (Nat.le_refl _), List.take_of_length_le h]
section
variable {P : Program} {w : World} {K : PySem.W.Frag} {mg : Str → Option Value} {base : Heap} {CX : CXT}
def spPool (K : PySem.W.Frag) : Sp := fun vs H Q _ => ∃ (a : Addr) (ns : List Int) (k : Int), vs = [.ref a, .int k] ∧ SqL K H a (ns.map V.int) ∧
  ns.length ≤ 63 ∧ 0 ≤ k ∧ k ≤ 100 ∧ ∀ H' p, Same H H' → H p = none → PoolAt H' p → Q (.ref p) H'
theorem ok_pool {f : Addr} {fd : FuncData} {dvs : List V} {kws : List (Str × V)} (T : Tx K mg)
    (F : FunD K "_law_pool" "_law_pool" (defArgs s__law_pool) (defBody s__law_pool) (defScope s__law_pool) dvs kws f fd) :
    FnG P w K mg base CX 1 f fd ["_law_script", "_law_k"] (spPool K) := by
  refine okG F sc__law_pool (fun vs H Q E h => ?_) (fun cdv A outer s H vs Q E hr hgd h => ?_)
  · obtain ⟨a, ns, k, rfl, _⟩ := h
    rfl
  · obtain ⟨a, ns, k, rfl, ha, hl, k0, k1, q⟩ := h
    have hu := hr.units
    refine ⟨_, PSs.nox (pss_cons (ps_set (i := 2) sc__law_pool.nd rfl (Or.inl rfl) (pe_ifExp (pt_cmpR op_lt (pv 1) (pe_callB call_len_seq rfl T.f_len (by decide +kernel) (pa_cons (pv 0) pa_nil)) (nomark _)) (pe_ix ix_list (pv 0) (pv 1) (fun _ _ => rfl)) (pe_op op_add (pe_op op_mod (pe_callTy call_int1 rfl T.f_int (by decide +kernel) (pa_cons (pe_callB (cr_sum rfl) rfl T.f_sum (by decide +kernel) (pa_cons (pe_slice sl_list (pv 0) po_none (po_some pe_int)) pa_nil)) pa_nil)) pe_int) (pe_op op_mul (pe_op op_mul pe_int (pv 1)) (pv 1)))))
    (pss_cons (ps_set (i := 3) sc__law_pool.nd rfl (Or.inl rfl) (pe_ifExp (pt_cmpR op_ge (pe_callB call_abs rfl T.f_abs (by decide +kernel) (pa_cons (pv 2) pa_nil)) (pe_op op_pow pe_int pe_int) (nomark _)) (pe_callB call_abs rfl T.f_abs (by decide +kernel) (pa_cons (pv 2) pa_nil)) pe_int))
    (pss_one (ps_ret (pe_lst (pa_cons (pe_op op_mod (pe_callTy call_int1 rfl T.f_int (by decide +kernel) (pa_cons (pv 2) pa_nil)) pe_int) (pa_cons (pe_op op_add (pe_op op_mod (pe_callTy call_int1 rfl T.f_int (by decide +kernel) (pa_cons (pe_op op_add (pv 2) (pe_op op_mul pe_int (pv 1))) pa_nil)) pe_int) pe_int) (pa_cons (pv 3) pa_nil)))))))), ?_⟩
    walk_at "rd"
    refine iteD (fun h1 => ?_) (fun h1 => ?_)
    · rw [List.length_map] at h1
      obtain ⟨v, hv⟩ : ∃ v, ns[k.toNat]? = some v := ⟨_, List.getElem?_eq_getElem (by omega)⟩
      walk_at "rd"
      apply And.intro
      · exact at_of (j := k.toNat) (v := V.int v) (by omega) (by rw [List.getElem?_map, hv]; rfl)
      walk_at "rd"
      refine iteD (fun h2 => ?_) (fun h2 => ?_)
      all_goals
        walk_at "rd"
        intro p np
        refine q _ p (by walk_at "g but") np ⟨_, _, _, upd_same, by omega, by omega, by omega, by omega, ?_⟩
        try split
        all_goals omega
    · walk_at "rd"
      intro l nl
      walk_at "rd"
      refine ⟨ns.take 4, rfl, SqL.of ?_, ?_⟩
      · rw [upd_same, show (4 : Int) = ((4 : Nat) : Int) from rfl, cut_take, List.map_take]
      walk_at "rd"
      refine iteD (fun h2 => ?_) (fun h2 => ?_)
      all_goals
        walk_at "rd"
        intro p np
        refine q _ p (by walk_at "g but") (upd_free np) ⟨_, _, _, upd_same, by omega, by omega, by omega, by omega, ?_⟩
        try split
        all_goals omega
def spDraw : Sp := fun vs H Q _ => ∃ (p : Addr) (m : Int), vs = [.ref p, .int m] ∧ 0 < m ∧ m < 1073741824 ∧ PoolAt H p ∧
  ∀ H' r, Pl p H H' → 0 ≤ r → r < m → Q (.int r) H'
theorem ok_draw {f : Addr} {fd : FuncData} {dvs : List V} {kws : List (Str × V)} (T : Tx K mg)
    (F : FunD K "_law_draw" "_law_draw" (defArgs s__law_draw) (defBody s__law_draw) (defScope s__law_draw) dvs kws f fd) :
    FnG P w K mg base CX 1 f fd ["_law_pool_here", "_law_most"] spDraw := by
  refine okG F sc__law_draw (fun vs H Q E h => ?_) (fun cdv A outer s H vs Q E hr hgd h => ?_)
  · obtain ⟨p, m, rfl, _⟩ := h
    rfl
  · obtain ⟨p, m, rfl, m0, m1, ⟨a, b, d, hp, a0, a1, b0, b1, d0⟩, q⟩ := h
    have hu := hr.units
    refine ⟨_, PSs.nox (pss_cons (ps_asg (pe_op op_mod (pe_callTy call_int1 rfl T.f_int (by decide +kernel) (pa_cons (pe_op op_add (pe_op op_add (pe_op op_mul (pe_ix ix_list (pv 0) pe_int (fun _ _ => rfl)) pe_int) (pe_ix ix_list (pv 0) pe_int (fun _ _ => rfl))) pe_int) pa_nil)) pe_int) (pg_sub (pv 0) pe_int set_list))
    (pss_cons (ps_asg (pe_op op_mod (pe_callTy call_int1 rfl T.f_int (by decide +kernel) (pa_cons (pe_op op_add (pe_op op_add (pe_op op_mul (pe_ix ix_list (pv 0) pe_int (fun _ _ => rfl)) pe_int) (pe_op op_fdiv (pe_ix ix_list (pv 0) pe_int (fun _ _ => rfl)) pe_int)) pe_int) pa_nil)) pe_int) (pg_sub (pv 0) pe_int set_list))
    (pss_cons (ps_if (pt_cmpR op_gt (pe_ix ix_list (pv 0) pe_int (fun _ _ => rfl)) pe_int (nomark _)) (pss_cons (ps_asg (pe_callB call_divmod rfl T.f_divmod (by decide +kernel) (pa_cons (pe_ix ix_list (pv 0) pe_int (fun _ _ => rfl)) (pa_cons (pv 1) pa_nil))) (pg_tup rfl (pgs_cons (pg_sub (pv 0) pe_int set_list) (pgs_cons (pg_name (i := 2) sc__law_draw.nd rfl (Or.inl rfl)) pgs_nil))))
    (pss_one (ps_ret (pv 2)))) pss_nil)
    (pss_one (ps_ret (pe_op op_mod (pe_callTy call_int1 rfl T.f_int (by decide +kernel) (pa_cons (pe_op op_add (pe_op op_fdiv (pe_ix ix_list (pv 0) pe_int (fun _ _ => rfl)) pe_int) (pe_op op_fdiv (pe_ix ix_list (pv 0) pe_int (fun _ _ => rfl)) pe_int)) pa_nil)) (pv 1))))))), ?_⟩
    walk_at "rd"
    refine iteD (fun h1 => ?_) (fun h1 => ?_)
    · walk_at "rd"
      intro t nt
      walk_at "rd"
      refine q _ _ ⟨by walk_at "g but", _, _, _, upd_same, ?_⟩ (Int.emod_nonneg _ (by omega)) (Int.emod_lt_of_pos _ m0)
      have := Int.ediv_nonneg d0 (Int.le_of_lt m0)
      refine ⟨?_, ?_, ?_, ?_, ?_⟩ <;> omega
    · walk_at "rd"
      refine q _ _ ⟨by walk_at "g but", _, _, _, upd_same, ?_⟩ (Int.emod_nonneg _ (by omega)) (Int.emod_lt_of_pos _ m0)
      refine ⟨?_, ?_, ?_, ?_, ?_⟩ <;> omega

theorem c_pool (T : Tx K mg) : Cal P w K mg base CX 1 "_law_pool" [] (spPool K) := by
  obtain ⟨fd, F⟩ := T.d__law_pool
  exact .mk F (ok_pool T F) T.n__law_pool fun _ _ _ _ _ _ us hl => match us, hl with | [_, _], _ => rfl
theorem c_draw (T : Tx K mg) : Cal P w K mg base CX 1 "_law_draw" [] spDraw := by
  obtain ⟨fd, F⟩ := T.d__law_draw
  exact .mk F (ok_draw T F) T.n__law_draw fun _ _ _ _ _ _ us hl => match us, hl with | [_, _], _ => rfl
/-! ### drawn names -/
def tagWords : List Str := ["gate", "in", "of", "one", "many", "join", "drop", "arrive", "wait", "else", "look", "anew", "over", "go", "end"]
theorem tagWords_ok : (tagWords.all fun z => isNameS z && decide (z.length ≤ 8)) = true := by decide +kernel
theorem at_any {α : Type} {xs : List α} {z : Int} {j : Nat} {v : α} (e : z = (j : Int)) (h : xs[j]? = some v) : atI xs z = some v := by
  rw [e]
  exact atI_nat h
theorem word_at {r : Int} (h0 : 0 ≤ r) (h1 : r < 15) : ∃ z, atI (tagWords.map V.str) r = some (.str z) ∧ isNameS z = true ∧ z.length ≤ 8 := by
  have lt : r.toNat < tagWords.length := by show r.toNat < 15; omega
  have e : tagWords[r.toNat]? = some (tagWords[r.toNat]) := List.getElem?_eq_getElem lt
  have h := List.all_eq_true.mp tagWords_ok _ (List.getElem_mem lt)
  obtain ⟨h2, h3⟩ := Bool.and_eq_true_iff.mp h
  exact ⟨tagWords[r.toNat], at_any (z := r) (j := r.toNat) (by omega) (by rw [List.getElem?_map, e]; rfl), h2, of_decide_eq_true h3⟩
theorem signs_ok : (signsS.cps.toList.all isSign) = true := by decide +kernel
theorem letters_ok : ((signsS.cps.toList.take 26).all isLetter) = true := by decide +kernel
theorem sign_at {r : Int} (h0 : 0 ≤ r) (h1 : r < 36) : ∃ c, atI signsS.cps.toList r = some c ∧ isSign c = true ∧ (r < 26 → isLetter c = true) := by
  have hl : signsS.cps.toList.length = 36 := by decide +kernel
  have lt : r.toNat < signsS.cps.toList.length := by omega
  have e : signsS.cps.toList[r.toNat]? = some (signsS.cps.toList[r.toNat]) := List.getElem?_eq_getElem lt
  refine ⟨signsS.cps.toList[r.toNat], at_any (z := r) (j := r.toNat) (by omega) e, List.all_eq_true.mp signs_ok _ (List.getElem_mem lt), fun h => ?_⟩
  refine List.all_eq_true.mp letters_ok _ ?_
  rw [List.mem_take_iff_getElem]
  exact ⟨r.toNat, by omega, rfl⟩
theorem letter_at {r : Int} (h0 : 0 ≤ r) (h1 : r < 26) : ∃ c, atI lettersS.cps.toList r = some c ∧ isLetter c = true := by
  have hl : lettersS.cps.toList.length = 26 := by decide +kernel
  have lt : r.toNat < lettersS.cps.toList.length := by omega
  have e : lettersS.cps.toList[r.toNat]? = some (lettersS.cps.toList[r.toNat]) := List.getElem?_eq_getElem lt
  exact ⟨lettersS.cps.toList[r.toNat], at_any (z := r) (j := r.toNat) (by omega) e, decide_eq_true (List.getElem_mem lt)⟩
theorem letter_sign {c : Nat} (h : isLetter c = true) : isSign c = true := by
  have sub : (lettersS.cps.toList.all isSign) = true := by decide +kernel
  exact List.all_eq_true.mp sub c (of_decide_eq_true h)
def one (c : Nat) : Str := ⟨#[c]⟩
theorem joinL_ones : ∀ cs : List Nat, TL.joinL [] (cs.map fun c => [c]) = cs
  | [] => rfl
  | [c] => rfl
  | c :: d :: r => by
    show [c] ++ ([] ++ TL.joinL [] ((d :: r).map fun c => [c])) = c :: d :: r
    rw [joinL_ones (d :: r)]
    rfl
theorem join_ones (cs : List Nat) : (Txt.join Str.empty (cs.map one)).cps.toList = cs := by
  rw [TL.join_eq]
  have h := TL.tl_join Str.empty (cs.map one)
  rw [List.map_map] at h
  exact h.trans (joinL_ones cs)
theorem name_cons {c : Nat} {cs : List Nat} (h : isLetter c = true) (hs : cs.all isSign = true) (hl : cs.length ≤ 7) {z : Str} (e : z.cps.toList = c :: cs) : isNameS z = true ∧ z.length ≤ 8 := by
  refine ⟨?_, by rw [str_len, e, List.length_cons]; omega⟩
  unfold isNameS isNameL
  rw [e, decide_eq_true (show 1 ≤ (c :: cs).length by simp), decide_eq_true (show (c :: cs).length ≤ 8 by rw [List.length_cons]; omega)]
  simp only [List.headD_cons, h, List.all_cons, letter_sign h, hs, Bool.and_self]
/-- None, or a name that is short -/
def NameOr8 (v : V) : Prop := v = .non ∨ ∃ z, v = .str z ∧ z.length ≤ 8 ∧ isNameS z = true
def spTag : Sp := fun vs H Q _ => ∃ p : Addr, vs = [.ref p] ∧ PoolAt H p ∧ ∀ H' z, Pl p H H' → isNameS z = true → z.length ≤ 8 → Q (.str z) H'
theorem ok_tag {f : Addr} {fd : FuncData} {dvs : List V} {kws : List (Str × V)} (T : Tx K mg)
    (F : FunD K "_law_tag" "_law_tag" (defArgs s__law_tag) (defBody s__law_tag) (defScope s__law_tag) dvs kws f fd) :
    FnG P w K mg base CX0 2 f fd ["_law_pool_here"] spTag := by
  have c__law_draw : Cal P w K mg base CX0 1 "_law_draw" [] spDraw := c_draw T
  refine okG F sc__law_tag (fun vs H Q E h => ?_) (fun cdv A outer s H vs Q E hr hgd h => ?_)
  · obtain ⟨p, rfl, _⟩ := h
    rfl
  · obtain ⟨p, rfl, hp, q⟩ := h
    have hu := hr.units
    refine ⟨_, PSs.nox (pss_cons (ps_if (pt_cmpR op_eq (pe_cal c__law_draw (hr.mono (by decide)) hgd pass0 (pa_cons (pv 0) (pa_cons pe_int pa_nil))) pe_int (nomark _)) (pss_cons (ps_set (i := 1) sc__law_tag.nd rfl (Or.inl rfl) (pe_lst (pa_cons pe_str (pa_cons pe_str (pa_cons pe_str (pa_cons pe_str (pa_cons pe_str (pa_cons pe_str (pa_cons pe_str (pa_cons pe_str (pa_cons pe_str (pa_cons pe_str (pa_cons pe_str (pa_cons pe_str (pa_cons pe_str pa_nil)))))))))))))))
    (pss_one (ps_ret (pe_ix ix_list (pe_op op_cat (pv 1) (pe_lst (pa_cons pe_str (pa_cons pe_str pa_nil)))) (pe_cal c__law_draw (hr.mono (by decide)) hgd pass0 (pa_cons (pv 0) (pa_cons pe_int pa_nil))) (fun _ _ => rfl))))) pss_nil)
    (pss_cons (ps_asg (pe_tup (pa_cons pe_str (pa_cons (pe_cal c__law_draw (hr.mono (by decide)) hgd pass0 (pa_cons (pv 0) (pa_cons pe_int pa_nil))) pa_nil))) (pg_tup rfl (pgs_cons (pg_name (i := 2) sc__law_tag.nd rfl (Or.inr rfl)) (pgs_cons (pg_name (i := 3) sc__law_tag.nd rfl (Or.inl rfl)) pgs_nil))))
    (pss_one (ps_ret (pe_op op_add_str (pe_ix ix_str (pv 2) (pe_cal c__law_draw (hr.mono (by decide)) hgd pass0 (pa_cons (pv 0) (pa_cons pe_int pa_nil))) (fun _ _ => rfl)) (pe_join pe_str (pe_lc (own := [("_law_k", 4)]) (g := gName 4) (tt := tYes) rfl sc__law_tag.nd (pi_range1 rfl T.f_range (pa_cons (pv 3) pa_nil)) (blkOk_by (own := [("_law_k", 4)]) (N := n__law_tag) (sc := defScope s__law_tag) (by decide +kernel)) (fun _ _ _ _ _ => (pg_name (i := 4) sc__law_tag.nd rfl (Or.inl rfl))) (fun _ _ _ _ _ => pts_nil) (fun _ _ _ _ _ => (pe_ix ix_str (pv 2) (pe_cal c__law_draw (hr.mono (by decide)) hgd pass0 (pa_cons (pv 0) (pa_cons pe_int pa_nil))) (fun _ _ => rfl)))))))))), ?_⟩
    walk_at "rd"
    intro H1 r r1 r0 rm
    walk_at "rd"
    refine iteD (fun h1 => ?_) (fun h1 => ?_)
    · walk_at "rd"
      intro l1 n1
      walk_at "rd"
      intro l2 n2
      walk_at "rd"
      intro l3 n3
      walk_at "rd"
      intro H2 r2 s2 r20 r21
      obtain ⟨z, hz, vz, lz⟩ := word_at r20 r21
      walk_at "rd"
      exact q _ _ (by walk_at "g but") vz lz
    · walk_at "rd"
      intro H2 sz r2 sz0 szm
      walk_at "rd"
      intro t nt
      walk_at "rd"
      intro H3 at1 r3 at0 atm
      obtain ⟨c, hc, lc⟩ := sign_at at0 (show at1 < 36 by omega)
      walk_at "rd"
      intro D nD
      refine lcW (wk_range 0 sz.toNat) (fun i H => Pl p H3 H ∧ ∃ cs : List Nat, H D = some (.lst ((cs.map one).map V.str)) ∧ cs.length = i ∧ cs.all isSign = true)
        ⟨by walk_at "g but", [], upd_same, rfl, rfl⟩ (fun _ _ _ _ => trivial) ?_ ?_
      · rintro i x H4 hx ⟨pl4, cs, hD, hl, ha⟩
        have hi := (List.getElem?_eq_some_iff.mp hx).1
        rw [rngV_len] at hi
        walk_at "rd"
        intro H5 r5 pl5 r50 r51
        obtain ⟨c5, hc5, sc5, _⟩ := sign_at r50 r51
        walk_at "rd"
        refine ⟨by rw [List.length_map, List.length_map, hl]; show i < 16777216; omega, by walk_at "g but", cs ++ [c5], ?_, ?_, ?_⟩
        · rw [upd_same, List.map_append, List.map_append]
          rfl
        · rw [List.length_append, hl]
          rfl
        · rw [List.all_append, ha]
          simp [sc5]
      · rintro H4 ⟨pl4, cs, hD, hl, ha⟩
        rw [rngV_len] at hl
        have hz := join_ones cs
        have hc := name_cons (lc.2 atm) ha (by omega) (z := one c ++ Txt.join (Str.ofString "") (cs.map one)) (by
          show (#[c] ++ _).toList = _
          rw [Array.toList_append]
          exact congrArg (c :: ·) hz)
        have hs : ((cs.map one).map fun x => x.length).sum = cs.length := by
          rw [List.map_map]
          clear hz hc hl ha hD
          induction cs with
          | nil => rfl
          | cons d r ih => rw [List.map_cons, List.sum_cons, ih, List.length_cons]; show 1 + _ = _; omega
        walk_at "rd"
        refine ⟨by rw [hs, List.length_map]; show cs.length + cs.length * 0 ≤ _; omega, ?_⟩
        walk_at "rd"
        exact ⟨by have h8 : _ ≤ 8 := hc.2; exact Nat.le_trans (Nat.le_of_eq (cat_len _ _).symm) (Nat.le_trans h8 (by decide)), q _ _ (by walk_at "g but") hc.1 hc.2⟩
theorem c_tag (T : Tx K mg) : Cal P w K mg base CX0 2 "_law_tag" [] spTag := by
  obtain ⟨fd, F⟩ := T.d__law_tag
  exact .mk F (ok_tag T F) T.n__law_tag fun _ _ _ _ _ _ us hl => match us, hl with | [_], _ => rfl
end
end G
namespace G
open PySem PySem.Spec PyProof.Rows L2
theorem name_form {z : Str} (h : isNameS z = true) : ∃ c r, z.cps.toList = c :: r ∧ isLetter c = true ∧ r.all isSign = true ∧ r.length ≤ 7 := by
  rw [isNameS_eq, str_len] at h
  simp only [Bool.and_eq_true, decide_eq_true_eq] at h
  obtain ⟨⟨⟨h1, h2⟩, h3⟩, h4⟩ := h
  cases e : z.cps.toList with
  | nil => rw [e] at h1; simp at h1
  | cons c r =>
    rw [e] at h2 h3 h4
    rw [List.all_cons, Bool.and_eq_true] at h4
    exact ⟨c, r, rfl, h3, h4.2, by rw [List.length_cons] at h2; omega⟩
theorem cat_list (x y : Str) : (x ++ y).cps.toList = x.cps.toList ++ y.cps.toList := by
  show (x.cps ++ y.cps).toList = _
  rw [Array.toList_append]
/-! ### rows as texts -/
def digS (k : Nat) : Str := ⟨#[48 + k]⟩
def fourW : List Str := ["join", "drop", "look", "anew"]
inductive RW
  | one (w g : Str)
  | arr (g : Str) (d : Nat)
  | wai (g : Str) (k : Nat)
  | ovr (g : Str) (d k : Nat)
  | go (ks : List Nat)
  | fin
def Nm (z : Str) : Prop := isNameS z = true ∧ z.length ≤ 8
def RW.words : RW → List Str
  | .one w g => [w, g]
  | .arr g d => ["arrive", g, digS d]
  | .wai g k => ["wait", g, "else", digS k]
  | .ovr g d k => ["over", g, digS d, digS k]
  | .go ks => "go" :: ks.map digS
  | .fin => ["end"]
def RW.goals : RW → List Nat
  | .wai _ k => [k]
  | .ovr _ _ k => [k]
  | .go ks => ks
  | _ => []
/-- a row by the grammar, its values small -/
def RW.Ok : RW → Prop
  | .one w g => w ∈ fourW ∧ Nm g
  | .arr g d => Nm g ∧ d < 4
  | .wai g k => Nm g ∧ k < 10
  | .ovr g d k => Nm g ∧ d < 4 ∧ k < 10
  | .go ks => ks ≠ [] ∧ ks.length ≤ 4 ∧ (∀ k ∈ ks, k < 10) ∧ ks.Pairwise (· < ·)
  | .fin => True
def rwText (r : RW) : Str := Txt.join " " r.words
def rowText : Option Str → RW → Str
  | none, r => rwText r
  | some l, r => l ++ ": " ++ rwText r
/-- only letters and figures -/
def Plain (z : Str) : Prop := ∀ c ∈ z.cps.toList, isSign c = true
theorem nm_plain {z : Str} (h : Nm z) : Plain z := by
  obtain ⟨c, r, e, hc, hr, _⟩ := name_form h.1
  intro d hd
  rw [e] at hd
  rcases List.mem_cons.mp hd with rfl | hd
  · exact letter_sign hc
  · exact List.all_eq_true.mp hr d hd
theorem dig_plain {k : Nat} (h : k < 10) : Plain (digS k) := by
  have a : ∀ k : Fin 10, isSign (48 + k.val) = true := by decide +kernel
  intro c hc
  have e : c = 48 + k := by simpa [digS] using hc
  rw [e]
  exact a ⟨k, h⟩
theorem lit_plain : ∀ z ∈ (["join", "drop", "look", "anew", "arrive", "wait", "else", "over", "go", "end"] : List Str), Plain z := by
  have a : (["join", "drop", "look", "anew", "arrive", "wait", "else", "over", "go", "end"] : List Str).all (fun z => z.cps.toList.all isSign) = true := by decide +kernel
  intro z hz c hc
  exact List.all_eq_true.mp (List.all_eq_true.mp a z hz) c hc
theorem words_plain {r : RW} (h : r.Ok) : ∀ z ∈ r.words, Plain z ∧ z.length ≤ 8 := by
  have short : ∀ z ∈ (["join", "drop", "look", "anew", "arrive", "wait", "else", "over", "go", "end"] : List Str), z.length ≤ 8 := by decide +kernel
  have dl : ∀ k, (digS k).length ≤ 8 := fun k => by show 1 ≤ 8; decide
  have lit : ∀ z ∈ (["join", "drop", "look", "anew", "arrive", "wait", "else", "over", "go", "end"] : List Str), Plain z ∧ z.length ≤ 8 := fun z hz => ⟨lit_plain z hz, short z hz⟩
  have nm : ∀ g, Nm g → Plain g ∧ g.length ≤ 8 := fun g hg => ⟨nm_plain hg, hg.2⟩
  have dg : ∀ k, k < 10 → Plain (digS k) ∧ (digS k).length ≤ 8 := fun k hk => ⟨dig_plain hk, dl k⟩
  intro z hz
  cases r with
  | one w g =>
    obtain ⟨hw, hg⟩ := h
    rcases List.mem_cons.mp hz with rfl | hz
    · exact lit z (by simp only [fourW, List.mem_cons, List.not_mem_nil, or_false] at hw; rcases hw with rfl | rfl | rfl | rfl <;> simp)
    · rw [List.mem_singleton.mp hz]; exact nm g hg
  | arr g d =>
    obtain ⟨hg, hd⟩ := h
    simp only [RW.words, List.mem_cons, List.not_mem_nil, or_false] at hz
    rcases hz with rfl | rfl | rfl
    · exact lit _ (by simp)
    · exact nm _ hg
    · exact dg _ (by omega)
  | wai g k =>
    obtain ⟨hg, hd⟩ := h
    simp only [RW.words, List.mem_cons, List.not_mem_nil, or_false] at hz
    rcases hz with rfl | rfl | rfl | rfl
    · exact lit _ (by simp)
    · exact nm _ hg
    · exact lit _ (by simp)
    · exact dg _ (by omega)
  | ovr g d k =>
    obtain ⟨hg, hd, hk⟩ := h
    simp only [RW.words, List.mem_cons, List.not_mem_nil, or_false] at hz
    rcases hz with rfl | rfl | rfl | rfl
    · exact lit _ (by simp)
    · exact nm _ hg
    · exact dg _ (by omega)
    · exact dg _ (by omega)
  | go ks =>
    obtain ⟨_, _, hk, _⟩ := h
    rcases List.mem_cons.mp hz with rfl | hz
    · exact lit _ (by simp)
    · obtain ⟨k, hm, rfl⟩ := List.mem_map.mp hz
      exact dg k (hk k hm)
  | fin =>
    rw [List.mem_singleton.mp hz]
    exact lit _ (by simp)
theorem words_few {r : RW} (h : r.Ok) : r.words ≠ [] ∧ r.words.length ≤ 5 := by
  cases r with
  | go ks => exact ⟨by simp [RW.words], by show (ks.map digS).length + 1 ≤ 5; rw [List.length_map]; have := h.2.1; omega⟩
  | _ => exact ⟨by simp [RW.words], by simp [RW.words]⟩
theorem joinL_mem {S : List Nat} : ∀ {ps : List (List Nat)} {c : Nat}, c ∈ TL.joinL S ps → c ∈ S ∨ ∃ p ∈ ps, c ∈ p
  | [], c, h => by cases h
  | [p], c, h => .inr ⟨p, List.mem_singleton.mpr rfl, h⟩
  | p :: q :: r, c, h => by
    have h' : c ∈ p ++ (S ++ TL.joinL S (q :: r)) := h
    rcases List.mem_append.mp h' with h | h
    · exact .inr ⟨p, List.mem_cons_self, h⟩
    rcases List.mem_append.mp h with h | h
    · exact .inl h
    rcases joinL_mem h with h | ⟨p', hp, h⟩
    · exact .inl h
    · exact .inr ⟨p', List.mem_cons_of_mem _ hp, h⟩
theorem joinL_len {S : List Nat} (hS : S.length ≤ 1) : ∀ {ps : List (List Nat)}, (∀ p ∈ ps, p.length ≤ 8) → (TL.joinL S ps).length ≤ 9 * ps.length
  | [], _ => Nat.zero_le _
  | [p], h => by have := h p (List.mem_singleton.mpr rfl); show p.length ≤ 9 * 1; omega
  | p :: q :: r, h => by
    have h1 := h p List.mem_cons_self
    have h2 := joinL_len hS (ps := q :: r) fun z hz => h z (List.mem_cons_of_mem _ hz)
    show (p ++ (S ++ TL.joinL S (q :: r))).length ≤ 9 * ((q :: r).length + 1)
    rw [List.length_append, List.length_append]
    omega
theorem rwText_list (r : RW) : (rwText r).cps.toList = TL.joinL [32] (r.words.map TL.tl) := by
  unfold rwText
  rw [TL.join_eq]
  exact TL.tl_join _ _
theorem rwText_len {r : RW} (h : r.Ok) : (rwText r).length ≤ 45 := by
  rw [str_len, rwText_list]
  have h2 := (words_few h).2
  have h1 := joinL_len (S := [32]) (by decide) (ps := r.words.map TL.tl) (by
    intro p hp
    obtain ⟨z, hz, rfl⟩ := List.mem_map.mp hp
    have := (words_plain h z hz).2
    rw [str_len] at this
    exact this)
  rw [List.length_map] at h1
  omega
theorem plain_not {z : Str} (h : Plain z) {c : Nat} (hc : isSign c = false) : c ∉ z.cps.toList := fun hm => by
  rw [h c hm] at hc
  cases hc
theorem rwText_split {r : RW} (h : r.Ok) : Txt.split (rwText r) (Str.ofString " ") = r.words :=
  TL.split_join (y := Str.ofString " ") (s := 32) (S := []) (by decide +kernel) (by decide +kernel) (words_few h).1 fun z hz => plain_not (words_plain h z hz).1 (by decide +kernel)
theorem rwText_colon {r : RW} (h : r.Ok) : 58 ∉ (rwText r).cps.toList := by
  rw [rwText_list]
  intro hm
  rcases joinL_mem hm with h1 | ⟨p, hp, h1⟩
  · exact absurd h1 (by decide)
  · obtain ⟨z, hz, rfl⟩ := List.mem_map.mp hp
    exact plain_not (words_plain h z hz).1 (by decide +kernel) h1
theorem rowText_part0 {r : RW} (h : r.Ok) : Txt.partition (rowText none r) (Str.ofString ": ") = (rwText r, Str.empty, Str.empty) :=
  TL.partition_none (y := Str.ofString ": ") (s := 58) (S := [32]) (by decide +kernel) (rwText_colon h)
theorem rowText_part1 {l : Str} {r : RW} (hl : Nm l) : Txt.partition (rowText (some l) r) (Str.ofString ": ") = (l, Str.ofString ": ", rwText r) :=
  TL.partition_app (y := Str.ofString ": ") (s := 58) (S := [32]) (by decide +kernel) (plain_not (nm_plain hl) (by decide +kernel))
theorem rowText_len {l : Option Str} {r : RW} (h : r.Ok) (hl : ∀ z, l = some z → Nm z) : (rowText l r).length ≤ 55 := by
  have h1 := rwText_len h
  cases l with
  | none => exact Nat.le_trans h1 (by decide)
  | some z =>
    have h2 := (hl z rfl).2
    show (z ++ Str.ofString ": " ++ rwText r).length ≤ 55
    rw [cat_len, cat_len, show (Str.ofString ": ").length = 2 from by decide +kernel]
    omega
end G
namespace G
open PySem PySem.Spec PyProof.Rows L2
/-- a resting place -/
theorem mid1 {t1 t2 : TS} {D : Ends} {σ : L2.St} {H : Hp} (M : L2.St → Hp → Prop) (h2 : ∀ σ' H', M σ' H' → t2 D σ' H')
    (h1 : ∀ u : TS, (∀ σ' H', M σ' H' → u D σ' H') → tSeq t1 u D σ H) : tSeq t1 t2 D σ H := h1 t2 h2
/-! ### rows as any words tell them -/
/-- the figure that a word is -/
def digO (z : Str) : Option Nat := if z.length = 1 ∧ 48 ≤ z.cps.toList.headD 0 ∧ z.cps.toList.headD 0 ≤ 57 then some (z.cps.toList.headD 0 - 48) else none
structure RawR where
  wo : Str
  ga : Option Str
  va : Option Nat
  gs : List (Option Nat)
def rawOf (w : Str) (more : List Str) : Option RawR :=
  if w ∈ fourW ∧ more.length = 1 then some ⟨w, more[0]?, none, []⟩
  else if w = "arrive" ∧ more.length = 2 then some ⟨w, more[0]?, digO (more.getD 1 ""), []⟩
  else if w = "wait" ∧ more.length = 3 ∧ more[1]? = some ("else" : Str) then some ⟨w, more[0]?, none, [digO (more.getD 2 "")]⟩
  else if w = "over" ∧ more.length = 3 then some ⟨w, more[0]?, digO (more.getD 1 ""), [digO (more.getD 2 "")]⟩
  else if w = "go" ∧ 1 ≤ more.length ∧ more.length ≤ 4 then some ⟨w, none, none, more.map digO⟩
  else if w = "end" ∧ more = [] then some ⟨w, none, none, []⟩
  else none
theorem len_one {z : Str} (h : z.length = 1) : ∃ c, z = ⟨#[c]⟩ ∧ z.cps.toList = [c] := by
  rw [str_len] at h
  obtain ⟨c, e⟩ := List.length_eq_one_iff.mp h
  refine ⟨c, ?_, e⟩
  cases z with
  | mk a =>
    have : a = #[c] := Array.toList_inj.mp e
    rw [this]
theorem dig_mem (c : Nat) : c ∈ (Str.ofString "0123456789").cps.toList ↔ 48 ≤ c ∧ c ≤ 57 := by
  have e : (Str.ofString "0123456789").cps.toList = [48, 49, 50, 51, 52, 53, 54, 55, 56, 57] := by decide +kernel
  rw [e]
  simp only [List.mem_cons, List.not_mem_nil, or_false]
  omega
theorem digO_dig {k : Nat} (h : k < 10) : digO (digS k) = some k := by
  have a : ∀ k : Fin 10, digO (digS k.val) = some k.val := by decide +kernel
  exact a ⟨k, h⟩
theorem digO_some {z : Str} {k : Nat} (h : digO z = some k) : z = digS k ∧ k < 10 := by
  unfold digO at h
  split at h
  · rename_i c
    obtain ⟨c1, c2, c3⟩ := c
    obtain ⟨c, rfl, e⟩ := len_one c1
    rw [e] at c2 c3 h
    simp only [List.headD_cons] at c2 c3 h
    have hk := Option.some.inj h
    subst hk
    refine ⟨?_, by omega⟩
    unfold digS
    rw [show 48 + (c - 48) = c by omega]
  · cases h
theorem digO_in {c : Nat} (h : 48 ≤ c ∧ c ≤ 57) : digO ⟨#[c]⟩ = some (c - 48) ∧ PySem.intText? ⟨#[c]⟩ = some ((c - 48 : Nat) : Int) := by
  have a : ∀ k : Fin 10, digO ⟨#[48 + k.val]⟩ = some k.val ∧ PySem.intText? ⟨#[48 + k.val]⟩ = some (k.val : Int) := by decide +kernel
  have := a ⟨c - 48, by omega⟩
  rw [show 48 + (c - 48) = c by omega] at this
  exact this
theorem digO_out {c : Nat} (h : ¬ (48 ≤ c ∧ c ≤ 57)) : digO ⟨#[c]⟩ = none := by
  unfold digO
  rw [if_neg]
  rintro ⟨_, h1, h2⟩
  exact h ⟨h1, h2⟩
theorem digO_len {z : Str} (h : ¬ z.length = 1) : digO z = none := by
  unfold digO
  rw [if_neg]
  exact fun ⟨h1, _⟩ => h h1
theorem len_two {α : Type} {l : List α} (h : l.length = 2) : ∃ a b, l = [a, b] := by
  match l, h with
  | [a, b], _ => exact ⟨a, b, rfl⟩
theorem len_three {α : Type} {l : List α} (h : l.length = 3) : ∃ a b c, l = [a, b, c] := by
  match l, h with
  | [a, b, c], _ => exact ⟨a, b, c, rfl⟩
/-! texts in lists, compared -/
theorem lstrs_lay : ∀ l : List Str, (∀ z ∈ l, Asc z) → PyData.canLayAll0 (l.map PyData.str) = true
  | [], _ => by simp only [List.map_nil, PyData.canLayAll0]
  | z :: l, h => by
    simp only [List.map_cons, PyData.canLayAll0, PyData.canLay0, Bool.and_eq_true]
    exact ⟨(h z List.mem_cons_self).ok, lstrs_lay l fun y hy => h y (List.mem_cons_of_mem _ hy)⟩
theorem lstrs_depth : ∀ l : List Str, PyData.depthAll (l.map PyData.str) = 0
  | [] => by simp only [List.map_nil, PyData.depthAll]
  | z :: l => by
    simp only [List.map_cons, PyData.depthAll, PyData.depth, lstrs_depth l]
    rfl
theorem lstrs_shaped {l : List Str} (h : ∀ z ∈ l, Asc z) : SeqAt.shaped (.list (l.map PyData.str)) = true := by
  unfold SeqAt.shaped
  simp only [PyData.canLay0, PyData.depth, lstrs_lay l h, lstrs_depth l, Bool.true_and]
  decide
theorem lstrs_eqv : ∀ l m : List Str, PyData.eqv (.list (l.map PyData.str)) (.list (m.map PyData.str)) = decide (l = m)
  | [], [] => rfl
  | [], _ :: _ => rfl
  | _ :: _, [] => rfl
  | x :: l, y :: m => by
    have ih := lstrs_eqv l m
    show (PyData.eqv (.str x) (.str y) && PyData.eqv (.list (l.map PyData.str)) (.list (m.map PyData.str))) = _
    rw [ih]
    have e : PyData.eqv (.str x) (.str y) = decide (x = y) := by
      show (x == y) = decide (x = y)
      by_cases h : x = y
      · subst h; simp
      · simp [h]
    rw [e]
    by_cases h1 : x = y <;> by_cases h2 : l = m <;> simp [h1, h2]
theorem lstrs_dpAll {K : PySem.W.Frag} {H : Hp} : ∀ l : List Str, DpAll K H (l.map V.str) (l.map PyData.str)
  | [] => .nil
  | z :: l => .cons (.str z) (lstrs_dpAll l)
theorem lstrs_dp {K : PySem.W.Frag} {H : Hp} {a : Addr} {l : List Str} (h : SqL K H a (l.map V.str)) : Dp K H (.ref a) (.list (l.map PyData.str)) := .lst h (lstrs_dpAll l)
def optV : Option Nat → V
  | none => .non
  | some k => .int (k : Int)
def optS : Option Str → V
  | none => .non
  | some z => .str z
section
variable {P : Program} {w : World} {K : PySem.W.Frag} {mg : Str → Option Value} {base : Heap} {CX : CXT}
/-! ### rows as objects -/
abbrev cR (K : PySem.W.Frag) : Addr := He.ga K "Row"
abbrev rowGo (K : PySem.W.Frag) : V := .ref (kwdAt ("Row", some "__init__") "goals" K)
def intV (gs : List Nat) : List V := gs.map fun (k : Nat) => V.int (k : Int)
/-- a tuple of goals: new, or the one that stands for none -/
def GoAt (K : PySem.W.Frag) (H : Hp) (g : Addr) (gs : List Nat) : Prop := H g = some (.tup (intV gs)) ∨ (gs = [] ∧ ∀ H, SqT K H g [])
theorem GoAt.sq {H : Hp} {g : Addr} {gs : List Nat} (h : GoAt K H g gs) : SqT K H g (intV gs) := by
  rcases h with h | ⟨rfl, h⟩
  · exact SqT.of h
  · exact h H
theorem GoAt.same {H H' : Hp} {g : Addr} {gs : List Nat} (h : GoAt K H g gs) (s : Same H H') : GoAt K H' g gs := by
  rcases h with h | h
  · exact .inl (s _ _ h)
  · exact .inr h
theorem GoAt.but {H H' : Hp} {g p C dx : Addr} {fs : List (Str × V)} {gs : List Nat} (h : GoAt K H g gs) (hp : H p = some (.ins C dx fs)) (s : But p H H') : GoAt K H' g gs := by
  rcases h with h | h
  · exact .inl (s _ _ (ne_of h hp (by rintro h; cases h)) h)
  · exact .inr h
end
def goalX (xs : List V) : V := xs.headD .non
def goalV (gs : List Nat) : V := match gs with
  | [] => .non
  | k :: _ => .int (k : Int)
theorem goalX_int (gs : List Nat) : goalX (intV gs) = goalV gs := by
  cases gs <;> rfl
/-- a tuple of goals, whatever they are -/
def GoX (K : PySem.W.Frag) (H : Hp) (g : Addr) (xs : List V) : Prop := H g = some (.tup xs) ∨ (xs = [] ∧ ∀ H, SqT K H g [])
theorem GoX.sq {K : PySem.W.Frag} {H : Hp} {g : Addr} {xs : List V} (h : GoX K H g xs) : SqT K H g xs := by
  rcases h with h | ⟨rfl, h⟩
  · exact SqT.of h
  · exact h H
theorem GoX.same {K : PySem.W.Frag} {H H' : Hp} {g : Addr} {xs : List V} (h : GoX K H g xs) (s : Same H H') : GoX K H' g xs := by
  rcases h with h | h
  · exact .inl (s _ _ h)
  · exact .inr h
theorem GoX.but {K : PySem.W.Frag} {H H' : Hp} {g p C dx : Addr} {fs : List (Str × V)} {xs : List V} (h : GoX K H g xs) (hp : H p = some (.ins C dx fs)) (s : But p H H') : GoX K H' g xs := by
  rcases h with h | h
  · exact .inl (s _ _ (ne_of h hp (by rintro h; cases h)) h)
  · exact .inr h
theorem GoX.go {K : PySem.W.Frag} {H : Hp} {g : Addr} {gs : List Nat} (h : GoX K H g (intV gs)) : GoAt K H g gs := by
  rcases h with h | ⟨e, h⟩
  · exact .inl h
  · exact .inr ⟨List.map_eq_nil_iff.mp e, h⟩
abbrev rowFx (tx la wo ga va : V) (g : Addr) (xs : List V) : List (Str × V) := [("text", tx), ("label", la), ("word", wo), ("gate", ga), ("value", va), ("goals", .ref g), ("goal", goalX xs)]
abbrev rowFs (tx la wo ga va : V) (g : Addr) (gs : List Nat) : List (Str × V) := [("text", tx), ("label", la), ("word", wo), ("gate", ga), ("value", va), ("goals", .ref g), ("goal", goalV gs)]
theorem rowFx_int (tx la wo ga va : V) (g : Addr) (gs : List Nat) : rowFx tx la wo ga va g (intV gs) = rowFs tx la wo ga va g gs := by
  unfold rowFx rowFs
  rw [goalX_int]
/-- a promise of an exception that no one wants -/
theorem FnOk.cx0 {P : Program} {w : World} {K : PySem.W.Frag} {mg : Str → Option Value} {base : Heap} {k : Nat} {f : Addr} {fd : FuncData} {ps : List Str} {sp sp' : Sp} (F : FnOk P w K mg base (L2.CX P w) k f fd ps sp)
    (h : ∀ vs H Q E, sp' vs H Q E → sp vs H Q fun _ _ _ => False) : FnOk P w K mg base CX0 k f fd ps sp' :=
  ⟨fun vs H Q E q => F.len vs H Q _ (h _ _ _ _ q), fun A outer s H args us vs Q E hr he hb hv hs => codeAny_mono (F.run A outer s H args us vs Q _ hr he hb hv (h _ _ _ _ hs)) fun r s' hq => by
    match r, hq with
    | .ok (.ret _), hq => exact hq
    | .ok .next, hq => exact hq
    | .ok .brk, hq => exact hq
    | .ok .cont, hq => exact hq
    | .error e, hq =>
      obtain ⟨_, _, _, _, _, _, _, _, _, _, _, _, hf⟩ := hq
      exact hf.elim⟩
def spRowX (K : PySem.W.Frag) : Sp := fun vs H Q _ => ∃ (p dx g : Addr) (tx la wo ga va : V) (xs : List V), vs = [.ref p, tx, la, wo, ga, va, .ref g] ∧ H p = some (.ins (cR K) dx []) ∧ GoX K H g xs ∧
  ∀ H', But p H H' → H' p = some (.ins (cR K) dx (rowFx tx la wo ga va g xs)) → Q .non H'
section
variable {P : Program} {w : World} {K : PySem.W.Frag} {mg : Str → Option Value} {base : Heap} {CX : CXT}
theorem ok_RowX {f : Addr} {fd : FuncData} {dvs : List V} {kws : List (Str × V)} (T : Tx K mg)
    (F : FunD K "__init__" "Row.__init__" (defArgs s_Row___init__) (defBody s_Row___init__) (defScope s_Row___init__) dvs kws f fd) :
    FnOk P w K mg base CX 1 f fd ["self", "text", "label", "word", "gate", "value", "goals"] (spRowX K) := by
  refine F.ok sc_Row___init__ (fun vs H Q E h => ?_) (fun cdv A outer s H vs Q E hr h => ?_)
  · obtain ⟨p, dx, g, tx, la, wo, ga, va, xs, rfl, _⟩ := h
    rfl
  · obtain ⟨p, dx, g, tx, la, wo, ga, va, xs, rfl, hp, hg, q⟩ := h
    have cl := T.c_Row
    have n1 := T.na_Row_text
    have n2 := T.na_Row_label
    have n3 := T.na_Row_word
    have n4 := T.na_Row_gate
    have n5 := T.na_Row_value
    have n6 := T.na_Row_goals
    have n7 := T.na_Row_goal
    refine ⟨_, PSs.nox (pss_cons (ps_asg (pe_tup (pa_cons (pv 1) (pa_cons (pv 2) (pa_cons (pv 3) pa_nil)))) (pg_tup rfl (pgs_cons (pg_attr (pv 0)) (pgs_cons (pg_attr (pv 0)) (pgs_cons (pg_attr (pv 0)) pgs_nil)))))
    (pss_cons (ps_asg (pe_tup (pa_cons (pv 4) (pa_cons (pv 5) (pa_cons (pv 6) pa_nil)))) (pg_tup rfl (pgs_cons (pg_attr (pv 0)) (pgs_cons (pg_attr (pv 0)) (pgs_cons (pg_attr (pv 0)) pgs_nil)))))
    (pss_one (ps_fld (pv 0) (pe_ifExp (pt_cmpR op_gt (pe_callB call_len_seq rfl T.f_len (by decide +kernel) (pa_cons (pv 6) pa_nil)) pe_int (nomark _)) (pe_ix ix_tup (pv 6) pe_int (fun _ _ => rfl)) pe_non) rfl)))), ?_⟩
    walk_at "rd"
    intro t nt
    walk_at "rd"
    intro t2 nt2
    walk_at "rd"
    refine ⟨Or.inr (hg.but hp (by walk_at "g but")).sq, ?_⟩
    cases xs with
    | nil =>
      walk_at "rd"
      refine q _ (by walk_at "g but") ?_
      rw [upd_same]
      rfl
    | cons v r =>
      walk_at "rd"
      refine iteD (fun _ => ?_) (fun h => absurd (show (0 : Int) < ((List.length (v :: r) : Nat) : Int) by rw [List.length_cons]; omega) h)
      walk_at "rd"
      refine ⟨(hg.but hp (by walk_at "g but")).sq, at_any (v := v) (j := 0) rfl rfl, ?_⟩
      walk_at "rd"
      refine q _ (by walk_at "g but") ?_
      rw [upd_same]
      rfl
theorem c_Row_3 (T : Tx K mg) : CalC P w K mg base CX 1 "Row" (cR K) [.non, .non, rowGo K] (spRowX K) := by
  obtain ⟨fd, F⟩ := T.d_Row___init__
  obtain ⟨ds, rd, hb⟩ := F.binds0 (ps := ["self", "text", "label", "word", "gate", "value", "goals"]) 4 (fun h => absurd (show 3 = 0 from congrArg List.length h) (by decide)) rfl (fun D doc pm an cdv ct us ks l1 l2 => match us, ks, l1, l2 with
    | [_, _, _, _], [_, _, _], _, _ => ⟨_, _, _, _, _, _, rfl, rfl, _, _, _, _, _, _, rfl, rfl, _, _, _, _, _, _, rfl, rfl, rfl⟩)
  obtain ⟨u, hm, ru⟩ := T.g_Row
  obtain rfl : u = Value.ref (cR K) := ru
  exact ⟨_, fd, _, ds, T.mk_Row, ok_RowX T F, hm, hb, rd⟩
def gWM {α : Type} (us mv ws : List α) : List α := us ++ (ws ++ mv)
def gMW {α : Type} (us mv ws : List α) : List α := us ++ (mv ++ ws)
def gWMW {α : Type} (us mv ws : List α) : List α := us ++ (ws.take 1 ++ (mv ++ ws.drop 1))
theorem c_Row_3_gate (T : Tx K mg) : CalN P w K mg base CX 1 "Row" (cR K) 3 ["gate"] (fun vs zs => gWM vs [.non, rowGo K] zs) (spRowX K) := by
  obtain ⟨fd, F⟩ := T.d_Row___init__
  obtain ⟨mv, hb⟩ := F.kbinds0 (ps := ["self", "text", "label", "word", "gate", "value", "goals"]) 4 ["gate"] [("value", .non), ("goals", rowGo K)] gWM (fun h => absurd (show 3 = 0 from congrArg List.length h) (by decide))
    (fun q hq => (List.mem_cons.mp hq).elim (fun e => e ▸ .tail _ (.head _)) fun hq => List.mem_singleton.mp hq ▸ .tail _ (.tail _ (.head _)))
    (fun r1 r2 r3 => vals_app r1 (vals_app r3 r2)) (fun D doc pm an cdv ct us mv ws l1 l2 l3 => match us, mv, ws, l1, l2, l3 with
    | [_, _, _, _], [_, _], [_], _, _, _ => ⟨_, _, _, _, _, _, rfl, rfl, _, _, _, _, _, _, rfl, rfl, rfl⟩)
  obtain ⟨u, hm, ru⟩ := T.g_Row
  obtain rfl : u = Value.ref (cR K) := ru
  exact ⟨_, fd, _, _, T.mk_Row, ok_RowX T F, hm, hb⟩
theorem c_Row_3_gate_value (T : Tx K mg) : CalN P w K mg base CX 1 "Row" (cR K) 3 ["gate", "value"] (fun vs zs => gWM vs [rowGo K] zs) (spRowX K) := by
  obtain ⟨fd, F⟩ := T.d_Row___init__
  obtain ⟨mv, hb⟩ := F.kbinds0 (ps := ["self", "text", "label", "word", "gate", "value", "goals"]) 4 ["gate", "value"] [("goals", rowGo K)] gWM (fun h => absurd (show 3 = 0 from congrArg List.length h) (by decide))
    (fun q hq => List.mem_singleton.mp hq ▸ .tail _ (.tail _ (.head _)))
    (fun r1 r2 r3 => vals_app r1 (vals_app r3 r2)) (fun D doc pm an cdv ct us mv ws l1 l2 l3 => match us, mv, ws, l1, l2, l3 with
    | [_, _, _, _], [_], [_, _], _, _, _ => ⟨_, _, _, _, _, _, rfl, rfl, rfl⟩)
  obtain ⟨u, hm, ru⟩ := T.g_Row
  obtain rfl : u = Value.ref (cR K) := ru
  exact ⟨_, fd, _, _, T.mk_Row, ok_RowX T F, hm, hb⟩
theorem c_Row_3_gate_goals (T : Tx K mg) : CalN P w K mg base CX 1 "Row" (cR K) 3 ["gate", "goals"] (fun vs zs => gWMW vs [.non] zs) (spRowX K) := by
  obtain ⟨fd, F⟩ := T.d_Row___init__
  obtain ⟨mv, hb⟩ := F.kbinds0 (ps := ["self", "text", "label", "word", "gate", "value", "goals"]) 4 ["gate", "goals"] [("value", .non)] gWMW (fun h => absurd (show 3 = 0 from congrArg List.length h) (by decide))
    (fun q hq => List.mem_singleton.mp hq ▸ .tail _ (.head _))
    (fun r1 r2 r3 => vals_app r1 (vals_app (vals_take 1 r3) (vals_app r2 (vals_drop 1 r3)))) (fun D doc pm an cdv ct us mv ws l1 l2 l3 => match us, mv, ws, l1, l2, l3 with
    | [_, _, _, _], [_], [_, _], _, _, _ => ⟨_, _, _, _, _, _, rfl, rfl, rfl⟩)
  obtain ⟨u, hm, ru⟩ := T.g_Row
  obtain rfl : u = Value.ref (cR K) := ru
  exact ⟨_, fd, _, _, T.mk_Row, ok_RowX T F, hm, hb⟩
theorem c_Row_3_gate_value_goals (T : Tx K mg) : CalN P w K mg base CX 1 "Row" (cR K) 3 ["gate", "value", "goals"] (fun vs zs => gWM vs [] zs) (spRowX K) := by
  obtain ⟨fd, F⟩ := T.d_Row___init__
  obtain ⟨mv, hb⟩ := F.kbinds0 (ps := ["self", "text", "label", "word", "gate", "value", "goals"]) 4 ["gate", "value", "goals"] [] gWM (fun h => absurd (show 3 = 0 from congrArg List.length h) (by decide))
    (fun q hq => nomatch hq)
    (fun r1 r2 r3 => vals_app r1 (vals_app r3 r2)) (fun D doc pm an cdv ct us mv ws l1 l2 l3 => match us, mv, ws, l1, l2, l3 with
    | [_, _, _, _], [], [_, _, _], _, _, _ => rfl)
  obtain ⟨u, hm, ru⟩ := T.g_Row
  obtain rfl : u = Value.ref (cR K) := ru
  exact ⟨_, fd, _, _, T.mk_Row, ok_RowX T F, hm, hb⟩
theorem c_Row_3_goals (T : Tx K mg) : CalN P w K mg base CX 1 "Row" (cR K) 3 ["goals"] (fun vs zs => gMW vs [.non, .non] zs) (spRowX K) := by
  obtain ⟨fd, F⟩ := T.d_Row___init__
  obtain ⟨mv, hb⟩ := F.kbinds0 (ps := ["self", "text", "label", "word", "gate", "value", "goals"]) 4 ["goals"] [("gate", .non), ("value", .non)] gMW (fun h => absurd (show 3 = 0 from congrArg List.length h) (by decide))
    (fun q hq => (List.mem_cons.mp hq).elim (fun e => e ▸ .head _) fun hq => List.mem_singleton.mp hq ▸ .tail _ (.head _))
    (fun r1 r2 r3 => vals_app r1 (vals_app r2 r3)) (fun D doc pm an cdv ct us mv ws l1 l2 l3 => match us, mv, ws, l1, l2, l3 with
    | [_, _, _, _], [_, _], [_], _, _, _ => ⟨_, _, _, _, _, _, rfl, rfl, _, _, _, _, _, _, rfl, rfl, rfl⟩)
  obtain ⟨u, hm, ru⟩ := T.g_Row
  obtain rfl : u = Value.ref (cR K) := ru
  exact ⟨_, fd, _, _, T.mk_Row, ok_RowX T F, hm, hb⟩
def spDigitX : Sp := fun vs H Q _ => ∃ z : Str, vs = [.str z] ∧ z.length ≤ sizeLine ∧ Q (optV (digO z)) H
theorem ok_digitX {f : Addr} {fd : FuncData} {dvs : List V} {kws : List (Str × V)} (T : Tx K mg)
    (F : FunD K "digit_of" "digit_of" (defArgs s_digit_of) (defBody s_digit_of) (defScope s_digit_of) dvs kws f fd) :
    FnOk P w K mg base CX 1 f fd ["word"] spDigitX := by
  refine F.ok sc_digit_of (fun vs H Q E h => ?_) (fun cdv A outer s H vs Q E hr h => ?_)
  · obtain ⟨z, rfl, _⟩ := h
    rfl
  · obtain ⟨z, rfl, zl, q⟩ := h
    refine ⟨_, PSs.nox (pss_one (ps_ret (pe_ifExp (PW.pt (pw_and (pt_cmpR op_eq (pe_callB call_len_str rfl T.f_len (by decide +kernel) (pa_cons (pv 0) pa_nil)) pe_int (nomark _)) (pw_and1 (pt_cmpR op_in_sign (pv 0) (pe_gl T.g_DIGITS) rfl)))) (pe_callTy call_int_str rfl T.f_int (by decide +kernel) (pa_cons (pv 0) pa_nil)) pe_non))), ?_⟩
    walk_at "rd"
    refine iteB (fun h1 => ?_) (fun h1 => ?_)
    · have l1 : z.length = 1 := by
        have := V.int.inj (of_decide_eq_true h1)
        omega
      obtain ⟨c, rfl, e⟩ := len_one l1
      walk_at "rd"
      refine iteD (fun h2 => ?_) (fun h2 => ?_)
      · have h3 := (dig_mem c).mp h2
        obtain ⟨d1, d2⟩ := digO_in h3
        rw [d1] at q
        exact ⟨_, rfl, _, _, rfl, d2, show 1 ≤ 640 by decide, q⟩
      · have h3 := fun h => h2 ((dig_mem c).mpr h)
        rw [digO_out h3] at q
        walk_at "rd"
        exact q
    · have l1 : ¬ z.length = 1 := fun e => (of_decide_eq_false h1) (by rw [e]; rfl)
      rw [digO_len l1] at q
      walk_at "rd"
      exact q
theorem c_digitX (T : Tx K mg) : CalO P w K mg base CX 1 "digit_of" [] spDigitX := by
  obtain ⟨fd, F⟩ := T.d_digit_of
  exact .mk F (ok_digitX T F) T.n_digit_of fun _ _ _ _ _ _ us hl => match us, hl with | [_], _ => rfl
def fDigX : V → V
  | .str s => optV (digO s)
  | _ => .non
theorem fDigX_map (ws : List Str) : (ws.map V.str).map fDigX = (ws.map digO).map optV := by
  rw [List.map_map, List.map_map]
  rfl
def RW.wordS : RW → Str
  | .one w _ => w
  | .arr _ _ => "arrive"
  | .wai _ _ => "wait"
  | .ovr _ _ _ => "over"
  | .go _ => "go"
  | .fin => "end"
def RW.gateV : RW → V
  | .one _ g => .str g
  | .arr g _ => .str g
  | .wai g _ => .str g
  | .ovr g _ _ => .str g
  | _ => .non
def RW.valV : RW → V
  | .arr _ d => .int (d : Int)
  | .ovr _ d _ => .int (d : Int)
  | _ => .non
def RawIn (K : PySem.W.Frag) (H : Hp) (r : Addr) (tx la : V) (R : RawR) : Prop := ∃ dx g, H r = some (.ins (cR K) dx (rowFx tx la (.str R.wo) (optS R.ga) (optV R.va) g (R.gs.map optV))) ∧ GoX K H g (R.gs.map optV)
theorem RawIn.same {H H' : Hp} {r : Addr} {tx la : V} {R : RawR} (h : RawIn K H r tx la R) (s : Same H H') : RawIn K H' r tx la R := by
  obtain ⟨dx, g, e, o⟩ := h
  exact ⟨dx, g, s _ _ e, o.same s⟩
def spRowOfX (K : PySem.W.Frag) : Sp := fun vs H Q _ => ∃ (a : Addr) (tx la : V) (w : Str) (more : List Str), vs = [tx, la, .ref a] ∧ H a = some (.lst ((w :: more).map V.str)) ∧ more.length + 1 ≤ sizeLine ∧ (∀ z ∈ w :: more, z.length ≤ sizeLine ∧ Asc z) ∧
  (∀ R, rawOf w more = some R → ∀ H' r, Same H H' → RawIn K H' r tx la R → Q (.ref r) H') ∧ (rawOf w more = none → ∀ H', Same H H' → Q .non H')
/-- between the tests -/
inductive RsSt (a : Addr) (tx la : V) (w : Str) (more : List Str) (H : Hp) (σ : L2.St) (H' : Hp) : Prop
  | mk (p : Addr) (eσ : σ = [some tx, some la, some (.ref a), some (.str w), some (.ref p), none]) (sm : Same H H') (hp : H' p = some (.lst (more.map V.str)))
theorem inV_strsX (z : Str) (ms : List Str) : inV (.str z) (ms.map V.str) = decide (z ∈ ms) := by
  unfold inV
  rw [Bool.eq_iff_iff, decide_eq_true_eq, List.any_eq_true]
  constructor
  · rintro ⟨x, hx, e⟩
    obtain ⟨y, hy, rfl⟩ := List.mem_map.mp hx
    have : y = z := by simpa [eqV] using e
    exact this ▸ hy
  · intro h
    exact ⟨.str z, List.mem_map.mpr ⟨z, h, rfl⟩, by simp [eqV]⟩
theorem in_four (w : Str) : inV (.str w) [.str "join", .str "drop", .str "look", .str "anew"] = decide (w ∈ fourW) := inV_strsX w fourW
theorem ok_row_of_wordsX {f : Addr} {fd : FuncData} {dvs : List V} {kws : List (Str × V)} (T : Tx K mg)
    (F : FunD K "row_of_words" "row_of_words" (defArgs s_row_of_words) (defBody s_row_of_words) (defScope s_row_of_words) dvs kws f fd) :
    FnOk P w K mg base CX0 3 f fd ["text", "label", "words"] (spRowOfX K) := by
  have c_Row_3 : CalC P w K mg base CX0 1 "Row" (cR K) [.non, .non, rowGo K] (spRowX K) := c_Row_3 T
  have c_Row_3_gate : CalN P w K mg base CX0 1 "Row" (cR K) 3 ["gate"] (fun vs zs => gWM vs [.non, rowGo K] zs) (spRowX K) := c_Row_3_gate T
  have c_Row_3_gate_value : CalN P w K mg base CX0 1 "Row" (cR K) 3 ["gate", "value"] (fun vs zs => gWM vs [rowGo K] zs) (spRowX K) := c_Row_3_gate_value T
  have c_Row_3_gate_goals : CalN P w K mg base CX0 1 "Row" (cR K) 3 ["gate", "goals"] (fun vs zs => gWMW vs [.non] zs) (spRowX K) := c_Row_3_gate_goals T
  have c_Row_3_gate_value_goals : CalN P w K mg base CX0 1 "Row" (cR K) 3 ["gate", "value", "goals"] (fun vs zs => gWM vs [] zs) (spRowX K) := c_Row_3_gate_value_goals T
  have c_Row_3_goals : CalN P w K mg base CX0 1 "Row" (cR K) 3 ["goals"] (fun vs zs => gMW vs [.non, .non] zs) (spRowX K) := c_Row_3_goals T
  have c_digit_of : CalO P w K mg base CX0 1 "digit_of" [] spDigitX := c_digitX T
  refine F.ok sc_row_of_words (fun vs H Q E h => ?_) (fun cdv A outer s H vs Q E hr h => ?_)
  · obtain ⟨a, tx, la, w, more, rfl, _⟩ := h
    rfl
  · obtain ⟨a, tx, la, w, more, rfl, ha, hl, zl, q, qn⟩ := h
    have hu := hr.units
    refine ⟨_, PSs.nox (pss_cons (ps_asg (pv 2) (pg_star (k := 1) rfl (pgs_cons (pg_name (i := 3) sc_row_of_words.nd rfl (Or.inl rfl)) (pgs_star (pg_name (i := 4) sc_row_of_words.nd rfl (Or.inl rfl)) pgs_nil))))
    (pss_cons (ps_if (PW.pt (pw_and (pt_cmpR op_in_seq (pv 3) (pe_tup (pa_cons pe_str (pa_cons pe_str (pa_cons pe_str (pa_cons pe_str pa_nil))))) rfl) (pw_and1 (pt_cmpR op_eq (pe_callB call_len_seq rfl T.f_len (by decide +kernel) (pa_cons (pv 4) pa_nil)) pe_int (nomark _))))) (pss_one (ps_ret (pe_mkn c_Row_3_gate (hr.mono (by decide)) pass0 (pa_cons (pv 0) (pa_cons (pv 1) (pa_cons (pv 3) pa_nil))) (pk_cons (pe_ix ix_list (pv 4) pe_int (fun _ _ => rfl)) pk_nil)))) pss_nil)
    (pss_cons (ps_if (PW.pt (pw_and (pt_cmpR op_eq (pv 3) pe_str (nomark _)) (pw_and1 (pt_cmpR op_eq (pe_callB call_len_seq rfl T.f_len (by decide +kernel) (pa_cons (pv 4) pa_nil)) pe_int (nomark _))))) (pss_one (ps_ret (pe_mkn c_Row_3_gate_value (hr.mono (by decide)) pass0 (pa_cons (pv 0) (pa_cons (pv 1) (pa_cons (pv 3) pa_nil))) (pk_cons (pe_ix ix_list (pv 4) pe_int (fun _ _ => rfl)) (pk_cons (pe_calO c_digit_of (hr.mono (by decide)) pass0 (pa_cons (pe_ix ix_list (pv 4) pe_int (fun _ _ => rfl)) pa_nil)) pk_nil))))) pss_nil)
    (pss_cons (ps_if (PW.pt (pw_and (pt_cmpR op_eq (pv 3) pe_str (nomark _)) (pw_and (pt_cmpR op_eq (pe_callB call_len_seq rfl T.f_len (by decide +kernel) (pa_cons (pv 4) pa_nil)) pe_int (nomark _)) (pw_and1 (pt_cmpR op_eq (pe_ix ix_list (pv 4) pe_int (fun _ _ => rfl)) pe_str (nomark _)))))) (pss_one (ps_ret (pe_mkn c_Row_3_gate_goals (hr.mono (by decide)) pass0 (pa_cons (pv 0) (pa_cons (pv 1) (pa_cons (pv 3) pa_nil))) (pk_cons (pe_ix ix_list (pv 4) pe_int (fun _ _ => rfl)) (pk_cons (pe_tup (pa_cons (pe_calO c_digit_of (hr.mono (by decide)) pass0 (pa_cons (pe_ix ix_list (pv 4) pe_int (fun _ _ => rfl)) pa_nil)) pa_nil)) pk_nil))))) pss_nil)
    (pss_cons (ps_if (PW.pt (pw_and (pt_cmpR op_eq (pv 3) pe_str (nomark _)) (pw_and1 (pt_cmpR op_eq (pe_callB call_len_seq rfl T.f_len (by decide +kernel) (pa_cons (pv 4) pa_nil)) pe_int (nomark _))))) (pss_one (ps_ret (pe_mkn c_Row_3_gate_value_goals (hr.mono (by decide)) pass0 (pa_cons (pv 0) (pa_cons (pv 1) (pa_cons (pv 3) pa_nil))) (pk_cons (pe_ix ix_list (pv 4) pe_int (fun _ _ => rfl)) (pk_cons (pe_calO c_digit_of (hr.mono (by decide)) pass0 (pa_cons (pe_ix ix_list (pv 4) pe_int (fun _ _ => rfl)) pa_nil)) (pk_cons (pe_tup (pa_cons (pe_calO c_digit_of (hr.mono (by decide)) pass0 (pa_cons (pe_ix ix_list (pv 4) pe_int (fun _ _ => rfl)) pa_nil)) pa_nil)) pk_nil)))))) pss_nil)
    (pss_cons (ps_if (PW.pt (pw_and (pt_cmpR op_eq (pv 3) pe_str (nomark _)) (pw_and1 (pt_chain op_le op_le pe_int (pe_callB call_len_seq rfl T.f_len (by decide +kernel) (pa_cons (pv 4) pa_nil)) (pe_gl T.g_MOST_GOALS))))) (pss_one (ps_ret (pe_mkn c_Row_3_goals (hr.mono (by decide)) pass0 (pa_cons (pv 0) (pa_cons (pv 1) (pa_cons (pv 3) pa_nil))) (pk_cons (pe_callTy call_tuple_of rfl T.f_tuple (by decide +kernel) (pa_cons (pe_lc (own := [("goal", 5)]) (g := gName 5) (tt := tYes) rfl sc_row_of_words.nd (pi_list (pv 4)) (blkOk_by (own := [("goal", 5)]) (N := n_row_of_words) (sc := defScope s_row_of_words) (by decide +kernel)) (fun _ _ _ _ _ => (pg_name (i := 5) sc_row_of_words.nd rfl (Or.inl rfl))) (fun _ _ _ _ _ => pts_nil) (fun _ _ _ _ _ => (pe_calO c_digit_of (hr.mono (by decide)) pass0 (pa_cons (pv 5) pa_nil)))) pa_nil)) pk_nil)))) pss_nil)
    (pss_one (ps_ret (pe_ifExp (pt_cmpR (op_eqD hu) (pv 2) (pe_lst (pa_cons pe_str pa_nil)) (nomark _)) (pe_mkc c_Row_3 (hr.mono (by decide)) pass0 (pa_cons (pv 0) (pa_cons (pv 1) (pa_cons (pv 3) pa_nil)))) pe_non))))))))), ?_⟩
    have kt := T.kt_Row___init___goals
    clear c_Row_3 c_Row_3_gate c_Row_3_gate_value c_Row_3_gate_goals c_Row_3_gate_value_goals c_Row_3_goals c_digit_of
    refine mid1 (fun σ' H' => RsSt a tx la w more H σ' H') ?_ (fun u rest => ?_)
    rotate_left
    · walk_at "rd"
      intro D nD
      walk_at "rd"
      exact rest _ _ ⟨D, rfl, by walk_at "g but", upd_same⟩
    rintro σ1 H1 ⟨p1, rfl, s1, hp1⟩
    have ml : (more.map V.str).length = more.length := List.length_map ..
    refine mid1 (fun σ' H' => RsSt a tx la w more H σ' H' ∧ ¬ (w ∈ fourW ∧ more.length = 1)) ?_ (fun u rest => ?_)
    rotate_left
    · walk_at "rd"
      intro p2 np2
      walk_at "rd"
      refine iteB (fun h1 => ?_) (fun h1 => ?_)
      · rw [in_four] at h1
        walk_at "rd"
        refine iteB (fun h2 => ?_) (fun h2 => ?_)
        · have l1 : more.length = 1 := by
            have := V.int.inj (of_decide_eq_true h2)
            omega
          obtain ⟨g, rfl⟩ := List.length_eq_one_iff.mp l1
          have raw : rawOf w [g] = some ⟨w, some g, none, []⟩ := by
            unfold rawOf
            rw [if_pos ⟨of_decide_eq_true h1, l1⟩]
            rfl
          walk_at "rd"
          intro x dx nx nd ne
          refine ⟨x, dx, _, tx, la, _, _, _, [], rfl, upd_same, .inr ⟨rfl, kt⟩, fun H' b e => ⟨rfl, q _ raw H' x (L2.Same.trans ?_ (made_same nx nd b)) ⟨dx, _, e, .inr ⟨rfl, kt⟩⟩⟩⟩
          walk_at "g but"
        · walk_at "rd"
          exact rest _ _ ⟨⟨p1, rfl, by walk_at "g but", by walk_at "g hp"⟩, fun h => (of_decide_eq_false h2) (by rw [ml, h.2]; rfl)⟩
      · rw [in_four] at h1
        walk_at "rd"
        exact rest _ _ ⟨⟨p1, rfl, by walk_at "g but", by walk_at "g hp"⟩, fun h => (of_decide_eq_false h1) h.1⟩
    rintro σ2 H2 ⟨⟨p1, rfl, s1, hp1⟩, c1⟩
    refine mid1 (fun σ' H' => RsSt a tx la w more H σ' H' ∧ ¬ (w = "arrive" ∧ more.length = 2)) ?_ (fun u rest => ?_)
    rotate_left
    · walk_at "rd"
      refine iteB (fun h1 => ?_) (fun h1 => ?_)
      · have e1 := V.str.inj (of_decide_eq_true h1)
        walk_at "rd"
        refine iteB (fun h2 => ?_) (fun h2 => ?_)
        · have l1 : more.length = 2 := by
            have := V.int.inj (of_decide_eq_true h2)
            omega
          obtain ⟨g, z, rfl⟩ := len_two l1
          have raw : rawOf w [g, z] = some ⟨w, some g, digO z, []⟩ := by
            unfold rawOf
            rw [if_neg c1, if_pos ⟨e1, l1⟩]
            rfl
          have z1 := (zl z (by simp)).1
          walk_at "rd"
          intro x dx nx nd ne
          refine ⟨x, dx, _, tx, la, _, _, _, [], rfl, upd_same, .inr ⟨rfl, kt⟩, fun H' b e => ⟨rfl, q _ raw H' x (L2.Same.trans ?_ (made_same nx nd b)) ⟨dx, _, e, .inr ⟨rfl, kt⟩⟩⟩⟩
          walk_at "g but"
        · walk_at "rd"
          exact rest _ _ ⟨⟨p1, rfl, by walk_at "g but", by walk_at "g hp"⟩, fun h => (of_decide_eq_false h2) (by rw [ml, h.2]; rfl)⟩
      · walk_at "rd"
        exact rest _ _ ⟨⟨p1, rfl, by walk_at "g but", by walk_at "g hp"⟩, fun h => (of_decide_eq_false h1) (by rw [h.1])⟩
    rintro σ3 H3 ⟨⟨p1, rfl, s1, hp1⟩, c2⟩
    refine mid1 (fun σ' H' => RsSt a tx la w more H σ' H' ∧ ¬ (w = "wait" ∧ more.length = 3 ∧ more[1]? = some ("else" : Str))) ?_ (fun u rest => ?_)
    rotate_left
    · walk_at "rd"
      refine iteB (fun h1 => ?_) (fun h1 => ?_)
      · have e1 := V.str.inj (of_decide_eq_true h1)
        walk_at "rd"
        refine iteB (fun h2 => ?_) (fun h2 => ?_)
        · have l1 : more.length = 3 := by
            have := V.int.inj (of_decide_eq_true h2)
            omega
          obtain ⟨g, y, z, rfl⟩ := len_three l1
          have z1 := (zl z (by simp)).1
          walk_at "rd"
          refine iteB (fun h3 => ?_) (fun h3 => ?_)
          · have e3 := V.str.inj (of_decide_eq_true h3)
            have raw : rawOf w [g, y, z] = some ⟨w, some g, none, [digO z]⟩ := by
              unfold rawOf
              rw [if_neg c1, if_neg c2, if_pos ⟨e1, l1, by rw [← e3]; rfl⟩]
              rfl
            walk_at "rd"
            intro t nt
            walk_at "rd"
            intro x dx nx nd ne
            have go : ∀ o, GoX K (upd (upd (upd _ t (.tup ([digO z].map optV))) dx (.own x)) x o) t ([digO z].map optV) := fun o => .inl (upd_get ((upd_ne ne.symm).trans nx) (upd_get nd upd_same))
            refine ⟨x, dx, _, tx, la, _, _, _, _, rfl, upd_same, go _, fun H' b e => ⟨rfl, q _ raw H' x (L2.Same.trans ?_ (made_same nx nd b)) ⟨dx, _, e, (go _).but upd_same b⟩⟩⟩
            walk_at "g but"
          · walk_at "rd"
            exact rest _ _ ⟨⟨p1, rfl, by walk_at "g but", by walk_at "g hp"⟩, fun h => (of_decide_eq_false h3) (by have := Option.some.inj h.2.2; rw [this])⟩
        · walk_at "rd"
          exact rest _ _ ⟨⟨p1, rfl, by walk_at "g but", by walk_at "g hp"⟩, fun h => (of_decide_eq_false h2) (by rw [ml, h.2.1]; rfl)⟩
      · walk_at "rd"
        exact rest _ _ ⟨⟨p1, rfl, by walk_at "g but", by walk_at "g hp"⟩, fun h => (of_decide_eq_false h1) (by rw [h.1])⟩
    rintro σ4 H4 ⟨⟨p1, rfl, s1, hp1⟩, c3⟩
    refine mid1 (fun σ' H' => RsSt a tx la w more H σ' H' ∧ ¬ (w = "over" ∧ more.length = 3)) ?_ (fun u rest => ?_)
    rotate_left
    · walk_at "rd"
      refine iteB (fun h1 => ?_) (fun h1 => ?_)
      · have e1 := V.str.inj (of_decide_eq_true h1)
        walk_at "rd"
        refine iteB (fun h2 => ?_) (fun h2 => ?_)
        · have l1 : more.length = 3 := by
            have := V.int.inj (of_decide_eq_true h2)
            omega
          obtain ⟨g, y, z, rfl⟩ := len_three l1
          have z1 := (zl z (by simp)).1
          have z2 := (zl y (by simp)).1
          have raw : rawOf w [g, y, z] = some ⟨w, some g, digO y, [digO z]⟩ := by
            unfold rawOf
            rw [if_neg c1, if_neg c2, if_neg c3, if_pos ⟨e1, l1⟩]
            rfl
          walk_at "rd"
          intro t nt
          walk_at "rd"
          intro x dx nx nd ne
          have go : ∀ o, GoX K (upd (upd (upd _ t (.tup ([digO z].map optV))) dx (.own x)) x o) t ([digO z].map optV) := fun o => .inl (upd_get ((upd_ne ne.symm).trans nx) (upd_get nd upd_same))
          refine ⟨x, dx, _, tx, la, _, _, _, _, rfl, upd_same, go _, fun H' b e => ⟨rfl, q _ raw H' x (L2.Same.trans ?_ (made_same nx nd b)) ⟨dx, _, e, (go _).but upd_same b⟩⟩⟩
          walk_at "g but"
        · walk_at "rd"
          exact rest _ _ ⟨⟨p1, rfl, by walk_at "g but", by walk_at "g hp"⟩, fun h => (of_decide_eq_false h2) (by rw [ml, h.2]; rfl)⟩
      · walk_at "rd"
        exact rest _ _ ⟨⟨p1, rfl, by walk_at "g but", by walk_at "g hp"⟩, fun h => (of_decide_eq_false h1) (by rw [h.1])⟩
    rintro σ5 H5 ⟨⟨p1, rfl, s1, hp1⟩, c4⟩
    refine mid1 (fun σ' H' => RsSt a tx la w more H σ' H' ∧ ¬ (w = "go" ∧ 1 ≤ more.length ∧ more.length ≤ 4)) ?_ (fun u rest => ?_)
    rotate_left
    · walk_at "rd"
      refine iteB (fun h1 => ?_) (fun h1 => ?_)
      · have e1 := V.str.inj (of_decide_eq_true h1)
        walk_at "rd"
        refine iteB (fun h2 => ?_) (fun h2 => ?_)
        · have l1 : 1 ≤ more.length := by
            have := of_decide_eq_true h2
            omega
          walk_at "rd"
          refine iteB (fun h3 => ?_) (fun h3 => ?_)
          · have l4 : more.length ≤ 4 := by
              have := of_decide_eq_true h3
              omega
            have raw : rawOf w more = some ⟨w, none, none, more.map digO⟩ := by
              unfold rawOf
              rw [if_neg c1, if_neg c2, if_neg c3, if_neg c4, if_pos ⟨e1, l1, l4⟩]
            walk_at "rd"
            refine ⟨⟨more.map V.str, SqL.of (by walk_at "g hp")⟩, ?_⟩
            intro D2 nD2
            refine lcP (wk_list (more.map V.str)) fDigX (fun acc => SqL.of (upd_get nD2 (by walk_at "g hp"))) (by rw [ml]; show more.length < 16777216; omega) ?_ ?_
            · intro i y acc Q' hx hq
              obtain ⟨z, hz, rfl⟩ := List.mem_map.mp (List.mem_of_getElem? hx)
              have z1 := (zl z (List.mem_cons_of_mem _ hz)).1
              walk_at "rd"
              exact hq
            · rw [fDigX_map]
              refine ⟨D2, (more.map digO).map optV, rfl, .inl ⟨SqL.of upd_same, fun t nt => ?_⟩⟩
              walk_at "rd"
              intro x dx nx nd ne
              have go : ∀ o, GoX K (upd (upd (upd _ t (.tup ((more.map digO).map optV))) dx (.own x)) x o) t ((more.map digO).map optV) := fun o => .inl (upd_get ((upd_ne ne.symm).trans nx) (upd_get nd upd_same))
              refine ⟨x, dx, _, tx, la, _, _, _, _, rfl, upd_same, go _, fun H' b e => ⟨rfl, q _ raw H' x (L2.Same.trans ?_ (made_same nx nd b)) ⟨dx, _, e, (go _).but upd_same b⟩⟩⟩
              walk_at "g but"
          · walk_at "rd"
            exact rest _ _ ⟨⟨p1, rfl, by walk_at "g but", by walk_at "g hp"⟩, fun h => (of_decide_eq_false h3) (by rw [ml]; have := h.2.2; omega)⟩
        · walk_at "rd"
          exact rest _ _ ⟨⟨p1, rfl, by walk_at "g but", by walk_at "g hp"⟩, fun h => (of_decide_eq_false h2) (by rw [ml]; have := h.2.1; omega)⟩
      · walk_at "rd"
        exact rest _ _ ⟨⟨p1, rfl, by walk_at "g but", by walk_at "g hp"⟩, fun h => (of_decide_eq_false h1) (by rw [h.1])⟩
    rintro σ6 H6 ⟨⟨p1, rfl, s1, hp1⟩, c5⟩
    have ha6 := s1 _ _ ha
    walk_at "rd"
    intro p7 np7
    walk_at "rd"
    refine ⟨.list ((w :: more).map PyData.str), .list ((["end"] : List Str).map PyData.str), lstrs_dp (SqL.of (by walk_at "g hp")), lstrs_dp (SqL.of upd_same), lstrs_shaped fun z hz => (zl z hz).2, by decide +kernel, ?_⟩
    rw [lstrs_eqv]
    refine ⟨_, rfl, iteB (fun h1 => ?_) (fun h1 => ?_)⟩
    · obtain ⟨e1, e2⟩ := List.cons.inj (of_decide_eq_true h1)
      have raw : rawOf w more = some ⟨w, none, none, []⟩ := by
        unfold rawOf
        rw [if_neg c1, if_neg c2, if_neg c3, if_neg c4, if_neg c5, if_pos ⟨e1, e2⟩]
      walk_at "rd"
      intro x dx nx nd ne
      refine ⟨x, dx, _, tx, la, _, _, _, [], rfl, upd_same, .inr ⟨rfl, kt⟩, fun H' b e => ⟨rfl, q _ raw H' x (L2.Same.trans ?_ (made_same nx nd b)) ⟨dx, _, e, .inr ⟨rfl, kt⟩⟩⟩⟩
      walk_at "g but"
    · have raw : rawOf w more = none := by
        unfold rawOf
        rw [if_neg c1, if_neg c2, if_neg c3, if_neg c4, if_neg c5, if_neg fun h => (of_decide_eq_false h1) (by rw [h.1, h.2])]
      walk_at "rd"
      exact qn raw _ (by walk_at "g but")
theorem c_row_of_wordsX (T : Tx K mg) : CalO P w K mg base CX0 3 "row_of_words" [] (spRowOfX K) := by
  obtain ⟨fd, F⟩ := T.d_row_of_words
  exact .mk F (ok_row_of_wordsX T F) T.n_row_of_words fun _ _ _ _ _ _ us hl => match us, hl with | [_, _, _], _ => rfl
end
end G
namespace G
open PySem PySem.Spec PyProof.Rows L2
theorem rng_at {lo : Int} {n i : Nat} {x : V} (h : (rngV lo n)[i]? = some x) : x = .int (lo + (i : Int)) ∧ i < n := by
  have lt := (List.getElem?_eq_some_iff.mp h).1
  rw [rngV_len] at lt
  refine ⟨?_, lt⟩
  unfold rngV at h
  rw [List.getElem?_map, List.getElem?_range lt] at h
  exact (Option.some.inj h).symm
theorem mid2 {t1 t2 t3 : TS} {D : Ends} {σ : L2.St} {H : Hp} (M : L2.St → Hp → Prop) (h2 : ∀ σ' H', M σ' H' → t3 D σ' H')
    (h1 : ∀ u : TS, (∀ σ' H', M σ' H' → u D σ' H') → tSeq t1 (tSeq t2 u) D σ H) : tSeq t1 (tSeq t2 t3) D σ H := h1 t3 h2
theorem mid3 {t1 t2 t3 t4 : TS} {D : Ends} {σ : L2.St} {H : Hp} (M : L2.St → Hp → Prop) (h2 : ∀ σ' H', M σ' H' → t4 D σ' H')
    (h1 : ∀ u : TS, (∀ σ' H', M σ' H' → u D σ' H') → tSeq t1 (tSeq t2 (tSeq t3 u)) D σ H) : tSeq t1 (tSeq t2 (tSeq t3 t4)) D σ H := h1 t4 h2
theorem mid6 {t1 t2 t3 t4 t5 t6 t7 : TS} {D : Ends} {σ : L2.St} {H : Hp} (M : L2.St → Hp → Prop) (h2 : ∀ σ' H', M σ' H' → t7 D σ' H')
    (h1 : ∀ u : TS, (∀ σ' H', M σ' H' → u D σ' H') → tSeq t1 (tSeq t2 (tSeq t3 (tSeq t4 (tSeq t5 (tSeq t6 u))))) D σ H) :
    tSeq t1 (tSeq t2 (tSeq t3 (tSeq t4 (tSeq t5 (tSeq t6 t7))))) D σ H := h1 t7 h2
/-! ### which texts are rows -/
def RW.raw : RW → RawR
  | .one w g => ⟨w, some g, none, []⟩
  | .arr g d => ⟨"arrive", some g, some d, []⟩
  | .wai g k => ⟨"wait", some g, none, [some k]⟩
  | .ovr g d k => ⟨"over", some g, some d, [some k]⟩
  | .go ks => ⟨"go", none, none, ks.map some⟩
  | .fin => ⟨"end", none, none, []⟩
/-- the parts of a row are right -/
structure RightP (l : Option Str) (R : RawR) : Prop where
  lab : ∀ z, l = some z → Nm z
  gat : ∀ z, R.ga = some z → Nm z
  val : R.wo = "arrive" ∨ R.wo = "over" → ∃ v, R.va = some v ∧ v ≤ 3
  gol : ∃ ks : List Nat, R.gs = ks.map some ∧ ks.Pairwise (· < ·)
theorem nm_iff {z : Str} : isNameS z = true ↔ Nm z := by
  constructor
  · intro h
    refine ⟨h, ?_⟩
    rw [isNameS_eq] at h
    simp only [Bool.and_eq_true, decide_eq_true_eq] at h
    exact h.1.1.2
  · exact fun h => h.1
theorem digs_of : ∀ {ws : List Str} {ks : List Nat}, ws.map digO = ks.map some → ws = ks.map digS ∧ ∀ k ∈ ks, k < 10
  | [], [], _ => ⟨rfl, fun _ h => nomatch h⟩
  | [], _ :: _, h => by cases h
  | _ :: _, [], h => by cases h
  | w :: ws, k :: ks, h => by
    obtain ⟨h1, h2⟩ := List.cons.inj h
    obtain ⟨e1, l1⟩ := digO_some h1
    obtain ⟨e2, l2⟩ := digs_of h2
    refine ⟨by rw [e1, e2]; rfl, fun x hx => ?_⟩
    rcases List.mem_cons.mp hx with rfl | hx
    · exact l1
    · exact l2 x hx
/-- right parts make a row of the grammar, whose words these are -/
theorem right_row {l : Option Str} {w : Str} {more : List Str} {R : RawR} (e : rawOf w more = some R) (h : RightP l R) : ∃ W : RW, W.Ok ∧ W.words = w :: more ∧ W.raw = R := by
  unfold rawOf at e
  split at e
  · rename_i c
    obtain ⟨c1, c2⟩ := c
    obtain ⟨g, rfl⟩ := List.length_eq_one_iff.mp c2
    have eR : (⟨w, some g, none, []⟩ : RawR) = R := Option.some.inj e
    subst eR
    exact ⟨.one w g, ⟨c1, h.gat g rfl⟩, rfl, rfl⟩
  split at e
  · rename_i c
    obtain ⟨rfl, c2⟩ := c
    obtain ⟨g, z, rfl⟩ := len_two c2
    have eR : (⟨"arrive", some g, digO z, []⟩ : RawR) = R := Option.some.inj e
    subst eR
    obtain ⟨v, hv, v3⟩ := h.val (.inl rfl)
    have hv' : digO z = some v := hv
    obtain ⟨rfl, _⟩ := digO_some hv'
    exact ⟨.arr g v, ⟨h.gat g rfl, by omega⟩, rfl, by rw [hv']; rfl⟩
  split at e
  · rename_i c
    obtain ⟨rfl, c2, c3⟩ := c
    obtain ⟨g, y, z, rfl⟩ := len_three c2
    have eR : (⟨"wait", some g, none, [digO z]⟩ : RawR) = R := Option.some.inj e
    subst eR
    obtain ⟨ks, hk, _⟩ := h.gol
    have hk' : [z].map digO = ks.map some := hk
    obtain ⟨h1, h2⟩ := digs_of hk'
    match ks, h1, h2, hk' with
    | [k], h1, h2, hk' =>
      obtain rfl : z = digS k := (List.cons.inj h1).1
      obtain rfl : y = "else" := Option.some.inj c3
      exact ⟨.wai g k, ⟨h.gat g rfl, h2 k (List.mem_singleton.mpr rfl)⟩, rfl, by rw [digO_dig (h2 k (List.mem_singleton.mpr rfl))]; rfl⟩
  split at e
  · rename_i c
    obtain ⟨rfl, c2⟩ := c
    obtain ⟨g, y, z, rfl⟩ := len_three c2
    have eR : (⟨"over", some g, digO y, [digO z]⟩ : RawR) = R := Option.some.inj e
    subst eR
    obtain ⟨v, hv, v3⟩ := h.val (.inr rfl)
    have hv' : digO y = some v := hv
    obtain ⟨rfl, _⟩ := digO_some hv'
    obtain ⟨ks, hk, _⟩ := h.gol
    have hk' : [z].map digO = ks.map some := hk
    obtain ⟨h1, h2⟩ := digs_of hk'
    match ks, h1, h2, hk' with
    | [k], h1, h2, hk' =>
      obtain rfl : z = digS k := (List.cons.inj h1).1
      exact ⟨.ovr g v k, ⟨h.gat g rfl, by omega, h2 k (List.mem_singleton.mpr rfl)⟩, rfl, by rw [hv', digO_dig (h2 k (List.mem_singleton.mpr rfl))]; rfl⟩
  split at e
  · rename_i c
    obtain ⟨rfl, c1, c2⟩ := c
    have eR : (⟨"go", none, none, more.map digO⟩ : RawR) = R := Option.some.inj e
    subst eR
    obtain ⟨ks, hk, hp⟩ := h.gol
    obtain ⟨h1, h2⟩ := digs_of (show more.map digO = ks.map some from hk)
    subst h1
    rw [List.length_map] at c1 c2
    exact ⟨.go ks, ⟨fun e => by rw [e] at c1; simp at c1, c2, h2, hp⟩, rfl, by rw [show RW.raw (.go ks) = ⟨"go", none, none, ks.map some⟩ from rfl, ← hk]⟩
  split at e
  · rename_i c
    obtain ⟨rfl, rfl⟩ := c
    have eR : (⟨"end", none, none, []⟩ : RawR) = R := Option.some.inj e
    subst eR
    exact ⟨.fin, trivial, rfl, rfl⟩
  · cases e
/-- the words of a row of the grammar -/
theorem row_right {W : RW} (ok : W.Ok) : ∃ w more, W.words = w :: more ∧ rawOf w more = some W.raw ∧ ∀ l : Option Str, (∀ z, l = some z → Nm z) → RightP l W.raw := by
  have ne : ∀ {a b : Str}, decide (a = b) = false → a ≠ b := fun h => of_decide_eq_false h
  cases W with
  | one w g =>
    obtain ⟨hw, hg⟩ := ok
    refine ⟨w, [g], rfl, ?_, fun l hl => ⟨hl, fun z e => Option.some.inj e ▸ hg, fun h => ?_, ⟨[], rfl, .nil⟩⟩⟩
    · unfold rawOf
      rw [if_pos ⟨hw, rfl⟩]
      rfl
    · exfalso
      have h' : w = "arrive" ∨ w = "over" := h
      simp only [fourW, List.mem_cons, List.not_mem_nil, or_false] at hw
      rcases h' with rfl | rfl <;> rcases hw with h | h | h | h <;> exact absurd h (by decide +kernel)
  | arr g d =>
    refine ⟨"arrive", [g, digS d], rfl, ?_, fun l hl => ⟨hl, fun z e => Option.some.inj e ▸ ok.1, fun _ => ⟨d, rfl, by have := ok.2; omega⟩, ⟨[], rfl, .nil⟩⟩⟩
    unfold rawOf
    rw [if_neg (fun h => absurd h.2 (by decide : ¬ 2 = 1)), if_pos ⟨rfl, rfl⟩]
    show some (⟨"arrive", some g, digO (digS d), []⟩ : RawR) = _
    rw [digO_dig (by have := ok.2; omega)]
    rfl
  | wai g k =>
    refine ⟨"wait", [g, "else", digS k], rfl, ?_, fun l hl => ⟨hl, fun z e => Option.some.inj e ▸ ok.1, fun h => ?_, ⟨[k], rfl, List.pairwise_singleton ..⟩⟩⟩
    · unfold rawOf
      rw [if_neg (fun h => absurd h.2 (by decide : ¬ 3 = 1)), if_neg (fun h => absurd h.2 (by decide : ¬ 3 = 2)), if_pos ⟨rfl, rfl, rfl⟩]
      show some (⟨"wait", some g, none, [digO (digS k)]⟩ : RawR) = _
      rw [digO_dig ok.2]
      rfl
    · exfalso
      have h' : ("wait" : Str) = "arrive" ∨ ("wait" : Str) = "over" := h
      exact absurd h' (by decide +kernel)
  | ovr g d k =>
    refine ⟨"over", [g, digS d, digS k], rfl, ?_, fun l hl => ⟨hl, fun z e => Option.some.inj e ▸ ok.1, fun _ => ⟨d, rfl, by have := ok.2.1; omega⟩, ⟨[k], rfl, List.pairwise_singleton ..⟩⟩⟩
    unfold rawOf
    rw [if_neg (fun h => absurd h.2 (by decide : ¬ 3 = 1)), if_neg (fun h => absurd h.2 (by decide : ¬ 3 = 2)), if_neg (fun h => absurd h.1 (by decide +kernel)), if_pos ⟨rfl, rfl⟩]
    show some (⟨"over", some g, digO (digS d), [digO (digS k)]⟩ : RawR) = _
    rw [digO_dig (by have := ok.2.1; omega), digO_dig ok.2.2]
    rfl
  | go ks =>
    obtain ⟨k0, k4, kd, kp⟩ := ok
    have k1 := List.length_pos_iff.mpr k0
    refine ⟨"go", ks.map digS, rfl, ?_, fun l hl => ⟨hl, fun z e => (nomatch e), fun h => ?_, ⟨ks, rfl, kp⟩⟩⟩
    · unfold rawOf
      rw [if_neg (fun h => absurd h.1 (by decide +kernel)), if_neg (fun h => absurd h.1 (by decide +kernel)), if_neg (fun h => absurd h.1 (by decide +kernel)), if_neg (fun h => absurd h.1 (by decide +kernel)),
        if_pos ⟨rfl, by rw [List.length_map]; omega, by rw [List.length_map]; exact k4⟩, List.map_map]
      have e : ks.map (digO ∘ digS) = ks.map some := List.map_congr_left fun k hk => digO_dig (kd k hk)
      rw [e]
      rfl
    · exfalso
      have h' : ("go" : Str) = "arrive" ∨ ("go" : Str) = "over" := h
      exact absurd h' (by decide +kernel)
  | fin =>
    refine ⟨"end", [], rfl, ?_, fun l hl => ⟨hl, fun z e => (nomatch e), fun h => ?_, ⟨[], rfl, .nil⟩⟩⟩
    · unfold rawOf
      rw [if_neg (fun h => absurd h.1 (by decide +kernel)), if_neg (fun h => absurd h.1 (by decide +kernel)), if_neg (fun h => absurd h.1 (by decide +kernel)), if_neg (fun h => absurd h.1 (by decide +kernel)), if_neg (fun h => absurd h.1 (by decide +kernel)), if_pos ⟨rfl, rfl⟩]
      rfl
    · exfalso
      have h' : ("end" : Str) = "arrive" ∨ ("end" : Str) = "over" := h
      exact absurd h' (by decide +kernel)
/-- a row by the grammar, and its label -/
structure QOk (q : Option Str × RW) : Prop where
  ok : q.2.Ok
  lab : ∀ z, q.1 = some z → Nm z
/-- what partition and split tell of any text -/
theorem row_of_parts {z l s r w : Str} {more : List Str} {R : RawR} (hp : Txt.partition z (Str.ofString ": ") = (l, s, r)) :
    (s = "" → (Txt.split z (Str.ofString " ") = w :: more → rawOf w more = some R → RightP none R → ∃ W, QOk (none, W) ∧ z = rowText none W ∧ W.raw = R)) ∧
    (s ≠ "" → (Txt.split r (Str.ofString " ") = w :: more → rawOf w more = some R → RightP (some l) R → ∃ W, QOk (some l, W) ∧ z = rowText (some l) W ∧ W.raw = R)) := by
  constructor
  · intro _ hs hr hR
    obtain ⟨W, ok, ew, er⟩ := right_row hr hR
    refine ⟨W, ⟨ok, hR.lab⟩, ?_, er⟩
    have := StrLaws.join_split z (Str.ofString " ")
    rw [hs, ← ew] at this
    rw [← this]
    show _ = Txt.join " " W.words
    rw [TL.join_eq]
  · intro s0 hs hr hR
    obtain ⟨W, ok, ew, er⟩ := right_row hr hR
    refine ⟨W, ⟨ok, hR.lab⟩, ?_, er⟩
    have j := StrLaws.join_split r (Str.ofString " ")
    rw [hs, ← ew] at j
    have p := StrLaws.partition_sum z (Str.ofString ": ")
    have es : s = Str.ofString ": " := by
      unfold Txt.partition at hp
      split at hp
      · exact (Prod.mk.inj (Prod.mk.inj hp).2).1.symm
      · exact absurd (Prod.mk.inj (Prod.mk.inj hp).2).1.symm s0
    rw [hp, es] at p
    rw [← p]
    show l ++ Str.ofString ": " ++ r = l ++ ": " ++ Txt.join " " W.words
    rw [TL.join_eq, ← j]
theorem asc_words {z : Str} (h : Asc z) (y : Str) : ∀ p ∈ Txt.split z y, Asc p := by
  have j := StrLaws.join_split z y
  intro p hp c hc
  refine h c ?_
  rw [← j]
  generalize Txt.split z y = ws at hp
  clear j h
  induction ws with
  | nil => cases hp
  | cons a r ih =>
    cases r with
    | nil =>
      rw [List.mem_singleton.mp hp] at hc
      exact hc
    | cons b r =>
      show c ∈ (a ++ y ++ Str.join y (b :: r)).cps.toList
      rw [cat_list, cat_list]
      rcases List.mem_cons.mp hp with rfl | hp
      · exact List.mem_append_left _ (List.mem_append_left _ hc)
      · exact List.mem_append_right _ (ih hp)
theorem none_inX (xs : List (Option Nat)) : inV .non (xs.map optV) = decide (none ∈ xs) := by
  unfold inV
  rw [Bool.eq_iff_iff, decide_eq_true_eq, List.any_eq_true]
  constructor
  · rintro ⟨x, hx, e⟩
    obtain ⟨y, hy, rfl⟩ := List.mem_map.mp hx
    cases y with
    | none => exact hy
    | some k => exact absurd e (by simp [eqV, optV])
  · intro h
    exact ⟨.non, List.mem_map.mpr ⟨none, h, rfl⟩, by simp [eqV]⟩
theorem flat_opt (xs : List (Option Nat)) : (xs.map optV).all flatV = true := by
  rw [List.all_eq_true]
  intro x hx
  obtain ⟨k, _, rfl⟩ := List.mem_map.mp hx
  cases k <;> rfl
theorem somes {xs : List (Option Nat)} (h : none ∉ xs) : ∃ ks : List Nat, xs = ks.map some := by
  induction xs with
  | nil => exact ⟨[], rfl⟩
  | cons x xs ih =>
    obtain ⟨ks, e⟩ := ih fun hm => h (List.mem_cons_of_mem _ hm)
    cases x with
    | none => exact absurd List.mem_cons_self h
    | some k => exact ⟨k :: ks, by rw [e]; rfl⟩
theorem opt_int (ks : List Nat) : (ks.map some).map optV = intV ks := by
  rw [List.map_map]
  rfl
theorem pw_step {ks : List Nat} (h : ∀ i, i + 1 < ks.length → ks.getD i 0 < ks.getD (i + 1) 0) : ks.Pairwise (· < ·) := by
  rw [List.pairwise_iff_getElem]
  intro i j hi hj hij
  have g : ∀ d, (hd : i + d + 1 < ks.length) → ks[i]'hi < ks[i + d + 1]'hd := by
    intro d
    induction d with
    | zero =>
      intro hd
      have := h i hd
      rw [List.getD_eq_getElem?_getD, List.getD_eq_getElem?_getD, List.getElem?_eq_getElem hi, List.getElem?_eq_getElem hd] at this
      exact this
    | succ d ih =>
      intro hd
      have h1 := ih (by omega)
      have := h (i + d + 1) hd
      rw [List.getD_eq_getElem?_getD, List.getD_eq_getElem?_getD, List.getElem?_eq_getElem (show i + d + 1 < ks.length by omega), List.getElem?_eq_getElem (show i + d + 1 + 1 < ks.length by omega)] at this
      exact Nat.lt_trans h1 this
  have := g (j - i - 1) (by omega)
  have e : i + (j - i - 1) + 1 = j := by omega
  simpa [e] using this
theorem pw_back {ks : List Nat} (h : ks.Pairwise (· < ·)) {i : Nat} (hi : i + 1 < ks.length) : ks.getD i 0 < ks.getD (i + 1) 0 := by
  have := List.pairwise_iff_getElem.mp h i (i + 1) (by omega) hi (by omega)
  rw [List.getD_eq_getElem?_getD, List.getD_eq_getElem?_getD, List.getElem?_eq_getElem (show i < ks.length by omega), List.getElem?_eq_getElem hi]
  exact this
/-- is the next one greater -/
def fUp (ks : List Nat) : V → V
  | .int i => .bl (decide (ks.getD i.toNat 0 < ks.getD (i.toNat + 1) 0))
  | _ => .non
section
variable {P : Program} {w : World} {K : PySem.W.Frag} {mg : Str → Option Value} {base : Heap} {CX : CXT}
theorem gate_ok {R : RW} (ok : R.Ok) : R.gateV = .non ∨ ∃ z, R.gateV = .str z ∧ Nm z := by
  cases R with
  | one w g => exact .inr ⟨g, rfl, ok.2⟩
  | arr g d => exact .inr ⟨g, rfl, ok.1⟩
  | wai g k => exact .inr ⟨g, rfl, ok.1⟩
  | ovr g d k => exact .inr ⟨g, rfl, ok.1⟩
  | go ks => exact .inl rfl
  | fin => exact .inl rfl
theorem val_ok {R : RW} (ok : R.Ok) : inV (.str R.wordS) [.str "arrive", .str "over"] = false ∨ ∃ d : Nat, R.valV = .int (d : Int) ∧ d < 4 := by
  cases R with
  | one w g =>
    have h := ok.1
    simp only [fourW, List.mem_cons, List.not_mem_nil, or_false] at h
    rcases h with rfl | rfl | rfl | rfl
    · exact .inl (show inV (.str "join") [.str "arrive", .str "over"] = false by decide +kernel)
    · exact .inl (show inV (.str "drop") [.str "arrive", .str "over"] = false by decide +kernel)
    · exact .inl (show inV (.str "look") [.str "arrive", .str "over"] = false by decide +kernel)
    · exact .inl (show inV (.str "anew") [.str "arrive", .str "over"] = false by decide +kernel)
  | arr g d => exact .inr ⟨d, rfl, ok.2⟩
  | wai g k => exact .inl (show inV (.str "wait") [.str "arrive", .str "over"] = false by decide +kernel)
  | ovr g d k => exact .inr ⟨d, rfl, ok.2.1⟩
  | go ks => exact .inl (show inV (.str "go") [.str "arrive", .str "over"] = false by decide +kernel)
  | fin => exact .inl (show inV (.str "end") [.str "arrive", .str "over"] = false by decide +kernel)
theorem goals_ok {R : RW} (ok : R.Ok) : R.goals.length ≤ 4 ∧ R.goals.Pairwise (· < ·) := by
  cases R with
  | go ks => exact ⟨ok.2.1, ok.2.2.2⟩
  | one w g => exact ⟨Nat.zero_le _, .nil⟩
  | arr g d => exact ⟨Nat.zero_le _, .nil⟩
  | fin => exact ⟨Nat.zero_le _, .nil⟩
  | wai g k => exact ⟨(by decide : 1 ≤ 4), List.pairwise_singleton ..⟩
  | ovr g d k => exact ⟨(by decide : 1 ≤ 4), List.pairwise_singleton ..⟩
theorem none_in (gs : List Nat) : inV .non (intV gs) = false := by
  unfold inV intV
  rw [List.any_eq_false]
  intro x hx
  obtain ⟨k, _, rfl⟩ := List.mem_map.mp hx
  exact fun h => nomatch (show false = true from h)
theorem flat_ints (gs : List Nat) : (intV gs).all flatV = true := by
  rw [List.all_eq_true]
  intro x hx
  obtain ⟨k, _, rfl⟩ := List.mem_map.mp hx
  rfl
def LabOk (la : V) : Prop := la = .non ∨ ∃ z, la = .str z ∧ Nm z
def spLeads (K : PySem.W.Frag) : Sp := fun vs H Q _ => ∃ (r dx g : Addr) (tx la : V) (R : RW) (m : Int), vs = [.ref r, .int m] ∧
  H r = some (.ins (cR K) dx (rowFs tx la (.str R.wordS) R.gateV R.valV g R.goals)) ∧ GoAt K H g R.goals ∧ R.goals.length ≤ 4 ∧ (∀ k ∈ R.goals, (k : Int) < m) ∧ ∀ H', Same H H' → Q (.bl true) H'
theorem fUp_int (ks : List Nat) (i : Nat) : fUp ks (.int (0 + (i : Int))) = .bl (decide (ks.getD i 0 < ks.getD (i + 1) 0)) := by
  have e3 : (0 + (i : Int)).toNat = i := by omega
  show V.bl (decide (ks.getD (0 + (i : Int)).toNat 0 < ks.getD ((0 + (i : Int)).toNat + 1) 0)) = _
  rw [e3]
def spHasX (K : PySem.W.Frag) : Sp := fun vs H Q _ => ∃ (r : Addr) (tx : V) (l : Option Str) (R : RawR), vs = [.ref r] ∧ RawIn K H r tx (optS l) R ∧ (∀ z, l = some z → z.length ≤ sizeLine) ∧ (∀ z, R.ga = some z → z.length ≤ sizeLine) ∧ R.gs.length ≤ 1000 ∧
  (RightP l R → ∀ H', Same H H' → Q (.bl true) H') ∧ (¬ RightP l R → ∀ H', Same H H' → Q (.bl false) H')
theorem ok_has_right_partsX {f : Addr} {fd : FuncData} {dvs : List V} {kws : List (Str × V)} (T : Tx K mg)
    (F : FunD K "has_right_parts" "has_right_parts" (defArgs s_has_right_parts) (defBody s_has_right_parts) (defScope s_has_right_parts) dvs kws f fd) :
    FnOk P w K mg base CX0 2 f fd ["row"] (spHasX K) := by
  have c_is_name : CalO P w K mg base CX0 1 "is_name" [] (spIsName K) := c_is_name T
  refine F.ok sc_has_right_parts (fun vs H Q E h => ?_) (fun cdv A outer s H vs Q E hr h => ?_)
  · obtain ⟨r, tx, l, R, rfl, _⟩ := h
    rfl
  · obtain ⟨r, tx, l, R, rfl, ⟨dx, g, ha, hg⟩, ll, gl, gs1, qt, qf⟩ := h
    have hu := hr.units
    have cl := T.c_Row
    have n2 := T.na_Row_label
    have n3 := T.na_Row_word
    have n4 := T.na_Row_gate
    have n5 := T.na_Row_value
    have n6 := T.na_Row_goals
    refine ⟨_, PSs.nox (pss_cons (ps_if (PW.pt (pw_and (pt_cmpR op_notN (pe_fld (pv 0) rfl) pe_non (nomark _)) (pw_and1 (pt_not (pt_val (pe_calO c_is_name (hr.mono (by decide)) pass0 (pa_cons (pe_fld (pv 0) rfl) pa_nil))))))) (pss_one (ps_ret pe_bl)) pss_nil)
    (pss_cons (ps_if (PW.pt (pw_and (pt_cmpR op_notN (pe_fld (pv 0) rfl) pe_non (nomark _)) (pw_and1 (pt_not (pt_val (pe_calO c_is_name (hr.mono (by decide)) pass0 (pa_cons (pe_fld (pv 0) rfl) pa_nil))))))) (pss_one (ps_ret pe_bl)) pss_nil)
    (pss_cons (ps_if (PW.pt (pw_and (pt_cmpR op_in_seq (pe_fld (pv 0) rfl) (pe_tup (pa_cons pe_str (pa_cons pe_str pa_nil))) rfl) (pw_and1 (PW.pt (pw_or (pt_cmpR op_isN (pe_fld (pv 0) rfl) pe_non (nomark _)) (pw_or1 (pt_cmpR op_gt (pe_fld (pv 0) rfl) (pe_gl T.g_MOST_VALUE) (nomark _)))))))) (pss_one (ps_ret pe_bl)) pss_nil)
    (pss_cons (ps_if (pt_cmpR op_in_seq pe_non (pe_fld (pv 0) rfl) rfl) (pss_one (ps_ret pe_bl)) pss_nil)
    (pss_one (ps_ret (pe_callB (cr_all rfl) rfl T.f_all (by decide +kernel) (pa_cons (pe_lc (own := [("at", 1)]) (g := gName 1) (tt := tYes) rfl sc_has_right_parts.nd (pi_range1 rfl T.f_range (pa_cons (pe_op op_sub (pe_callB call_len_seq rfl T.f_len (by decide +kernel) (pa_cons (pe_fld (pv 0) rfl) pa_nil)) pe_int) pa_nil)) (blkOk_by (own := [("at", 1)]) (N := n_has_right_parts) (sc := defScope s_has_right_parts) (by decide +kernel)) (fun _ _ _ _ _ => (pg_name (i := 1) sc_has_right_parts.nd rfl (Or.inl rfl))) (fun _ _ _ _ _ => pts_nil) (fun _ _ _ _ _ => (pe_cmpR op_lt (pe_ix (ixK (K := K) (r := rIxT) rfl ix_tup) (pe_fldK (K := K) rfl (pv 0) rfl) (pv 1) (fun _ _ => rfl)) (pe_ix (ixK (K := K) (r := rIxT) rfl ix_tup) (pe_fldK (K := K) rfl (pv 0) rfl) (pe_op op_add (pv 1) pe_int) (fun _ _ => rfl)) (nomark _)))) pa_nil)))))))), ?_⟩
    refine mid1 (fun σ' H' => (σ' = [some (.ref r), none] ∧ Same H H') ∧ ∀ z, l = some z → Nm z) ?_ (fun u rest => ?_)
    rotate_left
    · cases l with
      | none =>
        walk_at "rd"
        exact rest _ _ ⟨⟨rfl, by walk_at "g but"⟩, fun _ e => nomatch e⟩
      | some z =>
        have zl : z.length ≤ sizeLine := ll z rfl
        walk_at "rd"
        intro H1 s1
        cases e : isNameS z with
        | true =>
          walk_at "rd"
          exact rest _ _ ⟨⟨rfl, by walk_at "g but"⟩, fun y ey => Option.some.inj ey ▸ nm_iff.mp e⟩
        | false =>
          walk_at "rd"
          exact qf (fun h => by rw [nm_iff.mpr (h.lab z rfl)] at e; cases e) _ (by walk_at "g but")
    rintro σ1 H1 ⟨⟨rfl, s1⟩, c1⟩
    refine mid1 (fun σ' H' => (σ' = [some (.ref r), none] ∧ Same H H') ∧ ∀ z, R.ga = some z → Nm z) ?_ (fun u rest => ?_)
    rotate_left
    · have ha1 := s1 _ _ ha
      cases eg : R.ga with
      | none =>
        rw [eg] at ha1
        walk_at "rd"
        exact rest _ _ ⟨⟨rfl, by walk_at "g but"⟩, fun _ e => by rw [eg] at e; cases e⟩
      | some z =>
        have zl : z.length ≤ sizeLine := gl z eg
        rw [eg] at ha1
        walk_at "rd"
        intro H2 s2
        cases e : isNameS z with
        | true =>
          walk_at "rd"
          exact rest _ _ ⟨⟨rfl, by walk_at "g but"⟩, fun y ey => by rw [eg] at ey; exact Option.some.inj ey ▸ nm_iff.mp e⟩
        | false =>
          walk_at "rd"
          exact qf (fun h => by rw [nm_iff.mpr (h.gat z eg)] at e; cases e) _ (by walk_at "g but")
    rintro σ2 H2 ⟨⟨rfl, s2⟩, c2⟩
    refine mid1 (fun σ' H' => (σ' = [some (.ref r), none] ∧ Same H H') ∧ (R.wo = "arrive" ∨ R.wo = "over" → ∃ v, R.va = some v ∧ v ≤ 3)) ?_ (fun u rest => ?_)
    rotate_left
    · have ha2 := s2 _ _ ha
      walk_at "rd"
      intro p1 np1
      walk_at "rd"
      refine iteB (fun h1 => ?_) (fun h1 => ?_)
      · have h1' : R.wo ∈ (["arrive", "over"] : List Str) := of_decide_eq_true ((inV_strsX R.wo ["arrive", "over"]).symm.trans h1)
        have h2 : R.wo = "arrive" ∨ R.wo = "over" := by simpa using h1'
        cases ev : R.va with
        | none =>
          rw [ev] at ha2
          walk_at "rd"
          exact qf (fun h => by obtain ⟨v, hv, _⟩ := h.val h2; rw [ev] at hv; cases hv) _ (by walk_at "g but")
        | some v =>
          rw [ev] at ha2
          walk_at "rd"
          refine iteD (fun h3 => ?_) (fun h3 => ?_)
          · walk_at "rd"
            exact qf (fun h => by obtain ⟨v', hv, v3⟩ := h.val h2; rw [ev] at hv; cases hv; omega) _ (by walk_at "g but")
          · walk_at "rd"
            exact rest _ _ ⟨⟨rfl, by walk_at "g but"⟩, fun _ => ⟨v, ev, by omega⟩⟩
      · walk_at "rd"
        refine rest _ _ ⟨⟨rfl, by walk_at "g but"⟩, fun h => ?_⟩
        have h1' : R.wo ∉ (["arrive", "over"] : List Str) := of_decide_eq_false ((inV_strsX R.wo ["arrive", "over"]).symm.trans h1)
        exact absurd (by simpa using h) h1'
    rintro σ3 H3 ⟨⟨rfl, s3⟩, c3⟩
    have ha3 := s3 _ _ ha
    have hg3 := hg.same s3
    walk_at "rd"
    refine ⟨Or.inr hg3.sq, rfl, flat_opt _, ?_⟩
    rw [none_inX]
    by_cases hn : none ∈ R.gs
    · rw [decide_eq_true hn]
      walk_at "rd"
      refine qf (fun h => ?_) _ (by walk_at "g but")
      obtain ⟨ks, e, _⟩ := h.gol
      rw [e] at hn
      simp at hn
    · rw [decide_eq_false hn]
      obtain ⟨ks, ek⟩ := somes hn
      rw [ek, opt_int] at hg3 ha3
      rw [ek, List.length_map] at gs1
      have il : (intV ks).length = ks.length := List.length_map ..
      walk_at "rd"
      refine ⟨Or.inr hg3.sq, ?_⟩
      walk_at "rd"
      intro D nD
      refine lcP (wk_range 0 _) (fUp ks) (fun _ => trivial) (by rw [rngV_len]; show _ < 16777216; omega) ?_ ?_
      · intro i x acc Q' hx hq
        obtain ⟨rfl, hi⟩ := rng_at hx
        rw [il] at hi
        have h1 : i < ks.length := by omega
        have h2 : i + 1 < ks.length := by omega
        have sq : SqT K (upd H3 D (.lst acc)) g (intV ks) := (hg3.same ((Same.refl _).new nD)).sq
        have ha4 : upd H3 D (.lst acc) r = _ := upd_get nD ha3
        have e1 : atI (intV ks) (0 + (i : Int)) = some (.int ((ks[i] : Nat) : Int)) := at_any (j := i) (by omega) (by simp [intV, h1])
        have e2 : atI (intV ks) (0 + (i : Int) + 1) = some (.int ((ks[i + 1] : Nat) : Int)) := at_any (j := i + 1) (by omega) (by simp [intV, h2])
        walk_at "rd"
        refine ret_eq hq ?_
        show fUp ks (.int (0 + (i : Int))) = _
        rw [fUp_int, List.getD_eq_getElem?_getD, List.getD_eq_getElem?_getD, List.getElem?_eq_getElem h1, List.getElem?_eq_getElem h2]
        refine congrArg V.bl (decide_eq_decide.mpr ?_)
        show ks[i] < ks[i + 1] ↔ _
        omega
      · have f1 : ((rngV 0 (((intV ks).length : Int) - 1).toNat).map (fUp ks)) = (((List.range (ks.length - 1)).map fun i => decide (ks.getD i 0 < ks.getD (i + 1) 0)).map V.bl) := by
          unfold rngV
          rw [List.map_map, List.map_map, il]
          have e4 : ((ks.length : Int) - 1).toNat = ks.length - 1 := by omega
          rw [e4]
          refine List.map_congr_left fun i _ => ?_
          exact fUp_int ks i
        rw [f1]
        refine ⟨D, _, rfl, SqL.of upd_same, ?_⟩
        rw [all_map]
        cases eb : (List.range (ks.length - 1)).all fun i => decide (ks.getD i 0 < ks.getD (i + 1) 0) with
        | true =>
          refine qt ⟨c1, c2, c3, ks, ek, pw_step fun i hi => ?_⟩ _ (by walk_at "g but")
          exact of_decide_eq_true (List.all_eq_true.mp eb i (List.mem_range.mpr (by omega)))
        | false =>
          refine qf (fun h => ?_) _ (by walk_at "g but")
          obtain ⟨ks', e, hp⟩ := h.gol
          rw [ek] at e
          have e5 : ks = ks' := List.map_inj_right (fun a b h => Option.some.inj h) |>.mp e
          subst e5
          have : (List.range (ks.length - 1)).all (fun i => decide (ks.getD i 0 < ks.getD (i + 1) 0)) = true := by
            rw [List.all_eq_true]
            intro i hi
            have := List.mem_range.mp hi
            exact decide_eq_true (pw_back hp (by omega))
          rw [this] at eb
          cases eb
theorem c_has_right_partsX (T : Tx K mg) : CalO P w K mg base CX0 2 "has_right_parts" [] (spHasX K) := by
  obtain ⟨fd, F⟩ := T.d_has_right_parts
  exact .mk F (ok_has_right_partsX T F) T.n_has_right_parts fun _ _ _ _ _ _ us hl => match us, hl with | [_], _ => rfl
def fLess (m : Int) : V → V
  | .int i => .bl (decide (i < m))
  | _ => .non
def spLeadsX (K : PySem.W.Frag) : Sp := fun vs H Q _ => ∃ (r dx g : Addr) (tx la : V) (R : RW) (m : Int), vs = [.ref r, .int m] ∧
  H r = some (.ins (cR K) dx (rowFs tx la (.str R.wordS) R.gateV R.valV g R.goals)) ∧ GoAt K H g R.goals ∧ R.goals.length ≤ 4 ∧ ∀ H', Same H H' → Q (.bl (R.goals.all fun k => decide ((k : Int) < m))) H'
theorem ok_leads_withinX {f : Addr} {fd : FuncData} {dvs : List V} {kws : List (Str × V)} (T : Tx K mg)
    (F : FunD K "leads_within" "leads_within" (defArgs s_leads_within) (defBody s_leads_within) (defScope s_leads_within) dvs kws f fd) :
    FnOk P w K mg base CX 1 f fd ["row", "many"] (spLeadsX K) := by
  refine F.ok sc_leads_within (fun vs H Q E h => ?_) (fun cdv A outer s H vs Q E hr h => ?_)
  · obtain ⟨r, dx, g, tx, la, R, m, rfl, _⟩ := h
    rfl
  · obtain ⟨r, dx, g, tx, la, R, m, rfl, ha, hg, g4, q⟩ := h
    have hu := hr.units
    have cl := T.c_Row
    have n6 := T.na_Row_goals
    refine ⟨_, PSs.nox (pss_one (ps_ret (pe_callB (cr_all rfl) rfl T.f_all (by decide +kernel) (pa_cons (pe_lc (own := [("goal", 2)]) (g := gName 2) (tt := tYes) rfl sc_leads_within.nd (pi_tup (pe_fld (pv 0) rfl)) (blkOk_by (own := [("goal", 2)]) (N := n_leads_within) (sc := defScope s_leads_within) (by decide +kernel)) (fun _ _ _ _ _ => (pg_name (i := 2) sc_leads_within.nd rfl (Or.inl rfl))) (fun _ _ _ _ _ => pts_nil) (fun _ _ _ _ _ => (pe_cmpR op_lt (pv 2) (pv 1) (nomark _)))) pa_nil)))), ?_⟩
    walk_at "rd"
    refine ⟨⟨_, hg.sq⟩, ?_⟩
    intro D nD
    have il : (intV R.goals).length = R.goals.length := List.length_map ..
    refine lcP (wk_tup (intV R.goals)) (fLess m) (fun acc => (hg.same ((Same.refl _).new nD)).sq) (by rw [il]; show _ < 16777216; omega) ?_ ?_
    · intro i x acc Q' hx hq
      obtain ⟨k, hk, rfl⟩ := List.mem_map.mp (List.mem_of_getElem? hx)
      walk_at "rd"
      exact hq
    · have f1 : (intV R.goals).map (fLess m) = (R.goals.map fun (k : Nat) => decide ((k : Int) < m)).map V.bl := by
        unfold intV
        rw [List.map_map, List.map_map]
        rfl
      rw [f1]
      refine ⟨D, _, rfl, SqL.of upd_same, ?_⟩
      rw [all_map]
      exact q _ (by walk_at "g but")
theorem c_leads_withinX (T : Tx K mg) : CalO P w K mg base CX 1 "leads_within" [] (spLeadsX K) := by
  obtain ⟨fd, F⟩ := T.d_leads_within
  exact .mk F (ok_leads_withinX T F) T.n_leads_within fun _ _ _ _ _ _ us hl => match us, hl with | [_, _], _ => rfl
theorem ok_leads_within {f : Addr} {fd : FuncData} {dvs : List V} {kws : List (Str × V)} (T : Tx K mg)
    (F : FunD K "leads_within" "leads_within" (defArgs s_leads_within) (defBody s_leads_within) (defScope s_leads_within) dvs kws f fd) :
    FnOk P w K mg base CX 1 f fd ["row", "many"] (spLeads K) := (ok_leads_withinX T F).imp fun vs H Q E h => by
  obtain ⟨r, dx, g, tx, la, R, m, e, ha, hg, g4, lt, q⟩ := h
  refine ⟨r, dx, g, tx, la, R, m, e, ha, hg, g4, ?_⟩
  rw [List.all_eq_true.mpr fun k hk => decide_eq_true (lt k hk)]
  exact q
theorem c_leads_within (T : Tx K mg) : CalO P w K mg base CX 1 "leads_within" [] (spLeads K) := by
  obtain ⟨fd, F⟩ := T.d_leads_within
  exact .mk F (ok_leads_within T F) T.n_leads_within fun _ _ _ _ _ _ us hl => match us, hl with | [_, _], _ => rfl
def labV : Option Str → V
  | none => .non
  | some z => .str z
def spParsed (K : PySem.W.Frag) : Sp := fun vs H Q _ => ∃ (l : Option Str) (R : RW), vs = [.str (rowText l R)] ∧ R.Ok ∧ (∀ z, l = some z → Nm z) ∧
  ∀ H' r dx g, Same H H' → H' r = some (.ins (cR K) dx (rowFs (.str (rowText l R)) (labV l) (.str R.wordS) R.gateV R.valV g R.goals)) → GoAt K H' g R.goals → Q (.ref r) H'
/-- the text of a row, or another value -/
def spParsedX (K : PySem.W.Frag) : Sp := fun vs H Q _ => ∃ (x : V) (d : PyData), vs = [x] ∧ Dq K H x d ∧ (∀ z, x = .str z → z.length + 2 ≤ 100000 ∧ Asc z) ∧
  (∀ q : Option Str × RW, QOk q → x = .str (rowText q.1 q.2) → ∀ H' r, Same H H' → RawIn K H' r x (optS q.1) q.2.raw → Q (.ref r) H') ∧
  ((∀ q : Option Str × RW, QOk q → x ≠ .str (rowText q.1 q.2)) → ∀ H', Same H H' → Q .non H')
theorem raw_gs {w : Str} {more : List Str} {R : RawR} (e : rawOf w more = some R) : R.gs.length ≤ 4 ∧ ∀ z, R.ga = some z → z ∈ more := by
  unfold rawOf at e
  have g0 : ∀ z, more[0]? = some z → z ∈ more := fun z h => List.mem_of_getElem? h
  split at e
  · cases e; exact ⟨Nat.zero_le _, g0⟩
  split at e
  · cases e; exact ⟨Nat.zero_le _, g0⟩
  split at e
  · cases e; exact ⟨(by decide : 1 ≤ 4), g0⟩
  split at e
  · cases e; exact ⟨(by decide : 1 ≤ 4), g0⟩
  split at e
  · rename_i c
    cases e
    exact ⟨by rw [List.length_map]; exact c.2.2, fun z h => nomatch h⟩
  split at e
  · cases e; exact ⟨Nat.zero_le _, fun z h => nomatch h⟩
  · cases e
/-- a text cut at its label -/
inductive PsSt (z : Str) (H : Hp) (σ : L2.St) (H' : Hp) : Prop
  | mk (lb : Option Str) (sg rs : Str) (eσ : σ = [some (.str z), some (optS lb), some (.str sg), some (.str rs), none]) (sm : Same H H') (ln : rs.length + 2 ≤ 100000) (ll : ∀ l, lb = some l → l.length ≤ 100000) (as : Asc rs)
    (cut : ∀ (w : Str) (more : List Str) (R : RawR), Txt.split rs (Str.ofString " ") = w :: more → rawOf w more = some R → RightP lb R → ∃ W, QOk (lb, W) ∧ z = rowText lb W ∧ W.raw = R)
    (back : ∀ q : Option Str × RW, QOk q → z = rowText q.1 q.2 → q.1 = lb ∧ Txt.split rs (Str.ofString " ") = q.2.words)
theorem ok_parsed_rowX {f : Addr} {fd : FuncData} {dvs : List V} {kws : List (Str × V)} (T : Tx K mg)
    (F : FunD K "parsed_row" "parsed_row" (defArgs s_parsed_row) (defBody s_parsed_row) (defScope s_parsed_row) dvs kws f fd) :
    FnOk P w K mg base CX0 4 f fd ["text"] (spParsedX K) := by
  have c_row_of_words : CalO P w K mg base CX0 3 "row_of_words" [] (spRowOfX K) := c_row_of_wordsX T
  have c_has_right_parts : CalO P w K mg base CX0 2 "has_right_parts" [] (spHasX K) := c_has_right_partsX T
  refine F.ok sc_parsed_row (fun vs H Q E h => ?_) (fun cdv A outer s H vs Q E hr h => ?_)
  · obtain ⟨x, d, rfl, _⟩ := h
    rfl
  · obtain ⟨x, d, rfl, hx, hz, qr, qn⟩ := h
    have hu := hr.units
    refine ⟨_, PSs.nox (pss_cons (ps_if (pt_not (pt_val (pe_callB call_isi rfl T.f_isinstance (by decide +kernel) (pa_cons (pv 0) (pa_cons (pe_bltn (v := .ty "str") (u := .type "str") rfl T.f_str (by decide +kernel) rfl) pa_nil))))) (pss_one (ps_ret pe_non)) pss_nil)
    (pss_cons (ps_asg (pe_partition (pv 0) pe_str) (pg_tup rfl (pgs_cons (pg_name (i := 1) sc_parsed_row.nd rfl (Or.inl rfl)) (pgs_cons (pg_name (i := 2) sc_parsed_row.nd rfl (Or.inl rfl)) (pgs_cons (pg_name (i := 3) sc_parsed_row.nd rfl (Or.inl rfl)) pgs_nil)))))
    (pss_cons (ps_if (pt_cmpR op_eq (pv 2) pe_str (nomark _)) (pss_one (ps_par (i := 1) (j := 3) rfl sc_parsed_row.nd rfl rfl (by decide) rfl rfl (pa_cons pe_non (pa_cons (pv 0) pa_nil)) (by rfl))) pss_nil)
    (pss_cons (ps_set (i := 4) sc_parsed_row.nd rfl (Or.inl rfl) (pe_calO c_row_of_words (hr.mono (by decide)) pass0 (pa_cons (pv 0) (pa_cons (pv 1) (pa_cons (pe_split (pv 3) pe_str) pa_nil)))))
    (pss_one (ps_ret (pe_ifExp (PW.pt (pw_and (pt_cmpR op_notN (pv 4) pe_non (nomark _)) (pw_and1 (pt_val (pe_calO c_has_right_parts (hr.mono (by decide)) pass0 (pa_cons (pv 4) pa_nil)))))) (pv 4) pe_non))))))), ?_⟩
    rcases dq_ty hx with ⟨z, rfl, _⟩ | ⟨ns, tt, mt, ty⟩
    · obtain ⟨zl, za⟩ := hz z rfl
      obtain ⟨⟨l, sg, rs⟩, hp⟩ : ∃ p, Txt.partition z (Str.ofString ": ") = p := ⟨_, rfl⟩
      have psum := StrLaws.partition_sum z (Str.ofString ": ")
      have plen := fact_partition z (Str.ofString ": ")
      rw [hp] at psum plen
      obtain ⟨pl1, pl2, pl3⟩ := plen
      have pa : Asc l ∧ Asc rs := ⟨fun c hc => za c (by rw [← psum, cat_list, cat_list]; exact List.mem_append_left _ (List.mem_append_left _ hc)), fun c hc => za c (by rw [← psum, cat_list, cat_list]; exact List.mem_append_right _ hc)⟩
      have z1 : z.length ≤ sizeLine := by rw [sizeLine_eq]; omega
      have z2 : z.length + 2 ≤ sizeLine := by rw [sizeLine_eq]; omega
      have z3 : rs.length + 2 ≤ sizeLine := by
        have : rs.length ≤ z.length := pl3
        rw [sizeLine_eq]
        omega
      refine mid3 (fun σ' H' => PsSt z H σ' H') ?_ (fun u rest => ?_)
      rotate_left
      · walk_at "rd"
        intro p np
        rw [hp]
        walk_at "rd"
        refine iteB (fun h1 => ?_) (fun h1 => ?_)
        · have e1 : sg = "" := V.str.inj (of_decide_eq_true h1)
          walk_at "rd"
          refine rest _ _ ⟨none, sg, z, rfl, by walk_at "g but", by omega, fun _ e => (nomatch e), za, fun w more R => (row_of_parts hp).1 e1, fun q ok e => ?_⟩
          obtain ⟨ql, W⟩ := q
          cases ql with
          | none =>
            refine ⟨rfl, ?_⟩
            rw [e]
            exact rwText_split ok.ok
          | some y =>
            have e2 : z = rowText (some y) W := e
            rw [e2, rowText_part1 (ok.lab y rfl)] at hp
            have e3 := (Prod.mk.inj (Prod.mk.inj hp).2).1
            rw [e1] at e3
            exact absurd e3 (by decide +kernel)
        · have e1 : ¬ sg = "" := fun e => (of_decide_eq_false h1) (by rw [e])
          walk_at "rd"
          have ln3 : rs.length ≤ z.length := pl3
          have ln1 : l.length ≤ z.length := pl1
          refine rest _ _ ⟨some l, sg, rs, rfl, by walk_at "g but", by omega, fun y e => Option.some.inj e ▸ (show l.length ≤ 100000 by omega), pa.2, fun w more R => (row_of_parts hp).2 e1, fun q ok e => ?_⟩
          obtain ⟨ql, W⟩ := q
          cases ql with
          | none =>
            have e2 : z = rowText none W := e
            rw [e2, rowText_part0 ok.ok] at hp
            exact absurd (Prod.mk.inj (Prod.mk.inj hp).2).1.symm e1
          | some y =>
            have e2 : z = rowText (some y) W := e
            rw [e2, rowText_part1 (ok.lab y rfl)] at hp
            obtain ⟨rfl, e3⟩ := Prod.mk.inj hp
            obtain ⟨_, rfl⟩ := Prod.mk.inj e3
            exact ⟨rfl, rwText_split ok.ok⟩
      clear hp psum pl1 pl2 pl3 pa z3 sg rs l
      rintro σ1 H1 ⟨lb, sg, rs, rfl, s1, ln, ll, ra, cut, back⟩
      have l1 : rs.length + 2 ≤ sizeLine := by rw [sizeLine_eq]; omega
      walk_at "rd"
      intro p2 np2
      have s2 : Same H (upd H1 p2 (.lst ((Txt.split rs (Str.ofString " ")).map V.str))) := by walk_at "g but"
      obtain ⟨w, more, ew⟩ : ∃ w more, Txt.split rs (Str.ofString " ") = w :: more := by
        have h1 := split_pos rs (Str.ofString " ")
        cases h : Txt.split rs (Str.ofString " ") with
        | nil => rw [h] at h1; simp at h1
        | cons w more => exact ⟨w, more, rfl⟩
      have ml : more.length + 1 ≤ sizeLine := by
        have h1 := split_le rs (Str.ofString " ")
        rw [ew, List.length_cons] at h1
        omega
      have wl : ∀ z ∈ w :: more, z.length ≤ sizeLine ∧ Asc z := by
        intro y hy
        rw [← ew] at hy
        have h1 := part_short hy
        exact ⟨by omega, asc_words ra _ y hy⟩
      have np : ∀ q : Option Str × RW, QOk q → z = rowText q.1 q.2 → q.1 = lb ∧ rawOf w more = some q.2.raw ∧ RightP lb q.2.raw := by
        intro q ok e
        obtain ⟨e1, e2⟩ := back q ok e
        obtain ⟨w', more', e3, e4, e5⟩ := row_right ok.ok
        rw [ew, e3] at e2
        obtain ⟨rfl, rfl⟩ := List.cons.inj e2
        exact ⟨e1, e4, e5 lb fun y ey => ok.lab y (e1.trans ey)⟩
      walk_at "rd"
      refine ⟨(by rw [← ew]; exact upd_same : upd H1 p2 (.lst ((Txt.split rs (Str.ofString " ")).map V.str)) p2 = some (.lst ((w :: more).map V.str))), ml, wl, fun R eR H3 r s3 rin => ?_, fun en H3 s3 => ?_⟩
      · obtain ⟨g1, g2⟩ := raw_gs eR
        have rin0 := rin
        walk_at "rd"
        refine ⟨lb, R, rfl, rin, fun y ey => ?_, fun y ey => ?_, by omega, fun hR H4 s4 => ?_, fun hR H4 s4 => ?_⟩
        · have := ll y ey
          rw [sizeLine_eq]
          omega
        · exact (wl y (List.mem_cons_of_mem _ (g2 y ey))).1
        · obtain ⟨W, ok, ez, er⟩ := cut w more R ew eR hR
          walk_at "rd"
          exact qr (lb, W) ok (by rw [ez]) H4 r ((s2.trans s3).trans s4) (by rw [← er] at rin; exact rin.same s4)
        · walk_at "rd"
          refine qn (fun q ok e => ?_) H4 ((s2.trans s3).trans s4)
          obtain ⟨e1, e2, e3⟩ := np q ok (V.str.inj e)
          rw [eR] at e2
          exact hR (Option.some.inj e2 ▸ e3)
      · walk_at "rd"
        refine qn (fun q ok e => ?_) H3 (s2.trans s3)
        obtain ⟨e1, e2, e3⟩ := np q ok (V.str.inj e)
        rw [en] at e2
        cases e2
    · walk_at "rd"
      refine ⟨not_str tt mt, ?_⟩
      walk_at "rd"
      exact qn (fun q _ e => absurd e (ns _)) _ (by walk_at "g but")
theorem raw_fields (W : RW) : W.raw.wo = W.wordS ∧ optS W.raw.ga = W.gateV ∧ optV W.raw.va = W.valV ∧ W.raw.gs = W.goals.map some := by
  cases W <;> exact ⟨rfl, rfl, rfl, rfl⟩
theorem lab_optS (l : Option Str) : optS l = labV l := by
  cases l <;> rfl
theorem RawIn.row {H : Hp} {r : Addr} {tx : V} {l : Option Str} {W : RW} (h : RawIn K H r tx (optS l) W.raw) : ∃ dx g, H r = some (.ins (cR K) dx (rowFs tx (labV l) (.str W.wordS) W.gateV W.valV g W.goals)) ∧ GoAt K H g W.goals := by
  obtain ⟨dx, g, h1, h2⟩ := h
  obtain ⟨e1, e2, e3, e4⟩ := raw_fields W
  rw [e1, e2, e3, e4, opt_int, lab_optS, rowFx_int] at h1
  rw [e4, opt_int] at h2
  exact ⟨dx, g, h1, h2.go⟩
theorem sign_asc {c : Nat} (h : isSign c = true) : c < 128 := by
  have a : ∀ c ∈ signsS.cps.toList, c < 128 := by decide +kernel
  exact a c (of_decide_eq_true h)
theorem row_asc {q : Option Str × RW} (ok : QOk q) : Asc (rowText q.1 q.2) := by
  have h : Asc (rwText q.2) := by
    intro c hm
    rw [rwText_list] at hm
    rcases joinL_mem hm with h1 | ⟨p, hp, h1⟩
    · rw [List.mem_singleton.mp h1]
      decide
    · obtain ⟨z, hz, rfl⟩ := List.mem_map.mp hp
      exact sign_asc ((words_plain ok.ok z hz).1 c h1)
  obtain ⟨l, W⟩ := q
  cases l with
  | none => exact h
  | some z => exact asc_cat (asc_cat (fun c hc => sign_asc (nm_plain (ok.lab z rfl) c hc)) (asc_lit (by decide +kernel))) h
/-- texts of rows: the same just if label and words are -/
theorem text_raw {q q' : Option Str × RW} (ok : QOk q) (ok' : QOk q') (e : rowText q.1 q.2 = rowText q'.1 q'.2) : q.1 = q'.1 ∧ q.2.words = q'.2.words ∧ q.2.raw = q'.2.raw := by
  have key : q.1 = q'.1 ∧ q.2.words = q'.2.words := by
    obtain ⟨l, W⟩ := q
    obtain ⟨l', W'⟩ := q'
    cases l with
    | none =>
      cases l' with
      | none =>
        have e' : rwText W = rwText W' := e
        exact ⟨rfl, (rwText_split ok.ok).symm.trans (by rw [e']; exact rwText_split ok'.ok)⟩
      | some y =>
        have h1 := rowText_part0 ok.ok
        have e' : rowText none W = rowText (some y) W' := e
        rw [e', rowText_part1 (ok'.lab y rfl)] at h1
        exact absurd (Prod.mk.inj (Prod.mk.inj h1).2).1 (by decide +kernel)
    | some y =>
      have h1 := rowText_part1 (r := W) (ok.lab y rfl)
      cases l' with
      | none =>
        have e' : rowText (some y) W = rowText none W' := e
        rw [e', rowText_part0 ok'.ok] at h1
        exact absurd (Prod.mk.inj (Prod.mk.inj h1).2).1 (by decide +kernel)
      | some y' =>
        have e' : rowText (some y) W = rowText (some y') W' := e
        rw [e', rowText_part1 (ok'.lab y' rfl)] at h1
        obtain ⟨h2, h3⟩ := Prod.mk.inj h1
        obtain ⟨_, h4⟩ := Prod.mk.inj h3
        exact ⟨by rw [h2], (rwText_split ok.ok).symm.trans (by rw [← h4]; exact rwText_split ok'.ok)⟩
  refine ⟨key.1, key.2, ?_⟩
  obtain ⟨w, more, e1, e2, _⟩ := row_right ok.ok
  obtain ⟨w', more', e3, e4, _⟩ := row_right ok'.ok
  have k2 := key.2
  rw [e1, e3] at k2
  obtain ⟨rfl, rfl⟩ := List.cons.inj k2
  exact Option.some.inj (e2.symm.trans e4)
theorem ok_parsed_row {f : Addr} {fd : FuncData} {dvs : List V} {kws : List (Str × V)} (T : Tx K mg)
    (F : FunD K "parsed_row" "parsed_row" (defArgs s_parsed_row) (defBody s_parsed_row) (defScope s_parsed_row) dvs kws f fd) :
    FnOk P w K mg base CX0 4 f fd ["text"] (spParsed K) := (ok_parsed_rowX T F).imp fun vs H Q E h => by
  obtain ⟨l, R, rfl, ok, lo, q⟩ := h
  have len := rowText_len ok lo
  refine ⟨_, _, rfl, .str _, fun z e => ?_, fun q' ok' e H' r s rin => ?_, fun h => absurd rfl (h (l, R) ⟨ok, lo⟩)⟩
  · rw [← V.str.inj e]
    exact ⟨by omega, row_asc (q := (l, R)) ⟨ok, lo⟩⟩
  · obtain ⟨e1, _, e3⟩ := text_raw ⟨ok, lo⟩ ok' (q := (l, R)) (V.str.inj e)
    rw [← e1, ← e3] at rin
    obtain ⟨dx, g, h1, h2⟩ := rin.row
    exact q H' r dx g s h1 h2
theorem c_parsed_rowX (T : Tx K mg) : CalO P w K mg base CX0 4 "parsed_row" [] (spParsedX K) := by
  obtain ⟨fd, F⟩ := T.d_parsed_row
  exact .mk F (ok_parsed_rowX T F) T.n_parsed_row fun _ _ _ _ _ _ us hl => match us, hl with | [_], _ => rfl
end
end G
namespace G
open PySem PySem.Spec PyProof.Rows L2
/-- a row as it is told: the label, the words -/
abbrev RwT := Option Str × RW
def RwT.text (q : RwT) : Str := rowText q.1 q.2
def rowsV (rs : List RwT) : List V := rs.map fun q => V.str q.text
structure RowsOk (rs : List RwT) : Prop where
  one : 1 ≤ rs.length
  ten : rs.length ≤ 10
  ok : ∀ q ∈ rs, q.2.Ok ∧ (∀ z, q.1 = some z → Nm z) ∧ ∀ k ∈ q.2.goals, k < rs.length
section
variable {P : Program} {w : World} {K : PySem.W.Frag} {mg : Str → Option Value} {base : Heap} {CX : CXT}
def RowIn (K : PySem.W.Frag) (H : Hp) (a : Addr) (q : RwT) : Prop := ∃ dx g, H a = some (.ins (cR K) dx (rowFs (.str q.text) (labV q.1) (.str q.2.wordS) q.2.gateV q.2.valV g q.2.goals)) ∧ GoAt K H g q.2.goals
theorem RowIn.same {H H' : Hp} {a : Addr} {q : RwT} (h : RowIn K H a q) (s : Same H H') : RowIn K H' a q := by
  obtain ⟨dx, g, e, o⟩ := h
  exact ⟨dx, g, s _ _ e, o.same s⟩
theorem GoAt.lst {H : Hp} {g D : Addr} {gs : List Nat} {xs : List V} {o : HO} (h : GoAt K H g gs) (hD : H D = some (.lst xs)) : GoAt K (upd H D o) g gs := by
  rcases h with h | h
  · exact .inl (by rw [upd_ne (ne_of h hD (by intro e; cases e))]; exact h)
  · exact .inr h
theorem RowIn.lst {H : Hp} {a D : Addr} {q : RwT} {xs : List V} {o : HO} (h : RowIn K H a q) (hD : H D = some (.lst xs)) : RowIn K (upd H D o) a q := by
  obtain ⟨dx, g, e, go⟩ := h
  exact ⟨dx, g, by rw [upd_ne (ne_of e hD (by intro e; cases e))]; exact e, go.lst hD⟩
/-- the rows as objects, one by one -/
def RowsIn (K : PySem.W.Frag) (H : Hp) (as : List Addr) (rs : List RwT) : Prop := as.length = rs.length ∧ ∀ (i : Nat) (a : Addr) (q : RwT), as[i]? = some a → rs[i]? = some q → RowIn K H a q
theorem RowsIn.same {H H' : Hp} {as : List Addr} {rs : List RwT} (h : RowsIn K H as rs) (s : Same H H') : RowsIn K H' as rs :=
  ⟨h.1, fun i a q h1 h2 => (h.2 i a q h1 h2).same s⟩
theorem RowsIn.lst {H : Hp} {as : List Addr} {rs : List RwT} {D : Addr} {xs : List V} {o : HO} (h : RowsIn K H as rs) (hD : H D = some (.lst xs)) : RowsIn K (upd H D o) as rs :=
  ⟨h.1, fun i a q h1 h2 => (h.2 i a q h1 h2).lst hD⟩
theorem RowsIn.snoc {H : Hp} {as : List Addr} {rs : List RwT} {a : Addr} {q : RwT} (h : RowsIn K H as rs) (r : RowIn K H a q) : RowsIn K H (as ++ [a]) (rs ++ [q]) := by
  refine ⟨by simp [h.1], fun i b u h1 h2 => ?_⟩
  rcases Nat.lt_trichotomy i as.length with lt | rfl | gt
  · rw [List.getElem?_append_left lt] at h1
    rw [List.getElem?_append_left (by rw [← h.1]; exact lt)] at h2
    exact h.2 i b u h1 h2
  · rw [List.getElem?_append_right (Nat.le_refl _), Nat.sub_self] at h1
    rw [List.getElem?_append_right (by rw [h.1]; exact Nat.le_refl _), h.1, Nat.sub_self] at h2
    cases Option.some.inj h1
    cases Option.some.inj h2
    exact r
  · rw [List.getElem?_eq_none (by simp; omega)] at h1
    cases h1
def spRows (K : PySem.W.Frag) : Sp := fun vs H Q _ => ∃ (t : Addr) (rs : List RwT), vs = [.ref t] ∧ H t = some (.tup (rowsV rs)) ∧ RowsOk rs ∧
  ∀ H' p as, Same H H' → H' p = some (.tup (as.map V.ref)) → RowsIn K H' as rs → Q (.ref p) H'
/-- a value that is a row of a kind with so many rows -/
def LineV (x : V) (m : Nat) : Prop := ∃ q : RwT, QOk q ∧ x = .str q.text ∧ ∀ k ∈ q.2.goals, k < m
theorem lines_rows : ∀ {xs : List V} {m : Nat}, (∀ x ∈ xs, LineV x m) → ∃ rs : List RwT, xs = rowsV rs ∧ ∀ q ∈ rs, QOk q ∧ ∀ k ∈ q.2.goals, k < m
  | [], _, _ => ⟨[], rfl, fun _ h => nomatch h⟩
  | x :: xs, m, h => by
    obtain ⟨q, ok, rfl, lt⟩ := h x List.mem_cons_self
    obtain ⟨rs, rfl, hr⟩ := lines_rows fun y hy => h y (List.mem_cons_of_mem _ hy)
    refine ⟨q :: rs, rfl, fun p hp => ?_⟩
    rcases List.mem_cons.mp hp with rfl | hp
    · exact ⟨ok, lt⟩
    · exact hr p hp
theorem text_goals {q q' : RwT} (ok : QOk q) (ok' : QOk q') (e : q.text = q'.text) : q.2.goals = q'.2.goals := by
  obtain ⟨_, _, h⟩ := text_raw ok ok' e
  have h1 := (raw_fields q.2).2.2.2
  have h2 := (raw_fields q'.2).2.2.2
  rw [h, h2] at h1
  exact ((List.map_inj_right fun a b h => Option.some.inj h).mp h1).symm
theorem not_line {q : RwT} {x : V} {m : Nat} (ok : QOk q) (e : x = .str q.text) (h : (q.2.goals.all fun k => decide ((k : Int) < (m : Int))) = false) : ¬ LineV x m := by
  rintro ⟨q', ok', e', lt⟩
  rw [e] at e'
  rw [text_goals ok ok' (V.str.inj e')] at h
  rw [List.all_eq_true.mpr fun k hk => decide_eq_true (by have := lt k hk; omega)] at h
  cases h
theorem dqAll_at {K : PySem.W.Frag} {H : Hp} : ∀ {xs : List V} {ds : List PyData} {i : Nat} {x : V}, DqAll K H xs ds → xs[i]? = some x → ∃ d, ds[i]? = some d ∧ Dq K H x d
  | _, _, 0, _, .cons h _, e => by cases e; exact ⟨_, rfl, h⟩
  | _, _, i + 1, _, .cons _ h, e => dqAll_at (i := i) h e
theorem dqAll_same {K : PySem.W.Frag} {H H' : Hp} (s : Same H H') : ∀ {xs : List V} {ds : List PyData}, DqAll K H xs ds → DqAll K H' xs ds
  | _, _, .nil => .nil
  | _, _, .cons h h' => .cons (Dq.same s h) (dqAll_same s h')
def StrB (x : V) : Prop := ∀ z, x = .str z → z.length + 2 ≤ 100000 ∧ Asc z
def spRowsX (K : PySem.W.Frag) : Sp := fun vs H Q E => ∃ (t : Addr) (xs : List V) (ds : List PyData), vs = [.ref t] ∧ H t = some (.tup xs) ∧ DqAll K H xs ds ∧ 1 ≤ xs.length ∧ xs.length ≤ 10 ∧ (∀ x ∈ xs, StrB x) ∧
  (∀ rs, RowsOk rs → xs = rowsV rs → ∀ H' p as, Same H H' → H' p = some (.tup (as.map V.ref)) → RowsIn K H' as rs → Q (.ref p) H') ∧
  (∀ (i : Nat) (x : V), xs[i]? = some x → ¬ LineV x xs.length → (∀ y ∈ xs.take i, LineV y xs.length) → ∀ d H', Same H H' → H' d = some (.xd (gF1 "index" [.int (i : Int)])) → E (.ref (He.ga K "InvalidRows")) (some d) H')
theorem ok_parsed_rowsX {f : Addr} {fd : FuncData} {dvs : List V} {kws : List (Str × V)} (T : Tx K mg)
    (F : FunD K "parsed_rows" "parsed_rows" (defArgs s_parsed_rows) (defBody s_parsed_rows) (defScope s_parsed_rows) dvs kws f fd) :
    FnOk P w K mg base (L2.CX P w) 5 f fd ["rows"] (spRowsX K) := by
  have c_parsed_row : CalO P w K mg base CX0 4 "parsed_row" [] (spParsedX K) := c_parsed_rowX T
  have c_leads_within : CalO P w K mg base CX0 1 "leads_within" [] (spLeadsX K) := c_leads_withinX T
  refine F.ok sc_parsed_rows (fun vs H Q E h => ?_) (fun cdv A outer s H vs Q E hr h => ?_)
  · obtain ⟨t, xs, ds, rfl, _⟩ := h
    rfl
  · obtain ⟨t, xs, ds, rfl, ht, hd, o1, o2, sb, q, e⟩ := h
    have hu := hr.units
    have ht0 : SqT K H t xs := SqT.of ht
    refine ⟨_, (pss_cons (ps_if (PW.pt (pw_or (pt_not (pt_val (pe_callB call_isi rfl T.f_isinstance (by decide +kernel) (pa_cons (pv 0) (pa_cons (pe_bltn (v := .ty "tuple") (u := .type "tuple") rfl T.f_tuple (by decide +kernel) rfl) pa_nil))))) (pw_or1 (pt_cmpR op_eq (pe_callB call_len_seq rfl T.f_len (by decide +kernel) (pa_cons (pv 0) pa_nil)) pe_int (nomark _))))) (pss_one (ps_raise rfl takesX (pmk_err (e_InvalidRows T) (raises_own (T.er_InvalidRows.xf.exC) T.ty_InvalidRows) (hr.mono (by decide)) (pa_cons pe_non pa_nil) (by decide)))) pss_nil)
    (pss_cons (ps_set (i := 1) sc_parsed_rows.nd rfl (Or.inl rfl) (pe_lst pa_nil))
    (pss_cons (ps_for (L2.passes_of rfl) rfl (pi_enumT rfl T.f_enumerate (pa_cons (pe_slice sl_tupA (pv 0) po_none (po_some (pe_gl T.g_MOST_ROWS))) pa_nil)) (pg_tup rfl (pgs_cons (pg_name (i := 2) sc_parsed_rows.nd rfl (Or.inl rfl)) (pgs_cons (pg_name (i := 3) sc_parsed_rows.nd rfl (Or.inl rfl)) pgs_nil)))
      (pss_cons (ps_set (i := 4) sc_parsed_rows.nd rfl (Or.inl rfl) (pe_calO c_parsed_row (hr.mono (by decide)) pass0 (pa_cons (pv 3) pa_nil)))
    (pss_cons (ps_if (PW.pt (pw_or (pt_cmpR op_isN (pv 4) pe_non (nomark _)) (pw_or1 (pt_not (pt_val (pe_calO c_leads_within (hr.mono (by decide)) pass0 (pa_cons (pv 4) (pa_cons (pe_callB call_len_seq rfl T.f_len (by decide +kernel) (pa_cons (pv 0) pa_nil)) pa_nil)))))))) (pss_one (ps_raise rfl takesX (pmk_err (e_InvalidRows T) (raises_own (T.er_InvalidRows.xf.exC) T.ty_InvalidRows) (hr.mono (by decide)) (pa_cons (pv 2) pa_nil) (by decide)))) pss_nil)
    (pss_one (ps_expr (pe_bm PySem.F.plainAttrs_list PySem.F.slot_list_append PySem.F.type_list_append mt_append (pv 1) (pa_cons (pv 4) pa_nil)))))))
    (pss_cons (ps_if (pt_cmpR op_gt (pe_callB call_len_seq rfl T.f_len (by decide +kernel) (pa_cons (pv 0) pa_nil)) (pe_gl T.g_MOST_ROWS) (nomark _)) (pss_one (ps_raise rfl takesX (pmk_err (e_InvalidRows T) (raises_own (T.er_InvalidRows.xf.exC) T.ty_InvalidRows) (hr.mono (by decide)) (pa_cons (pe_gl T.g_MOST_ROWS) pa_nil) (by decide)))) pss_nil)
    (pss_one (ps_ret (pe_callTy call_tuple_of rfl T.f_tuple (by decide +kernel) (pa_cons (pv 1) pa_nil)))))))), ?_⟩
    walk_at "rd"
    refine iteD (fun h => absurd h (by intro h; have := V.int.inj h; omega)) (fun _ => ?_)
    walk_at "rd"
    intro D nD
    walk_at "rd"
    have ht' : SqT K (upd H D (.lst [])) t xs := SqT.of (upd_get nD ht)
    have wh : HT.sIx xs.length 0 none = 0 ∧ HT.sIx xs.length xs.length (some 10) = xs.length :=
      ⟨HT.sIx_none .., by rw [show (10 : Int) = ((10 : Nat) : Int) from rfl, HT.sIx_nat]; omega⟩
    refine ⟨fun _ => ?_, fun h => absurd wh h⟩
    walk_at "rd"
    refine forE (xs := xs) (fun i σ H' => Same H H' ∧ ∃ (as : List Addr) (rs : List RwT) (a b c : Option V), (∀ q ∈ rs, QOk q ∧ ∀ k ∈ q.2.goals, k < xs.length) ∧ σ = [some (.ref t), some (.ref D), a, b, c] ∧ xs.take i = rowsV rs ∧ H' D = some (.lst (as.map V.ref)) ∧ RowsIn K H' as rs)
      ⟨by walk_at "g but", [], [], none, none, none, (fun y hy => by simp at hy), rfl, rfl, upd_same, rfl, fun i a q h _ => by simp at h⟩ (fun i σ H' _ pv => SqT.of (pv.1 _ _ ht)) ?_ ?_
    · rintro i x σ H' T0 hx ⟨s', as, rs, a, b, c, okr, rfl, tk, hD, hi⟩ nT
      have all : ∀ y ∈ xs.take i, LineV y xs.length := fun y hy => by
        rw [tk] at hy
        obtain ⟨q, hq, rfl⟩ := List.mem_map.mp hy
        exact ⟨q, (okr q hq).1, rfl, (okr q hq).2⟩
      have xm := List.mem_of_getElem? hx
      obtain ⟨d, _, hdq⟩ := dqAll_at hd hx
      have li := (List.getElem?_eq_some_iff.mp hx).1
      have tk1 : xs.take (i + 1) = xs.take i ++ [x] := by rw [List.take_add_one, hx]; rfl
      have s1 : ∀ o, Same H (upd H' T0 o) := fun o => s'.trans ((Same.refl _).new nT)
      have s0 := s1 (.tup [.int (i : Int), x])
      have hdq1 := Dq.same s0 hdq
      have hD1 : upd H' T0 (.tup [.int (i : Int), x]) D = some (.lst (as.map V.ref)) := upd_get nT hD
      have hi1 := hi.same (show Same H' (upd H' T0 (.tup [.int (i : Int), x])) from (Same.refl _).new nT)
      walk_at "rd"
      refine ⟨d, rfl, hdq1, sb x xm, fun (q : RwT) ok ex H2 r s2 rin => ?_, fun no H2 s2 => ?_⟩
      · obtain ⟨dx, g, hr2, hg2⟩ := rin.row
        obtain ⟨g4, _⟩ := goals_ok ok.ok
        walk_at "rd"
        refine ⟨q.2, _, rfl, hr2, hg2, g4, fun H3 s3 => ?_⟩
        cases eb : q.2.goals.all fun k => decide ((k : Int) < ((xs.length : Nat) : Int)) with
        | true =>
          have hD3 : H3 D = some (.lst (as.map V.ref)) := s3 _ _ (s2 _ _ hD1)
          have s4 : Same H H3 := (s0.trans s2).trans s3
          have al : as.length = i := by
            have h1 := congrArg List.length tk
            rw [List.length_take, show (rowsV rs).length = rs.length from List.length_map .., ← hi.1] at h1
            omega
          walk_at "rd"
          refine ⟨.inl ⟨rfl, _, SqL.of hD3⟩, ?_⟩
          refine ⟨_, rfl, ?_⟩
          refine ⟨D, as.map V.ref, .ref r, rfl, rfl, hD3, by rw [List.length_map, al]; show i < 16777216; omega, ?_⟩
          refine ⟨L2.Same.own s4 nD, as ++ [r], rs ++ [q], _, _, _, fun y hy => ?_, rfl, ?_, by rw [upd_same, List.map_append]; rfl, ?_⟩
          · rcases List.mem_append.mp hy with hy | hy
            · exact okr y hy
            · rw [List.mem_singleton.mp hy]
              exact ⟨ok, fun k hk => by have := of_decide_eq_true (List.all_eq_true.mp eb k hk); omega⟩
          · rw [tk1, tk, ex]
            unfold rowsV
            rw [List.map_append]
            rfl
          · have hr3 := s3 _ _ hr2
            have hx2 : (V.str q.text) = x := ex.symm
            refine ((hi1.same (s2.trans s3)).lst hD3).snoc (RowIn.lst ⟨dx, g, ?_, hg2.same s3⟩ hD3)
            rw [hx2]
            exact hr3
        | false =>
          walk_at "rd"
          intro d2 H4 s4 hd4
          exact e i x hx (not_line ok ex eb) all d2 H4 (((s0.trans s2).trans s3).trans s4) hd4
      · walk_at "rd"
        intro d2 H4 s4 hd4
        exact e i x hx (fun ⟨q, ok, ex, _⟩ => no q ok ex) all d2 H4 ((s0.trans s2).trans s4) hd4
    · rintro σ H' ⟨s', as, rs, a, b, c, okr, rfl, tk, hD, hi⟩
      rw [List.take_of_length_le (Nat.le_refl _)] at tk
      walk_at "rd"
      refine iteD (fun h => absurd h (by omega)) (fun _ => ?_)
      walk_at "rd"
      have rl : rs.length = xs.length := by rw [tk]; exact (List.length_map ..).symm
      refine .inl ⟨SqL.of hD, fun l nl => q rs ⟨by omega, by omega, fun u hu => ⟨(okr u hu).1.ok, (okr u hu).1.lab, fun k hk => by have := (okr u hu).2 k hk; omega⟩⟩ tk _ l as (by walk_at "g but") upd_same ?_⟩
      exact hi.same ((Same.refl _).new nl)
theorem dqAll_strs {K : PySem.W.Frag} {H : Hp} : ∀ rs : List RwT, DqAll K H (rowsV rs) (rs.map fun q => PyData.str q.text)
  | [] => .nil
  | q :: rs => .cons (.str _) (dqAll_strs rs)
theorem RowsOk.qok {rs : List RwT} (h : RowsOk rs) {q : RwT} (hq : q ∈ rs) : QOk q := ⟨(h.ok q hq).1, (h.ok q hq).2.1⟩
theorem RowsOk.line {rs : List RwT} (h : RowsOk rs) {x : V} (hx : x ∈ rowsV rs) : LineV x rs.length := by
  obtain ⟨q, hq, rfl⟩ := List.mem_map.mp hx
  exact ⟨q, h.qok hq, rfl, (h.ok q hq).2.2⟩
theorem RowsOk.strB {rs : List RwT} (h : RowsOk rs) {x : V} (hx : x ∈ rowsV rs) : StrB x := by
  obtain ⟨q, hq, rfl⟩ := List.mem_map.mp hx
  intro z e
  rw [← V.str.inj e]
  have := rowText_len (h.qok hq).ok (h.qok hq).lab
  exact ⟨show (rowText q.1 q.2).length + 2 ≤ 100000 by omega, row_asc (h.qok hq)⟩
/-- rows as objects, of the same texts -/
theorem RowIn.text {H : Hp} {a : Addr} {q q' : RwT} (h : RowIn K H a q) (ok : QOk q) (ok' : QOk q') (e : q.text = q'.text) : RowIn K H a q' := by
  obtain ⟨dx, g, h1, h2⟩ := h
  obtain ⟨e1, _, e3⟩ := text_raw ok ok' e
  obtain ⟨f1, f2, f3, f4⟩ := raw_fields q.2
  obtain ⟨g1, g2, g3, g4⟩ := raw_fields q'.2
  have eg := text_goals ok ok' e
  refine ⟨dx, g, ?_, by rw [← eg]; exact h2⟩
  rw [h1, ← e, ← e1, ← eg, ← f1, ← f2, ← f3, ← g1, ← g2, ← g3, e3]
theorem spRows_X {vs : List V} {H : Hp} {Q : VK} {E : XK} (h : spRows K vs H Q E) : spRowsX K vs H Q fun _ _ _ => False := by
  obtain ⟨t, rs, rfl, ht, ok, q⟩ := h
  have rl : (rowsV rs).length = rs.length := List.length_map ..
  refine ⟨t, rowsV rs, _, rfl, ht, dqAll_strs rs, by rw [rl]; exact ok.one, by rw [rl]; exact ok.ten, fun x hx => ok.strB hx, fun rs' ok' e H' p as s hp hi => ?_, fun i x hx nl _ _ _ _ _ => ?_⟩
  · refine q H' p as s hp ⟨?_, fun i a u h1 h2 => ?_⟩
    · rw [hi.1, ← rl, e]
      exact (List.length_map ..).symm
    · have h3 : (rowsV rs)[i]? = some (.str u.text) := by
        unfold rowsV
        rw [List.getElem?_map, h2]
        rfl
      rw [e] at h3
      unfold rowsV at h3
      rw [List.getElem?_map] at h3
      obtain ⟨u', hu', eu⟩ := Option.map_eq_some_iff.mp h3
      exact (hi.2 i a u' h1 hu').text (ok'.qok (List.mem_of_getElem? hu')) (ok.qok (List.mem_of_getElem? h2)) (V.str.inj eu)
  · rw [rl] at nl
    exact nl (ok.line (List.mem_of_getElem? hx))
theorem ok_parsed_rows {f : Addr} {fd : FuncData} {dvs : List V} {kws : List (Str × V)} (T : Tx K mg)
    (F : FunD K "parsed_rows" "parsed_rows" (defArgs s_parsed_rows) (defBody s_parsed_rows) (defScope s_parsed_rows) dvs kws f fd) :
    FnOk P w K mg base CX0 5 f fd ["rows"] (spRows K) := FnOk.cx0 (ok_parsed_rowsX T F) fun _ _ _ _ h => spRows_X h
theorem c_parsed_rowsX (T : Tx K mg) : CalO P w K mg base (L2.CX P w) 5 "parsed_rows" [] (spRowsX K) := by
  obtain ⟨fd, F⟩ := T.d_parsed_rows
  exact .mk F (ok_parsed_rowsX T F) T.n_parsed_rows fun _ _ _ _ _ _ us hl => match us, hl with | [_], _ => rfl
end
end G
namespace G
open PySem PySem.Spec PyProof.Rows L2
section
variable {P : Program} {w : World} {K : PySem.W.Frag} {mg : Str → Option Value} {base : Heap} {CX : CXT}
/-! ### members -/
def MemAt (K : PySem.W.Frag) (H : Hp) (m : Addr) (ms : List Str) : Prop := H m = some (.tup (ms.map V.str)) ∨ (ms = [] ∧ ∀ H, SqT K H m [])
theorem MemAt.sq {H : Hp} {m : Addr} {ms : List Str} (h : MemAt K H m ms) : SqT K H m (ms.map V.str) := by
  rcases h with h | ⟨rfl, h⟩
  · exact SqT.of h
  · exact h H
theorem MemAt.same {H H' : Hp} {m : Addr} {ms : List Str} (h : MemAt K H m ms) (s : Same H H') : MemAt K H' m ms := by
  rcases h with h | h
  · exact .inl (s _ _ h)
  · exact .inr h
theorem MemAt.but {H H' : Hp} {m p C dx : Addr} {fs : List (Str × V)} {ms : List Str} (h : MemAt K H m ms) (hp : H p = some (.ins C dx fs)) (s : But p H H') : MemAt K H' m ms := by
  rcases h with h | h
  · exact .inl (s _ _ (ne_of h hp (by intro e; cases e)) h)
  · exact .inr h
structure MemOk (ms : List Str) : Prop where
  nm : ∀ z ∈ ms, Nm z
  nd : ms.Nodup
  few : ms.length ≤ 1000
theorem flat_strs (ms : List Str) : (ms.map V.str).all flatV = true := by
  rw [List.all_eq_true]
  intro x hx
  obtain ⟨k, _, rfl⟩ := List.mem_map.mp hx
  rfl
theorem inV_strs (z : Str) (ms : List Str) : inV (.str z) (ms.map V.str) = decide (z ∈ ms) := by
  unfold inV
  rw [List.any_map]
  have e : (ms.any ((fun y => eqV y (.str z)) ∘ V.str)) = ms.any fun y => decide (y = z) := List.any_congr rfl fun y => by
    show eqV (.str y) (.str z) = decide (y = z)
    by_cases e : y = z
    · subst e
      simp [eqV]
    · simp [eqV, e]
  rw [e]
  by_cases h : z ∈ ms
  · rw [decide_eq_true h, List.any_eq_true]
    exact ⟨z, h, by simp⟩
  · rw [decide_eq_false h, List.any_eq_false]
    intro y hy
    simp only [decide_eq_true_eq]
    intro e
    exact h (e ▸ hy)
def spMembers (K : PySem.W.Frag) : Sp := fun vs H Q _ => ∃ (m : Addr) (ms : List Str), vs = [.ref m] ∧ MemAt K H m ms ∧ MemOk ms ∧ ∀ H', Same H H' → Q .non H'
theorem ok_check_members {f : Addr} {fd : FuncData} {dvs : List V} {kws : List (Str × V)} (T : Tx K mg)
    (F : FunD K "check_members" "check_members" (defArgs s_check_members) (defBody s_check_members) (defScope s_check_members) dvs kws f fd) :
    FnOk P w K mg base CX0 2 f fd ["members"] (spMembers K) := by
  have c_is_name : CalO P w K mg base CX0 1 "is_name" [] (spIsName K) := c_is_name T
  refine F.ok sc_check_members (fun vs H Q E h => ?_) (fun cdv A outer s H vs Q E hr h => ?_)
  · obtain ⟨m, ms, rfl, _⟩ := h
    rfl
  · obtain ⟨m, ms, rfl, hm, ok, q⟩ := h
    have hu := hr.units
    have sq0 := hm.sq
    refine ⟨_, PSs.nox (pss_cons (ps_if (pt_not (pt_val (pe_callB call_isi rfl T.f_isinstance (by decide +kernel) (pa_cons (pv 0) (pa_cons (pe_bltn (v := .ty "tuple") (u := .type "tuple") rfl T.f_tuple (by decide +kernel) rfl) pa_nil))))) (pss_one ps_never) pss_nil)
    (pss_one (ps_for PassesOwn.never rfl (pi_enumT rfl T.f_enumerate (pa_cons (pv 0) pa_nil)) (pg_tup rfl (pgs_cons (pg_name (i := 1) sc_check_members.nd rfl (Or.inl rfl)) (pgs_cons (pg_name (i := 2) sc_check_members.nd rfl (Or.inl rfl)) pgs_nil)))
      (pss_one (ps_if (PW.pt (pw_or (pt_not (pt_val (pe_calO c_is_name (hr.mono (by decide)) pass0 (pa_cons (pv 2) pa_nil)))) (pw_or1 (pt_cmpR op_in_seq (pv 2) (pe_slice sl_tupA (pv 0) po_none (po_some (pv 1))) rfl)))) (pss_one ps_never) pss_nil))))), ?_⟩
    walk_at "rd"
    refine forE (xs := ms.map V.str) (fun i σ H' => Same H H' ∧ ∃ a b : Option V, σ = [some (.ref m), a, b]) ⟨.refl _, none, none, rfl⟩ (fun i σ H' _ pv => (hm.same pv.1).sq) ?_ (fun σ H' pv => q _ pv.1)
    rintro i x σ H1 T2 hx ⟨s1, a, b, rfl⟩ nT
    have lt := (List.getElem?_eq_some_iff.mp hx).1
    rw [List.length_map] at lt
    rw [List.getElem?_map, List.getElem?_eq_getElem lt] at hx
    obtain rfl := Option.some.inj hx
    have nz := ok.nm _ (List.getElem_mem lt)
    have zl : (ms[i]).length ≤ sizeLine := Nat.le_trans nz.2 (by decide)
    walk_at "rd"
    intro H2 s2
    rw [nz.1]
    have sq2 := (hm.same ((s1.new nT).trans s2)).sq
    walk_at "rd"
    refine ⟨fun h => absurd h.2 ?_, fun _ p np => ?_⟩
    · rw [HT.sIx_nat, List.length_map]
      omega
    have ni : inV (.str ms[i]) (cutV (ms.map V.str) none (some (i : Int))) = false := by
      rw [cut_take, ← List.map_take, inV_strs]
      refine decide_eq_false fun h => ?_
      obtain ⟨j, hj, e⟩ := List.mem_take_iff_getElem.mp h
      exact List.pairwise_iff_getElem.mp ok.nd j i (by omega) lt (by omega) e
    have fl : True → (cutV (ms.map V.str) none (some (i : Int))).all flatV = true := by
      intro _
      rw [cut_take, ← List.map_take]
      exact flat_strs _
    walk_at "rd"
    refine ⟨fl trivial, ?_⟩
    rw [ni]
    walk_at "rd"
    exact ⟨by walk_at "g but", _, _, rfl⟩
theorem c_check_members (T : Tx K mg) : CalO P w K mg base CX0 2 "check_members" [] (spMembers K) := by
  obtain ⟨fd, F⟩ := T.d_check_members
  exact .mk F (ok_check_members T F) T.n_check_members fun _ _ _ _ _ _ us hl => match us, hl with | [_], _ => rfl
end
end G
namespace G
open PySem PySem.Spec PyProof.Rows L2
section
variable {P : Program} {w : World} {K : PySem.W.Frag} {mg : Str → Option Value} {base : Heap} {CX : CXT}
/-! ### kinds -/
abbrev cK (K : PySem.W.Frag) : Addr := He.ga K "Kind"
abbrev kindMe (K : PySem.W.Frag) : V := .ref (kwdAt ("Kind", some "__init__") "members" K)
abbrev kindF (n : Str) (t pr : Addr) (b : Bool) (m : Addr) : List (Str × V) := [("called", .str n), ("texts", .ref t), ("parsed", .ref pr), ("any_number", .bl b), ("begun", .ref m)]
theorem RowIn.but {H H' : Hp} {a p C dx : Addr} {q : RwT} (h : RowIn K H a q) (hp : H p = some (.ins C dx [])) (s : But p H H') : RowIn K H' a q := by
  obtain ⟨d, g, e, go⟩ := h
  exact ⟨d, g, s _ _ (ne_of e hp (by intro e; cases e)) e, go.but hp s⟩
theorem RowsIn.but {H H' : Hp} {as : List Addr} {rs : List RwT} {p C dx : Addr} (h : RowsIn K H as rs) (hp : H p = some (.ins C dx [])) (s : But p H H') : RowsIn K H' as rs :=
  ⟨h.1, fun i a q h1 h2 => (h.2 i a q h1 h2).but hp s⟩
def spKind (K : PySem.W.Frag) : Sp := fun vs H Q _ => ∃ (p dx t m : Addr) (n : Str) (b : Bool) (rs : List RwT) (ms : List Str), vs = [.ref p, .str n, .ref t, .bl b, .ref m] ∧
  H p = some (.ins (cK K) dx []) ∧ Nm n ∧ H t = some (.tup (rowsV rs)) ∧ RowsOk rs ∧ MemAt K H m ms ∧ MemOk ms ∧
  ∀ H' pr as, But p H H' → H' p = some (.ins (cK K) dx (kindF n t pr b m)) → H' pr = some (.tup (as.map V.ref)) → RowsIn K H' as rs → Q .non H'
/-- a kind by any rows -/
def spKindX (K : PySem.W.Frag) : Sp := fun vs H Q E => ∃ (p dx t m : Addr) (n : Str) (b : Bool) (xs : List V) (ds : List PyData) (ms : List Str), vs = [.ref p, .str n, .ref t, .bl b, .ref m] ∧
  H p = some (.ins (cK K) dx []) ∧ Nm n ∧ H t = some (.tup xs) ∧ DqAll K H xs ds ∧ 1 ≤ xs.length ∧ xs.length ≤ 10 ∧ (∀ x ∈ xs, StrB x) ∧ MemAt K H m ms ∧ MemOk ms ∧
  (∀ rs, RowsOk rs → xs = rowsV rs → ∀ H' pr as, But p H H' → H' p = some (.ins (cK K) dx (kindF n t pr b m)) → H' pr = some (.tup (as.map V.ref)) → RowsIn K H' as rs → Q .non H') ∧
  (∀ (i : Nat) (x : V), xs[i]? = some x → ¬ LineV x xs.length → (∀ y ∈ xs.take i, LineV y xs.length) → ∀ d H', Same H H' → H' d = some (.xd (gF1 "index" [.int (i : Int)])) → E (.ref (He.ga K "InvalidRows")) (some d) H')
theorem ok_KindX {f : Addr} {fd : FuncData} {dvs : List V} {kws : List (Str × V)} (T : Tx K mg)
    (F : FunD K "__init__" "Kind.__init__" (defArgs s_Kind___init__) (defBody s_Kind___init__) (defScope s_Kind___init__) dvs kws f fd) :
    FnOk P w K mg base (L2.CX P w) 6 f fd ["self", "name", "rows", "many", "members"] (spKindX K) := by
  have c_is_name : CalO P w K mg base CX0 1 "is_name" [] (spIsName K) := c_is_name T
  have c_parsed_rows : CalO P w K mg base (L2.CX P w) 5 "parsed_rows" [] (spRowsX K) := c_parsed_rowsX T
  have c_check_members : CalO P w K mg base CX0 2 "check_members" [] (spMembers K) := c_check_members T
  refine F.ok sc_Kind___init__ (fun vs H Q E h => ?_) (fun cdv A outer s H vs Q E hr h => ?_)
  · obtain ⟨p, dx, t, m, n, b, xs, ds, ms, rfl, _⟩ := h
    rfl
  · obtain ⟨p, dx, t, m, n, b, xs, ds, ms, rfl, hp, nn, ht, hd, o1, o2, sb, hm, mo, q, e⟩ := h
    have cl := T.c_Kind
    have n1 := T.na_Kind_called
    have n2 := T.na_Kind_texts
    have n3 := T.na_Kind_parsed
    have n4 := T.na_Kind_any_number
    have n5 := T.na_Kind_begun
    have nl : n.length ≤ sizeLine := Nat.le_trans nn.2 (by decide)
    refine ⟨_, (pss_cons (ps_if (pt_not (pt_val (pe_calO c_is_name (hr.mono (by decide)) pass0 (pa_cons (pv 1) pa_nil)))) (pss_one (ps_raise rfl takesX (pmk_err (e_InvalidName T) (raises_own (T.er_InvalidName.xf.exC) T.ty_InvalidName) (hr.mono (by decide)) (pa_cons (pv 1) pa_nil) (by decide)))) pss_nil)
    (pss_cons (ps_asg (pe_tup (pa_cons (pv 1) (pa_cons (pv 2) (pa_cons (pe_calO c_parsed_rows (hr.mono (by decide)) passX (pa_cons (pv 2) pa_nil)) pa_nil)))) (pg_tup rfl (pgs_cons (pg_attr (pv 0)) (pgs_cons (pg_attr (pv 0)) (pgs_cons (pg_attr (pv 0)) pgs_nil)))))
    (pss_cons (ps_if (PW.pt (pw_and (pt_cmpR op_notBl (pv 3) pe_bl (nomark _)) (pw_and1 (pt_cmpR op_notBl (pv 3) pe_bl (nomark _))))) (pss_one (ps_raise rfl takesX (pmk_err (e_InvalidFlag T) (raises_own (T.er_InvalidFlag.xf.exC) T.ty_InvalidFlag) (hr.mono (by decide)) (pa_cons (pv 3) pa_nil) (by decide)))) pss_nil)
    (pss_cons (ps_expr (pe_calO c_check_members (hr.mono (by decide)) pass0 (pa_cons (pv 4) pa_nil)))
    (pss_one (ps_asg (pe_tup (pa_cons (pv 3) (pa_cons (pv 4) pa_nil))) (pg_tup rfl (pgs_cons (pg_attr (pv 0)) (pgs_cons (pg_attr (pv 0)) pgs_nil))))))))), ?_⟩
    walk_at "rd"
    intro H1 s1
    rw [nn.1]
    have ht1 := s1 _ _ ht
    walk_at "rd"
    refine ⟨ds, rfl, ht1, dqAll_same s1 hd, o1, o2, sb, fun rs ro ers H2 pr as s2 hpr hrs => ?_, fun i x hx nlx all d H2 s2 hd2 => e i x hx nlx all d H2 (s1.trans s2) hd2⟩
    have hp2 : H2 p = some (.ins (cK K) dx []) := s2 _ _ (s1 _ _ hp)
    have hm2 := hm.same (s1.trans s2)
    walk_at "rd"
    intro t1 nt1
    walk_at "rd"
    have hm3 : ∀ H', But p H2 H' → MemAt K H' m ms := fun H' s => hm2.but hp2 s
    cases b
    all_goals
      walk_at "rd"
      refine ⟨hm3 _ (by walk_at "g but"), mo, fun H3 s3 => ?_⟩
      walk_at "rd"
      intro t2 nt2
      walk_at "rd"
      refine q rs ro ers _ pr as (by walk_at "g but") upd_same ?_ ?_
      · exact (show But p H2 _ by walk_at "g but") _ _ (ne_of hpr hp2 (by intro e; cases e)) hpr
      · exact hrs.but hp2 (by walk_at "g but")
theorem spKind_X {vs : List V} {H : Hp} {Q : VK} {E : XK} (h : spKind K vs H Q E) : spKindX K vs H Q fun _ _ _ => False := by
  obtain ⟨p, dx, t, m, n, b, rs, ms, rfl, hp, nn, ht, ok, hm, mo, q⟩ := h
  have rl : (rowsV rs).length = rs.length := List.length_map ..
  refine ⟨p, dx, t, m, n, b, rowsV rs, _, ms, rfl, hp, nn, ht, dqAll_strs rs, by rw [rl]; exact ok.one, by rw [rl]; exact ok.ten, fun x hx => ok.strB hx, hm, mo, fun rs' ok' e H' pr as s h1 h2 hi => ?_, fun i x hx nl _ _ _ _ _ => ?_⟩
  · refine q H' pr as s h1 h2 ⟨?_, fun i a u h1 h2 => ?_⟩
    · rw [hi.1, ← rl, e]
      exact (List.length_map ..).symm
    · have h3 : (rowsV rs)[i]? = some (.str u.text) := by
        unfold rowsV
        rw [List.getElem?_map, h2]
        rfl
      rw [e] at h3
      unfold rowsV at h3
      rw [List.getElem?_map] at h3
      obtain ⟨u', hu', eu⟩ := Option.map_eq_some_iff.mp h3
      exact (hi.2 i a u' h1 hu').text (ok'.qok (List.mem_of_getElem? hu')) (ok.qok (List.mem_of_getElem? h2)) (V.str.inj eu)
  · rw [rl] at nl
    exact nl (ok.line (List.mem_of_getElem? hx))
theorem ok_Kind {f : Addr} {fd : FuncData} {dvs : List V} {kws : List (Str × V)} (T : Tx K mg)
    (F : FunD K "__init__" "Kind.__init__" (defArgs s_Kind___init__) (defBody s_Kind___init__) (defScope s_Kind___init__) dvs kws f fd) :
    FnOk P w K mg base CX0 6 f fd ["self", "name", "rows", "many", "members"] (spKind K) := FnOk.cx0 (ok_KindX T F) fun _ _ _ _ h => spKind_X h
/-! ### constructors of kinds -/
theorem c_Kind_2 (T : Tx K mg) : CalC P w K mg base CX0 6 "Kind" (cK K) [.bl false, kindMe K] (spKind K) := by
  obtain ⟨fd, F⟩ := T.d_Kind___init__
  obtain ⟨ds, rd, hb⟩ := F.binds0 (ps := ["self", "name", "rows", "many", "members"]) 3 (fun h => absurd (show 2 = 0 from congrArg List.length h) (by decide)) rfl (fun D doc pm an cdv ct us ks l1 l2 => match us, ks, l1, l2 with
    | [_, _, _], [_, _], _, _ => ⟨_, _, _, _, _, _, rfl, rfl, _, _, _, _, _, _, rfl, rfl, rfl⟩)
  obtain ⟨u, hm, ru⟩ := T.g_Kind
  obtain rfl : u = Value.ref (cK K) := ru
  exact ⟨_, fd, _, ds, T.mk_Kind, ok_Kind T F, hm, hb, rd⟩
/-- members, many, rows, name: in the parameters' order -/
def gRev {α : Type} (us mv ws : List α) : List α := us ++ (ws.drop 3 ++ ((ws.drop 2).take 1 ++ ((ws.drop 1).take 1 ++ ws.take 1)))
/-- rows, name, members -/
def gRNM {α : Type} (us mv ws : List α) : List α := us ++ ((ws.drop 1).take 1 ++ (ws.take 1 ++ (mv ++ ws.drop 2)))
theorem c_Kind_2_many_members (T : Tx K mg) : CalN P w K mg base CX0 6 "Kind" (cK K) 2 ["many", "members"] (fun vs zs => gWM vs [] zs) (spKind K) := by
  obtain ⟨fd, F⟩ := T.d_Kind___init__
  obtain ⟨mv, hb⟩ := F.kbinds0 (ps := ["self", "name", "rows", "many", "members"]) 3 ["many", "members"] [] gWM (fun h => absurd (show 2 = 0 from congrArg List.length h) (by decide))
    (fun q hq => nomatch hq)
    (fun r1 r2 r3 => vals_app r1 (vals_app r3 r2)) (fun D doc pm an cdv ct us mv ws l1 l2 l3 => match us, mv, ws, l1, l2, l3 with
    | [_, _, _], [], [_, _], _, _, _ => rfl)
  obtain ⟨u, hm, ru⟩ := T.g_Kind
  obtain rfl : u = Value.ref (cK K) := ru
  exact ⟨_, fd, _, _, T.mk_Kind, ok_Kind T F, hm, hb⟩
theorem c_Kind_2_many (T : Tx K mg) : CalN P w K mg base CX0 6 "Kind" (cK K) 2 ["many"] (fun vs zs => gWM vs [kindMe K] zs) (spKind K) := by
  obtain ⟨fd, F⟩ := T.d_Kind___init__
  obtain ⟨mv, hb⟩ := F.kbinds0 (ps := ["self", "name", "rows", "many", "members"]) 3 ["many"] [("members", kindMe K)] gWM (fun h => absurd (show 2 = 0 from congrArg List.length h) (by decide))
    (fun q hq => List.mem_singleton.mp hq ▸ .tail _ (.head _))
    (fun r1 r2 r3 => vals_app r1 (vals_app r3 r2)) (fun D doc pm an cdv ct us mv ws l1 l2 l3 => match us, mv, ws, l1, l2, l3 with
    | [_, _, _], [_], [_], _, _, _ => ⟨_, _, _, _, _, _, rfl, rfl, rfl⟩)
  obtain ⟨u, hm, ru⟩ := T.g_Kind
  obtain rfl : u = Value.ref (cK K) := ru
  exact ⟨_, fd, _, _, T.mk_Kind, ok_Kind T F, hm, hb⟩
theorem c_Kind_0_members_many_rows_name (T : Tx K mg) : CalN P w K mg base CX0 6 "Kind" (cK K) 0 ["members", "many", "rows", "name"] (fun vs zs => gRev vs [] zs) (spKind K) := by
  obtain ⟨fd, F⟩ := T.d_Kind___init__
  obtain ⟨mv, hb⟩ := F.kbinds0 (ps := ["self", "name", "rows", "many", "members"]) 1 ["members", "many", "rows", "name"] [] gRev (fun h => absurd (show 2 = 0 from congrArg List.length h) (by decide))
    (fun q hq => nomatch hq)
    (fun r1 r2 r3 => vals_app r1 (vals_app (vals_drop 3 r3) (vals_app (vals_take 1 (vals_drop 2 r3)) (vals_app (vals_take 1 (vals_drop 1 r3)) (vals_take 1 r3))))) (fun D doc pm an cdv ct us mv ws l1 l2 l3 => match us, mv, ws, l1, l2, l3 with
    | [_], [], [_, _, _, _], _, _, _ => rfl)
  obtain ⟨u, hm, ru⟩ := T.g_Kind
  obtain rfl : u = Value.ref (cK K) := ru
  exact ⟨_, fd, _, _, T.mk_Kind, ok_Kind T F, hm, hb⟩
theorem c_Kind_0_rows_name_members (T : Tx K mg) : CalN P w K mg base CX0 6 "Kind" (cK K) 0 ["rows", "name", "members"] (fun vs zs => gRNM vs [.bl false] zs) (spKind K) := by
  obtain ⟨fd, F⟩ := T.d_Kind___init__
  obtain ⟨mv, hb⟩ := F.kbinds0 (ps := ["self", "name", "rows", "many", "members"]) 1 ["rows", "name", "members"] [("many", .bl false)] gRNM (fun h => absurd (show 2 = 0 from congrArg List.length h) (by decide))
    (fun q hq => List.mem_singleton.mp hq ▸ .head _)
    (fun r1 r2 r3 => vals_app r1 (vals_app (vals_take 1 (vals_drop 1 r3)) (vals_app (vals_take 1 r3) (vals_app r2 (vals_drop 2 r3))))) (fun D doc pm an cdv ct us mv ws l1 l2 l3 => match us, mv, ws, l1, l2, l3 with
    | [_], [_], [_, _, _], _, _, _ => ⟨_, _, _, _, _, _, rfl, rfl, rfl⟩)
  obtain ⟨u, hm, ru⟩ := T.g_Kind
  obtain rfl : u = Value.ref (cK K) := ru
  exact ⟨_, fd, _, _, T.mk_Kind, ok_Kind T F, hm, hb⟩
end
end G
namespace G
open PySem PySem.Spec PyProof.Rows L2
/-! ### texts in a tuple, compared -/
def strsD (l : List Str) : PyData := .tuple (l.map PyData.str)
def strsOk (l : List Str) : Prop := ∀ z ∈ l, PyData.strOk z = true
theorem strs_lay : ∀ l : List Str, strsOk l → PyData.canLayAll0 (l.map PyData.str) = true
  | [], _ => by simp only [List.map_nil, PyData.canLayAll0]
  | z :: l, h => by
    simp only [List.map_cons, PyData.canLayAll0, PyData.canLay0, Bool.and_eq_true]
    exact ⟨h z List.mem_cons_self, strs_lay l fun y hy => h y (List.mem_cons_of_mem _ hy)⟩
theorem strs_depth : ∀ l : List Str, PyData.depthAll (l.map PyData.str) = 0
  | [] => by simp only [List.map_nil, PyData.depthAll]
  | z :: l => by
    simp only [List.map_cons, PyData.depthAll, PyData.depth, strs_depth l]
    rfl
theorem strs_shaped {l : List Str} (h : strsOk l) : SeqAt.shaped (strsD l) = true := by
  unfold SeqAt.shaped strsD
  simp only [PyData.canLay0, PyData.depth, strs_lay l h, strs_depth l, Bool.true_and]
  decide
/-! ### all that a kind holds is plain -/
theorem strOk_of {z : Str} (h : ∀ c ∈ z.cps.toList, c < 128) : PyData.strOk z = true := by
  unfold PyData.strOk
  rw [← Array.all_toList, List.all_eq_true]
  intro c hc
  have := h c hc
  simp only [decide_eq_true_eq]
  omega
theorem sign_128 {c : Nat} (h : isSign c = true) : c < 128 := by
  have a : ∀ c ∈ signsS.cps.toList, c < 128 := by decide +kernel
  exact a c (of_decide_eq_true h)
theorem nm_ok {z : Str} (h : Nm z) : PyData.strOk z = true := strOk_of fun c hc => sign_128 (nm_plain h c hc)
theorem rwText_128 {r : RW} (h : r.Ok) : ∀ c ∈ (rwText r).cps.toList, c < 128 := by
  rw [rwText_list]
  intro c hm
  rcases joinL_mem hm with h1 | ⟨p, hp, h1⟩
  · rw [List.mem_singleton.mp h1]
    decide
  · obtain ⟨z, hz, rfl⟩ := List.mem_map.mp hp
    exact sign_128 ((words_plain h z hz).1 c h1)
theorem rowText_ok {q : RwT} (h : q.2.Ok) (hl : ∀ z, q.1 = some z → Nm z) : PyData.strOk q.text = true := by
  refine strOk_of fun c hc => ?_
  obtain ⟨l, r⟩ := q
  cases l with
  | none => exact rwText_128 h c hc
  | some z =>
    have e : (RwT.text (some z, r)).cps.toList = z.cps.toList ++ (Str.ofString ": ").cps.toList ++ (rwText r).cps.toList := by
      show (z ++ Str.ofString ": " ++ rwText r).cps.toList = _
      rw [cat_list, cat_list]
    rw [e] at hc
    rcases List.mem_append.mp hc with hc | hc
    · rcases List.mem_append.mp hc with hc | hc
      · exact sign_128 (nm_plain (hl z rfl) c hc)
      · have a : ∀ c ∈ (Str.ofString ": ").cps.toList, c < 128 := by decide +kernel
        exact a c hc
    · exact rwText_128 h c hc
theorem strs_eqv : ∀ l m : List Str, PyData.eqv (strsD l) (strsD m) = decide (l = m)
  | [], [] => rfl
  | [], _ :: _ => rfl
  | _ :: _, [] => rfl
  | x :: l, y :: m => by
    have ih := strs_eqv l m
    show (PyData.eqv (.str x) (.str y) && PyData.eqv (strsD l) (strsD m)) = _
    rw [ih]
    have e : PyData.eqv (.str x) (.str y) = decide (x = y) := by
      show (x == y) = decide (x = y)
      by_cases h : x = y
      · subst h; simp
      · simp [h]
    rw [e]
    by_cases h1 : x = y <;> by_cases h2 : l = m <;> simp [h1, h2]
theorem strs_dpAll {K : PySem.W.Frag} {H : Hp} : ∀ l : List Str, DpAll K H (l.map V.str) (l.map PyData.str)
  | [] => .nil
  | z :: l => .cons (.str z) (strs_dpAll l)
theorem strs_dp {K : PySem.W.Frag} {H : Hp} {a : Addr} {l : List Str} (h : SqT K H a (l.map V.str)) : Dp K H (.ref a) (strsD l) := .tup h (strs_dpAll l)
structure KindT where
  n : Str
  rs : List RwT
  b : Bool
  ms : List Str
def texts (rs : List RwT) : List Str := rs.map RwT.text
theorem rowsV_texts (rs : List RwT) : rowsV rs = (texts rs).map V.str := by
  unfold rowsV texts
  rw [List.map_map]
  rfl
structure KindOk (k : KindT) : Prop where
  nm : Nm k.n
  ro : RowsOk k.rs
  mo : MemOk k.ms
theorem texts_ok {rs : List RwT} (h : RowsOk rs) : strsOk (texts rs) := by
  intro z hz
  obtain ⟨q, hq, rfl⟩ := List.mem_map.mp hz
  obtain ⟨h1, h2, _⟩ := h.ok q hq
  exact rowText_ok h1 h2
def kEq (k k' : KindT) : Bool := decide (k.n = k'.n) && decide (texts k.rs = texts k'.rs) && decide (k.b = k'.b) && decide (k.ms = k'.ms)
section
variable {P : Program} {w : World} {K : PySem.W.Frag} {mg : Str → Option Value} {base : Heap} {CX : CXT}
/-- a kind stands at a -/
def KindAt (K : PySem.W.Frag) (H : Hp) (a : Addr) (k : KindT) : Prop := KindOk k ∧ ∃ (dx t pr m : Addr) (as : List Addr), H a = some (.ins (cK K) dx (kindF k.n t pr k.b m)) ∧
  H t = some (.tup (rowsV k.rs)) ∧ MemAt K H m k.ms ∧ H pr = some (.tup (as.map V.ref)) ∧ RowsIn K H as k.rs
theorem KindAt.same {H H' : Hp} {a : Addr} {k : KindT} (h : KindAt K H a k) (s : Same H H') : KindAt K H' a k := by
  obtain ⟨ok, dx, t, pr, m, as, h1, h2, h3, h4, h5⟩ := h
  exact ⟨ok, dx, t, pr, m, as, s _ _ h1, s _ _ h2, h3.same s, s _ _ h4, h5.same s⟩
def spKindEq (K : PySem.W.Frag) : Sp := fun vs H Q _ => ∃ (a : Addr) (k : KindT) (y : V), vs = [.ref a, y] ∧ KindAt K H a k ∧
  ((∃ (b : Addr) (k' : KindT), y = .ref b ∧ KindAt K H b k' ∧ Q (.bl (kEq k k')) H) ∨ (∃ t, TyX K H y t ∧ PySem.W.kitOne K t (.ref (cK K)) = some false ∧ Q (.bl false) H))
theorem ok_Kind_eq {f : Addr} {fd : FuncData} {dvs : List V} {kws : List (Str × V)} (T : Tx K mg)
    (F : FunD K "__eq__" "Kind.__eq__" (defArgs s_Kind___eq__) (defBody s_Kind___eq__) (defScope s_Kind___eq__) dvs kws f fd) :
    FnOk P w K mg base CX 1 f fd ["self", "other"] (spKindEq K) := by
  refine F.ok sc_Kind___eq__ (fun vs H Q E h => ?_) (fun cdv A outer s H vs Q E hr h => ?_)
  · obtain ⟨a, k, y, rfl, _⟩ := h
    rfl
  · obtain ⟨a, k, y, rfl, ⟨ok, dx, t, pr, m, as, h1, h2, h3, _⟩, h⟩ := h
    have hu := hr.units
    have cl := T.c_Kind
    have ci := T.i_Kind
    have n1 := T.na_Kind_called
    have n2 := T.na_Kind_texts
    have n4 := T.na_Kind_any_number
    have n5 := T.na_Kind_begun
    have me := ci.me
    refine ⟨_, PSs.nox (pss_cons (ps_if (PW.pt (pw_or (pt_not (pt_val (pe_callB call_isi rfl T.f_isinstance (by decide +kernel) (pa_cons (pv 1) (pa_cons (pe_gl T.g_Kind) pa_nil))))) (pw_or (pt_cmpR op_ne (pe_fld (pv 0) rfl) (pe_fld (pv 1) rfl) (nomark _)) (pw_or1 (pt_cmpR (op_neD hu) (pe_fld (pv 0) rfl) (pe_fld (pv 1) rfl) (nomark _)))))) (pss_one (ps_ret pe_bl)) pss_nil)
    (pss_one (ps_ret (pe_and (pe_cmpR op_eq (pe_fld (pv 0) rfl) (pe_fld (pv 1) rfl) (nomark _)) (pe_one (pe_cmpR (op_eqD hu) (pe_fld (pv 0) rfl) (pe_fld (pv 1) rfl) (nomark _))))))), ?_⟩
    rcases h with ⟨b, k', rfl, ⟨ok', dx', t', pr', m', as', e1, e2, e3, _⟩, q⟩ | ⟨ty', ty, ek, q⟩
    · have ty : TyX K H (.ref b) (.ref (cK K)) := .base (ci.ty cl e1)
      have d1 : Dp K H (.ref t) (strsD (texts k.rs)) := strs_dp (by rw [← rowsV_texts]; exact SqT.of h2)
      have d2 : Dp K H (.ref t') (strsD (texts k'.rs)) := strs_dp (by rw [← rowsV_texts]; exact SqT.of e2)
      have d3 : Dp K H (.ref m) (strsD k.ms) := strs_dp h3.sq
      have d4 : Dp K H (.ref m') (strsD k'.ms) := strs_dp e3.sq
      walk_at "rd"
      refine iteND (fun g1 => ?_) (fun g1 => ?_)
      · refine ret_eq q ?_
        have e : ¬ k.n = k'.n := fun z => g1 (by rw [z])
        unfold kEq
        rw [decide_eq_false e, Bool.false_and, Bool.false_and, Bool.false_and]
      have f1 : k.n = k'.n := V.str.inj g1
      walk_at "rd"
      refine ⟨_, _, d1, d2, strs_shaped (texts_ok ok.ro), strs_shaped (texts_ok ok'.ro), ?_⟩
      rw [strs_eqv]
      walk_at "rd"
      refine iteND (fun g2 => ?_) (fun g2 => ?_)
      · refine ret_eq q ?_
        unfold kEq
        rw [decide_eq_false g2, Bool.and_false, Bool.false_and, Bool.false_and]
      walk_at "rd"
      refine iteD (fun g3 => ?_) (fun g3 => ?_)
      · have f3 : k.b = k'.b := V.bl.inj g3
        walk_at "rd"
        refine ⟨_, _, d3, d4, strs_shaped (fun z hz => nm_ok (ok.mo.nm z hz)), strs_shaped (fun z hz => nm_ok (ok'.mo.nm z hz)), ?_⟩
        rw [strs_eqv]
        refine ret_eq q ?_
        unfold kEq
        rw [decide_eq_true f1, decide_eq_true g2, decide_eq_true f3, Bool.true_and, Bool.true_and, Bool.true_and]
      · refine ret_eq q ?_
        have e : ¬ k.b = k'.b := fun z => g3 (by rw [z])
        unfold kEq
        rw [decide_eq_false e, Bool.and_false, Bool.false_and]
    · walk_at "rd"
      exact q
def spKindLen (K : PySem.W.Frag) : Sp := fun vs H Q _ => ∃ (a : Addr) (k : KindT), vs = [.ref a] ∧ KindAt K H a k ∧ Q (.int ((k.rs.length : Nat) : Int)) H
theorem ok_Kind_len {f : Addr} {fd : FuncData} {dvs : List V} {kws : List (Str × V)} (T : Tx K mg)
    (F : FunD K "__len__" "Kind.__len__" (defArgs s_Kind___len__) (defBody s_Kind___len__) (defScope s_Kind___len__) dvs kws f fd) :
    FnOk P w K mg base CX 1 f fd ["self"] (spKindLen K) := by
  refine F.ok sc_Kind___len__ (fun vs H Q E h => ?_) (fun cdv A outer s H vs Q E hr h => ?_)
  · obtain ⟨a, k, rfl, _⟩ := h
    rfl
  · obtain ⟨a, k, rfl, ⟨ok, dx, t, pr, m, as, h1, h2, h3, _⟩, q⟩ := h
    have cl := T.c_Kind
    have n2 := T.na_Kind_texts
    refine ⟨_, PSs.nox (pss_one (ps_ret (pe_callB call_len_seq rfl T.f_len (by decide +kernel) (pa_cons (pe_fld (pv 0) rfl) pa_nil)))), ?_⟩
    walk_at "rd"
    refine ret_eq q ?_
    rw [rowsV, List.length_map]
/-- ==, truth and len of kinds: all that they want -/
theorem eqK (T : Tx K mg) : ∃ f fd ps, EqC K (cK K) f ∧ FnOk P w K mg base CX 1 f fd ps (spKindEq K) ∧ Binds K fd ps [] := by
  obtain ⟨fd, F⟩ := T.d_Kind___eq__
  exact ⟨_, fd, _, T.e_Kind, ok_Kind_eq T F, F.bindsN fun _ _ _ _ _ _ us hl => match us, hl with | [_, _], _ => rfl⟩
theorem lenK (T : Tx K mg) : ∃ f fd ps, (PySem.W.findIn K (.ref (cK K)) "__len__" = some (some (.ref f)) ∧ PySem.W.isFn K (.ref f) = true) ∧ FnOk P w K mg base CX 1 f fd ps (spKindLen K) ∧ Binds K fd ps [] := by
  obtain ⟨fd, F⟩ := T.d_Kind___len__
  exact ⟨_, fd, _, T.l_Kind, ok_Kind_len T F, F.bindsN fun _ _ _ _ _ _ us hl => match us, hl with | [_], _ => rfl⟩
end
end G
namespace G
open PySem PySem.Spec PyProof.Rows L2
/-! ### a name that is not taken -/
def spareS : List Str := ["a", "b", "c", "d", "e", "f", "g", "h", "i", "j", "k"]
theorem pigeon {α : Type} [DecidableEq α] : ∀ {l m : List α}, l.Nodup → (∀ x ∈ l, x ∈ m) → l.length ≤ m.length
  | [], _, _, _ => Nat.zero_le _
  | x :: l, m, nd, h => by
    have hx := h x List.mem_cons_self
    have nd' := List.nodup_cons.mp nd
    have ih := pigeon (l := l) (m := m.erase x) nd'.2 fun y hy => (List.mem_erase_of_ne (by rintro rfl; exact nd'.1 hy)).mpr (h y (List.mem_cons_of_mem _ hy))
    rw [List.length_erase_of_mem hx] at ih
    have := List.length_pos_of_mem hx
    rw [List.length_cons]
    omega
theorem spare_nm : ∀ z ∈ spareS, Nm z := by
  have a : spareS.all (fun z => isNameS z && decide (z.length ≤ 8)) = true := by decide +kernel
  intro z hz
  obtain ⟨h1, h2⟩ := Bool.and_eq_true_iff.mp (List.all_eq_true.mp a z hz)
  exact ⟨h1, of_decide_eq_true h2⟩
theorem spare_some {ms : List Str} (h : ms.length ≤ 10) : ∃ z r, spareS.filter (fun y => !decide (y ∈ ms)) = z :: r ∧ z ∈ spareS ∧ z ∉ ms := by
  cases e : spareS.filter (fun y => !decide (y ∈ ms)) with
  | nil =>
    have a := List.filter_eq_nil_iff.mp e
    have : spareS.length ≤ ms.length := pigeon (by decide +kernel) fun x hx => by
      have := a x hx
      simpa using this
    have : spareS.length = 11 := rfl
    omega
  | cons z r =>
    have hz : z ∈ spareS.filter (fun y => !decide (y ∈ ms)) := by rw [e]; exact List.mem_cons_self
    obtain ⟨h1, h2⟩ := List.mem_filter.mp hz
    exact ⟨z, r, rfl, h1, by simpa using h2⟩
/-! ### lines as they are put together -/
def mkS : Option Str → Str
  | none => Str.ofString ""
  | some z => z ++ Str.ofString ": "
theorem rowText_list (l : Option Str) (r : RW) : TL.tl (rowText l r) = TL.tl (mkS l) ++ TL.tl (rwText r) := by
  cases l with
  | none => rfl
  | some z =>
    show TL.tl (z ++ Str.ofString ": " ++ rwText r) = _
    rw [TL.tl_append]
    rfl
theorem rw_list (r : RW) : TL.tl (rwText r) = TL.joinL [32] (r.words.map TL.tl) := rwText_list r
theorem line_one (l : Option Str) {w w' g : Str} (e : TL.tl w' = TL.tl w ++ [32]) : mkS l ++ w' ++ g = rowText l (.one w g) := by
  refine TL.ext_tl ?_
  rw [rowText_list, rw_list, TL.tl_append, TL.tl_append, e]
  show _ = _ ++ (TL.tl w ++ ([32] ++ TL.tl g))
  simp only [List.append_assoc]
theorem line_arr (l : Option Str) (g : Str) (d : Nat) : mkS l ++ Str.ofString "arrive " ++ g ++ Str.ofString " " ++ digS d = rowText l (.arr g d) := by
  refine TL.ext_tl ?_
  rw [rowText_list, rw_list, TL.tl_append, TL.tl_append, TL.tl_append, TL.tl_append, show TL.tl (Str.ofString "arrive ") = TL.tl (Str.ofString "arrive") ++ [32] from by decide +kernel,
    show TL.tl (Str.ofString " ") = [32] from by decide +kernel]
  show _ = _ ++ (TL.tl (Str.ofString "arrive") ++ ([32] ++ (TL.tl g ++ ([32] ++ TL.tl (digS d)))))
  simp only [List.append_assoc]
theorem line_wai (l : Option Str) (g : Str) (k : Nat) : mkS l ++ Str.ofString "wait " ++ g ++ Str.ofString " else " ++ digS k = rowText l (.wai g k) := by
  refine TL.ext_tl ?_
  rw [rowText_list, rw_list, TL.tl_append, TL.tl_append, TL.tl_append, TL.tl_append, show TL.tl (Str.ofString "wait ") = TL.tl (Str.ofString "wait") ++ [32] from by decide +kernel,
    show TL.tl (Str.ofString " else ") = [32] ++ (TL.tl (Str.ofString "else") ++ [32]) from by decide +kernel]
  show _ = _ ++ (TL.tl (Str.ofString "wait") ++ ([32] ++ (TL.tl g ++ ([32] ++ (TL.tl (Str.ofString "else") ++ ([32] ++ TL.tl (digS k)))))))
  simp only [List.append_assoc]
theorem line_ovr (l : Option Str) (g : Str) (d k : Nat) : mkS l ++ Str.ofString "over " ++ g ++ Str.ofString " " ++ digS d ++ Str.ofString " " ++ digS k = rowText l (.ovr g d k) := by
  refine TL.ext_tl ?_
  rw [rowText_list, rw_list, TL.tl_append, TL.tl_append, TL.tl_append, TL.tl_append, TL.tl_append, TL.tl_append, show TL.tl (Str.ofString "over ") = TL.tl (Str.ofString "over") ++ [32] from by decide +kernel,
    show TL.tl (Str.ofString " ") = [32] from by decide +kernel]
  show _ = _ ++ (TL.tl (Str.ofString "over") ++ ([32] ++ (TL.tl g ++ ([32] ++ (TL.tl (digS d) ++ ([32] ++ TL.tl (digS k)))))))
  simp only [List.append_assoc]
theorem line_go (l : Option Str) {ks : List Nat} (h : ks ≠ []) : mkS l ++ Str.ofString "go " ++ Txt.join (Str.ofString " ") (ks.map digS) = rowText l (.go ks) := by
  refine TL.ext_tl ?_
  rw [rowText_list, rw_list, TL.tl_append, TL.tl_append, show TL.tl (Str.ofString "go ") = TL.tl (Str.ofString "go") ++ [32] from by decide +kernel, TL.join_eq, TL.tl_join]
  cases ks with
  | nil => exact absurd rfl h
  | cons k r =>
    show _ = _ ++ (TL.tl (Str.ofString "go") ++ ([32] ++ TL.joinL [32] (((k :: r).map digS).map TL.tl)))
    simp only [List.append_assoc]
    rfl
theorem line_fin (l : Option Str) : mkS l ++ Str.ofString "end" = rowText l .fin := by
  refine TL.ext_tl ?_
  rw [rowText_list, rw_list, TL.tl_append]
  rfl
theorem dig_str : ∀ k : Nat, k < 10 → (toString (k : Int) : Str) = digS k := by
  have a : ∀ k : Fin 10, (toString ((k.val : Nat) : Int) : Str) = digS k.val := by decide +kernel
  intro k hk
  exact a ⟨k, hk⟩
end G
namespace G
open PySem PySem.Spec PyProof.Rows L2
theorem small_log {i : Int} (h0 : 0 ≤ i) (h1 : i < 10) : i.natAbs.log2 < 1920 := by
  have a : ∀ k : Fin 10, k.val.log2 < 1920 := by decide +kernel
  have b := a ⟨i.natAbs, by omega⟩
  exact b
theorem dig_of {i : Int} (h0 : 0 ≤ i) (h1 : i < 10) : (toString i : Str) = digS i.toNat := by
  have e : i = ((i.toNat : Nat) : Int) := by omega
  have h := dig_str i.toNat (by omega)
  rw [← e] at h
  exact h
section
variable {P : Program} {w : World} {K : PySem.W.Frag} {mg : Str → Option Value} {base : Heap} {CX : CXT}
/-- a good row whose goals lie below m -/
structure LineOk (ms : List Str) (q : RwT) (m : Nat) : Prop where
  ok : q.2.Ok
  lab : ∀ z, q.1 = some z → Nm z
  lt : ∀ k ∈ q.2.goals, k < m
  gin : ∀ z, q.2.gateV = .str z → z ∈ ms
def spLine : Sp := fun vs H Q _ => ∃ (p l : Addr) (ms : List Str) (m : Nat), vs = [.ref p, .ref l, .int (m : Int)] ∧ PoolAt H p ∧ H l = some (.lst (ms.map V.str)) ∧ l ≠ p ∧ ms ≠ [] ∧ ms.length ≤ 10 ∧
  (∀ z ∈ ms, Nm z) ∧ 1 ≤ m ∧ m ≤ 10 ∧ ∀ H' q, Pl p H H' → LineOk ms q m → Q (.str q.text) H'
theorem strsL_shaped {l : List Str} (h : strsOk l) : SeqAt.shaped (.list (l.map PyData.str)) = true := by
  unfold SeqAt.shaped
  simp only [PyData.canLay0, PyData.depth, strs_lay l h, strs_depth l, Bool.true_and]
  decide
theorem strsL_nil (l : List Str) : PyData.eqv (.list (l.map PyData.str)) (.list []) = decide (l = []) := by cases l <;> rfl
theorem dig_sum : ∀ ks : List Nat, ((ks.map digS).map fun z => z.length).sum = ks.length
  | [] => rfl
  | k :: r => by
    rw [List.map_cons, List.map_cons, List.sum_cons, dig_sum r, List.length_cons]
    show 1 + _ = _
    omega
theorem dig_join (ks : List Nat) : (Txt.join (Str.ofString " ") (ks.map digS)).length ≤ 9 * ks.length := by
  have e : (Txt.join (Str.ofString " ") (ks.map digS)).cps.toList = TL.joinL [32] ((ks.map digS).map TL.tl) := by
    rw [TL.join_eq]
    exact TL.tl_join _ _
  rw [str_len, e]
  have h := joinL_len (S := [32]) (by decide) (ps := (ks.map digS).map TL.tl) (by
    intro z hz
    obtain ⟨y, hy, rfl⟩ := List.mem_map.mp hz
    obtain ⟨k, _, rfl⟩ := List.mem_map.mp hy
    show 1 ≤ 8
    decide)
  rw [List.length_map, List.length_map] at h
  exact h
/-- the goals drawn so far -/
inductive GoSt (p D : Addr) (H2 : Hp) (i : Nat) (H' : Hp) : Prop
  | mk (ks : List Nat) (pl : Pl p H2 H') (hD : H' D = some (.lst ((ks.map digS).map V.str))) (lt : ∀ k ∈ ks, k < i) (pw : ks.Pairwise (· < ·)) (ln : ks.length ≤ i)
theorem mkS_len {lab : Option Str} (h : ∀ z, lab = some z → Nm z) : (mkS lab).length ≤ 10 := by
  cases lab with
  | none => show (Str.ofString "").length ≤ 10; decide +kernel
  | some z =>
    have := (h z rfl).2
    show (z ++ Str.ofString ": ").length ≤ 10
    rw [cat_len, show (Str.ofString ": ").length = 2 from by decide +kernel]
    omega
theorem ok_line {f : Addr} {fd : FuncData} {dvs : List V} {kws : List (Str × V)} (T : Tx K mg)
    (F : FunD K "_law_line" "_law_line" (defArgs s__law_line) (defBody s__law_line) (defScope s__law_line) dvs kws f fd) :
    FnG P w K mg base CX0 3 f fd ["_law_pool_here", "_law_tags", "_law_most"] spLine := by
  have c__law_draw : Cal P w K mg base CX0 1 "_law_draw" [] spDraw := c_draw T
  have c__law_tag : Cal P w K mg base CX0 2 "_law_tag" [] spTag := c_tag T
  refine okG F sc__law_line (fun vs H Q E h => ?_) (fun cdv A outer s H vs Q E hr hgd h => ?_)
  · obtain ⟨p, l, ms, m, rfl, _⟩ := h
    rfl
  · obtain ⟨p, l, ms, m, rfl, hp, hl, nlp, m0, few, nm, m1, m10, q⟩ := h
    have hu := hr.units
    have ml : 0 < ms.length := List.length_pos_iff.mpr m0
    have hlen : (ms.map V.str).length = ms.length := List.length_map ..
    refine ⟨_, PSs.nox (pss_cons (ps_par (i := 3) (j := 4) rfl sc__law_line.nd rfl rfl (by decide) rfl rfl (pa_cons (pe_cal c__law_draw (hr.mono (by decide)) hgd pass0 (pa_cons (pv 0) (pa_cons pe_int pa_nil))) (pa_cons (pe_ix ix_list (pv 1) (pe_cal c__law_draw (hr.mono (by decide)) hgd pass0 (pa_cons (pv 0) (pa_cons (pe_callB call_len_seq rfl T.f_len (by decide +kernel) (pa_cons (pv 1) pa_nil)) pa_nil))) (fun _ _ => rfl)) pa_nil)) (by rfl))
    (pss_cons (ps_par (i := 5) (j := 6) rfl sc__law_line.nd rfl rfl (by decide) rfl rfl (pa_cons (pe_callTy call_str_int rfl T.f_str (by decide +kernel) (pa_cons (pe_cal c__law_draw (hr.mono (by decide)) hgd pass0 (pa_cons (pv 0) (pa_cons pe_int pa_nil))) pa_nil)) (pa_cons (pe_callTy call_str_int rfl T.f_str (by decide +kernel) (pa_cons (pe_cal c__law_draw (hr.mono (by decide)) hgd pass0 (pa_cons (pv 0) (pa_cons (pv 2) pa_nil))) pa_nil)) pa_nil)) (by rfl))
    (pss_cons (ps_set (i := 7) sc__law_line.nd rfl (Or.inl rfl) (pe_ifExp (pt_cmpR op_eq (pe_cal c__law_draw (hr.mono (by decide)) hgd pass0 (pa_cons (pv 0) (pa_cons pe_int pa_nil))) pe_int (nomark _)) (pe_op op_add_str (pe_cal c__law_tag (hr.mono (by decide)) hgd pass0 (pa_cons (pv 0) pa_nil)) pe_str) pe_str))
    (pss_cons (ps_if (pt_cmpR op_lt (pv 3) pe_int (nomark _)) (pss_one (ps_ret (pe_op op_add_str (pe_op op_add_str (pv 7) (pe_ix ix_list (pe_lst (pa_cons pe_str (pa_cons pe_str (pa_cons pe_str (pa_cons pe_str pa_nil))))) (pv 3) (fun _ _ => rfl))) (pv 4)))) pss_nil)
    (pss_cons (ps_if (pt_cmpR op_eq (pv 3) pe_int (nomark _)) (pss_one (ps_ret (pe_op op_add_str (pe_op op_add_str (pe_op op_add_str (pe_op op_add_str (pv 7) pe_str) (pv 4)) pe_str) (pv 5)))) pss_nil)
    (pss_cons (ps_if (pt_cmpR op_eq (pv 3) pe_int (nomark _)) (pss_one (ps_ret (pe_op op_add_str (pe_op op_add_str (pe_op op_add_str (pe_op op_add_str (pv 7) pe_str) (pv 4)) pe_str) (pv 6)))) pss_nil)
    (pss_cons (ps_if (pt_cmpR op_eq (pv 3) pe_int (nomark _)) (pss_one (ps_ret (pe_op op_add_str (pe_op op_add_str (pe_op op_add_str (pe_op op_add_str (pe_op op_add_str (pe_op op_add_str (pv 7) pe_str) (pv 4)) pe_str) (pv 5)) pe_str) (pv 6)))) pss_nil)
    (pss_cons (ps_if (pt_cmpR op_eq (pv 3) pe_int (nomark _)) (pss_cons (ps_set (i := 8) sc__law_line.nd rfl (Or.inl rfl) (pe_slice sl_list (pe_lc (own := [("_law_k", 9)]) (g := gName 9) rfl sc__law_line.nd (pi_range1 rfl T.f_range (pa_cons (pv 2) pa_nil)) (blkOk_by (own := [("_law_k", 9)]) (N := n__law_line) (sc := defScope s__law_line) (by decide +kernel)) (fun _ _ _ _ _ => (pg_name (i := 9) sc__law_line.nd rfl (Or.inl rfl))) (fun _ _ _ _ _ => (pts_one (pt_cmpR op_eq (pe_cal c__law_draw (hr.mono (by decide)) hgd pass0 (pa_cons (pv 0) (pa_cons pe_int pa_nil))) pe_int (nomark _)))) (fun _ _ _ _ _ => (pe_callTy call_str_int rfl T.f_str (by decide +kernel) (pa_cons (pv 9) pa_nil)))) po_none (po_some pe_int)))
    (pss_one (ps_ret (pe_op op_add_str (pe_op op_add_str (pv 7) pe_str) (pe_join pe_str (pe_ifExp (pt_cmpR (op_neD hu) (pv 8) (pe_lst pa_nil) (nomark _)) (pv 8) (pe_lst (pa_cons (pv 6) pa_nil)))))))) pss_nil)
    (pss_one (ps_ret (pe_op op_add_str (pv 7) pe_str))))))))))), ?_⟩
    refine mid3 (fun σ' H' => ∃ (way : Int) (g : Str) (d k : Nat) (lab : Option Str), σ' = [some (.ref p), some (.ref l), some (.int (m : Int)), some (.int way), some (.str g), some (.str (digS d)), some (.str (digS k)), some (.str (mkS lab)), none, none] ∧
      Pl p H H' ∧ 0 ≤ way ∧ way < 9 ∧ (Nm g ∧ g ∈ ms) ∧ d < 4 ∧ k < m ∧ (∀ z, lab = some z → Nm z)) ?_ (fun u rest => ?_)
    · rintro σ1 H1 ⟨way, g, d, k, lab, rfl, p1, w0, w9, ⟨ng, gm⟩, d4, km, hlab⟩
      have sz : sizeLine = 16777216 := sizeLine_eq
      have b1 := mkS_len hlab
      have gi : ∀ z, V.str g = .str z → z ∈ ms := fun z hz => V.str.inj hz ▸ gm
      have b2 := ng.2
      have b3 : (digS d).length = 1 := rfl
      have b4 : (digS k).length = 1 := rfl
      have c1 : (Str.ofString "join ").length = 5 := by decide +kernel
      have c2 : (Str.ofString "drop ").length = 5 := by decide +kernel
      have c3 : (Str.ofString "look ").length = 5 := by decide +kernel
      have c4 : (Str.ofString "anew ").length = 5 := by decide +kernel
      have c5 : (Str.ofString "arrive ").length = 7 := by decide +kernel
      have c6 : (Str.ofString "wait ").length = 5 := by decide +kernel
      have c7 : (Str.ofString " else ").length = 6 := by decide +kernel
      have c8 : (Str.ofString "over ").length = 5 := by decide +kernel
      have c9 : (Str.ofString "go ").length = 3 := by decide +kernel
      have c10 : (Str.ofString "end").length = 3 := by decide +kernel
      have c11 : (Str.ofString " ").length = 1 := by decide +kernel
      refine mid1 (fun σ' H' => σ' = [some (.ref p), some (.ref l), some (.int (m : Int)), some (.int way), some (.str g), some (.str (digS d)), some (.str (digS k)), some (.str (mkS lab)), none, none] ∧ Pl p H H' ∧ 4 ≤ way) ?_ (fun u rest => ?_)
      · rintro σ2 H2 ⟨rfl, p2, w4⟩
        walk_at "rd"
        refine iteD (fun h4 => ?_) (fun h4 => ?_)
        · walk_at "rd"
          exact ret_eq (q _ (lab, .arr g d) (by walk_at "g but") ⟨⟨ng, d4⟩, hlab, (fun k hk => nomatch hk), gi⟩) (congrArg V.str (line_arr lab g d).symm)
        walk_at "rd"
        refine iteD (fun h5 => ?_) (fun h5 => ?_)
        · walk_at "rd"
          exact ret_eq (q _ (lab, .wai g k) (by walk_at "g but") ⟨⟨ng, by omega⟩, hlab, fun j hj => List.mem_singleton.mp hj ▸ km, gi⟩) (congrArg V.str (line_wai lab g k).symm)
        walk_at "rd"
        refine iteD (fun h6 => ?_) (fun h6 => ?_)
        · walk_at "rd"
          exact ret_eq (q _ (lab, .ovr g d k) (by walk_at "g but") ⟨⟨ng, d4, by omega⟩, hlab, fun j hj => List.mem_singleton.mp hj ▸ km, gi⟩) (congrArg V.str (line_ovr lab g d k).symm)
        walk_at "rd"
        refine iteD (fun h7 => ?_) (fun h7 => ?_)
        · have hp2 := p2.pool
          walk_at "rd"
          intro D nD
          have nDp : D ≠ p := PoolAt.ne_new hp2 nD
          refine lcW (wk_range 0 _) (fun i H' => GoSt p D H2 i H') (.mk [] (by walk_at "g but") upd_same (fun k hk => by cases hk) .nil (Nat.le_refl _)) (fun _ _ _ _ => trivial) ?_ ?_
          · rintro i x H3 hx ⟨ks, p3, hD, lt, pw, ln⟩
            obtain ⟨rfl, hi⟩ := rng_at hx
            have im : i < m := by omega
            have hp3 := p3.pool
            walk_at "rd"
            intro H4 r p4 r0 rm
            have hD4 := p4.get hD nDp
            have sl := small_log (i := 0 + (i : Int)) (by omega) (by omega)
            have ed : (toString (0 + (i : Int)) : Str) = digS i := by
              have := dig_of (i := 0 + (i : Int)) (by omega) (by omega)
              rw [this]
              congr 1
              omega
            walk_at "rd"
            refine iteD (fun hr => ?_) (fun hr => ?_)
            · walk_at "rd"
              refine ⟨by rw [List.length_map, List.length_map]; omega, .mk (ks ++ [i]) (Pl.own (p3.trans p4) nD nDp) ?_ ?_ ?_ ?_⟩
              · rw [upd_same, List.map_append, List.map_append, ed]
                rfl
              · intro k hk
                rcases List.mem_append.mp hk with hk | hk
                · have := lt k hk; omega
                · rw [List.mem_singleton.mp hk]; omega
              · rw [List.pairwise_append]
                refine ⟨pw, List.pairwise_singleton .., fun a ha b hb => ?_⟩
                rw [List.mem_singleton.mp hb]
                exact lt a ha
              · rw [List.length_append]
                exact Nat.succ_le_succ ln
            · walk_at "rd"
              exact .mk ks (p3.trans p4) hD4 (fun k hk => Nat.lt_succ_of_lt (lt k hk)) pw (Nat.le_succ_of_le ln)
          · rintro H3 ⟨ks, p3, hD, lt, pw, ln⟩
            rw [rngV_len] at lt ln
            have hp3 := p3.pool
            walk_at "rd"
            intro l4 nl4
            have ct : cutV ((ks.map digS).map V.str) none (some 4) = ((ks.take 4).map digS).map V.str := by
              rw [show (4 : Int) = ((4 : Nat) : Int) from rfl, cut_take, List.map_take, List.map_take]
            rw [ct]
            have k4 : (ks.take 4).length ≤ 4 := by rw [List.length_take]; omega
            have kl : ∀ j ∈ ks.take 4, j < m := fun j hj => by have := lt j (List.mem_of_mem_take hj); omega
            have so : strsOk ((ks.take 4).map digS) := fun z hz => by
              obtain ⟨j, hj, rfl⟩ := List.mem_map.mp hz
              exact strOk_of fun c hc => sign_128 (dig_plain (by have := kl j hj; omega) c hc)
            have j1 := dig_join (ks.take 4)
            have j2 : (Txt.join (Str.ofString " ") [digS k]).length ≤ 9 := dig_join [k]
            walk_at "rd"
            intro le nle
            refine ⟨.list (((ks.take 4).map digS).map PyData.str), .list [], .lst (SqL.of (upd_get nle upd_same)) (strs_dpAll _), .lst (SqL.of upd_same) .nil, strsL_shaped so, by decide +kernel, ?_⟩
            rw [strsL_nil]
            walk_at "rd"
            refine iteND (fun hne => ?_) (fun he => ?_)
            · walk_at "rd"
              refine ⟨by rw [dig_sum, List.length_map, c11]; omega, ?_⟩
              walk_at "rd"
              refine ret_eq (q _ (lab, .go (ks.take 4)) (by walk_at "g but") ⟨⟨fun e => hne (by rw [e]; rfl), k4, fun j hj => by have := kl j hj; omega, pw.sublist (List.take_sublist 4 ks)⟩, hlab, kl, fun z hz => nomatch hz⟩) (congrArg V.str (line_go lab (fun e => hne (by rw [e]; rfl))).symm)
            · walk_at "rd"
              intro lg nlg
              walk_at "rd"
              refine ⟨.inl (show SqL _ _ _ (List.map V.str [digS k]) from SqL.of upd_same), ?_, ?_⟩
              · show (digS k).length + 0 + 1 * (Str.ofString " ").length ≤ 16777216
                rw [c11, b4]
                decide
              walk_at "rd"
              exact ret_eq (q _ (lab, .go [k]) (by walk_at "g but") ⟨⟨by simp, by simp, fun j hj => by rw [List.mem_singleton.mp hj]; omega, List.pairwise_singleton ..⟩, hlab, fun j hj => List.mem_singleton.mp hj ▸ km, fun z hz => nomatch hz⟩)
                (congrArg V.str (line_go lab (ks := [k]) (by simp)).symm)
        · walk_at "rd"
          exact ret_eq (q _ (lab, .fin) (by walk_at "g but") ⟨trivial, hlab, (fun k hk => nomatch hk), (fun z hz => nomatch hz)⟩) (congrArg V.str (line_fin lab).symm)
      · walk_at "rd"
        refine iteD (fun w4 => ?_) (fun w4 => ?_)
        · have w4c : way = 0 ∨ way = 1 ∨ way = 2 ∨ way = 3 := by omega
          rcases w4c with rfl | rfl | rfl | rfl
          · walk_at "rd"
            intro t nt
            walk_at "rd"
            exact ret_eq (q _ (lab, .one "join" g) (by walk_at "g but") ⟨⟨by simp [fourW], ng⟩, hlab, (fun k hk => nomatch hk), gi⟩) (congrArg V.str (line_one lab (by decide +kernel)).symm)
          · walk_at "rd"
            intro t nt
            walk_at "rd"
            exact ret_eq (q _ (lab, .one "drop" g) (by walk_at "g but") ⟨⟨by simp [fourW], ng⟩, hlab, (fun k hk => nomatch hk), gi⟩) (congrArg V.str (line_one lab (by decide +kernel)).symm)
          · walk_at "rd"
            intro t nt
            walk_at "rd"
            exact ret_eq (q _ (lab, .one "look" g) (by walk_at "g but") ⟨⟨by simp [fourW], ng⟩, hlab, (fun k hk => nomatch hk), gi⟩) (congrArg V.str (line_one lab (by decide +kernel)).symm)
          · walk_at "rd"
            intro t nt
            walk_at "rd"
            exact ret_eq (q _ (lab, .one "anew" g) (by walk_at "g but") ⟨⟨by simp [fourW], ng⟩, hlab, (fun k hk => nomatch hk), gi⟩) (congrArg V.str (line_one lab (by decide +kernel)).symm)
        · walk_at "rd"
          exact rest _ _ ⟨rfl, p1, by omega⟩
    · walk_at "rd"
      intro H1 way p1 w0 wm
      have hl1 := p1.get hl nlp
      walk_at "rd"
      intro H2 ti p2 t0 tm
      rw [hlen] at tm
      have hl2 := p2.get hl1 nlp
      have tlt : ti.toNat < ms.length := by omega
      have et : atI (ms.map V.str) ti = some (.str ms[ti.toNat]) := at_any (j := ti.toNat) (by omega) (by rw [List.getElem?_map, List.getElem?_eq_getElem tlt]; rfl)
      have ng := nm _ (List.getElem_mem tlt)
      have gmem : ms[ti.toNat] ∈ ms := List.getElem_mem tlt
      walk_at "rd"
      intro H3 d p3 d0 dm
      have sl1 := small_log d0 (by omega)
      walk_at "rd"
      intro H4 k p4 k0 km
      have sl2 := small_log k0 (by omega)
      walk_at "rd"
      intro H5 r p5 r0 rm
      have e1 := dig_of d0 (by omega)
      have e2 := dig_of k0 (by omega)
      walk_at "rd"
      refine iteD (fun _ => ?_) (fun _ => ?_)
      · walk_at "rd"
        intro H6 z p6 vz lz
        walk_at "rd"
        refine ⟨Nat.le_trans (Nat.add_le_add_right lz _) (by decide +kernel), ?_⟩
        walk_at "rd"
        exact rest _ _ ⟨way, ms[ti.toNat], d.toNat, k.toNat, some z, by rw [← e1, ← e2]; rfl, by walk_at "g but", w0, wm, ⟨ng, gmem⟩, by omega, by omega, fun y hy => Option.some.inj hy ▸ ⟨vz, lz⟩⟩
      · walk_at "rd"
        exact rest _ _ ⟨way, ms[ti.toNat], d.toNat, k.toNat, none, by rw [← e1, ← e2]; rfl, by walk_at "g but", w0, wm, ⟨ng, gmem⟩, by omega, by omega, fun y hy => nomatch hy⟩
end
end G
namespace G
open PySem PySem.Spec PyProof.Rows L2
/-- the lines drawn so far -/
inductive LnSt (ms : List Str) (p D : Addr) (H2 : Hp) (m i : Nat) (H' : Hp) : Prop
  | mk (rs : List RwT) (pl : Pl p H2 H') (hD : H' D = some (.lst (rowsV rs))) (ok : ∀ q ∈ rs, LineOk ms q m) (ln : rs.length = i)
section
variable {P : Program} {w : World} {K : PySem.W.Frag} {mg : Str → Option Value} {base : Heap} {CX : CXT}
theorem c_line (T : Tx K mg) : Cal P w K mg base CX0 3 "_law_line" [] spLine := by
  obtain ⟨fd, F⟩ := T.d__law_line
  exact .mk F (ok_line T F) T.n__law_line fun _ _ _ _ _ _ us hl => match us, hl with | [_, _, _], _ => rfl
def spLines : Sp := fun vs H Q _ => ∃ (p l : Addr) (ms : List Str), vs = [.ref p, .ref l] ∧ PoolAt H p ∧ H l = some (.lst (ms.map V.str)) ∧ l ≠ p ∧ ms ≠ [] ∧ ms.length ≤ 10 ∧ (∀ z ∈ ms, Nm z) ∧
  ∀ H' t rs, Pl p H H' → H t = none → H' t = some (.tup (rowsV rs)) → RowsOk rs → (∀ q ∈ rs, ∀ z, q.2.gateV = .str z → z ∈ ms) → Q (.ref t) H'
theorem ok_lines {f : Addr} {fd : FuncData} {dvs : List V} {kws : List (Str × V)} (T : Tx K mg)
    (F : FunD K "_law_lines" "_law_lines" (defArgs s__law_lines) (defBody s__law_lines) (defScope s__law_lines) dvs kws f fd) :
    FnG P w K mg base CX0 4 f fd ["_law_pool_here", "_law_tags"] spLines := by
  have c__law_draw : Cal P w K mg base CX0 1 "_law_draw" [] spDraw := c_draw T
  have c__law_line : Cal P w K mg base CX0 3 "_law_line" [] spLine := c_line T
  refine okG F sc__law_lines (fun vs H Q E h => ?_) (fun cdv A outer s H vs Q E hr hgd h => ?_)
  · obtain ⟨p, l, ms, rfl, _⟩ := h
    rfl
  · obtain ⟨p, l, ms, rfl, hp, hl, nlp, m0, few, nm, q⟩ := h
    have hu := hr.units
    refine ⟨_, PSs.nox (pss_cons (ps_set (i := 2) sc__law_lines.nd rfl (Or.inr rfl) (pe_op op_add pe_int (pe_cal c__law_draw (hr.mono (by decide)) hgd pass0 (pa_cons (pv 0) (pa_cons pe_int pa_nil)))))
    (pss_one (ps_ret (pe_callTy call_tuple_of rfl T.f_tuple (by decide +kernel) (pa_cons (pe_lc (own := [("_law_k", 3)]) (g := gName 3) (tt := tYes) rfl sc__law_lines.nd (pi_range1 rfl T.f_range (pa_cons (pv 2) pa_nil)) (blkOk_by (own := [("_law_k", 3)]) (N := n__law_lines) (sc := defScope s__law_lines) (by decide +kernel)) (fun _ _ _ _ _ => (pg_name (i := 3) sc__law_lines.nd rfl (Or.inl rfl))) (fun _ _ _ _ _ => pts_nil) (fun _ _ _ _ _ => (pe_cal c__law_line (hr.mono (by decide)) hgd pass0 (pa_cons (pv 0) (pa_cons (pv 1) (pa_cons (pv 2) pa_nil)))))) pa_nil))))), ?_⟩
    walk_at "rd"
    intro H1 r p1 r0 rm
    have hl1 := p1.get hl nlp
    have hp1 := p1.pool
    walk_at "rd"
    obtain ⟨m, hm⟩ : ∃ m : Nat, 1 + r = (m : Int) := ⟨(1 + r).toNat, by omega⟩
    rw [hm]
    intro D nD
    have nDp : D ≠ p := PoolAt.ne_new hp1 nD
    have nDl : l ≠ D := ne_of_none hl1 nD
    refine lcW (wk_range 0 _) (fun i H' => LnSt ms p D H1 m i H') (.mk [] (by walk_at "g but") upd_same (fun _ h => by cases h) rfl) (fun _ _ _ _ => trivial) ?_ ?_
    · rintro i x H3 hx ⟨rs, p3, hD, ok, ln⟩
      obtain ⟨rfl, hi⟩ := rng_at hx
      have hp3 := p3.pool
      have hl3 := p3.get hl1 nlp
      walk_at "rd"
      refine ⟨(show [V.ref p, V.ref l, V.int (1 + r)] = [V.ref p, V.ref l, V.int (m : Int)] by rw [hm]), hp3, hl3, nlp, m0, few, nm, by omega, by omega, fun H4 u p4 lo => ?_⟩
      have hD4 := p4.get hD nDp
      refine ⟨_, hD4, by rw [rowsV, List.length_map, ln]; show i < 16777216; omega, .mk (rs ++ [u]) (Pl.own (p3.trans p4) nD nDp) ?_ ?_ ?_⟩
      · rw [upd_same, rowsV, rowsV, List.map_append]
        rfl
      · intro y hy
        rcases List.mem_append.mp hy with hy | hy
        · exact ok y hy
        · rw [List.mem_singleton.mp hy]; exact lo
      · rw [List.length_append, ln]
        rfl
    · rintro H3 ⟨rs, p3, hD, ok, ln⟩
      rw [rngV_len] at ln
      have hp3 := p3.pool
      refine ⟨D, rowsV rs, rfl, .inl ⟨SqL.of hD, fun t nt => q _ t rs (by walk_at "g but") ?_ upd_same ?_ fun u hu2 => (ok u hu2).gin⟩⟩
      · exact (p1.trans p3).free nt
      · exact ⟨by omega, by omega, fun u hu2 => ⟨(ok u hu2).ok, (ok u hu2).lab, fun k hk => by have := (ok u hu2).lt k hk; omega⟩⟩
end
end G
section
local macro_rules | `(tactic| walk_at "g and") => `(tactic| first
  | exact G.ErrL.same (by assumption) (by walk_at "g but")
  | exact Or.inl ⟨rfl, _, L2.SqL.of (by walk_at "g hp")⟩)

namespace G
open PySem PySem.Spec PyProof.Rows L2
section
variable {P : Program} {w : World} {K : PySem.W.Frag} {mg : Str → Option Value} {base : Heap} {CX : CXT}
def ownL (i : Nat) : List V := (List.range 27).map fun j => V.bl (decide (i = j))
theorem own_count : ∀ i, i < 27 → List.countP (fun z => eqV z (V.bl true)) (ownL i) = 1 := by decide +kernel
theorem own_idx {i : Nat} (hi : i < 27) : (ownL i)[i]? = some (V.bl true) := by
  unfold ownL
  rw [List.getElem?_map, List.getElem?_range hi]
  simp
theorem own_bef {i m : Nat} {z : V} (hm : m < i) (e : (ownL i)[m]? = some z) : eqV z (V.bl true) = false := by
  unfold ownL at e
  rw [List.getElem?_map] at e
  obtain ⟨j, hj, rfl⟩ := Option.map_eq_some_iff.mp e
  obtain ⟨h1, h2⟩ := List.getElem?_eq_some_iff.mp hj
  rw [List.getElem_range] at h2
  subst h2
  have : decide (i = m) = false := decide_eq_false (by omega)
  rw [this]
  rfl
def bD (a b c : Bool) : PyData := .list [.bool a, .bool b, .bool c]
theorem bD_eqv (a b c : Bool) : (!PyData.eqv (bD a b c) (bD a b c)) = false := by
  cases a <;> cases b <;> cases c <;> decide +kernel
theorem bD_shaped (a b c : Bool) : SeqAt.shaped (bD a b c) = true := by
  cases a <;> cases b <;> cases c <;> decide +kernel
theorem bD_at {K : PySem.W.Frag} {H : Hp} {l : Addr} {a b c : Bool} {ys : List V} (h : H l = some (.lst ys)) (e : ys = [.bl a, .bl b, .bl c]) : Dp K H (.ref l) (bD a b c) :=
  .lst (SqL.of (e ▸ h)) (.cons (.bl a) (.cons (.bl b) (.cons (.bl c) .nil)))
theorem mid9 {t1 t2 t3 t4 t5 t6 t7 t8 t9 t10 : TS} {D : Ends} {σ : L2.St} {H : Hp} (M : L2.St → Hp → Prop) (h2 : ∀ σ' H', M σ' H' → t10 D σ' H')
    (h1 : ∀ u : TS, (∀ σ' H', M σ' H' → u D σ' H') → tSeq t1 (tSeq t2 (tSeq t3 (tSeq t4 (tSeq t5 (tSeq t6 (tSeq t7 (tSeq t8 (tSeq t9 u)))))))) D σ H) :
    tSeq t1 (tSeq t2 (tSeq t3 (tSeq t4 (tSeq t5 (tSeq t6 (tSeq t7 (tSeq t8 (tSeq t9 t10)))))))) D σ H := h1 t10 h2
abbrev plE (K : PySem.W.Frag) (i : Nat) : Addr := He.ga K (nmE i)
/-! ### the place of an error among the classes -/
def spPlace (K : PySem.W.Frag) : Sp := fun vs H Q _ => ∃ (x : V) (i : Nat) (fs : List (Str × V)), vs = [x] ∧ i < 27 ∧ ErrL H x (plE K i) fs ∧ ∀ H', Same H H' → Q (.int i) H'
theorem ok_place {f : Addr} {fd : FuncData} {dvs : List V} {kws : List (Str × V)} (T : Tx K mg)
    (F : FunD K "_law_place" "_law_place" (defArgs s__law_place) (defBody s__law_place) (defScope s__law_place) dvs kws f fd) :
    FnT P w K mg base 1 f fd ["_law_e"] (spPlace K) := by
  refine okT F sc__law_place (fun vs H Q E h => ?_) (fun cdv A outer s H vs Q E hr hgd h => ?_)
  · obtain ⟨x, i, fs, rfl, _⟩ := h
    rfl
  · obtain ⟨x, i, fs, rfl, hi, he, q⟩ := h
    have hu : (A.deeper (envOfC "_law_place" (defScope s__law_place) s.heap.objs.size f cdv)).units + 64 < cLine := by have := hr.un; omega
    refine ⟨_, PSs.nox (pss_cons (ps_set (i := 1) sc__law_place.nd rfl (Or.inl rfl) (pe_lst (pa_cons (pe_callB (cr_isL (n := 27) (cl := plE K) (c := (.ref (He.ga K "InvalidName"))) (f := fun i => decide (i = 0)) (fun u h => h) (fun i hi => (T.ex_all i hi).1) T.k_InvalidName) rfl T.f_isinstance (by decide +kernel) (pa_cons (pv 0) (pa_cons (pe_gl T.g_InvalidName) pa_nil))) (pa_cons (pe_callB (cr_isL (n := 27) (cl := plE K) (c := (.ref (He.ga K "InvalidText"))) (f := fun i => decide (i = 1)) (fun u h => h) (fun i hi => (T.ex_all i hi).1) T.k_InvalidText) rfl T.f_isinstance (by decide +kernel) (pa_cons (pv 0) (pa_cons (pe_gl T.g_InvalidText) pa_nil))) (pa_cons (pe_callB (cr_isL (n := 27) (cl := plE K) (c := (.ref (He.ga K "InvalidFlag"))) (f := fun i => decide (i = 2)) (fun u h => h) (fun i hi => (T.ex_all i hi).1) T.k_InvalidFlag) rfl T.f_isinstance (by decide +kernel) (pa_cons (pv 0) (pa_cons (pe_gl T.g_InvalidFlag) pa_nil))) pa_nil)))))
    (pss_cons (ps_set (i := 1) sc__law_place.nd rfl (Or.inl rfl) (pe_op op_cat (pv 1) (pe_lst (pa_cons (pe_callB (cr_isL (n := 27) (cl := plE K) (c := (.ref (He.ga K "InvalidNumber"))) (f := fun i => decide (i = 3)) (fun u h => h) (fun i hi => (T.ex_all i hi).1) T.k_InvalidNumber) rfl T.f_isinstance (by decide +kernel) (pa_cons (pv 0) (pa_cons (pe_gl T.g_InvalidNumber) pa_nil))) (pa_cons (pe_callB (cr_isL (n := 27) (cl := plE K) (c := (.ref (He.ga K "InvalidThing"))) (f := fun i => decide (i = 4)) (fun u h => h) (fun i hi => (T.ex_all i hi).1) T.k_InvalidThing) rfl T.f_isinstance (by decide +kernel) (pa_cons (pv 0) (pa_cons (pe_gl T.g_InvalidThing) pa_nil))) (pa_cons (pe_callB (cr_isL (n := 27) (cl := plE K) (c := (.ref (He.ga K "InvalidChoice"))) (f := fun i => decide (i = 5)) (fun u h => h) (fun i hi => (T.ex_all i hi).1) T.k_InvalidChoice) rfl T.f_isinstance (by decide +kernel) (pa_cons (pv 0) (pa_cons (pe_gl T.g_InvalidChoice) pa_nil))) pa_nil))))))
    (pss_cons (ps_set (i := 1) sc__law_place.nd rfl (Or.inl rfl) (pe_op op_cat (pv 1) (pe_lst (pa_cons (pe_callB (cr_isL (n := 27) (cl := plE K) (c := (.ref (He.ga K "InvalidWish"))) (f := fun i => decide (i = 6)) (fun u h => h) (fun i hi => (T.ex_all i hi).1) T.k_InvalidWish) rfl T.f_isinstance (by decide +kernel) (pa_cons (pv 0) (pa_cons (pe_gl T.g_InvalidWish) pa_nil))) (pa_cons (pe_callB (cr_isL (n := 27) (cl := plE K) (c := (.ref (He.ga K "InvalidSet"))) (f := fun i => decide (i = 7)) (fun u h => h) (fun i hi => (T.ex_all i hi).1) T.k_InvalidSet) rfl T.f_isinstance (by decide +kernel) (pa_cons (pv 0) (pa_cons (pe_gl T.g_InvalidSet) pa_nil))) (pa_cons (pe_callB (cr_isL (n := 27) (cl := plE K) (c := (.ref (He.ga K "InvalidIndex"))) (f := fun i => decide (i = 8)) (fun u h => h) (fun i hi => (T.ex_all i hi).1) T.k_InvalidIndex) rfl T.f_isinstance (by decide +kernel) (pa_cons (pv 0) (pa_cons (pe_gl T.g_InvalidIndex) pa_nil))) pa_nil))))))
    (pss_cons (ps_set (i := 1) sc__law_place.nd rfl (Or.inl rfl) (pe_op op_cat (pv 1) (pe_lst (pa_cons (pe_callB (cr_isL (n := 27) (cl := plE K) (c := (.ref (He.ga K "NotASystem"))) (f := fun i => decide (i = 9)) (fun u h => h) (fun i hi => (T.ex_all i hi).1) T.k_NotASystem) rfl T.f_isinstance (by decide +kernel) (pa_cons (pv 0) (pa_cons (pe_gl T.g_NotASystem) pa_nil))) (pa_cons (pe_callB (cr_isL (n := 27) (cl := plE K) (c := (.ref (He.ga K "InvalidGates"))) (f := fun i => decide (i = 10)) (fun u h => h) (fun i hi => (T.ex_all i hi).1) T.k_InvalidGates) rfl T.f_isinstance (by decide +kernel) (pa_cons (pv 0) (pa_cons (pe_gl T.g_InvalidGates) pa_nil))) (pa_cons (pe_callB (cr_isL (n := 27) (cl := plE K) (c := (.ref (He.ga K "InvalidKinds"))) (f := fun i => decide (i = 11)) (fun u h => h) (fun i hi => (T.ex_all i hi).1) T.k_InvalidKinds) rfl T.f_isinstance (by decide +kernel) (pa_cons (pv 0) (pa_cons (pe_gl T.g_InvalidKinds) pa_nil))) pa_nil))))))
    (pss_cons (ps_set (i := 1) sc__law_place.nd rfl (Or.inl rfl) (pe_op op_cat (pv 1) (pe_lst (pa_cons (pe_callB (cr_isL (n := 27) (cl := plE K) (c := (.ref (He.ga K "InvalidRows"))) (f := fun i => decide (i = 12)) (fun u h => h) (fun i hi => (T.ex_all i hi).1) T.k_InvalidRows) rfl T.f_isinstance (by decide +kernel) (pa_cons (pv 0) (pa_cons (pe_gl T.g_InvalidRows) pa_nil))) (pa_cons (pe_callB (cr_isL (n := 27) (cl := plE K) (c := (.ref (He.ga K "InvalidMembers"))) (f := fun i => decide (i = 13)) (fun u h => h) (fun i hi => (T.ex_all i hi).1) T.k_InvalidMembers) rfl T.f_isinstance (by decide +kernel) (pa_cons (pv 0) (pa_cons (pe_gl T.g_InvalidMembers) pa_nil))) (pa_cons (pe_callB (cr_isL (n := 27) (cl := plE K) (c := (.ref (He.ga K "InvalidNumbers"))) (f := fun i => decide (i = 14)) (fun u h => h) (fun i hi => (T.ex_all i hi).1) T.k_InvalidNumbers) rfl T.f_isinstance (by decide +kernel) (pa_cons (pv 0) (pa_cons (pe_gl T.g_InvalidNumbers) pa_nil))) pa_nil))))))
    (pss_cons (ps_set (i := 1) sc__law_place.nd rfl (Or.inl rfl) (pe_op op_cat (pv 1) (pe_lst (pa_cons (pe_callB (cr_isL (n := 27) (cl := plE K) (c := (.ref (He.ga K "InvalidRun"))) (f := fun i => decide (i = 15)) (fun u h => h) (fun i hi => (T.ex_all i hi).1) T.k_InvalidRun) rfl T.f_isinstance (by decide +kernel) (pa_cons (pv 0) (pa_cons (pe_gl T.g_InvalidRun) pa_nil))) (pa_cons (pe_callB (cr_isL (n := 27) (cl := plE K) (c := (.ref (He.ga K "InvalidThings"))) (f := fun i => decide (i = 16)) (fun u h => h) (fun i hi => (T.ex_all i hi).1) T.k_InvalidThings) rfl T.f_isinstance (by decide +kernel) (pa_cons (pv 0) (pa_cons (pe_gl T.g_InvalidThings) pa_nil))) (pa_cons (pe_callB (cr_isL (n := 27) (cl := plE K) (c := (.ref (He.ga K "InvalidChanges"))) (f := fun i => decide (i = 17)) (fun u h => h) (fun i hi => (T.ex_all i hi).1) T.k_InvalidChanges) rfl T.f_isinstance (by decide +kernel) (pa_cons (pv 0) (pa_cons (pe_gl T.g_InvalidChanges) pa_nil))) pa_nil))))))
    (pss_cons (ps_set (i := 1) sc__law_place.nd rfl (Or.inl rfl) (pe_op op_cat (pv 1) (pe_lst (pa_cons (pe_callB (cr_isL (n := 27) (cl := plE K) (c := (.ref (He.ga K "UnknownName"))) (f := fun i => decide (i = 18)) (fun u h => h) (fun i hi => (T.ex_all i hi).1) T.k_UnknownName) rfl T.f_isinstance (by decide +kernel) (pa_cons (pv 0) (pa_cons (pe_gl T.g_UnknownName) pa_nil))) (pa_cons (pe_callB (cr_isL (n := 27) (cl := plE K) (c := (.ref (He.ga K "UnknownHand"))) (f := fun i => decide (i = 19)) (fun u h => h) (fun i hi => (T.ex_all i hi).1) T.k_UnknownHand) rfl T.f_isinstance (by decide +kernel) (pa_cons (pv 0) (pa_cons (pe_gl T.g_UnknownHand) pa_nil))) (pa_cons (pe_callB (cr_isL (n := 27) (cl := plE K) (c := (.ref (He.ga K "InUse"))) (f := fun i => decide (i = 20)) (fun u h => h) (fun i hi => (T.ex_all i hi).1) T.k_InUse) rfl T.f_isinstance (by decide +kernel) (pa_cons (pv 0) (pa_cons (pe_gl T.g_InUse) pa_nil))) pa_nil))))))
    (pss_cons (ps_set (i := 1) sc__law_place.nd rfl (Or.inl rfl) (pe_op op_cat (pv 1) (pe_lst (pa_cons (pe_callB (cr_isL (n := 27) (cl := plE K) (c := (.ref (He.ga K "TooMany"))) (f := fun i => decide (i = 21)) (fun u h => h) (fun i hi => (T.ex_all i hi).1) T.k_TooMany) rfl T.f_isinstance (by decide +kernel) (pa_cons (pv 0) (pa_cons (pe_gl T.g_TooMany) pa_nil))) (pa_cons (pe_callB (cr_isL (n := 27) (cl := plE K) (c := (.ref (He.ga K "Alone"))) (f := fun i => decide (i = 22)) (fun u h => h) (fun i hi => (T.ex_all i hi).1) T.k_Alone) rfl T.f_isinstance (by decide +kernel) (pa_cons (pv 0) (pa_cons (pe_gl T.g_Alone) pa_nil))) (pa_cons (pe_callB (cr_isL (n := 27) (cl := plE K) (c := (.ref (He.ga K "Waits"))) (f := fun i => decide (i = 23)) (fun u h => h) (fun i hi => (T.ex_all i hi).1) T.k_Waits) rfl T.f_isinstance (by decide +kernel) (pa_cons (pv 0) (pa_cons (pe_gl T.g_Waits) pa_nil))) (pa_cons (pe_callB (cr_isL (n := 27) (cl := plE K) (c := (.ref (He.ga K "Ended"))) (f := fun i => decide (i = 24)) (fun u h => h) (fun i hi => (T.ex_all i hi).1) T.k_Ended) rfl T.f_isinstance (by decide +kernel) (pa_cons (pv 0) (pa_cons (pe_gl T.g_Ended) pa_nil))) pa_nil)))))))
    (pss_cons (ps_set (i := 1) sc__law_place.nd rfl (Or.inl rfl) (pe_op op_cat (pv 1) (pe_lst (pa_cons (pe_callB (cr_isL (n := 27) (cl := plE K) (c := (.ref (He.ga K "NothingToUndo"))) (f := fun i => decide (i = 25)) (fun u h => h) (fun i hi => (T.ex_all i hi).1) T.k_NothingToUndo) rfl T.f_isinstance (by decide +kernel) (pa_cons (pv 0) (pa_cons (pe_gl T.g_NothingToUndo) pa_nil))) (pa_cons (pe_callB (cr_isL (n := 27) (cl := plE K) (c := (.ref (He.ga K "Broken"))) (f := fun i => decide (i = 26)) (fun u h => h) (fun i hi => (T.ex_all i hi).1) T.k_Broken) rfl T.f_isinstance (by decide +kernel) (pa_cons (pv 0) (pa_cons (pe_gl T.g_Broken) pa_nil))) pa_nil)))))
    (pss_cons (ps_set (i := 2) sc__law_place.nd rfl (Or.inl rfl) (pe_lst (pa_cons (pe_callB (cr_isL (n := 27) (cl := plE K) (c := (.ref (He.ga K "WrongValue"))) (f := fun i => decide (i < 18)) (fun u h => h) (fun i hi => (T.ex_all i hi).1) T.k_WrongValue) rfl T.f_isinstance (by decide +kernel) (pa_cons (pv 0) (pa_cons (pe_gl T.g_WrongValue) pa_nil))) (pa_cons (pe_callB (cr_isL (n := 27) (cl := plE K) (c := (.ref (He.ga K "WrongName"))) (f := fun i => decide (17 < i) && decide (i < 21)) (fun u h => h) (fun i hi => (T.ex_all i hi).1) T.k_WrongName) rfl T.f_isinstance (by decide +kernel) (pa_cons (pv 0) (pa_cons (pe_gl T.g_WrongName) pa_nil))) (pa_cons (pe_callB (cr_isL (n := 27) (cl := plE K) (c := (.ref (He.ga K "NoAnswer"))) (f := fun i => decide (20 < i)) (fun u h => h) (fun i hi => (T.ex_all i hi).1) T.k_NoAnswer) rfl T.f_isinstance (by decide +kernel) (pa_cons (pv 0) (pa_cons (pe_gl T.g_NoAnswer) pa_nil))) pa_nil)))))
    (pss_cons (ps_if (PW.pt (pw_or (pt_cmpR op_ne (pe_bm PySem.F.plainAttrs_list PySem.F.slot_list_count PySem.F.type_list_count mt_count (pv 1) (pa_cons pe_bl pa_nil)) pe_int (nomark _)) (pw_or1 (pt_cmpR (op_neD hu) (pv 2) (pe_op op_cat (pe_lst (pa_cons (pe_callB (cr_isL (n := 27) (cl := plE K) (c := (.ty "ValueError")) (f := fun i => decide (i < 18)) (fun u h => h) (fun i hi => (T.ex_all i hi).1) T.k_ValueError) rfl T.f_isinstance (by decide +kernel) (pa_cons (pv 0) (pa_cons (pe_bltn (v := .ty "ValueError") (u := .type "ValueError") rfl T.f_ValueError (by decide +kernel) rfl) pa_nil))) (pa_cons (pe_callB (cr_isL (n := 27) (cl := plE K) (c := (.ty "LookupError")) (f := fun i => decide (17 < i) && decide (i < 21)) (fun u h => h) (fun i hi => (T.ex_all i hi).1) T.k_LookupError) rfl T.f_isinstance (by decide +kernel) (pa_cons (pv 0) (pa_cons (pe_bltn (v := .ty "LookupError") (u := .type "LookupError") rfl T.f_LookupError (by decide +kernel) rfl) pa_nil))) pa_nil))) (pe_slice sl_list (pv 2) (po_some pe_int) po_none)) (nomark _))))) (pss_one (ps_ret (pe_un un_neg pe_int))) pss_nil)
    (pss_cons (ps_set (i := 3) sc__law_place.nd rfl (Or.inl rfl) (pe_bm PySem.F.plainAttrs_list PySem.F.slot_list_index PySem.F.type_list_index mt_index (pv 1) (pa_cons pe_bl pa_nil)))
    (pss_cons (ps_if (PW.pt (pw_or (pt_not (pt_cmpR op_eq (pe_callB (cr_isL (n := 27) (cl := plE K) (c := (.ty "ArithmeticError")) (f := fun i => decide (20 < i)) (fun u h => h) (fun i hi => (T.ex_all i hi).1) T.k_ArithmeticError) rfl T.f_isinstance (by decide +kernel) (pa_cons (pv 0) (pa_cons (pe_bltn (v := .ty "ArithmeticError") (u := .type "ArithmeticError") rfl T.f_ArithmeticError (by decide +kernel) rfl) pa_nil))) (pe_ix ix_list (pv 2) pe_int (fun _ _ => rfl)) (nomark _))) (pw_or1 (pt_cmpR (op_neD hu) (pv 2) (pe_lst (pa_cons (pe_cmpR op_lt (pv 3) pe_int (nomark _)) (pa_cons (pe_chain op_lt op_lt pe_int (pv 3) pe_int) (pa_cons (pe_cmpR op_lt pe_int (pv 3) (nomark _)) pa_nil)))) (nomark _))))) (pss_one (ps_ret (pe_un un_neg pe_int))) pss_nil)
    (pss_one (ps_ret (pv 3)))))))))))))))), ?_⟩
    refine mid9 (fun σ' H' => ∃ l : Addr, σ' = [some x, some (.ref l), none, none] ∧ Same H H' ∧ H' l = some (.lst (ownL i))) ?_ ?_
    · have he0 := he
      have q0 := q
      clear he q
      rintro _ H1 ⟨l, rfl, s1, hl⟩
      have he1 : ErrL H1 x (plE K i) fs := he0.same s1
      walk_at "rd"
      intro l18 n18
      walk_at "rd"
      refine G.iteKF ?_ ?_
      · show (!decide (V.int ((List.countP (fun z => eqV z (V.bl true)) (ownL i) : Nat) : Int) = V.int 1)) = false
        rw [own_count i hi]
        rfl
      walk_at "rd"
      intro l19 n19
      walk_at "rd"
      intro l20 n20
      walk_at "rd"
      intro l21 n21
      walk_at "rd"
      refine ⟨bD (decide (i < 18)) (decide (17 < i) && decide (i < 21)) (decide (20 < i)), bD (decide (i < 18)) (decide (17 < i) && decide (i < 21)) (decide (20 < i)),
        bD_at (by walk_at "g hp") rfl, bD_at (by walk_at "g hp") rfl, bD_shaped _ _ _, bD_shaped _ _ _, _, rfl, G.iteKF (bD_eqv _ _ _) ?_⟩
      walk_at "rd"
      refine ⟨own_idx hi, rfl, fun m z' hm e => own_bef hm e, ?_⟩
      walk_at "rd"
      refine G.iteKF ?_ ?_
      · simp
      walk_at "rd"
      have z1 : decide ((i : Int) < 18) = decide (i < 18) := by
        rw [decide_eq_decide]
        omega
      have z2 : decide ((i : Int) < 21) = decide (i < 21) := by
        rw [decide_eq_decide]
        omega
      have z3 : decide (20 < (i : Int)) = decide (20 < i) := by
        rw [decide_eq_decide]
        omega
      refine iteD (fun h1 => ?_) (fun h1 => ?_)
      · walk_at "rd"
        intro l22 n22
        walk_at "rd"
        refine ⟨bD (decide (i < 18)) (decide (17 < i) && decide (i < 21)) (decide (20 < i)), bD (decide (i < 18)) (decide (17 < i) && decide (i < 21)) (decide (20 < i)),
          bD_at (by walk_at "g hp") rfl, bD_at (ys := _) (by walk_at "g hp") (by dsimp only; rw [z1, z2, z3, show decide (17 < i) = true from decide_eq_true (by omega), Bool.true_and]), bD_shaped _ _ _, bD_shaped _ _ _, _, rfl, G.iteKF (bD_eqv _ _ _) ?_⟩
        walk_at "rd"
        exact q0 _ (by walk_at "g but")
      · walk_at "rd"
        intro l22 n22
        walk_at "rd"
        refine ⟨bD (decide (i < 18)) (decide (17 < i) && decide (i < 21)) (decide (20 < i)), bD (decide (i < 18)) (decide (17 < i) && decide (i < 21)) (decide (20 < i)),
          bD_at (by walk_at "g hp") rfl, bD_at (ys := _) (by walk_at "g hp") (by dsimp only; rw [z1, z3, show decide (17 < i) = false from decide_eq_false (by omega), Bool.false_and]), bD_shaped _ _ _, bD_shaped _ _ _, _, rfl, G.iteKF (bD_eqv _ _ _) ?_⟩
        walk_at "rd"
        exact q0 _ (by walk_at "g but")
    · intro u hu
      walk_at "rd"
      intro l1 n1
      walk_at "rd"
      intro l2 n2
      walk_at "rd"
      intro l3 n3
      walk_at "rd"
      intro l4 n4
      walk_at "rd"
      intro l5 n5
      walk_at "rd"
      intro l6 n6
      walk_at "rd"
      intro l7 n7
      walk_at "rd"
      intro l8 n8
      walk_at "rd"
      intro l9 n9
      walk_at "rd"
      intro l10 n10
      walk_at "rd"
      intro l11 n11
      walk_at "rd"
      intro l12 n12
      walk_at "rd"
      intro l13 n13
      walk_at "rd"
      intro l14 n14
      walk_at "rd"
      intro l15 n15
      walk_at "rd"
      intro l16 n16
      walk_at "rd"
      intro l17 n17
      walk_at "rd"
      exact hu _ _ ⟨l17, rfl, by walk_at "g but", upd_same⟩
theorem h_place (T : Tx K mg) : CalT P w K mg base 1 "_law_place" (spPlace K) := by
  obtain ⟨fd, F⟩ := T.d__law_place
  exact .mk F (ok_place T F) T.n__law_place fun _ _ _ _ _ _ us hl => match us, hl with | [_], _ => rfl
end
end G
end
section
local macro_rules | `(tactic| walk_at "g and") => `(tactic| first
  | exact G.ErrL.same (by assumption) (by walk_at "g but")
  | exact Or.inl ⟨rfl, _, L2.SqL.of (by walk_at "g hp")⟩)

namespace G
open PySem PySem.Spec PyProof.Rows L2
/-! ### what an error keeps -/
/-- the attributes of an error of the i-th class, made of o (and m) -/
def odF (i : Nat) (o m : V) : List (Str × V) :=
  if i < 10 then gF1 "given" [o] else if i < 18 then gF1 "index" [o] else if i < 20 then gF1 "given" [o] else if i < 21 then gF1 "index" [o] else
  if i < 22 then gF1 "limit" [o] else if i < 23 then gF1 "given" [o] else if i < 25 then gF1 "hand" [o] else if i < 26 then [] else gF2 "index" "shown" [o, m]
theorem od_given {i : Nat} {o m : V} (h : i < 10 ∨ i = 18 ∨ i = 19 ∨ i = 22) : ([0, 1, 2, 3, 4, 5, 6, 7, 8, 9, 18, 19, 22].contains i) = true ∧ (odF i o m).lookup ("given" : Str) = some o := by
  have a : ∀ i < 27, i < 10 ∨ i = 18 ∨ i = 19 ∨ i = 22 → ([0, 1, 2, 3, 4, 5, 6, 7, 8, 9, 18, 19, 22].contains i) = true := by decide
  have b : odF i o m = gF1 "given" [o] := by
    unfold odF
    repeat' split
    all_goals first | rfl | omega
  exact ⟨a i (by omega) h, by rw [b]; rfl⟩
theorem od_index {i : Nat} {o m : V} (h : (10 ≤ i ∧ i < 18) ∨ i = 20 ∨ i = 26) : ([10, 11, 12, 13, 14, 15, 16, 17, 20, 26].contains i) = true ∧ (odF i o m).lookup ("index" : Str) = some o := by
  have a : ∀ i < 27, (10 ≤ i ∧ i < 18) ∨ i = 20 ∨ i = 26 → ([10, 11, 12, 13, 14, 15, 16, 17, 20, 26].contains i) = true := by decide
  refine ⟨a i (by omega) h, ?_⟩
  unfold odF
  repeat' split
  all_goals first | rfl | omega
theorem od_limit {o m : V} : ([21].contains 21) = true ∧ (odF 21 o m).lookup ("limit" : Str) = some o := ⟨rfl, rfl⟩
theorem od_shown {o m : V} : ([26].contains 26) = true ∧ (odF 26 o m).lookup ("shown" : Str) = some m := ⟨rfl, rfl⟩
theorem od_hand {i : Nat} {o m : V} (h : i = 23 ∨ i = 24) : ([23, 24].contains i) = true ∧ (odF i o m).lookup ("hand" : Str) = some o := by
  rcases h with rfl | rfl <;> exact ⟨rfl, rfl⟩
section
variable {P : Program} {w : World} {K : PySem.W.Frag} {mg : Str → Option Value} {base : Heap} {CX : CXT}
def spKept (K : PySem.W.Frag) : Sp := fun vs H Q _ => ∃ (x : V) (i : Nat) (o m : V), vs = [x, .int i] ∧ i < 27 ∧ ErrL H x (plE K i) (odF i o m) ∧
  (i < 25 → ∀ H', Same H H' → Q o H') ∧ (i = 25 → ∀ H', Same H H' → Q .non H') ∧ (i = 26 → ∀ t H', Same H H' → H' t = some (.tup [o, m]) → Q (.ref t) H')
theorem ok_kept {f : Addr} {fd : FuncData} {dvs : List V} {kws : List (Str × V)} (T : Tx K mg)
    (F : FunD K "_law_kept" "_law_kept" (defArgs s__law_kept) (defBody s__law_kept) (defScope s__law_kept) dvs kws f fd) :
    FnT P w K mg base 1 f fd ["_law_e", "_law_at"] (spKept K) := by
  refine okT F sc__law_kept (fun vs H Q E h => ?_) (fun cdv A outer s H vs Q E hr hgd h => ?_)
  · obtain ⟨x, i, o, m, rfl, _⟩ := h
    rfl
  · obtain ⟨x, i, o, m, rfl, hi, he, q1, q2, q3⟩ := h
    have hu : (A.deeper (envOfC "_law_kept" (defScope s__law_kept) s.heap.objs.size f cdv)).units + 64 < cLine := by have := hr.un; omega
    refine ⟨_, PSs.nox (pss_cons (ps_if (PW.pt (pw_or (pt_cmpR op_lt (pv 1) pe_int (nomark _)) (pw_or1 (pt_cmpR op_eq (pv 1) pe_int (nomark _))))) (pss_one (ps_ret pe_non)) pss_nil)
    (pss_cons (ps_if (PW.pt (pw_or (pt_cmpR op_lt (pv 1) pe_int (nomark _)) (pw_or1 (pt_cmpR op_in_seq (pv 1) (pe_lst (pa_cons pe_int (pa_cons pe_int (pa_cons pe_int pa_nil)))) rfl)))) (pss_one (ps_ret (pe_errfldL (n := 27) (cl := plE K) (fun i hi => (T.ex_all i hi).2) T.nf_given (pv 0)))) pss_nil)
    (pss_cons (ps_if (PW.pt (pw_or (pt_cmpR op_lt (pv 1) pe_int (nomark _)) (pw_or1 (pt_cmpR op_eq (pv 1) pe_int (nomark _))))) (pss_one (ps_ret (pe_errfldL (n := 27) (cl := plE K) (fun i hi => (T.ex_all i hi).2) T.nf_index (pv 0)))) pss_nil)
    (pss_cons (ps_if (pt_cmpR op_eq (pv 1) pe_int (nomark _)) (pss_one (ps_ret (pe_errfldL (n := 27) (cl := plE K) (fun i hi => (T.ex_all i hi).2) T.nf_limit (pv 0)))) pss_nil)
    (pss_one (ps_ret (pe_ifExp (pt_cmpR op_lt (pv 1) pe_int (nomark _)) (pe_errfldL (n := 27) (cl := plE K) (fun i hi => (T.ex_all i hi).2) T.nf_hand (pv 0)) (pe_tup (pa_cons (pe_errfldL (n := 27) (cl := plE K) (fun i hi => (T.ex_all i hi).2) T.nf_index (pv 0)) (pa_cons (pe_errfldL (n := 27) (cl := plE K) (fun i hi => (T.ex_all i hi).2) T.nf_shown (pv 0)) pa_nil)))))))))), ?_⟩
    walk_at "rd"
    refine iteD (fun h1 => ?_) (fun h1 => ?_)
    · have := V.int.inj h1
      walk_at "rd"
      exact q2 (by omega) _ (.refl _)
    have h1' : i ≠ 25 := fun e => h1 (by rw [e]; rfl)
    walk_at "rd"
    refine iteD (fun h2 => ?_) (fun h2 => ?_)
    · walk_at "rd"
      have z := od_given (i := i) (o := o) (m := m) (.inl (by omega))
      exact ⟨z.1, z.2, q1 (by omega) _ (.refl _)⟩
    walk_at "rd"
    intro l nl
    walk_at "rd"
    have he1 : ErrL (upd H l (.lst [V.int 18, V.int 19, V.int 22])) x (plE K i) (odF i o m) := he.same (by walk_at "g but")
    have s1 : Same H (upd H l (.lst [V.int 18, V.int 19, V.int 22])) := by walk_at "g but"
    refine iteB (fun h3 => ?_) (fun h3 => ?_)
    · have h4 : i = 18 ∨ i = 19 ∨ i = 22 := by
        simp [inV, eqV] at h3
        omega
      have z := od_given (i := i) (o := o) (m := m) (.inr h4)
      walk_at "rd"
      exact ⟨z.1, z.2, q1 (by omega) _ s1⟩
    have h3' : i ≠ 18 ∧ i ≠ 19 ∧ i ≠ 22 := by
      simp [inV, eqV] at h3
      omega
    generalize upd H l (.lst [V.int 18, V.int 19, V.int 22]) = H1 at he1 s1 ⊢
    clear nl he
    walk_at "rd"
    refine iteD (fun h5 => ?_) (fun h5 => ?_)
    · walk_at "rd"
      have z := od_index (i := i) (o := o) (m := m) (.inl (by omega))
      exact ⟨z.1, z.2, q1 (by omega) _ s1⟩
    walk_at "rd"
    refine iteD (fun h6 => ?_) (fun h6 => ?_)
    · have h6' := V.int.inj h6
      walk_at "rd"
      have z := od_index (i := i) (o := o) (m := m) (.inr (.inl (by omega)))
      exact ⟨z.1, z.2, q1 (by omega) _ s1⟩
    have h6' : i ≠ 20 := fun e => h6 (by rw [e]; rfl)
    walk_at "rd"
    refine iteD (fun h7 => ?_) (fun h7 => ?_)
    · have h7' : i = 21 := by
        have := V.int.inj h7
        omega
      subst h7'
      walk_at "rd"
      exact q1 (by omega) _ s1
    have h7' : i ≠ 21 := fun e => h7 (by rw [e]; rfl)
    walk_at "rd"
    refine iteD (fun h8 => ?_) (fun h8 => ?_)
    · walk_at "rd"
      have z := od_hand (i := i) (o := o) (m := m) (by omega)
      exact ⟨z.1, z.2, q1 (by omega) _ s1⟩
    have h9 : i = 26 := by omega
    subst h9
    walk_at "rd"
    intro t nt
    exact q3 rfl _ _ (s1.new nt) upd_same
theorem h_kept (T : Tx K mg) : CalT P w K mg base 1 "_law_kept" (spKept K) := by
  obtain ⟨fd, F⟩ := T.d__law_kept
  exact .mk F (ok_kept T F) T.n__law_kept fun _ _ _ _ _ _ us hl => match us, hl with | [_, _], _ => rfl
/-! ### the words -/
def nmL : List V := (List.range 27).map fun i => V.str (nmE i)
def spWords : Sp := fun vs H Q _ => vs = [] ∧ ∀ H' l, Same H H' → H' l = some (.lst nmL) → Q (.ref l) H'
theorem ok_words {f : Addr} {fd : FuncData} {dvs : List V} {kws : List (Str × V)} (T : Tx K mg)
    (F : FunD K "_law_words" "_law_words" (defArgs s__law_words) (defBody s__law_words) (defScope s__law_words) dvs kws f fd) :
    FnT P w K mg base 1 f fd [] spWords := by
  refine okT F sc__law_words (fun vs H Q E h => ?_) (fun cdv A outer s H vs Q E hr hgd h => ?_)
  · obtain ⟨rfl, _⟩ := h
    rfl
  · obtain ⟨rfl, q⟩ := h
    refine ⟨_, PSs.nox (pss_cons (ps_set (i := 0) sc__law_words.nd rfl (Or.inl rfl) (pe_lst (pa_cons pe_str (pa_cons pe_str (pa_cons pe_str (pa_cons pe_str (pa_cons pe_str (pa_cons pe_str pa_nil))))))))
    (pss_cons (ps_set (i := 0) sc__law_words.nd rfl (Or.inl rfl) (pe_op op_cat (pv 0) (pe_lst (pa_cons pe_str (pa_cons pe_str (pa_cons pe_str (pa_cons pe_str (pa_cons pe_str (pa_cons pe_str pa_nil)))))))))
    (pss_cons (ps_set (i := 0) sc__law_words.nd rfl (Or.inl rfl) (pe_op op_cat (pv 0) (pe_lst (pa_cons pe_str (pa_cons pe_str (pa_cons pe_str (pa_cons pe_str (pa_cons pe_str pa_nil))))))))
    (pss_cons (ps_set (i := 0) sc__law_words.nd rfl (Or.inl rfl) (pe_op op_cat (pv 0) (pe_lst (pa_cons pe_str (pa_cons pe_str (pa_cons pe_str (pa_cons pe_str (pa_cons pe_str (pa_cons pe_str (pa_cons pe_str (pa_cons pe_str pa_nil)))))))))))
    (pss_one (ps_ret (pe_op op_cat (pv 0) (pe_lst (pa_cons pe_str (pa_cons pe_str pa_nil)))))))))), ?_⟩
    walk_at "rd"
    intro l1 n1
    walk_at "rd"
    intro l2 n2
    walk_at "rd"
    intro m2 k2
    walk_at "rd"
    intro l3 n3
    walk_at "rd"
    intro m3 k3
    walk_at "rd"
    intro l4 n4
    walk_at "rd"
    intro m4 k4
    walk_at "rd"
    intro l5 n5
    walk_at "rd"
    intro m5 k5
    exact q _ _ (by walk_at "g but") (by rw [upd_same]; rfl)
theorem h_words (T : Tx K mg) : CalT P w K mg base 1 "_law_words" spWords := by
  obtain ⟨fd, F⟩ := T.d__law_words
  exact .mk F (ok_words T F) T.n__law_words fun _ _ _ _ _ _ us hl => match us, hl with | [], _ => rfl
end
end G
end
section
local macro_rules | `(tactic| walk_at "g and") => `(tactic| first
  | exact G.ErrL.same (by assumption) (by walk_at "g but")
  | exact Or.inl ⟨rfl, _, L2.SqL.of (by walk_at "g hp")⟩)

namespace G
open PySem PySem.Spec PyProof.Rows L2
/-! ### what a call raises or returns, told -/
/-- an error that is caught: told, it makes Q hold -/
def WishQ (K : PySem.W.Frag) (Q : VK) : XK := fun cls d H' => ∃ (i : Nat) (o m : V) (dx : Addr) (z : PyData), i < 25 ∧ cls = .ref (plE K i) ∧ d = some dx ∧ H' dx = some (.xd (odF i o m)) ∧ Dq K H' o z ∧ ShD 60 sizeLine z ∧
  ∀ t H'', Same H' H'' → H'' t = some (.tup [.str (nmE i), .str z.shown]) → Q (.ref t) H''
/-- what comes back: told, it makes Q hold -/
def RetQ (K : PySem.W.Frag) (Q : VK) : VK := fun v H' => tRet (tTup (tCons (tC (V.str "returned")) (tCons (tCB (rReprQ K) (tCons (tVar 1) tNil)) tNil))) { nx := fun _ H' => Q V.non H', rt := Q } [none, some v, none, none] H'
theorem RetQ.of {K : PySem.W.Frag} {Q : VK} {v : V} {H : Hp} {z : PyData} (h : Dq K H v z) (s : ShD 60 sizeLine z) (q : ∀ t H'', Same H H'' → H'' t = some (.tup [.str "returned", .str z.shown]) → Q (.ref t) H'') : RetQ K Q v H := by
  unfold RetQ
  walk_at "rd"
  refine ⟨z, rfl, h, s.sh, s.dp, s.ln, ?_⟩
  walk_at "rd"
  intro t nt
  exact q t _ ((Same.refl _).new nt) upd_same
/-- what _law_caught asks of the lambda that it calls -/
def TCa (K : PySem.W.Frag) : (XK → Hp → VK → Prop) → Hp → VK → Prop := fun tl H Q => tl (WishQ K Q) H (RetQ K Q)
theorem mg_ref {mg : Str → Option Value} {x : Str} {a : Addr} (h : ∃ u, mg x = some u ∧ RelV (.ref a) u) : mg x = some (.ref a) := by
  obtain ⟨u, e, r⟩ := h
  obtain rfl : u = Value.ref a := r
  exact e
theorem Room.hot {k : Nat} {A : Around} {h : Option Value} (r : Room k A) : L2H.RoomH k (A.mark h) := ⟨r.dp, r.un⟩
theorem caught_gives {X : Cx} (T : Tx X.K X.mg) (hsm : (X.base.get? sysModules).isSome = true) (hgd : X.A.guards = some []) {k : Nat} (hr : Room (k + 2) X.A) {g : Addr} {cdg : Value} {q : Str} :
    LamX.GivesTo X n__law_caught "_law_caught" (defScope s__law_caught) g cdg (defBody s__law_caught) "_law_act" q (TCa X.K) := by
  intro f c' s H Q tl act hc h
  have h__law_place : CalT X.prog X.w X.K X.mg X.base 1 "_law_place" (spPlace X.K) := h_place T
  have h__law_kept : CalT X.prog X.w X.K X.mg X.base 1 "_law_kept" (spKept X.K) := h_kept T
  have h__law_words : CalT X.prog X.w X.K X.mg X.base 1 "_law_words" spWords := h_words T
  have hrd := hr.deeper (envOfC "_law_caught" (defScope s__law_caught) s.heap.objs.size g cdg)
  have hrh : ∀ {h : Option Value}, L2H.RoomH 1 ((X.A.deeper (envOfC "_law_caught" (defScope s__law_caught) s.heap.objs.size g cdg)).mark h) := (Room.hot hrd).mono (by omega)
  have hu : (X.A.deeper (envOfC "_law_caught" (defScope s__law_caught) s.heap.objs.size g cdg)).units + 64 < cLine := by
    have := hrd.un
    omega
  refine ⟨_, pss_cons (ps_try_ad (i := 2) (Wout := fun _ _ _ _ => False) (X := (cxOf CX0 X.prog X.w X.K X.mg X.base n__law_caught "_law_caught" (defScope s__law_caught) g cdg X.A X.stack s H E0).nox)
    (tb := fun W D σ H => ∃ Ech : XK, (∀ cls d σ' H', Ech cls d H' → W cls d σ' H') ∧ σ[0]? = some (some (.ref f)) ∧ H c' = some (LamX.CodeO c' q) ∧ tl Ech H (fun v H' => D.nx (σ.set 1 (some v)) H'))
    rfl rfl rfl sc__law_caught.nd rfl rfl (test_three (mg_ref T.g_WrongValue) (mg_ref T.g_WrongName) (mg_ref T.g_NoAnswer)) LamX.takes0 (fun W pn xe tk _ => ?_)
    (fun a pn => (pss_cons (ps_set (i := 3) sc__law_caught.nd rfl (Or.inl rfl) (pe_calT h__law_place (hrh.mono (by decide)) hgd (pa_cons (pv 2) pa_nil)))
    (pss_one (ps_ret (pe_tup (pa_cons (pe_ix (ixK (K := X.K) (r := rIxL) rfl ix_list) (pe_op op_cat (pe_calT0 h__law_words (hrh.mono (by decide)) hgd) (pe_lst (pa_cons pe_str pa_nil))) (pv 3) (fun _ _ => rfl)) (pa_cons (pe_callB (crK (K := X.K) (r := rReprQ) rfl (call_reprB hgd hu hsm)) rfl T.f_repr (by decide +kernel) (pa_cons (pe_calT h__law_kept (hrh.mono (by decide)) hgd (pa_cons (pv 2) (pa_cons (pv 3) pa_nil))) pa_nil)) pa_nil)))))))) (pss_one (ps_ret (pe_tup (pa_cons pe_str (pa_cons (pe_callB (call_reprB hgd hu hsm) rfl T.f_repr (by decide +kernel) (pa_cons (pv 1) pa_nil)) pa_nil))))), ?_⟩
  · refine ⟨fun pins s' σ H' D I h' => ?_⟩
    obtain ⟨Ech, hW, h1, h2, h3⟩ := h'
    exact (pss_one (ps_set (i := 1) sc__law_caught.nd rfl (Or.inl rfl) (act W pn xe Ech _ _ tk hW))).run pins s' σ H' D I ⟨h1, h2, h3⟩
  · refine ⟨WishQ X.K Q, ?_, rfl, hc, h⟩
    rintro cls d σ' H' ⟨i, o, m, dx, z, hi, rfl, rfl, hx, hz, hs, hq⟩ hl
    refine ⟨true, T.xm_all i (by omega), fun _ => ⟨_, rfl, fun a na => ?_⟩, fun h => by cases h⟩
    obtain ⟨v0, v1, v2, v3, rfl⟩ : ∃ v0 v1 v2 v3, σ' = [v0, v1, v2, v3] := by
      match σ', hl with
      | [v0, v1, v2, v3], _ => exact ⟨_, _, _, _, rfl⟩
    have he : ErrL (upd H' a (exl a (plE X.K i) (some dx))) (.ref a) (plE X.K i) (odF i o m) := by
      refine ⟨a, some dx, rfl, upd_same, ?_⟩
      show upd H' a _ dx = _
      rw [upd_ne (ne_of_none hx na)]
      exact hx
    have s1 : Same H' (upd H' a (exl a (plE X.K i) (some dx))) := (Same.refl _).new na
    have hz1 := Dq.same s1 hz
    generalize upd H' a (exl a (plE X.K i) (some dx)) = H1 at he s1 hz1 ⊢
    walk_at "rd"
    refine ⟨(show i < 27 by omega), he, fun H2 s2 => ?_⟩
    have he2 := he.same s2
    have hz2 := Dq.same s2 hz1
    have s12 := s1.trans s2
    walk_at "rd"
    intro H3 l3 s3 hl3
    walk_at "rd"
    intro l4 n4
    walk_at "rd"
    intro l5 n5
    walk_at "rd"
    have hn : (nmL ++ [V.str "odd"])[i]? = some (V.str (nmE i)) := by
      rw [List.getElem?_append_left (by show i < 27; omega)]
      unfold nmL
      rw [List.getElem?_map, List.getElem?_range (by omega)]
      rfl
    refine ⟨(show atI _ (i : Int) = _ from by rw [atI_nat hn]), ?_⟩
    have s5 : Same H2 (upd (upd H3 l4 (.lst [V.str "odd"])) l5 (.lst (nmL ++ [V.str "odd"]))) := by walk_at "g but"
    have he5 := he2.same s5
    have hz5 := Dq.same s5 hz2
    have s15 := s12.trans s5
    generalize upd (upd H3 l4 (.lst [V.str "odd"])) l5 (.lst (nmL ++ [V.str "odd"])) = H5 at he5 hz5 s15 ⊢
    clear s5 he2 hz2 s12 n4 n5 hl3 s3 he hz1 s1 s2
    walk_at "rd"
    refine ⟨fun _ H6 s6 => ?_, fun h => by omega, fun h => by omega⟩
    have hz6 := Dq.same s6 hz5
    walk_at "rd"
    refine ⟨z, rfl, hz6, hs.sh, hs.dp, hs.ln, ?_⟩
    walk_at "rd"
    intro t nt
    exact hq t _ ((s15.trans s6).new nt) upd_same
/-- _law_caught(lambda: e), in a def y whose lambdas' code stands in its own table -/
theorem pe_caught {X : Cx} {y : Str} {params : Arguments} {body : Expr} {scope : Scope} {t : XK → TE} {p lpos pos : Pos} {k : Nat} (T : Tx X.K X.mg) (hsm : (X.base.get? sysModules).isSome = true) (hgd : X.A.guards = some [])
    (TB : LamX.TabB X.base X.mg (codeA X.K y) (tabA X.K y)) (hr : Room (k + 2) X.A) (hcode : X.env.code = .ref (codeA X.K y)) (L : LamX.LamS X.env.scope scope) (hdef : defaultsOf params X.env = ([], []))
    (hbind : ∀ (q : Str) (cl : List (Str × Addr)) (pm cv ctv : Value), bindArgs (PySem.W.kla_fn "<lambda>" q params body scope cl pm cv ctv) ⟨[], []⟩ = pure [])
    (hbody : ∀ (A : Around) (outer : List Env) (s : Shared) (H : Hp) (E : XK) (f c' : Addr), Room k (A.deeper (LamX.lamEnv X scope s.heap.objs.size f c')) → PE (LamX.lamCx X A outer s H E scope f c') body (t E))
    (hg : Gl X "_law_caught" := by rfl) :
    PE X (.Call (.Name "_law_caught" p) [.Lambda params body scope lpos] [] pos) (LamX.tLam [(tabA X.K y, X.env.qual ++ "<lambda>")] (TCa X.K) t) := by
  obtain ⟨fd, F⟩ := T.d__law_caught
  have hm : X.mg "_law_caught" = some (.ref (He.ga X.K "_law_caught")) := T.n__law_caught
  have hb : Binds X.K fd ["_law_act"] [] := F.bindsN fun _ _ _ _ _ _ us hl => match us, hl with | [_], _ => rfl
  obtain ⟨oc, od, dV, kV, doc, pm, an, cdv, ct, osl, rfl, lk, hcd, _, _⟩ := F.ex
  exact LamX.pe_lamcall (Ng := n__law_caught) hg hm F.kp lk hcd hb sc__law_caught rfl (.inl rfl) (caught_gives T hsm hgd hr) TB hcode (by simp) (by simp) hr L hdef hbind hbody
end G
end
namespace G
open PySem PySem.Spec PyProof.Rows L2
/-! ### what stays where tables of code objects grow -/
def noT : HO → Bool
  | .tbl _ => false
  | _ => true
/-- all but the tables is kept -/
def Kp (H H' : Hp) : Prop := ∀ b o, H b = some o → noT o = true → H' b = some o
theorem Kp.refl (H : Hp) : Kp H H := fun _ _ e _ => e
theorem Kp.trans {H H1 H2 : Hp} (a : Kp H H1) (b : Kp H1 H2) : Kp H H2 := fun c o e n => b c o (a c o e n) n
theorem Kp.of {H H' : Hp} (s : Same H H') : Kp H H' := fun b o e _ => s b o e
theorem Kp.ofN {H H' : Hp} (s : LamX.ExtN H H') : Kp H H' := fun b o e n => s b o e fun ps z => by
  rw [z] at n
  cases n
/-- .. and but what stands at p -/
def KpB (p : Addr) (H H' : Hp) : Prop := ∀ b o, b ≠ p → H b = some o → noT o = true → H' b = some o
theorem KpB.of {p : Addr} {H H' : Hp} (s : But p H H') : KpB p H H' := fun b o n e _ => s b o n e
theorem KpB.trans {p : Addr} {H H1 H2 : Hp} (a : KpB p H H1) (b : Kp H1 H2) : KpB p H H2 := fun c o n e t => b c o (a c o n e t) t
mutual
theorem Dq.ext {K : PySem.W.Frag} {H H' : Hp} (s : Kp H H') : ∀ {v : V} {d : PyData}, Dq K H v d → Dq K H' v d
  | _, _, .non => .non
  | _, _, .bl b => .bl b
  | _, _, .int i => .int i
  | _, _, .str x => .str x
  | _, _, .lst e ha => .lst (s _ _ e rfl) (DqAll.ext s ha)
  | _, _, .tup e ha => .tup (by
      rcases e with (h | ⟨o, h⟩) | h
      · exact .inl (.inl (s _ _ h rfl))
      · exact .inl (.inr ⟨o, s _ _ h rfl⟩)
      · exact .inr h) (DqAll.ext s ha)
  | _, _, .dct e hk hv => .dct (s _ _ e rfl) (DqAll.ext s hk) (DqAll.ext s hv)
theorem DqAll.ext {K : PySem.W.Frag} {H H' : Hp} (s : Kp H H') : ∀ {vs : List V} {ds : List PyData}, DqAll K H vs ds → DqAll K H' vs ds
  | _, _, .nil => .nil
  | _, _, .cons h1 h2 => .cons (Dq.ext s h1) (DqAll.ext s h2)
end
/-- tables stay tables where a pool is drawn from -/
theorem tabs_pl {T : List (Addr × Str)} {H H' : Hp} {p : Addr} (t : LamX.Tabs T H) (hp : PoolAt H p) (s : Pl p H H') : LamX.Tabs T H' := by
  intro q hq
  obtain ⟨ps, h1, h2, h3⟩ := t q hq
  refine ⟨ps, s.obj hp h1 rfl, h2, fun pos cv hc => ?_⟩
  obtain ⟨c, e1, e2⟩ := h3 pos cv hc
  exact ⟨c, e1, s.obj hp e2 rfl⟩
theorem GoAt.ext {K : PySem.W.Frag} {H H' : Hp} {g : Addr} {gs : List Nat} (h : GoAt K H g gs) (s : Kp H H') : GoAt K H' g gs := by
  rcases h with h | h
  · exact .inl (s _ _ h rfl)
  · exact .inr h
theorem RowIn.ext {K : PySem.W.Frag} {H H' : Hp} {a : Addr} {q : RwT} (h : RowIn K H a q) (s : Kp H H') : RowIn K H' a q := by
  obtain ⟨dx, g, e, o⟩ := h
  exact ⟨dx, g, s _ _ e rfl, o.ext s⟩
theorem RowsIn.ext {K : PySem.W.Frag} {H H' : Hp} {as : List Addr} {rs : List RwT} (h : RowsIn K H as rs) (s : Kp H H') : RowsIn K H' as rs :=
  ⟨h.1, fun i a q h1 h2 => (h.2 i a q h1 h2).ext s⟩
theorem MemAt.ext {K : PySem.W.Frag} {H H' : Hp} {m : Addr} {ms : List Str} (h : MemAt K H m ms) (s : Kp H H') : MemAt K H' m ms := by
  rcases h with h | h
  · exact .inl (s _ _ h rfl)
  · exact .inr h
theorem passLam {X : Cx} {A : Around} {outer : List Env} {s : Shared} {H : Hp} {E : XK} {scope : Scope} {f c' : Addr} : Passes (L2.CX X.prog X.w) (LamX.lamCx X A outer s H E scope f c') E :=
  passes_call (X := LamX.lamCx X A outer s H E scope f c') (takes_of rfl rfl rfl rfl) fun _ _ _ _ h => h
theorem two_dp {K : PySem.W.Frag} {H : Hp} {t : Addr} {a b : Str} (h : H t = some (.tup [.str a, .str b])) : Dp K H (.ref t) (.tuple [.str a, .str b]) :=
  .tup (SqT.of h) (.cons (.str a) (.cons (.str b) .nil))
theorem tabs_own {T : List (Addr × Str)} {H : Hp} {D : Addr} {xs ys : List V} (t : LamX.Tabs T H) (e : H D = some (.lst xs)) : LamX.Tabs T (upd H D (.lst ys)) := by
  intro q hq
  obtain ⟨ps, h1, h2, h3⟩ := t q hq
  refine ⟨ps, ?_, h2, fun pos cv hc => ?_⟩
  · rw [upd_ne (ne_of h1 e (by intro e; cases e))]
    exact h1
  · obtain ⟨c, e1, e2⟩ := h3 pos cv hc
    refine ⟨c, e1, ?_⟩
    rw [upd_ne (ne_of e2 e (by intro e; cases e))]
    exact e2
theorem tabs_nil {T : List (Addr × Str)} {H : Hp} (h : ∀ p ∈ T, H p.1 = some (.tbl #[])) : LamX.Tabs T H :=
  fun p hp => ⟨#[], h p hp, trivial, fun pos cv hc => by cases hc⟩
theorem sqL_ext {K : PySem.W.Frag} {H H' : Hp} {a : Addr} {xs : List V} (h : SqL K H a xs) (s : Kp H H') : SqL K H' a xs := by
  rcases h with (h | ⟨o, h⟩) | h
  · exact .inl (.inl (s _ _ h rfl))
  · exact .inl (.inr ⟨o, s _ _ h rfl⟩)
  · exact .inr h
theorem kp_cell {H H1 H2 H3 : Hp} {p D : Addr} {ys : List V} (k : Kp H H1) (n : H1 p = none) (s : Same H1 H2) (b : KpB p H2 H3) (nD : H D = none) : Kp H (upd H3 D (.lst ys)) := fun c o e t => by
  have e1 := k c o e t
  rw [upd_ne (ne_of_none e nD)]
  exact b c o (ne_of_none e1 n) (s _ _ e1) t
end G
namespace G
open PySem PySem.Spec PyProof.Rows L2
/-! ### the first word of a row -/
def wordsQ (q : RwT) : List Str := match q.1 with
  | none => q.2.words
  | some z => (z ++ Str.ofString ":") :: q.2.words
theorem text_split {q : RwT} (h : q.2.Ok) (hl : ∀ z, q.1 = some z → Nm z) : Txt.split q.text (Str.ofString " ") = wordsQ q := by
  obtain ⟨l, r⟩ := q
  cases l with
  | none => exact rwText_split h
  | some z =>
    have e : RwT.text (some z, r) = Txt.join (Str.ofString " ") ((z ++ Str.ofString ":") :: r.words) := by
      refine TL.ext_tl ?_
      show TL.tl (z ++ Str.ofString ": " ++ rwText r) = _
      rw [TL.join_eq, TL.tl_join, TL.tl_append, TL.tl_append, show TL.tl (rwText r) = TL.joinL [32] (r.words.map TL.tl) from rwText_list r]
      have w0 := (words_few h).1
      cases hw : r.words with
      | nil => exact absurd hw w0
      | cons a b =>
        show TL.tl z ++ TL.tl (Str.ofString ": ") ++ _ = TL.tl (z ++ Str.ofString ":") ++ (TL.tl (Str.ofString " ") ++ TL.joinL (TL.tl (Str.ofString " ")) ((a :: b).map TL.tl))
        rw [TL.tl_append, show TL.tl (Str.ofString ": ") = TL.tl (Str.ofString ":") ++ TL.tl (Str.ofString " ") from by decide +kernel, show TL.tl (Str.ofString " ") = [32] from by decide +kernel]
        simp only [List.append_assoc]
    rw [e]
    refine TL.split_join (y := Str.ofString " ") (s := 32) (S := []) (by decide +kernel) (by decide +kernel) (by simp) fun p hp => ?_
    rcases List.mem_cons.mp hp with rfl | hp
    · rw [TL.tl_append]
      intro hm
      rcases List.mem_append.mp hm with hm | hm
      · exact plain_not (nm_plain (hl z rfl)) (by decide +kernel) hm
      · have : ¬ (32 ∈ TL.tl (Str.ofString ":")) := by decide +kernel
        exact this hm
    · exact plain_not (words_plain h p hp).1 (by decide +kernel)
theorem cut_last {w : Str} {a : List Nat} {c : Nat} (e : w.cps.toList = a ++ [c]) : cutS w (some (-1)) none = ⟨#[c]⟩ ∧ cutS w none (some (-1)) = ⟨a.toArray⟩ := by
  have hl : w.length = a.length + 1 := by rw [str_len, e, List.length_append]; rfl
  have i1 : HT.sIx w.length 0 (some (-1)) = a.length := by
    show (if (-1 : Int) < 0 then ((-1 : Int) + ((w.length : Nat) : Int)).toNat else min (-1 : Int).toNat w.length) = a.length
    rw [if_pos (by decide), hl]
    omega
  have i2 : HT.sIx w.length w.length (some (-1)) = a.length := by
    show (if (-1 : Int) < 0 then ((-1 : Int) + ((w.length : Nat) : Int)).toNat else min (-1 : Int).toNat w.length) = a.length
    rw [if_pos (by decide), hl]
    omega
  constructor
  · unfold cutS
    rw [i1, HT.sIx_none, e, hl, List.drop_append_of_le_length (Nat.le_refl _), List.drop_length]
    have : a.length + 1 - a.length = 1 := by omega
    rw [this]
    rfl
  · unfold cutS
    rw [i2, HT.sIx_none, e, List.drop_zero, Nat.sub_zero, List.take_append_of_le_length (Nat.le_refl _), List.take_length]
theorem lab_cut (z : Str) : cutS (z ++ Str.ofString ":") (some (-1)) none = Str.ofString ":" ∧ cutS (z ++ Str.ofString ":") none (some (-1)) = z := by
  have e : (z ++ Str.ofString ":").cps.toList = z.cps.toList ++ [58] := by
    rw [cat_list]
    rfl
  obtain ⟨h1, h2⟩ := cut_last e
  refine ⟨h1, ?_⟩
  rw [h2]
theorem word_cut {w : Str} (h : Plain w) (h0 : w.cps.toList ≠ []) : cutS w (some (-1)) none ≠ Str.ofString ":" := by
  obtain ⟨a, c, e⟩ : ∃ a c, w.cps.toList = a ++ [c] := ⟨w.cps.toList.dropLast, w.cps.toList.getLast h0, (List.dropLast_concat_getLast h0).symm⟩
  rw [(cut_last e).1]
  intro he
  have hc : isSign c = true := h c (by rw [e]; simp)
  have e2 : (⟨#[c]⟩ : Str).cps.toList = (Str.ofString ":").cps.toList := by rw [he]
  have e3 : [c] = [58] := e2
  have : c = 58 := by injection e3
  rw [this] at hc
  exact absurd hc (by decide +kernel)
theorem words_ne {r : RW} (h : r.Ok) : ∀ z ∈ r.words, z.cps.toList ≠ [] := by
  have lit : ∀ z ∈ (["join", "drop", "look", "anew", "arrive", "wait", "else", "over", "go", "end"] : List Str), z.cps.toList ≠ [] := by decide +kernel
  have nm : ∀ g, Nm g → g.cps.toList ≠ [] := fun g hg => by
    obtain ⟨c, r, e, _⟩ := name_form hg.1
    rw [e]
    simp
  have dg : ∀ k, (digS k).cps.toList ≠ [] := fun k => by simp [digS]
  intro z hz
  cases r with
  | one w g =>
    obtain ⟨hw, hg⟩ := h
    rcases List.mem_cons.mp hz with rfl | hz
    · exact lit z (by simp only [fourW, List.mem_cons, List.not_mem_nil, or_false] at hw; rcases hw with rfl | rfl | rfl | rfl <;> simp)
    · rw [List.mem_singleton.mp hz]; exact nm g hg
  | arr g d =>
    simp only [RW.words, List.mem_cons, List.not_mem_nil, or_false] at hz
    rcases hz with rfl | rfl | rfl
    · exact lit _ (by simp)
    · exact nm _ h.1
    · exact dg _
  | wai g k =>
    simp only [RW.words, List.mem_cons, List.not_mem_nil, or_false] at hz
    rcases hz with rfl | rfl | rfl | rfl
    · exact lit _ (by simp)
    · exact nm _ h.1
    · exact lit _ (by simp)
    · exact dg _
  | ovr g d k =>
    simp only [RW.words, List.mem_cons, List.not_mem_nil, or_false] at hz
    rcases hz with rfl | rfl | rfl | rfl
    · exact lit _ (by simp)
    · exact nm _ h.1
    · exact dg _
    · exact dg _
  | go ks =>
    rcases List.mem_cons.mp hz with rfl | hz
    · exact lit _ (by simp)
    · obtain ⟨k, hm, rfl⟩ := List.mem_map.mp hz
      exact dg k
  | fin =>
    rw [List.mem_singleton.mp hz]
    exact lit _ (by simp)
/-- the first word -/
theorem first_word {q : RwT} (h : q.2.Ok) (hl : ∀ z, q.1 = some z → Nm z) : ∃ w r, wordsQ q = w :: r ∧ w.length ≤ 9 ∧
    (q.1 = none → cutS w (some (-1)) none ≠ Str.ofString ":") ∧ (∀ z, q.1 = some z → w = z ++ Str.ofString ":") := by
  obtain ⟨l, r⟩ := q
  cases l with
  | none =>
    have w0 := (words_few h).1
    cases hw : r.words with
    | nil => exact absurd hw w0
    | cons a b =>
      have ha := words_plain h a (by rw [hw]; exact List.mem_cons_self)
      refine ⟨a, b, hw, by have := ha.2; omega, ⟨fun _ => ?_, fun z hz => (by cases hz)⟩⟩
      refine word_cut ha.1 ?_
      have ne : ∀ z ∈ r.words, z.cps.toList ≠ [] := words_ne h
      exact ne a (by rw [hw]; exact List.mem_cons_self)
  | some z =>
    refine ⟨z ++ Str.ofString ":", r.words, rfl, ?_, ⟨fun hz => (by cases hz), fun y hy => (by rw [Option.some.inj hy])⟩⟩
    rw [cat_len, show (Str.ofString ":").length = 1 from by decide +kernel]
    have := (hl z rfl).2
    omega
end G
namespace G
open PySem PySem.Spec PyProof.Rows L2
/-! ### the law's own reader of rows: which words are those of a row -/
def PlaceP (x : Str) (m : Nat) : Prop := ∃ k, x = digS k ∧ k < 10 ∧ k < m
/-- these are the words of a row of a kind with m rows -/
def WP (ws : List Str) (m : Nat) : Prop := ∃ W : RW, W.Ok ∧ W.words = ws ∧ ∀ k ∈ W.goals, k < m
theorem wp_end {more : List Str} {m : Nat} : WP ("end" :: more) m ↔ more = [] := by
  constructor
  · rintro ⟨W, ok, e, lt⟩
    cases W with
    | fin => exact (List.cons.inj e).2.symm
    | one w g =>
      have h := ok.1
      rw [(List.cons.inj e).1] at h
      exact absurd h (by decide +kernel)
    | _ => exact absurd (List.cons.inj e).1 (by decide +kernel)
  · rintro rfl
    exact ⟨.fin, trivial, rfl, fun _ h => nomatch h⟩
theorem digs_map : ∀ {ws : List Str} {m : Nat}, (∀ x ∈ ws, PlaceP x m) → ∃ ks : List Nat, ws = ks.map digS ∧ (∀ k ∈ ks, k < 10 ∧ k < m)
  | [], _, _ => ⟨[], rfl, fun _ h => nomatch h⟩
  | x :: ws, m, h => by
    obtain ⟨k, rfl, h1, h2⟩ := h x List.mem_cons_self
    obtain ⟨ks, rfl, h3⟩ := digs_map fun y hy => h y (List.mem_cons_of_mem _ hy)
    refine ⟨k :: ks, rfl, fun j hj => ?_⟩
    rcases List.mem_cons.mp hj with rfl | hj
    · exact ⟨h1, h2⟩
    · exact h3 j hj
theorem wp_go {ks : List Nat} {m : Nat} (hk : ∀ k ∈ ks, k < 10 ∧ k < m) (h1 : 0 < ks.length) (h5 : ks.length < 5) : WP ("go" :: ks.map digS) m ↔ ks.Pairwise (· < ·) := by
  constructor
  · rintro ⟨W, ok, e, lt⟩
    cases W with
    | go js =>
      have e2 : js.map digS = ks.map digS := (List.cons.inj e).2
      have inj : ∀ {a b : List Nat}, (∀ k ∈ a, k < 10) → (∀ k ∈ b, k < 10) → a.map digS = b.map digS → a = b := by
        intro a b ha hb h
        have h3 := congrArg (List.map digO) h
        rw [List.map_map, List.map_map] at h3
        have f1 : a.map (digO ∘ digS) = a.map some := List.map_congr_left fun k hk => digO_dig (ha k hk)
        have f2 : b.map (digO ∘ digS) = b.map some := List.map_congr_left fun k hk => digO_dig (hb k hk)
        rw [f1, f2] at h3
        exact (List.map_inj_right fun a b h => Option.some.inj h).mp h3
      rw [← inj ok.2.2.1 (fun k h => (hk k h).1) e2]
      exact ok.2.2.2
    | one w g =>
      have h := ok.1
      rw [(List.cons.inj e).1] at h
      exact absurd h (by decide +kernel)
    | _ => exact absurd (List.cons.inj e).1 (by decide +kernel)
  · intro h
    exact ⟨.go ks, ⟨fun e => by rw [e] at h1; simp at h1, by omega, fun k h => (hk k h).1, h⟩, rfl, fun k h => (hk k h).2⟩
theorem wp_go_not {more : List Str} {m : Nat} (h : ¬ (0 < more.length ∧ more.length < 5) ∨ ∃ x ∈ more, ¬ PlaceP x m) : ¬ WP ("go" :: more) m := by
  rintro ⟨W, ok, e, lt⟩
  cases W with
  | go js =>
    have e2 : js.map digS = more := (List.cons.inj e).2
    subst e2
    rcases h with h | ⟨x, hx, hn⟩
    · refine h ?_
      rw [List.length_map]
      exact ⟨List.length_pos_iff.mpr ok.1, by have := ok.2.1; omega⟩
    · obtain ⟨k, hk, rfl⟩ := List.mem_map.mp hx
      exact hn ⟨k, rfl, ok.2.2.1 k hk, lt k hk⟩
  | one w g =>
    have h := ok.1
    rw [(List.cons.inj e).1] at h
    exact absurd h (by decide +kernel)
  | _ => exact absurd (List.cons.inj e).1 (by decide +kernel)
/-- the other words name a gate -/
theorem wp_gate {w : Str} {more : List Str} {m : Nat} (h1 : w ≠ "end") (h2 : w ≠ "go") (h : WP (w :: more) m) : ∃ g r, more = g :: r ∧ Nm g := by
  obtain ⟨W, ok, e, lt⟩ := h
  cases W with
  | one w g => exact ⟨g, [], (List.cons.inj e).2.symm, ok.2⟩
  | arr g d => exact ⟨g, _, (List.cons.inj e).2.symm, ok.1⟩
  | wai g k => exact ⟨g, _, (List.cons.inj e).2.symm, ok.1⟩
  | ovr g d k => exact ⟨g, _, (List.cons.inj e).2.symm, ok.1⟩
  | go ks => exact absurd (List.cons.inj e).1.symm h2
  | fin => exact absurd (List.cons.inj e).1.symm h1
theorem wp_four {w g : Str} {r : List Str} {m : Nat} (h : w ∈ fourW) (ng : Nm g) : WP (w :: g :: r) m ↔ r = [] := by
  constructor
  · rintro ⟨W, ok, e, lt⟩
    cases W with
    | one w' g' => exact (List.cons.inj (List.cons.inj e).2).2.symm
    | _ =>
      rw [← (List.cons.inj e).1] at h
      exact absurd h (by decide +kernel)
  · rintro rfl
    exact ⟨.one w g, ⟨h, ng⟩, rfl, fun _ h => nomatch h⟩
theorem wp_wait {g : Str} {r : List Str} {m : Nat} (ng : Nm g) : WP ("wait" :: g :: r) m ↔ ∃ z, r = [("else" : Str), z] ∧ PlaceP z m := by
  constructor
  · rintro ⟨W, ok, e, lt⟩
    cases W with
    | wai g' k => exact ⟨digS k, (List.cons.inj (List.cons.inj e).2).2.symm, k, rfl, ok.2, lt k (List.mem_singleton.mpr rfl)⟩
    | one w' g' =>
      have h := ok.1
      rw [show w' = "wait" from (List.cons.inj e).1] at h
      exact absurd h (by decide +kernel)
    | _ => exact absurd (List.cons.inj e).1 (by decide +kernel)
  · rintro ⟨z, rfl, k, rfl, h1, h2⟩
    exact ⟨.wai g k, ⟨ng, h1⟩, rfl, fun j hj => by rw [List.mem_singleton.mp hj]; exact h2⟩
theorem wp_arr {g : Str} {r : List Str} {m : Nat} (ng : Nm g) : WP ("arrive" :: g :: r) m ↔ ∃ d, d < 4 ∧ r = [digS d] := by
  constructor
  · rintro ⟨W, ok, e, lt⟩
    cases W with
    | arr g' d => exact ⟨d, ok.2, (List.cons.inj (List.cons.inj e).2).2.symm⟩
    | one w' g' =>
      have h := ok.1
      rw [show w' = "arrive" from (List.cons.inj e).1] at h
      exact absurd h (by decide +kernel)
    | _ => exact absurd (List.cons.inj e).1 (by decide +kernel)
  · rintro ⟨d, hd, rfl⟩
    exact ⟨.arr g d, ⟨ng, hd⟩, rfl, fun _ h => nomatch h⟩
theorem wp_ovr {g : Str} {r : List Str} {m : Nat} (ng : Nm g) : WP ("over" :: g :: r) m ↔ ∃ d z, d < 4 ∧ r = [digS d, z] ∧ PlaceP z m := by
  constructor
  · rintro ⟨W, ok, e, lt⟩
    cases W with
    | ovr g' d k => exact ⟨d, digS k, ok.2.1, (List.cons.inj (List.cons.inj e).2).2.symm, k, rfl, ok.2.2, lt k (List.mem_singleton.mpr rfl)⟩
    | one w' g' =>
      have h := ok.1
      rw [show w' = "over" from (List.cons.inj e).1] at h
      exact absurd h (by decide +kernel)
    | _ => exact absurd (List.cons.inj e).1 (by decide +kernel)
  · rintro ⟨d, z, hd, rfl, k, rfl, h1, h2⟩
    exact ⟨.ovr g d k, ⟨ng, hd, h1⟩, rfl, fun j hj => by rw [List.mem_singleton.mp hj]; exact h2⟩
theorem wp_other {w : Str} {more : List Str} {m : Nat} (h : w ∉ (["end", "go", "join", "drop", "look", "anew", "wait", "arrive", "over"] : List Str)) : ¬ WP (w :: more) m := by
  rintro ⟨W, ok, e, lt⟩
  refine h ?_
  cases W with
  | one w' g' =>
    rw [← (List.cons.inj e).1]
    have h := ok.1
    simp only [fourW, List.mem_cons, List.not_mem_nil, or_false] at h
    rcases h with rfl | rfl | rfl | rfl <;> decide +kernel
  | _ =>
    rw [← (List.cons.inj e).1]
    decide +kernel
/-- the words behind the label -/
def bareW : List Str → Option (List Str)
  | [] => none
  | w :: r => if cutS w (some (-1)) none = Str.ofString ":" then (if isNameS (cutS w none (some (-1))) = true then some r else none) else some (w :: r)
theorem bareW_cons (w : Str) (r : List Str) : bareW (w :: r) = if cutS w (some (-1)) none = Str.ofString ":" then (if isNameS (cutS w none (some (-1))) = true then some r else none) else some (w :: r) := rfl
theorem colon_of {w : Str} (h : cutS w (some (-1)) none = Str.ofString ":") : w = cutS w none (some (-1)) ++ Str.ofString ":" := by
  cases e : w.cps.toList with
  | nil =>
    exfalso
    have : cutS w (some (-1)) none = ⟨#[]⟩ := by
      unfold cutS
      rw [e]
      simp
    rw [this] at h
    exact absurd h (by decide +kernel)
  | cons c r =>
    obtain ⟨a, d, e2⟩ : ∃ a d, w.cps.toList = a ++ [d] := ⟨w.cps.toList.dropLast, w.cps.toList.getLast (by rw [e]; simp), (List.dropLast_concat_getLast _).symm⟩
    obtain ⟨h1, h2⟩ := cut_last e2
    rw [h1] at h
    have e3 : [d] = [58] := congrArg (fun z : Str => z.cps.toList) h
    rw [h2]
    refine TL.ext_tl ?_
    rw [TL.tl_append]
    show w.cps.toList = a ++ [58]
    rw [e2, e3]
theorem join_row {l : Str} {W : RW} (ok : W.Ok) (hl : Nm l) : rowText (some l) W = Txt.join (Str.ofString " ") ((l ++ Str.ofString ":") :: W.words) := by
  have h := text_split (q := (some l, W)) ok fun z e => Option.some.inj e ▸ hl
  have j := StrLaws.join_split (RwT.text (some l, W)) (Str.ofString " ")
  rw [h] at j
  rw [TL.join_eq]
  exact j.symm
theorem line_bare {z : Str} {m : Nat} : LineV (.str z) m ↔ ∃ ws, bareW (Txt.split z (Str.ofString " ")) = some ws ∧ WP ws m := by
  have j := StrLaws.join_split z (Str.ofString " ")
  constructor
  · rintro ⟨⟨l, W⟩, ok, e, lt⟩
    have ez : z = RwT.text (l, W) := V.str.inj e
    rw [ez, text_split ok.ok ok.lab]
    cases l with
    | none =>
      refine ⟨W.words, ?_, W, ok.ok, rfl, lt⟩
      obtain ⟨w, r, e1, _, e2, _⟩ := first_word (q := (none, W)) ok.ok ok.lab
      rw [e1, bareW_cons, if_neg (e2 rfl)]
      exact congrArg some e1.symm
    | some l =>
      refine ⟨W.words, ?_, W, ok.ok, rfl, lt⟩
      show bareW ((l ++ Str.ofString ":") :: W.words) = _
      rw [bareW_cons, if_pos (lab_cut l).1, (lab_cut l).2, if_pos (ok.lab l rfl).1]
  · rintro ⟨ws, hb, W, ok, ew, lt⟩
    cases es : Txt.split z (Str.ofString " ") with
    | nil =>
      rw [es] at hb
      cases hb
    | cons w r =>
      rw [es] at hb j
      rw [bareW_cons] at hb
      split at hb
      · rename_i hc
        split at hb
        · rename_i hn
          have er := Option.some.inj hb
          subst er
          refine ⟨(some (cutS w none (some (-1))), W), ⟨ok, fun y e => Option.some.inj e ▸ nm_iff.mp hn⟩, ?_, lt⟩
          rw [← j]
          refine congrArg V.str ?_
          show _ = rowText (some _) W
          rw [join_row ok (nm_iff.mp hn), ← colon_of hc, TL.join_eq, ew]
        · cases hb
      · have er := Option.some.inj hb
        subst er
        refine ⟨(none, W), ⟨ok, fun y e => nomatch e⟩, ?_, lt⟩
        rw [← j, ← ew]
        refine congrArg V.str ?_
        show _ = Txt.join " " W.words
        rw [TL.join_eq]
/-! ### single signs, compared -/
theorem sign_lt (c d : Nat) : decide (([c] : List Nat) < [d]) = decide (c < d) := by
  rw [decide_eq_decide]
  simp [List.cons_lt_cons_iff]
theorem isLetter_iff (c : Nat) : isLetter c = (!decide (c < 97) && !decide (122 < c)) := by
  unfold isLetter
  have e : lettersS.cps.toList = [97, 98, 99, 100, 101, 102, 103, 104, 105, 106, 107, 108, 109, 110, 111, 112, 113, 114, 115, 116, 117, 118, 119, 120, 121, 122] := by decide +kernel
  rw [e, Bool.eq_iff_iff]
  simp only [decide_eq_true_eq, List.mem_cons, List.not_mem_nil, or_false, Bool.and_eq_true, Bool.not_eq_true', decide_eq_false_iff_not]
  omega
theorem isSign_iff (c : Nat) : isSign c = ((!decide (c < 97) && !decide (122 < c)) || (!decide (c < 48) && !decide (57 < c))) := by
  unfold isSign
  have e : signsS.cps.toList = [97, 98, 99, 100, 101, 102, 103, 104, 105, 106, 107, 108, 109, 110, 111, 112, 113, 114, 115, 116, 117, 118, 119, 120, 121, 122, 48, 49, 50, 51, 52, 53, 54, 55, 56, 57] := by decide +kernel
  rw [e, Bool.eq_iff_iff]
  simp only [decide_eq_true_eq, List.mem_cons, List.not_mem_nil, or_false, Bool.and_eq_true, Bool.or_eq_true, Bool.not_eq_true', decide_eq_false_iff_not]
  omega
theorem lt_a (c : Nat) : decide ((⟨#[c]⟩ : Str).cps.toList < (Str.ofString "a").cps.toList) = decide (c < 97) := by
  rw [show (Str.ofString "a").cps.toList = [97] from by decide +kernel]
  exact sign_lt c 97
theorem lt_z (c : Nat) : decide ((Str.ofString "z").cps.toList < (⟨#[c]⟩ : Str).cps.toList) = decide (122 < c) := by
  rw [show (Str.ofString "z").cps.toList = [122] from by decide +kernel]
  exact sign_lt 122 c
theorem lt_0 (c : Nat) : decide ((⟨#[c]⟩ : Str).cps.toList < (Str.ofString "0").cps.toList) = decide (c < 48) := by
  rw [show (Str.ofString "0").cps.toList = [48] from by decide +kernel]
  exact sign_lt c 48
theorem lt_9 (c : Nat) : decide ((Str.ofString "9").cps.toList < (⟨#[c]⟩ : Str).cps.toList) = decide (57 < c) := by
  rw [show (Str.ofString "9").cps.toList = [57] from by decide +kernel]
  exact sign_lt 57 c
section
variable {P : Program} {w : World} {K : PySem.W.Frag} {mg : Str → Option Value} {base : Heap} {CX : CXT}
def spIsTag : Sp := fun vs H Q _ => ∃ z : Str, vs = [.str z] ∧ z.length ≤ sizeLine ∧ ∀ H', Same H H' → Q (.bl (isNameS z)) H'
theorem ok_is_tag {f : Addr} {fd : FuncData} {dvs : List V} {kws : List (Str × V)} (T : Tx K mg)
    (F : FunD K "_law_is_tag" "_law_is_tag" (defArgs s__law_is_tag) (defBody s__law_is_tag) (defScope s__law_is_tag) dvs kws f fd) :
    FnG P w K mg base CX 1 f fd ["_law_thing"] spIsTag := by
  refine okG F sc__law_is_tag (fun vs H Q E h => ?_) (fun cdv A outer s H vs Q E hr hgd h => ?_)
  · obtain ⟨z, rfl, _⟩ := h
    rfl
  · obtain ⟨z, rfl, zl, q⟩ := h
    have hu := hr.units
    refine ⟨_, PSs.nox (pss_cons (ps_if (PW.pt (pw_or (pt_not (pt_val (pe_callB call_isi rfl T.f_isinstance (by decide +kernel) (pa_cons (pv 0) (pa_cons (pe_bltn (v := .ty "str") (u := .type "str") rfl T.f_str (by decide +kernel) rfl) pa_nil))))) (pw_or (pt_not (pt_chain op_lt op_lt pe_int (pe_callB call_len_str rfl T.f_len (by decide +kernel) (pa_cons (pv 0) pa_nil)) pe_int)) (pw_or1 (pt_not (pt_chain op_le_str op_le_str pe_str (pe_ix ix_str (pv 0) pe_int (fun _ _ => rfl)) pe_str)))))) (pss_one (ps_ret pe_bl)) pss_nil)
    (pss_one (ps_ret (pe_callB (cr_all rfl) rfl T.f_all (by decide +kernel) (pa_cons (pe_lc (own := [("_law_sign_here", 1)]) (g := gName 1) (tt := tYes) rfl sc__law_is_tag.nd (pi_str (pv 0)) (blkOk_by (own := [("_law_sign_here", 1)]) (N := n__law_is_tag) (sc := defScope s__law_is_tag) (by decide +kernel)) (fun _ _ _ _ _ => (pg_name (i := 1) sc__law_is_tag.nd rfl (Or.inl rfl))) (fun _ _ _ _ _ => pts_nil) (fun _ _ _ _ _ => (pe_or (pe_chain op_le_str op_le_str pe_str (pv 1) pe_str) (pe_one (pe_chain op_le_str op_le_str pe_str (pv 1) pe_str))))) pa_nil))))), ?_⟩
    have none_of : isNameS z = false → Q (.bl false) H := fun e => by
      have := q H (.refl _)
      rwa [e] at this
    walk_at "rd"
    refine iteB (fun h1 => ?_) (fun h1 => ?_)
    rotate_left
    · walk_at "rd"
      refine none_of ?_
      have h2 := of_decide_eq_false h1
      rw [isNameS_eq, decide_eq_false (show ¬ 1 ≤ z.length by omega)]
      rfl
    have l1 : 1 ≤ z.length := by have := of_decide_eq_true h1; omega
    walk_at "rd"
    refine iteB (fun h2 => ?_) (fun h2 => ?_)
    · walk_at "rd"
      refine none_of ?_
      have h3 : ¬ (z.length : Int) < 9 := by simpa using h2
      rw [isNameS_eq, decide_eq_false (show ¬ z.length ≤ 8 by omega)]
      simp
    have l8 : z.length ≤ 8 := by
      have h3 : (z.length : Int) < 9 := by simpa using h2
      omega
    obtain ⟨c, r, ez⟩ : ∃ c r, z.cps.toList = c :: r := by
      rw [str_len] at l1
      cases e : z.cps.toList with
      | nil => rw [e] at l1; simp at l1
      | cons c r => exact ⟨c, r, rfl⟩
    walk_at "rd"
    apply And.intro
    · rw [ez]
      exact at_head
    walk_at "rd"
    rw [lt_a]
    refine iteB (fun h3 => ?_) (fun h3 => ?_)
    rotate_left
    · walk_at "rd"
      refine none_of ?_
      have h4 : isLetter c = false := by rw [isLetter_iff, h3]; rfl
      rw [isNameS_eq, ez]
      simp [h4]
    walk_at "rd"
    rw [lt_z]
    refine iteB (fun h4 => ?_) (fun h4 => ?_)
    · walk_at "rd"
      refine none_of ?_
      have h5 : isLetter c = false := by
        rw [isLetter_iff, h3]
        simpa using h4
      rw [isNameS_eq, ez]
      simp [h5]
    have lc : isLetter c = true := by
      rw [isLetter_iff, h3]
      simpa using h4
    walk_at "rd"
    intro D nD
    refine lcP (wk_str z) fSign (fun _ => trivial) (by rw [signs_len]; have := str_len z; simp at this; rw [sizeLine_eq]; omega) ?_ ?_
    · intro i x acc Q' hx hq
      obtain ⟨u, hu, rfl⟩ : ∃ u, z.cps.toList[i]? = some u ∧ x = V.str ⟨#[u]⟩ := by
        unfold signs at hx
        rw [List.getElem?_map] at hx
        cases e : z.cps.toList[i]? with
        | none => rw [e] at hx; cases hx
        | some u => rw [e] at hx; exact ⟨u, rfl, (Option.some.inj hx).symm⟩
      have fs : fSign (.str ⟨#[u]⟩) = .bl ((!decide (u < 97) && !decide (122 < u)) || (!decide (u < 48) && !decide (57 < u))) := by
        rw [← isSign_iff]
        rfl
      rw [fs] at hq
      walk_at "rd"
      rw [lt_a]
      generalize decide (u < 97) = b1 at hq ⊢
      have two : Q' (.bl (!decide (u < 48) && !decide (57 < u))) (upd H D (.lst acc)) → tChain (fun x y H Q => ∃ i j, x = V.str i ∧ y = V.str j ∧ Q (V.bl !decide (j.cps.toList < i.cps.toList)) H)
          (fun x y H Q => ∃ i j, x = V.str i ∧ y = V.str j ∧ Q (V.bl !decide (j.cps.toList < i.cps.toList)) H) (tC (V.str (Str.ofString "0"))) (tVar 1) (tC (V.str (Str.ofString "9"))) [some (V.str z), some (V.str ⟨#[u]⟩)] (upd H D (.lst acc)) Q' := by
        intro h
        walk_at "rd"
        rw [lt_0]
        generalize decide (u < 48) = b3 at h ⊢
        cases b3 with
        | true =>
          walk_at "rd"
          exact h
        | false =>
          walk_at "rd"
          rw [lt_9]
          exact h
      cases b1 with
      | true => exact iteKF rfl ⟨false, rfl, L2.iteF (two hq)⟩
      | false =>
        walk_at "rd"
        rw [lt_z]
        generalize decide (122 < u) = b2 at hq ⊢
        cases b2 with
        | true => exact iteKF rfl (two hq)
        | false =>
          walk_at "rd"
          exact hq
    · refine ⟨D, z.cps.toList.map isSign, rfl, SqL.of ?_, ?_⟩
      · rw [signs_map]; exact upd_same
      · have e : isNameS z = (z.cps.toList.map isSign).all id := by
          rw [isNameS_eq, all_map, decide_eq_true l1, decide_eq_true l8, ez]
          simp [lc]
        exact ret_eq (q _ ((Same.refl H).new nD)) (by rw [e])
theorem c_is_tag (T : Tx K mg) : Cal P w K mg base CX 1 "_law_is_tag" [] spIsTag := by
  obtain ⟨fd, F⟩ := T.d__law_is_tag
  exact .mk F (ok_is_tag T F) T.n__law_is_tag fun _ _ _ _ _ _ us hl => match us, hl with | [_], _ => rfl
/-- is a word the index of one of m rows -/
def placeB (x : Str) (m : Nat) : Bool := match digO x with
  | some k => decide (k < m)
  | none => false
theorem placeB_iff {x : Str} {m : Nat} : placeB x m = true ↔ PlaceP x m := by
  unfold placeB
  constructor
  · intro h
    cases e : digO x with
    | none => rw [e] at h; cases h
    | some k =>
      rw [e] at h
      obtain ⟨rfl, h10⟩ := digO_some e
      exact ⟨k, rfl, h10, of_decide_eq_true h⟩
  · rintro ⟨k, rfl, h1, h2⟩
    rw [digO_dig h1]
    exact decide_eq_true h2
theorem place_in (x : Str) (m : Nat) : decide (x ∈ (List.range (min m 10)).map digS) = placeB x m := by
  rw [Bool.eq_iff_iff, placeB_iff, decide_eq_true_eq, List.mem_map]
  constructor
  · rintro ⟨k, hk, rfl⟩
    have := List.mem_range.mp hk
    exact ⟨k, rfl, by omega, by omega⟩
  · rintro ⟨k, rfl, h1, h2⟩
    exact ⟨k, List.mem_range.mpr (by omega), rfl⟩
def fDigS : V → V
  | .int i => .str (digS i.toNat)
  | _ => .non
def spIsPlace : Sp := fun vs H Q _ => ∃ (x : Str) (m : Nat), vs = [.str x, .int (m : Int)] ∧ ∀ H', Same H H' → Q (.bl (placeB x m)) H'
theorem ok_is_place {f : Addr} {fd : FuncData} {dvs : List V} {kws : List (Str × V)} (T : Tx K mg)
    (F : FunD K "_law_is_place" "_law_is_place" (defArgs s__law_is_place) (defBody s__law_is_place) (defScope s__law_is_place) dvs kws f fd) :
    FnG P w K mg base CX 1 f fd ["_law_word", "_law_most"] spIsPlace := by
  refine okG F sc__law_is_place (fun vs H Q E h => ?_) (fun cdv A outer s H vs Q E hr hgd h => ?_)
  · obtain ⟨x, m, rfl, _⟩ := h
    rfl
  · obtain ⟨x, m, rfl, q⟩ := h
    have hu := hr.units
    refine ⟨_, PSs.nox (pss_one (ps_ret (pe_cmpR op_in_seq (pv 0) (pe_lc (own := [("_law_k", 2)]) (g := gName 2) (tt := tYes) rfl sc__law_is_place.nd (pi_range1 rfl T.f_range (pa_cons (pe_callB (call_min2 rfl) rfl T.f_min (by decide +kernel) (pa_cons (pv 1) (pa_cons pe_int pa_nil))) pa_nil)) (blkOk_by (own := [("_law_k", 2)]) (N := n__law_is_place) (sc := defScope s__law_is_place) (by decide +kernel)) (fun _ _ _ _ _ => (pg_name (i := 2) sc__law_is_place.nd rfl (Or.inl rfl))) (fun _ _ _ _ _ => pts_nil) (fun _ _ _ _ _ => (pe_callTy call_str_int rfl T.f_str (by decide +kernel) (pa_cons (pv 2) pa_nil)))) rfl))), ?_⟩
    walk_at "rd"
    have em : (if (10 : Int) < (m : Int) then (10 : Int) else (m : Int)).toNat = min m 10 := by
      split <;> omega
    rw [em]
    intro D nD
    refine lcP (wk_range 0 _) fDigS (fun _ => trivial) (by rw [rngV_len]; show _ < 16777216; omega) ?_ ?_
    · intro i x' acc Q' hx hq
      obtain ⟨rfl, hi⟩ := rng_at hx
      have hk : i < 10 := by omega
      have ed : (Str.ofString (toString (0 + (i : Int)))) = digS i := by
        rw [Int.zero_add]
        exact dig_str i hk
      have fs : fDigS (.int (0 + (i : Int))) = .str (digS i) := by
        show V.str (digS (0 + (i : Int)).toNat) = _
        rw [show (0 + (i : Int)).toNat = i by omega]
      rw [fs] at hq
      walk_at "rd"
      refine ⟨?_, ?_⟩
      · rw [show (0 + (i : Int)).natAbs = i by omega]
        exact Nat.lt_of_le_of_lt (Nat.log2_le_self i) (by omega)
      · rw [ed]
        exact hq
    · have f1 : (rngV 0 (min m 10)).map fDigS = ((List.range (min m 10)).map digS).map V.str := by
        unfold rngV
        rw [List.map_map, List.map_map]
        refine List.map_congr_left fun i _ => ?_
        show V.str (digS (0 + (i : Int)).toNat) = _
        rw [show (0 + (i : Int)).toNat = i by omega]
        rfl
      rw [f1]
      have sD : SqL K (upd H D (.lst (((List.range (min m 10)).map digS).map V.str))) D (((List.range (min m 10)).map digS).map V.str) := SqL.of upd_same
      walk_at "rd"
      refine ⟨flat_strs _, ?_⟩
      rw [inV_strsX, place_in]
      exact q _ (by walk_at "g but")
theorem c_is_place (T : Tx K mg) : Cal P w K mg base CX 1 "_law_is_place" [] spIsPlace := by
  obtain ⟨fd, F⟩ := T.d__law_is_place
  exact .mk F (ok_is_place T F) T.n__law_is_place fun _ _ _ _ _ _ us hl => match us, hl with | [_, _], _ => rfl
theorem cutV_rest (x : V) (xs : List V) : cutV (x :: xs) (some 1) none = xs := by
  unfold cutV
  rw [HT.sIx_none, show (1 : Int) = ((1 : Nat) : Int) from rfl, HT.sIx_nat, List.length_cons]
  have e : min 1 (xs.length + 1) = 1 := by omega
  rw [e, List.drop_succ_cons, List.drop_zero, List.take_of_length_le (by omega)]
def spBare : Sp := fun vs H Q _ => ∃ z : Str, vs = [.str z] ∧ z.length + 2 ≤ 100000 ∧
  (∀ ws, bareW (Txt.split z (Str.ofString " ")) = some ws → ∀ H' a, Same H H' → H' a = some (.lst (ws.map V.str)) → Q (.ref a) H') ∧ (bareW (Txt.split z (Str.ofString " ")) = none → ∀ H', Same H H' → Q .non H')
theorem ok_bare {f : Addr} {fd : FuncData} {dvs : List V} {kws : List (Str × V)} (T : Tx K mg)
    (F : FunD K "_law_bare" "_law_bare" (defArgs s__law_bare) (defBody s__law_bare) (defScope s__law_bare) dvs kws f fd) :
    FnG P w K mg base CX0 2 f fd ["_law_line_here"] spBare := by
  have c__law_is_tag : Cal P w K mg base CX0 1 "_law_is_tag" [] spIsTag := c_is_tag T
  refine okG F sc__law_bare (fun vs H Q E h => ?_) (fun cdv A outer s H vs Q E hr hgd h => ?_)
  · obtain ⟨z, rfl, _⟩ := h
    rfl
  · obtain ⟨z, rfl, zl, q, qn⟩ := h
    have hu := hr.units
    refine ⟨_, PSs.nox (pss_cons (ps_set (i := 1) sc__law_bare.nd rfl (Or.inl rfl) (pe_split (pv 0) pe_str))
    (pss_cons (ps_if (pt_cmpR op_ne (pe_slice sl_str (pe_ix ix_list (pv 1) pe_int (fun _ _ => rfl)) (po_some (pe_un un_neg pe_int)) po_none) pe_str (nomark _)) (pss_one (ps_ret (pv 1))) pss_nil)
    (pss_one (ps_ret (pe_ifExp (pt_val (pe_cal c__law_is_tag (hr.mono (by decide)) hgd pass0 (pa_cons (pe_slice sl_str (pe_ix ix_list (pv 1) pe_int (fun _ _ => rfl)) po_none (po_some (pe_un un_neg pe_int))) pa_nil))) (pe_slice sl_list (pv 1) (po_some pe_int) po_none) pe_non))))), ?_⟩
    have z2 : z.length + 2 ≤ sizeLine := by rw [sizeLine_eq]; omega
    obtain ⟨w, r, ew⟩ : ∃ w r, Txt.split z (Str.ofString " ") = w :: r := by
      have h1 := split_pos z (Str.ofString " ")
      cases h : Txt.split z (Str.ofString " ") with
      | nil => rw [h] at h1; simp at h1
      | cons w more => exact ⟨w, more, rfl⟩
    rw [ew, bareW_cons] at q qn
    have wl : w.length ≤ z.length := part_short (by rw [ew]; exact List.mem_cons_self)
    have wsz : w.length ≤ sizeLine := by rw [sizeLine_eq]; omega
    walk_at "rd"
    intro D nD
    rw [ew]
    have rl : r.length + 1 ≤ 100002 := by
      have h1 := split_le z (Str.ofString " ")
      rw [ew, List.length_cons] at h1
      omega
    walk_at "rd"
    refine ⟨at_any (v := V.str w) (j := 0) rfl rfl, ?_⟩
    walk_at "rd"
    have s1 : Same H (upd H D (.lst ((w :: r).map V.str))) := by walk_at "g but"
    refine iteB (fun h1 => ?_) (fun h1 => ?_)
    · have h2 : ¬ cutS w (some (-1)) none = Str.ofString ":" := by simpa using h1
      rw [if_neg h2] at q
      walk_at "rd"
      exact q (w :: r) rfl _ D s1 upd_same
    · have h2 : cutS w (some (-1)) none = Str.ofString ":" := by simpa using h1
      rw [if_pos h2] at q qn
      have cl : (cutS w none (some (-1))).length ≤ sizeLine := Nat.le_trans (cutS_length _ _ _) wsz
      walk_at "rd"
      refine ⟨at_any (v := V.str w) (j := 0) rfl rfl, ?_⟩
      walk_at "rd"
      intro H2 s2
      have hD2 := s2 _ _ (upd_same : upd H D (.lst ((w :: r).map V.str)) D = _)
      cases hn : isNameS (cutS w none (some (-1))) with
      | true =>
        rw [if_pos hn] at q
        walk_at "rd"
        intro p np
        rw [show cutV (List.map V.str (w :: r)) (some 1) none = r.map V.str from cutV_rest _ _]
        exact q r rfl _ p (by walk_at "g but") upd_same
      | false =>
        rw [if_neg (by rw [hn]; exact Bool.false_ne_true)] at qn
        walk_at "rd"
        exact qn rfl _ (s1.trans s2)
theorem c_bare (T : Tx K mg) : Cal P w K mg base CX0 2 "_law_bare" [] spBare := by
  obtain ⟨fd, F⟩ := T.d__law_bare
  exact .mk F (ok_bare T F) T.n__law_bare fun _ _ _ _ _ _ us hl => match us, hl with | [_], _ => rfl
theorem dig_intX {k : Nat} (h : k < 10) : PySem.intText? (digS k) = some (k : Int) := by
  have a : ∀ k : Fin 10, PySem.intText? (digS k.val) = some (k.val : Int) := by decide +kernel
  exact a ⟨k, h⟩
/-- the words, or none -/
inductive IlSt (x : V) (m : Nat) (H : Hp) (σ : L2.St) (H' : Hp) : Prop
  | no (eσ : σ = [some x, some (.int (m : Int)), some .non, none, none, none, none]) (sm : Same H H') (nl : ¬ LineV x m)
  | yes (a : Addr) (ws : List Str) (eσ : σ = [some x, some (.int (m : Int)), some (.ref a), none, none, none, none]) (sm : Same H H') (ha : H' a = some (.lst (ws.map V.str))) (iff : LineV x m ↔ WP ws m)
      (as : ∀ z ∈ ws, z.length ≤ 100000 ∧ Asc z) (ln : ws.length ≤ 100002)
inductive IlSt2 (x : V) (m : Nat) (w : Str) (more : List Str) (a : Addr) (H : Hp) (σ : L2.St) (H' : Hp) : Prop
  | mk (b : Addr) (eσ : σ = [some x, some (.int (m : Int)), some (.ref a), some (.str w), some (.ref b), none, none]) (sm : Same H H') (hb : H' b = some (.lst (more.map V.str)))
def spIsLine (K : PySem.W.Frag) : Sp := fun vs H Q _ => ∃ (x : V) (m : Nat) (d : PyData), vs = [x, .int (m : Int)] ∧ Dq K H x d ∧ StrB x ∧
  (LineV x m → ∀ H', Same H H' → Q (.bl true) H') ∧ (¬ LineV x m → ∀ H', Same H H' → Q (.bl false) H')
theorem ok_is_line {f : Addr} {fd : FuncData} {dvs : List V} {kws : List (Str × V)} (T : Tx K mg)
    (F : FunD K "_law_is_line" "_law_is_line" (defArgs s__law_is_line) (defBody s__law_is_line) (defScope s__law_is_line) dvs kws f fd) :
    FnG P w K mg base CX0 3 f fd ["_law_thing", "_law_most"] (spIsLine K) := by
  have c__law_is_tag : Cal P w K mg base CX0 1 "_law_is_tag" [] spIsTag := c_is_tag T
  have c__law_is_place : Cal P w K mg base CX0 1 "_law_is_place" [] spIsPlace := c_is_place T
  have c__law_bare : Cal P w K mg base CX0 2 "_law_bare" [] spBare := c_bare T
  refine okG F sc__law_is_line (fun vs H Q E h => ?_) (fun cdv A outer s H vs Q E hr hgd h => ?_)
  · obtain ⟨x, m, d, rfl, _⟩ := h
    rfl
  · obtain ⟨x, m, d, rfl, hx, sb, qt, qf⟩ := h
    have hu := hr.units
    refine ⟨_, PSs.nox (pss_cons (ps_set (i := 2) sc__law_is_line.nd rfl (Or.inl rfl) (pe_ifExp (pt_val (pe_callB call_isi rfl T.f_isinstance (by decide +kernel) (pa_cons (pv 0) (pa_cons (pe_bltn (v := .ty "str") (u := .type "str") rfl T.f_str (by decide +kernel) rfl) pa_nil)))) (pe_cal c__law_bare (hr.mono (by decide)) hgd pass0 (pa_cons (pv 0) pa_nil)) pe_non))
    (pss_cons (ps_if (PW.pt (pw_or (pt_cmpR op_isN (pv 2) pe_non (nomark _)) (pw_or1 (pt_cmpR (op_eqD hu) (pv 2) (pe_lst pa_nil) (nomark _))))) (pss_one (ps_ret pe_bl)) pss_nil)
    (pss_cons (ps_asg (pe_tup (pa_cons (pe_ix ix_list (pv 2) pe_int (fun _ _ => rfl)) (pa_cons (pe_slice sl_list (pv 2) (po_some pe_int) po_none) pa_nil))) (pg_tup rfl (pgs_cons (pg_name (i := 3) sc__law_is_line.nd rfl (Or.inl rfl)) (pgs_cons (pg_name (i := 4) sc__law_is_line.nd rfl (Or.inr rfl)) pgs_nil))))
    (pss_cons (ps_if (pt_cmpR op_eq (pv 3) pe_str (nomark _)) (pss_one (ps_ret (pe_cmpR (op_eqD hu) (pv 4) (pe_lst pa_nil) (nomark _)))) pss_nil)
    (pss_cons (ps_if (pt_cmpR op_eq (pv 3) pe_str (nomark _)) (pss_cons (ps_if (PW.pt (pw_or (pt_not (pt_chain op_lt op_lt pe_int (pe_callB call_len_seq rfl T.f_len (by decide +kernel) (pa_cons (pv 4) pa_nil)) pe_int)) (pw_or1 (pt_not (pt_val (pe_callB (cr_all rfl) rfl T.f_all (by decide +kernel) (pa_cons (pe_lc (own := [("_law_part", 5)]) (g := gName 5) (tt := tYes) rfl sc__law_is_line.nd (pi_list (pv 4)) (blkOk_by (own := [("_law_part", 5)]) (N := n__law_is_line) (sc := defScope s__law_is_line) (by decide +kernel)) (fun _ _ _ _ _ => (pg_name (i := 5) sc__law_is_line.nd rfl (Or.inl rfl))) (fun _ _ _ _ _ => pts_nil) (fun _ _ _ _ _ => (pe_cal c__law_is_place (hr.mono (by decide)) hgd pass0 (pa_cons (pv 5) (pa_cons (pv 1) pa_nil))))) pa_nil))))))) (pss_one (ps_ret pe_bl)) pss_nil)
    (pss_one (ps_ret (pe_callB (cr_all rfl) rfl T.f_all (by decide +kernel) (pa_cons (pe_lc (own := [("_law_k", 6)]) (g := gName 6) (tt := tYes) rfl sc__law_is_line.nd (pi_range1 rfl T.f_range (pa_cons (pe_op op_sub (pe_callB call_len_seq rfl T.f_len (by decide +kernel) (pa_cons (pv 4) pa_nil)) pe_int) pa_nil)) (blkOk_by (own := [("_law_k", 6)]) (N := n__law_is_line) (sc := defScope s__law_is_line) (by decide +kernel)) (fun _ _ _ _ _ => (pg_name (i := 6) sc__law_is_line.nd rfl (Or.inl rfl))) (fun _ _ _ _ _ => pts_nil) (fun _ _ _ _ _ => (pe_cmpR op_lt (pe_callTy call_int_str rfl T.f_int (by decide +kernel) (pa_cons (pe_ix (ixK (K := K) (r := rIxL) rfl ix_list) (pv 4) (pv 6) (fun _ _ => rfl)) pa_nil)) (pe_callTy call_int_str rfl T.f_int (by decide +kernel) (pa_cons (pe_ix (ixK (K := K) (r := rIxL) rfl ix_list) (pv 4) (pe_op op_add (pv 6) pe_int) (fun _ _ => rfl)) pa_nil)) (nomark _)))) pa_nil))))) pss_nil)
    (pss_cons (ps_if (PW.pt (pw_or (pt_cmpR (op_eqD hu) (pv 4) (pe_lst pa_nil) (nomark _)) (pw_or1 (pt_not (pt_val (pe_cal c__law_is_tag (hr.mono (by decide)) hgd pass0 (pa_cons (pe_ix ix_list (pv 4) pe_int (fun _ _ => rfl)) pa_nil))))))) (pss_one (ps_ret pe_bl)) pss_nil)
    (pss_cons (ps_if (pt_cmpR op_in_seq (pv 3) (pe_lst (pa_cons pe_str (pa_cons pe_str (pa_cons pe_str (pa_cons pe_str pa_nil))))) rfl) (pss_one (ps_ret (pe_cmpR op_eq (pe_callB call_len_seq rfl T.f_len (by decide +kernel) (pa_cons (pv 4) pa_nil)) pe_int (nomark _)))) pss_nil)
    (pss_cons (ps_if (pt_cmpR op_eq (pv 3) pe_str (nomark _)) (pss_one (ps_ret (pe_and (pe_cmpR op_eq (pe_callB call_len_seq rfl T.f_len (by decide +kernel) (pa_cons (pv 4) pa_nil)) pe_int (nomark _)) (pe_and (pe_cmpR op_eq (pe_ix ix_list (pv 4) pe_int (fun _ _ => rfl)) pe_str (nomark _)) (pe_one (pe_cal c__law_is_place (hr.mono (by decide)) hgd pass0 (pa_cons (pe_ix ix_list (pv 4) pe_int (fun _ _ => rfl)) (pa_cons (pv 1) pa_nil)))))))) pss_nil)
    (pss_cons (ps_if (PW.pt (pw_or (pt_cmpR op_notIn_seq (pv 3) (pe_lst (pa_cons pe_str (pa_cons pe_str pa_nil))) rfl) (pw_or (pt_cmpR op_lt (pe_callB call_len_seq rfl T.f_len (by decide +kernel) (pa_cons (pv 4) pa_nil)) pe_int (nomark _)) (pw_or1 (pt_cmpR op_notIn_seq (pe_ix ix_list (pv 4) pe_int (fun _ _ => rfl)) (pe_lst (pa_cons pe_str (pa_cons pe_str (pa_cons pe_str (pa_cons pe_str pa_nil))))) rfl))))) (pss_one (ps_ret pe_bl)) pss_nil)
    (pss_one (ps_ret (pe_ifExp (pt_cmpR op_eq (pv 3) pe_str (nomark _)) (pe_cmpR op_eq (pe_callB call_len_seq rfl T.f_len (by decide +kernel) (pa_cons (pv 4) pa_nil)) pe_int (nomark _)) (pe_and (pe_cmpR op_eq (pe_callB call_len_seq rfl T.f_len (by decide +kernel) (pa_cons (pv 4) pa_nil)) pe_int (nomark _)) (pe_one (pe_cal c__law_is_place (hr.mono (by decide)) hgd pass0 (pa_cons (pe_ix ix_list (pv 4) pe_int (fun _ _ => rfl)) (pa_cons (pv 1) pa_nil))))))))))))))))), ?_⟩
    clear c__law_is_tag c__law_is_place c__law_bare
    refine mid1 (fun σ' H' => IlSt x m H σ' H') ?_ (fun u rest => ?_)
    rotate_left
    · rcases dq_ty hx with ⟨z, rfl, _⟩ | ⟨ns, tt, mt, ty⟩
      · obtain ⟨zl, za⟩ := sb z rfl
        walk_at "rd"
        refine ⟨fun ws hb H' a s' ha => ?_, fun hb H' s' => ?_⟩
        · walk_at "rd"
          have sub : ∀ y ∈ ws, y ∈ Txt.split z (Str.ofString " ") := by
            cases es : Txt.split z (Str.ofString " ") with
            | nil => rw [es] at hb; cases hb
            | cons w r =>
              rw [es, bareW_cons] at hb
              intro y hy
              split at hb
              · split at hb
                · rw [← Option.some.inj hb] at hy
                  exact List.mem_cons_of_mem _ hy
                · cases hb
              · rw [← Option.some.inj hb] at hy
                exact hy
          refine rest _ _ (.yes a ws rfl s' ha ?_ (fun y hy => ⟨?_, asc_words za _ y (sub y hy)⟩) ?_)
          · rw [line_bare]
            exact ⟨fun ⟨ws', e, h⟩ => by rw [hb] at e; exact Option.some.inj e ▸ h, fun h => ⟨ws, hb, h⟩⟩
          · have := part_short (sub y hy)
            omega
          · have h1 := split_le z (Str.ofString " ")
            cases es : Txt.split z (Str.ofString " ") with
            | nil => rw [es] at hb; cases hb
            | cons w r =>
              rw [es] at h1 hb
              rw [List.length_cons] at h1
              rw [bareW_cons] at hb
              split at hb
              · split at hb
                · rw [← Option.some.inj hb]
                  omega
                · cases hb
              · rw [← Option.some.inj hb, List.length_cons]
                omega
        · walk_at "rd"
          refine rest _ _ (.no rfl s' fun h => ?_)
          obtain ⟨ws, e, _⟩ := line_bare.mp h
          rw [hb] at e
          cases e
      · walk_at "rd"
        refine ⟨not_str tt mt, ?_⟩
        walk_at "rd"
        exact rest _ _ (.no rfl (.refl _) fun ⟨q, _, e, _⟩ => ns _ e)
    rintro σ1 H1 (⟨rfl, s1, nl⟩ | ⟨a, ws, rfl, s1, ha, iff, as, ln⟩)
    · walk_at "rd"
      exact qf nl _ (by walk_at "g but")
    refine mid1 (fun σ' H' => σ' = [some x, some (.int (m : Int)), some (.ref a), none, none, none, none] ∧ Same H H' ∧ ws ≠ [] ∧ H' a = some (.lst (ws.map V.str))) ?_ (fun u rest => ?_)
    rotate_left
    · walk_at "rd"
      intro D nD
      refine ⟨.list (ws.map PyData.str), .list (([] : List Str).map PyData.str), lstrs_dp (SqL.of (by walk_at "g hp")), lstrs_dp (SqL.of upd_same), lstrs_shaped fun z hz => (as z hz).2, by decide +kernel, ?_⟩
      rw [lstrs_eqv]
      refine ⟨_, rfl, iteB (fun h1 => ?_) (fun h1 => ?_)⟩
      · walk_at "rd"
        refine qf (fun h => ?_) _ (by walk_at "g but")
        obtain ⟨W, ok, e, _⟩ := iff.mp h
        rw [of_decide_eq_true h1] at e
        exact (words_few ok).1 e
      · walk_at "rd"
        exact rest _ _ ⟨rfl, by walk_at "g but", of_decide_eq_false h1, by walk_at "g hp"⟩
    clear ha s1
    rintro σ2 H2 ⟨rfl, s2, w0, ha⟩
    obtain ⟨w, more, rfl⟩ : ∃ w more, ws = w :: more := by
      cases ws with
      | nil => exact absurd rfl w0
      | cons w more => exact ⟨w, more, rfl⟩
    refine mid1 (fun σ' H' => IlSt2 x m w more a H σ' H') ?_ (fun u rest => ?_)
    rotate_left
    · walk_at "rd"
      refine ⟨at_any (v := V.str w) (j := 0) rfl rfl, ?_⟩
      walk_at "rd"
      intro b nb
      rw [show cutV (List.map V.str (w :: more)) (some 1) none = more.map V.str from cutV_rest _ _]
      walk_at "rd"
      intro p np
      walk_at "rd"
      exact rest _ _ ⟨b, rfl, by walk_at "g but", upd_get np upd_same⟩
    clear ha s2
    have wa := (as w List.mem_cons_self)
    have ma : ∀ z ∈ more, z.length ≤ 100000 ∧ Asc z := fun z hz => as z (List.mem_cons_of_mem _ hz)
    have ln' : more.length + 1 ≤ 100002 := by rw [List.length_cons] at ln; exact ln
    have ml : (more.map V.str).length = more.length := List.length_map ..
    clear as ln
    rintro σ3 H3 ⟨b, rfl, s3, hb⟩
    -- end
    refine mid1 (fun σ' H' => IlSt2 x m w more a H σ' H' ∧ w ≠ "end") ?_ (fun u rest => ?_)
    rotate_left
    · walk_at "rd"
      refine iteB (fun h1 => ?_) (fun h1 => ?_)
      · obtain rfl : w = "end" := V.str.inj (of_decide_eq_true h1)
        rw [wp_end] at iff
        walk_at "rd"
        intro D nD
        refine ⟨.list (more.map PyData.str), .list (([] : List Str).map PyData.str), lstrs_dp (SqL.of (by walk_at "g hp")), lstrs_dp (SqL.of upd_same), lstrs_shaped fun z hz => (ma z hz).2, by decide +kernel, ?_⟩
        rw [lstrs_eqv]
        by_cases h2 : more = []
        · rw [decide_eq_true h2]
          exact qt (iff.mpr h2) _ (by walk_at "g but")
        · rw [decide_eq_false h2]
          exact qf (fun h => h2 (iff.mp h)) _ (by walk_at "g but")
      · walk_at "rd"
        exact rest _ _ ⟨⟨b, rfl, s3, hb⟩, fun e => of_decide_eq_false h1 (by rw [e])⟩
    clear hb s3
    rintro σ4 H4 ⟨⟨b, rfl, s4, hb⟩, c1⟩
    -- go
    refine mid1 (fun σ' H' => IlSt2 x m w more a H σ' H' ∧ w ≠ "go") ?_ (fun u rest => ?_)
    rotate_left
    · walk_at "rd"
      refine iteB (fun h1 => ?_) (fun h1 => ?_)
      · obtain rfl : w = "go" := V.str.inj (of_decide_eq_true h1)
        walk_at "rd"
        refine iteB (fun h2 => ?_) (fun h2 => ?_)
        rotate_left
        · walk_at "rd"
          have h3 := of_decide_eq_false h2
          exact qf (fun h => wp_go_not (.inl fun h4 => h3 (by rw [ml]; have := h4.1; omega)) (iff.mp h)) _ (by walk_at "g but")
        have l0 : 0 < more.length := by have := of_decide_eq_true h2; rw [ml] at this; omega
        walk_at "rd"
        refine iteB (fun h3 => ?_) (fun h3 => ?_)
        · walk_at "rd"
          have h4 : ¬ ((more.map V.str).length : Int) < 5 := by simpa using h3
          exact qf (fun h => wp_go_not (.inl fun h5 => h4 (by rw [ml]; have := h5.2; omega)) (iff.mp h)) _ (by walk_at "g but")
        have l5 : more.length < 5 := by
          have h4 : ((more.map V.str).length : Int) < 5 := by simpa using h3
          rw [ml] at h4
          omega
        clear h1 h2 h3
        walk_at "rd"
        refine ⟨⟨more.map V.str, SqL.of (by walk_at "g hp")⟩, ?_⟩
        intro D nD
        refine lcW (wk_list (more.map V.str)) (fun i H' => Same H4 H' ∧ H' D = some (.lst (((more.take i).map fun z => placeB z m).map V.bl))) ⟨by walk_at "g but", upd_same⟩ (fun i H' _ e => SqL.of (e.1 _ _ hb)) ?_ ?_
        · rintro i y H' hy ⟨sm, hD⟩
          obtain ⟨z, hz, rfl⟩ : ∃ z, more[i]? = some z ∧ V.str z = y := by
            rw [List.getElem?_map] at hy
            exact Option.map_eq_some_iff.mp hy
          walk_at "rd"
          intro H'' s''
          have hD'' := s'' _ _ hD
          walk_at "rd"
          refine ⟨by rw [List.length_map, List.length_map, List.length_take]; show _ < 16777216; omega, L2.Same.own (sm.trans s'') nD, ?_⟩
          rw [upd_same, List.take_add_one, hz, List.map_append, List.map_append]
          rfl
        · rintro H5 ⟨s5, hD⟩
          rw [ml, List.take_of_length_le (Nat.le_refl _)] at hD
          refine ⟨D, more.map fun z => placeB z m, rfl, SqL.of hD, ?_⟩
          rw [all_map]
          cases eb : more.all fun z => placeB z m with
          | false =>
            walk_at "rd"
            refine qf (fun h => wp_go_not (.inr ?_) (iff.mp h)) _ (by walk_at "g but")
            obtain ⟨z, hz, hn⟩ := List.all_eq_false.mp eb
            exact ⟨z, hz, fun hp => hn (placeB_iff.mpr hp)⟩
          | true =>
            obtain ⟨ks, ek, hk⟩ := digs_map (m := m) fun z hz => placeB_iff.mp (List.all_eq_true.mp eb z hz)
            subst ek
            rw [List.length_map] at l0 l5
            rw [wp_go hk l0 l5] at iff
            have hb5 := s5 _ _ hb
            have kl : ((ks.map digS).map V.str).length = ks.length := by rw [List.length_map, List.length_map]
            walk_at "rd"
            rw [kl]
            intro D2 nD2
            refine lcP (wk_range 0 _) (fUp ks) (fun _ => trivial) (by rw [rngV_len]; show _ < 16777216; omega) ?_ ?_
            · intro i y acc Q' hy hq
              obtain ⟨rfl, hi⟩ := rng_at hy
              have h1 : i < ks.length := by omega
              have h2 : i + 1 < ks.length := by omega
              have hb6 : upd H5 D2 (.lst acc) b = _ := upd_get nD2 hb5
              have e1 : atI ((ks.map digS).map V.str) (0 + (i : Int)) = some (.str (digS ks[i])) := at_any (j := i) (by omega) (by simp [h1])
              have e2 : atI ((ks.map digS).map V.str) (0 + (i : Int) + 1) = some (.str (digS ks[i + 1])) := at_any (j := i + 1) (by omega) (by simp [h2])
              have d1 := dig_intX (hk ks[i] (List.getElem_mem h1)).1
              have d2 := dig_intX (hk ks[i + 1] (List.getElem_mem h2)).1
              have q1 : (digS ks[i]).length ≤ 640 := show 1 ≤ 640 by decide
              have q2 : (digS ks[i + 1]).length ≤ 640 := show 1 ≤ 640 by decide
              walk_at "rd"
              refine ret_eq hq ?_
              show fUp ks (.int (0 + (i : Int))) = _
              rw [fUp_int, List.getD_eq_getElem?_getD, List.getD_eq_getElem?_getD, List.getElem?_eq_getElem h1, List.getElem?_eq_getElem h2]
              refine congrArg V.bl (decide_eq_decide.mpr ?_)
              show ks[i] < ks[i + 1] ↔ _
              omega
            · have f1 : ((rngV 0 ((ks.length : Int) - 1).toNat).map (fUp ks)) = (((List.range (ks.length - 1)).map fun i => decide (ks.getD i 0 < ks.getD (i + 1) 0)).map V.bl) := by
                unfold rngV
                rw [List.map_map, List.map_map]
                have e4 : ((ks.length : Int) - 1).toNat = ks.length - 1 := by omega
                rw [e4]
                exact List.map_congr_left fun i _ => fUp_int ks i
              rw [f1]
              refine ⟨D2, _, rfl, SqL.of upd_same, ?_⟩
              rw [all_map]
              cases eb2 : (List.range (ks.length - 1)).all fun i => decide (ks.getD i 0 < ks.getD (i + 1) 0) with
              | true =>
                refine qt (iff.mpr (pw_step fun i hi => ?_)) _ (by walk_at "g but")
                exact of_decide_eq_true (List.all_eq_true.mp eb2 i (List.mem_range.mpr (by omega)))
              | false =>
                refine qf (fun h => ?_) _ (by walk_at "g but")
                have hp := iff.mp h
                have : (List.range (ks.length - 1)).all (fun i => decide (ks.getD i 0 < ks.getD (i + 1) 0)) = true := by
                  rw [List.all_eq_true]
                  intro i hi
                  have := List.mem_range.mp hi
                  exact decide_eq_true (pw_back hp (by omega))
                rw [this] at eb2
                cases eb2
      · walk_at "rd"
        exact rest _ _ ⟨⟨b, rfl, s4, hb⟩, fun e => of_decide_eq_false h1 (by rw [e])⟩
    clear hb s4
    rintro σ5 H5 ⟨⟨b, rfl, s5, hb⟩, c2⟩
    -- a gate
    refine mid1 (fun σ' H' => IlSt2 x m w more a H σ' H' ∧ ∃ g r, more = g :: r ∧ Nm g) ?_ (fun u rest => ?_)
    rotate_left
    · walk_at "rd"
      intro D nD
      refine ⟨.list (more.map PyData.str), .list (([] : List Str).map PyData.str), lstrs_dp (SqL.of (by walk_at "g hp")), lstrs_dp (SqL.of upd_same), lstrs_shaped fun z hz => (ma z hz).2, by decide +kernel, ?_⟩
      rw [lstrs_eqv]
      refine ⟨_, rfl, iteB (fun h1 => ?_) (fun h1 => ?_)⟩
      · walk_at "rd"
        refine qf (fun h => ?_) _ (by walk_at "g but")
        obtain ⟨g, r, e, _⟩ := wp_gate c1 c2 (iff.mp h)
        rw [of_decide_eq_true h1] at e
        cases e
      · obtain ⟨g, r, rfl⟩ : ∃ g r, more = g :: r := by
          cases more with
          | nil => exact absurd rfl (of_decide_eq_false h1)
          | cons g r => exact ⟨g, r, rfl⟩
        have gl := (ma g List.mem_cons_self).1
        have gl2 : g.length ≤ sizeLine := by rw [sizeLine_eq]; omega
        have hb6 : upd H5 D (.lst []) b = _ := upd_get nD hb
        walk_at "rd"
        refine ⟨at_any (v := V.str g) (j := 0) rfl rfl, ?_⟩
        walk_at "rd"
        intro H6 s6
        cases hn : isNameS g with
        | true =>
          walk_at "rd"
          exact rest _ _ ⟨⟨b, rfl, by walk_at "g but", s6 _ _ hb6⟩, g, r, rfl, nm_iff.mp hn⟩
        | false =>
          walk_at "rd"
          refine qf (fun h => ?_) _ (by walk_at "g but")
          obtain ⟨g', r', e, ng⟩ := wp_gate c1 c2 (iff.mp h)
          rw [(List.cons.inj e).1] at hn
          rw [ng.1] at hn
          cases hn
    clear hb s5
    rintro σ6 H6 ⟨⟨b, rfl, s6, hb⟩, g, r, rfl, ng⟩
    have bot : ∀ {B : Bool} {H' : Hp}, Same H H' → (LineV x m ↔ B = true) → Q (.bl B) H' := by
      intro B H' s' e
      cases B with
      | true => exact qt (e.mpr rfl) _ s'
      | false => exact qf (fun h => Bool.noConfusion (e.mp h)) _ s'
    -- join, drop, look, anew
    refine mid1 (fun σ' H' => IlSt2 x m w (g :: r) a H σ' H' ∧ w ∉ fourW) ?_ (fun u rest => ?_)
    rotate_left
    · walk_at "rd"
      intro D nD
      walk_at "rd"
      refine iteB (fun h1 => ?_) (fun h1 => ?_)
      · rw [in_four] at h1
        rw [wp_four (of_decide_eq_true h1) ng] at iff
        walk_at "rd"
        refine bot (by walk_at "g but") (iff.trans ?_)
        rw [decide_eq_true_eq, V.int.injEq, List.length_map, List.length_cons, ← List.length_eq_zero_iff]
        omega
      · rw [in_four] at h1
        walk_at "rd"
        exact rest _ _ ⟨⟨b, rfl, by walk_at "g but", upd_get nD hb⟩, of_decide_eq_false h1⟩
    clear hb s6
    rintro σ7 H7 ⟨⟨b, rfl, s7, hb⟩, c3⟩
    -- wait
    refine mid1 (fun σ' H' => IlSt2 x m w (g :: r) a H σ' H' ∧ w ≠ "wait") ?_ (fun u rest => ?_)
    rotate_left
    · walk_at "rd"
      refine iteB (fun h1 => ?_) (fun h1 => ?_)
      · obtain rfl : w = "wait" := V.str.inj (of_decide_eq_true h1)
        rw [wp_wait ng] at iff
        walk_at "rd"
        refine iteB (fun h2 => ?_) (fun h2 => ?_)
        · have l2 : r.length = 2 := by
            have h3 := V.int.inj (of_decide_eq_true h2)
            rw [List.length_map, List.length_cons] at h3
            omega
          obtain ⟨y, z, rfl⟩ := len_two l2
          walk_at "rd"
          refine iteB (fun h3 => ?_) (fun h3 => ?_)
          · obtain rfl : y = "else" := V.str.inj (of_decide_eq_true h3)
            walk_at "rd"
            intro H8 s8
            refine bot (s7.trans s8) (iff.trans ?_)
            rw [placeB_iff]
            exact ⟨fun ⟨z', e, h⟩ => by obtain rfl : z = z' := (List.cons.inj (List.cons.inj e).2).1; exact h, fun h => ⟨z, rfl, h⟩⟩
          · walk_at "rd"
            refine qf (fun h => ?_) _ (by walk_at "g but")
            obtain ⟨z', e, _⟩ := iff.mp h
            exact of_decide_eq_false h3 (by rw [(List.cons.inj e).1])
        · walk_at "rd"
          refine qf (fun h => ?_) _ (by walk_at "g but")
          obtain ⟨z', rfl, _⟩ := iff.mp h
          exact of_decide_eq_false h2 rfl
      · walk_at "rd"
        exact rest _ _ ⟨⟨b, rfl, s7, hb⟩, fun e => of_decide_eq_false h1 (by rw [e])⟩
    clear hb s7
    rintro σ8 H8 ⟨⟨b, rfl, s8, hb⟩, c4⟩
    -- arrive, over
    refine mid1 (fun σ' H' => IlSt2 x m w (g :: r) a H σ' H' ∧ (w = "arrive" ∨ w = "over") ∧ ∃ d r', d < 4 ∧ r = digS d :: r') ?_ (fun u rest => ?_)
    rotate_left
    · walk_at "rd"
      intro D nD
      walk_at "rd"
      have e1 : (if true = true then !inV (.str w) [.str "arrive", .str "over"] else inV (.str w) [.str "arrive", .str "over"]) = !decide (w ∈ (["arrive", "over"] : List Str)) := congrArg (fun b => !b) (inV_strsX w ["arrive", "over"])
      by_cases h1 : w ∈ (["arrive", "over"] : List Str)
      rotate_left
      · rw [decide_eq_false h1] at e1
        rw [e1]
        walk_at "rd"
        refine qf (fun h => wp_other (fun hm => ?_) (iff.mp h)) _ (by walk_at "g but")
        simp only [fourW, List.mem_cons, List.not_mem_nil, or_false, not_or] at hm h1 c3
        rcases hm with h | h | h | h | h | h | h | h | h
        · exact c1 h
        · exact c2 h
        · exact c3.1 h
        · exact c3.2.1 h
        · exact c3.2.2.1 h
        · exact c3.2.2.2 h
        · exact c4 h
        · exact h1.1 h
        · exact h1.2 h
      rw [decide_eq_true h1] at e1
      rw [e1]
      have h2 : w = "arrive" ∨ w = "over" := by simpa using h1
      walk_at "rd"
      refine iteB (fun h3 => ?_) (fun h3 => ?_)
      · have h4 := of_decide_eq_true h3
        rw [List.length_map, List.length_cons] at h4
        have r0 : r = [] := List.length_eq_zero_iff.mp (by omega)
        subst r0
        walk_at "rd"
        refine qf (fun h => ?_) _ (by walk_at "g but")
        rcases h2 with rfl | rfl
        · obtain ⟨_, _, e⟩ := (wp_arr ng).mp (iff.mp h)
          cases e
        · obtain ⟨_, _, _, e, _⟩ := (wp_ovr ng).mp (iff.mp h)
          cases e
      · have h4 := of_decide_eq_false h3
        rw [List.length_map, List.length_cons] at h4
        obtain ⟨y, r', rfl⟩ : ∃ y r', r = y :: r' := by
          cases r with
          | nil => exact absurd (by simp) h4
          | cons y r' => exact ⟨y, r', rfl⟩
        have hb2 : upd H8 D (.lst [.str "arrive", .str "over"]) b = _ := upd_get nD hb
        walk_at "rd"
        refine ⟨at_any (v := V.str y) (j := 1) rfl rfl, ?_⟩
        walk_at "rd"
        intro D2 nD2
        walk_at "rd"
        have e2 : (if true = true then !inV (.str y) [.str "0", .str "1", .str "2", .str "3"] else inV (.str y) [.str "0", .str "1", .str "2", .str "3"]) = !decide (y ∈ (["0", "1", "2", "3"] : List Str)) := congrArg (fun b => !b) (inV_strsX y ["0", "1", "2", "3"])
        by_cases h5 : y ∈ (["0", "1", "2", "3"] : List Str)
        · rw [decide_eq_true h5] at e2
          rw [e2]
          walk_at "rd"
          refine rest _ _ ⟨⟨b, rfl, by walk_at "g but", upd_get nD2 hb2⟩, h2, ?_⟩
          simp only [List.mem_cons, List.not_mem_nil, or_false] at h5
          rcases h5 with rfl | rfl | rfl | rfl
          · exact ⟨0, r', by decide, rfl⟩
          · exact ⟨1, r', by decide, rfl⟩
          · exact ⟨2, r', by decide, rfl⟩
          · exact ⟨3, r', by decide, rfl⟩
        · rw [decide_eq_false h5] at e2
          rw [e2]
          walk_at "rd"
          have nd4 : ∀ d, d < 4 → y ≠ digS d := by
            intro d hd e
            refine h5 ?_
            have a : ∀ d : Fin 4, digS d.val ∈ (["0", "1", "2", "3"] : List Str) := by decide +kernel
            rw [e]
            exact a ⟨d, hd⟩
          refine qf (fun h => ?_) _ (by walk_at "g but")
          rcases h2 with rfl | rfl
          · obtain ⟨d, hd, e⟩ := (wp_arr ng).mp (iff.mp h)
            exact nd4 d hd (List.cons.inj e).1
          · obtain ⟨d, _, hd, e, _⟩ := (wp_ovr ng).mp (iff.mp h)
            exact nd4 d hd (List.cons.inj e).1
    clear hb s8
    rintro σ9 H9 ⟨⟨b, rfl, s9, hb⟩, c5, d, r, hd, rfl⟩
    walk_at "rd"
    refine iteB (fun h1 => ?_) (fun h1 => ?_)
    · obtain rfl : w = "arrive" := V.str.inj (of_decide_eq_true h1)
      rw [wp_arr ng] at iff
      walk_at "rd"
      refine bot (by walk_at "g but") (iff.trans ?_)
      rw [decide_eq_true_eq, V.int.injEq, List.length_map, List.length_cons, List.length_cons]
      constructor
      · rintro ⟨d', _, e⟩
        rw [(List.cons.inj e).2]
        rfl
      · intro e
        have : r.length = 0 := by omega
        exact ⟨d, hd, by rw [List.length_eq_zero_iff.mp this]⟩
    · have e1 : w = "over" := c5.resolve_left fun e => of_decide_eq_false h1 (by rw [e])
      subst e1
      rw [wp_ovr ng] at iff
      walk_at "rd"
      refine iteB (fun h2 => ?_) (fun h2 => ?_)
      · have l1 : r.length = 1 := by
          have h3 := V.int.inj (of_decide_eq_true h2)
          rw [List.length_map, List.length_cons, List.length_cons] at h3
          omega
        obtain ⟨z, rfl⟩ := List.length_eq_one_iff.mp l1
        walk_at "rd"
        intro H10 s10
        refine bot (s9.trans s10) (iff.trans ?_)
        rw [placeB_iff]
        exact ⟨fun ⟨d', z', _, e, h⟩ => by obtain rfl : z = z' := (List.cons.inj (List.cons.inj e).2).1; exact h, fun h => ⟨d, z, hd, rfl, h⟩⟩
      · walk_at "rd"
        refine qf (fun h => ?_) _ (by walk_at "g but")
        obtain ⟨d', z', _, e, _⟩ := iff.mp h
        rw [(List.cons.inj e).2] at h2
        exact of_decide_eq_false h2 rfl
theorem c_is_line (T : Tx K mg) : Cal P w K mg base CX0 3 "_law_is_line" [] (spIsLine K) := by
  obtain ⟨fd, F⟩ := T.d__law_is_line
  exact .mk F (ok_is_line T F) T.n__law_is_line fun _ _ _ _ _ _ us hl => match us, hl with | [_, _], _ => rfl
end
end G
namespace G
open PySem PySem.Spec PyProof.Rows L2
/-! ### rows with something otherwise -/
theorem asc_cutX {z : Str} (h : Asc z) (lo hi : Option Int) : Asc (cutS z lo hi) := by
  intro c hc
  unfold cutS at hc
  exact h c (List.mem_of_mem_drop (List.mem_of_mem_take (by simpa using hc)))
theorem cutV_toX {xs : List V} {i : Nat} (h : i ≤ xs.length) : cutV xs none (some (i : Int)) = xs.take i := by
  unfold cutV
  rw [HT.sIx_none, HT.sIx_nat, Nat.min_eq_left h, Nat.sub_zero, List.drop_zero]
theorem cutV_dropX {xs : List V} {i : Nat} (h : i ≤ xs.length) : cutV xs (some (i : Int)) none = xs.drop i := by
  unfold cutV
  rw [HT.sIx_none, HT.sIx_nat, Nat.min_eq_left h]
  exact List.take_of_length_le (by rw [List.length_drop]; exact Nat.le_refl _)
theorem cutV_fromX {xs : List V} {i : Nat} (h : i < xs.length) : cutV xs (some ((i : Int) + 1)) none = xs.drop (i + 1) := by
  rw [show (some ((i : Int) + 1)) = some (((i + 1 : Nat) : Nat) : Int) from rfl]
  exact cutV_dropX h
theorem asc_joinX {y : Str} (hy : Asc y) : ∀ ws : List Str, (∀ z ∈ ws, Asc z) → Asc (Str.join y ws)
  | [], _ => fun c hc => by cases hc
  | [t], h => h t List.mem_cons_self
  | t :: u :: r, h => by
    show Asc (t ++ y ++ Str.join y (u :: r))
    exact asc_cat (asc_cat (h t List.mem_cons_self) hy) (asc_joinX hy (u :: r) fun z hz => h z (List.mem_cons_of_mem _ hz))
/-- what words take, with their spaces -/
def wgt (ws : List Str) : Nat := (ws.map fun z => z.length).sum + ws.length
theorem wgt_cons (z : Str) (ws : List Str) : wgt (z :: ws) = z.length + 1 + wgt ws := by
  unfold wgt
  rw [List.map_cons, List.sum_cons, List.length_cons]
  omega
theorem wgt_app (a b : List Str) : wgt (a ++ b) = wgt a + wgt b := by
  unfold wgt
  rw [List.map_append, List.sum_append, List.length_append]
  omega
theorem wgt_take (ws : List Str) (i : Nat) : wgt (ws.take i) + wgt (ws.drop i) = wgt ws := by
  rw [← wgt_app, List.take_append_drop]
theorem join_wgt : ∀ ws : List Str, (Str.join (Str.ofString " ") ws).length ≤ wgt ws
  | [] => Nat.zero_le _
  | [t] => by
    rw [wgt_cons]
    show t.length ≤ _
    omega
  | t :: u :: r => by
    have ih := join_wgt (u :: r)
    show (t ++ Str.ofString " " ++ Str.join (Str.ofString " ") (u :: r)).length ≤ _
    rw [cat_len, cat_len, wgt_cons, show (Str.ofString " ").length = 1 from by decide +kernel]
    omega
theorem split_wgt (z : Str) : wgt (Txt.split z (Str.ofString " ")) ≤ z.length + 1 := split_weight z (Str.ofString " ") (by decide +kernel)
def allSigns : Str := Str.ofString "abcdefghijklmnopqrstuvwxyz0123456789 ABCDEFGHIJKLMNOPQRSTUVWXYZ!#$&'()*+,-./:;<=>?\x40[]^_|{}~" ++ Str.ofString "\n\\\"" ++ Str.ofString "  0123 :"
theorem allSigns_asc : Asc allSigns := asc_lit (by decide +kernel)
def menuS : List Str := ["0", "1", "3", "4", "9", "10", "00", "01", "-1", "+1", "else", "end", "go", "join", "arrive", "wait", "over", "a:", "g", "G", "", "g:", "look", "elsewhere"]
theorem menu_ok : ∀ z ∈ menuS, Asc z ∧ z.length ≤ 9 := by
  have a : menuS.all (fun z => (z.cps.toList.all fun c => decide (c < 128)) && decide (z.length ≤ 9)) = true := by decide +kernel
  intro z hz
  obtain ⟨h1, h2⟩ := Bool.and_eq_true_iff.mp (List.all_eq_true.mp a z hz)
  exact ⟨asc_lit h1, of_decide_eq_true h2⟩
section
variable {P : Program} {w : World} {K : PySem.W.Frag} {mg : Str → Option Value} {base : Heap} {CX : CXT}
def spSign : Sp := fun vs H Q _ => ∃ p : Addr, vs = [.ref p] ∧ PoolAt H p ∧ ∀ H' c, Pl p H H' → c < 128 → Q (.str ⟨#[c]⟩) H'
theorem ok_sign {f : Addr} {fd : FuncData} {dvs : List V} {kws : List (Str × V)} (T : Tx K mg)
    (F : FunD K "_law_sign" "_law_sign" (defArgs s__law_sign) (defBody s__law_sign) (defScope s__law_sign) dvs kws f fd) :
    FnG P w K mg base CX0 2 f fd ["_law_pool_here"] spSign := by
  have c__law_draw : Cal P w K mg base CX0 1 "_law_draw" [] spDraw := c_draw T
  refine okG F sc__law_sign (fun vs H Q E h => ?_) (fun cdv A outer s H vs Q E hr hgd h => ?_)
  · obtain ⟨p, rfl, _⟩ := h
    rfl
  · obtain ⟨p, rfl, hp, q⟩ := h
    have hu := hr.units
    refine ⟨_, PSs.nox (pss_cons (ps_set (i := 1) sc__law_sign.nd rfl (Or.inl rfl) pe_str)
    (pss_cons (ps_set (i := 1) sc__law_sign.nd rfl (Or.inl rfl) (pe_op op_add_str (pe_op op_add_str (pv 1) pe_str) pe_str))
    (pss_one (ps_ret (pe_ix ix_str (pv 1) (pe_cal c__law_draw (hr.mono (by decide)) hgd pass0 (pa_cons (pv 0) (pa_cons (pe_callB call_len_str rfl T.f_len (by decide +kernel) (pa_cons (pv 1) pa_nil)) pa_nil))) (fun _ _ => rfl)))))), ?_⟩
    have l1 : (Str.ofString "abcdefghijklmnopqrstuvwxyz0123456789 ABCDEFGHIJKLMNOPQRSTUVWXYZ!#$&'()*+,-./:;<=>?\x40[]^_|{}~").length = 91 := by decide +kernel
    have l2 : (Str.ofString "\n\\\"").length = 3 := by decide +kernel
    have l3 : (Str.ofString "  0123 :").length = 8 := by decide +kernel
    have la : allSigns.length = 102 := by decide +kernel
    have sz : sizeLine = 16777216 := sizeLine_eq
    walk_at "rd"
    intro H1 r p1 r0 rm
    have rm' : r < 102 := by
      have : ((allSigns.length : Nat) : Int) = 102 := by rw [la]; rfl
      exact this ▸ rm
    obtain ⟨c, hc, h8⟩ : ∃ c, atI allSigns.cps.toList r = some c ∧ c < 128 := by
      have lt : r.toNat < allSigns.cps.toList.length := by rw [← str_len]; omega
      exact ⟨allSigns.cps.toList[r.toNat], at_any (j := r.toNat) (by omega) (List.getElem?_eq_getElem lt), allSigns_asc _ (List.getElem_mem lt)⟩
    unfold allSigns at hc
    walk_at "rd"
    exact q _ c p1 h8
theorem c_sign (T : Tx K mg) : Cal P w K mg base CX0 2 "_law_sign" [] spSign := by
  obtain ⟨fd, F⟩ := T.d__law_sign
  exact .mk F (ok_sign T F) T.n__law_sign fun _ _ _ _ _ _ us hl => match us, hl with | [_], _ => rfl
def spBent : Sp := fun vs H Q _ => ∃ (p : Addr) (z : Str), vs = [.ref p, .str z] ∧ PoolAt H p ∧ z.length ≤ 10000 ∧ Asc z ∧
  ∀ H' z', Pl p H H' → Asc z' → z'.length ≤ 2 * z.length + 20 → Q (.str z') H'
theorem ok_bent {f : Addr} {fd : FuncData} {dvs : List V} {kws : List (Str × V)} (T : Tx K mg)
    (F : FunD K "_law_bent_line" "_law_bent_line" (defArgs s__law_bent_line) (defBody s__law_bent_line) (defScope s__law_bent_line) dvs kws f fd) :
    FnG P w K mg base CX0 3 f fd ["_law_pool_here", "_law_line_here"] spBent := by
  have c__law_draw : Cal P w K mg base CX0 1 "_law_draw" [] spDraw := c_draw T
  have c__law_sign : Cal P w K mg base CX0 2 "_law_sign" [] spSign := c_sign T
  refine okG F sc__law_bent_line (fun vs H Q E h => ?_) (fun cdv A outer s H vs Q E hr hgd h => ?_)
  · obtain ⟨p, z, rfl, _⟩ := h
    rfl
  · obtain ⟨p, z, rfl, hp, zl, za, q⟩ := h
    have hu := hr.units
    have sz : sizeLine = 16777216 := sizeLine_eq
    have c11 : (Str.ofString " ").length = 1 := by decide +kernel
    have z1 : z.length ≤ sizeLine := by omega
    have z2 : z.length + 2 ≤ sizeLine := by omega
    refine ⟨_, PSs.nox (pss_cons (ps_par3 (i := 2) (j := 3) (l := 4) rfl sc__law_bent_line.nd rfl rfl rfl (by decide) (by decide) (by decide) rfl rfl rfl (pa_cons (pe_cal c__law_draw (hr.mono (by decide)) hgd pass0 (pa_cons (pv 0) (pa_cons pe_int pa_nil))) (pa_cons (pe_cal c__law_draw (hr.mono (by decide)) hgd pass0 (pa_cons (pv 0) (pa_cons (pe_op op_add (pe_callB call_len_str rfl T.f_len (by decide +kernel) (pa_cons (pv 1) pa_nil)) pe_int) pa_nil))) (pa_cons (pe_cal c__law_sign (hr.mono (by decide)) hgd pass0 (pa_cons (pv 0) pa_nil)) pa_nil))) (by rfl))
    (pss_cons (ps_if (pt_cmpR op_lt (pv 2) pe_int (nomark _)) (pss_one (ps_ret (pe_ix ix_list (pe_lst (pa_cons (pe_op op_add_str (pe_op op_add_str (pe_slice sl_str (pv 1) po_none (po_some (pv 3))) (pv 4)) (pe_slice sl_str (pv 1) (po_some (pv 3)) po_none)) (pa_cons (pe_op op_add_str (pe_slice sl_str (pv 1) po_none (po_some (pv 3))) (pe_slice sl_str (pv 1) (po_some (pe_op op_add (pv 3) pe_int)) po_none)) (pa_cons (pe_op op_add_str (pe_op op_add_str (pe_slice sl_str (pv 1) po_none (po_some (pv 3))) (pv 4)) (pe_slice sl_str (pv 1) (po_some (pe_op op_add (pv 3) pe_int)) po_none)) pa_nil)))) (pv 2) (fun _ _ => rfl)))) pss_nil)
    (pss_cons (ps_par (i := 5) (j := 6) rfl sc__law_bent_line.nd rfl rfl (by decide) rfl rfl (pa_cons (pe_split (pv 1) pe_str) (pa_cons (pe_cal c__law_draw (hr.mono (by decide)) hgd pass0 (pa_cons (pv 0) (pa_cons pe_int pa_nil))) pa_nil)) (by rfl))
    (pss_cons (ps_set (i := 7) sc__law_bent_line.nd rfl (Or.inl rfl) (pe_cal c__law_draw (hr.mono (by decide)) hgd pass0 (pa_cons (pv 0) (pa_cons (pe_callB call_len_seq rfl T.f_len (by decide +kernel) (pa_cons (pv 5) pa_nil)) pa_nil))))
    (pss_cons (ps_if (pt_cmpR op_eq (pv 2) pe_int (nomark _)) (pss_one (ps_ret (pe_join pe_str (pe_op op_cat (pe_slice sl_list (pv 5) po_none (po_some (pv 7))) (pe_slice sl_list (pv 5) (po_some (pe_op op_add (pv 7) pe_int)) po_none))))) pss_nil)
    (pss_cons (ps_if (pt_cmpR op_eq (pv 2) pe_int (nomark _)) (pss_one (ps_ret (pe_join pe_str (pe_op op_cat (pe_slice sl_list (pv 5) po_none (po_some (pe_op op_add (pv 7) pe_int))) (pe_slice sl_list (pv 5) (po_some (pv 7)) po_none))))) pss_nil)
    (pss_cons (ps_if (pt_cmpR op_lt (pv 2) pe_int (nomark _)) (pss_cons (ps_set (i := 8) sc__law_bent_line.nd rfl (Or.inl rfl) (pe_lst (pa_cons pe_str (pa_cons pe_str (pa_cons pe_str (pa_cons pe_str (pa_cons pe_str (pa_cons pe_str (pa_cons pe_str (pa_cons pe_str (pa_cons pe_str (pa_cons pe_str (pa_cons pe_str (pa_cons pe_str (pa_cons pe_str (pa_cons pe_str (pa_cons pe_str (pa_cons pe_str pa_nil))))))))))))))))))
    (pss_cons (ps_set (i := 8) sc__law_bent_line.nd rfl (Or.inl rfl) (pe_op op_cat (pv 8) (pe_lst (pa_cons pe_str (pa_cons pe_str (pa_cons pe_str (pa_cons pe_str (pa_cons pe_str (pa_cons pe_str (pa_cons pe_str (pa_cons pe_str pa_nil)))))))))))
    (pss_one (ps_ret (pe_join pe_str (pe_op op_cat (pe_op op_cat (pe_slice sl_list (pv 5) po_none (po_some (pv 7))) (pe_lst (pa_cons (pe_ix ix_list (pv 8) (pv 6) (fun _ _ => rfl)) pa_nil))) (pe_slice sl_list (pv 5) (po_some (pe_op op_add (pv 7) pe_int)) po_none))))))) pss_nil)
    (pss_one (ps_ret (pe_ix ix_list (pe_lst (pa_cons (pe_op op_add_str (pv 1) pe_str) (pa_cons (pe_op op_add_str pe_str (pv 1)) pa_nil))) (pe_op op_sub (pv 2) pe_int) (fun _ _ => rfl))))))))))), ?_⟩
    clear c__law_draw c__law_sign
    refine mid1 (fun σ' H' => ∃ (way at1 : Int) (c : Nat), σ' = [some (.ref p), some (.str z), some (.int way), some (.int at1), some (.str ⟨#[c]⟩), none, none, none, none] ∧ Pl p H H' ∧ 0 ≤ way ∧ way < 10 ∧ 0 ≤ at1 ∧ at1 < z.length + 1 ∧ c < 128) ?_ (fun u rest => ?_)
    rotate_left
    · walk_at "rd"
      intro H1 way p1 w0 w9
      walk_at "rd"
      intro H2 at1 p2 a0 a9
      walk_at "rd"
      intro H3 c p3 c8
      walk_at "rd"
      exact rest _ _ ⟨way, at1, c, rfl, (p1.trans p2).trans p3, w0, w9, a0, a9, c8⟩
    rintro σ1 H1 ⟨way, at1, c, rfl, p1, w0, w9, a0, a9, c8⟩
    have l1 := cutS_length z none (some at1)
    have l2 := cutS_length z (some at1) none
    have l3 := cutS_length z (some (at1 + 1)) none
    have lc : (⟨#[c]⟩ : Str).length = 1 := rfl
    have ac : Asc ⟨#[c]⟩ := fun d hd => by
      have : d = c := by simpa using hd
      rw [this]
      exact c8
    have a1 := asc_cutX za none (some at1)
    have a2 := asc_cutX za (some at1) none
    have a3 := asc_cutX za (some (at1 + 1)) none
    refine mid1 (fun σ' H' => σ' = [some (.ref p), some (.str z), some (.int way), some (.int at1), some (.str ⟨#[c]⟩), none, none, none, none] ∧ Pl p H H' ∧ 3 ≤ way) ?_ (fun u rest => ?_)
    rotate_left
    · walk_at "rd"
      refine iteB (fun h1 => ?_) (fun h1 => ?_)
      · have w3 := of_decide_eq_true h1
        walk_at "rd"
        intro l nl
        rcases (show way = 0 ∨ way = 1 ∨ way = 2 by omega) with rfl | rfl | rfl
        all_goals
          walk_at "rd"
        · exact q _ _ (by walk_at "g but") (asc_cat (asc_cat a1 ac) a2) (by rw [cat_len, cat_len, lc]; omega)
        · exact q _ _ (by walk_at "g but") (asc_cat a1 a3) (by rw [cat_len]; omega)
        · exact q _ _ (by walk_at "g but") (asc_cat (asc_cat a1 ac) a3) (by rw [cat_len, cat_len, lc]; omega)
      · walk_at "rd"
        exact rest _ _ ⟨rfl, p1, by have := of_decide_eq_false h1; omega⟩
    clear p1
    rintro σ2 H2 ⟨rfl, p2, w3⟩
    have hp2 := p2.pool
    clear l1 l2 l3 a1 a2 a3
    obtain ⟨ws, ew⟩ : ∃ ws, Txt.split z (Str.ofString " ") = ws := ⟨_, rfl⟩
    have wg := split_wgt z
    have wp := split_pos z (Str.ofString " ")
    have wa := asc_words za (Str.ofString " ")
    have wle : ∀ y ∈ Txt.split z (Str.ofString " "), y.length ≤ z.length := fun y hy => part_short hy
    rw [ew] at wg wp wa wle
    have wl : ws.length ≤ z.length + 1 := by
      have : ws.length ≤ wgt ws := by unfold wgt; omega
      omega
    have wml : (ws.map V.str).length = ws.length := List.length_map ..
    refine mid2 (fun σ' H' => ∃ (D : Addr) (which : Int) (on : Nat), σ' = [some (.ref p), some (.str z), some (.int way), some (.int at1), some (.str ⟨#[c]⟩), some (.ref D), some (.int which), some (.int (on : Int)), none] ∧ Pl p H H' ∧ H' D = some (.lst (ws.map V.str)) ∧ D ≠ p ∧ 0 ≤ which ∧ which < 24 ∧ on < ws.length) ?_ (fun u rest => ?_)
    rotate_left
    · walk_at "rd"
      intro D nD
      rw [ew]
      have nDp : D ≠ p := PoolAt.ne_new hp2 nD
      walk_at "rd"
      intro H3 which p3 h0 h24
      have hD3 := p3.get upd_same nDp
      walk_at "rd"
      intro H4 on p4 o0 o1
      have hD4 := p4.get hD3 nDp
      obtain ⟨n, rfl⟩ := Int.eq_ofNat_of_zero_le o0
      walk_at "rd"
      exact rest _ _ ⟨D, which, n, rfl, by walk_at "g but", hD4, nDp, h0, h24, by rw [wml] at o1; omega⟩
    clear p2 hp2
    rintro σ3 H3 ⟨D, which, on, rfl, p3, hD, nDp, h0, h24, ho⟩
    have hp3 := p3.pool
    have on1 : on ≤ (ws.map V.str).length := by rw [wml]; omega
    have on2 : on < (ws.map V.str).length := by rw [wml]; omega
    have t1 : cutV (ws.map V.str) none (some (on : Int)) = (ws.take on).map V.str := by rw [cutV_toX on1, List.map_take]
    have t2 : cutV (ws.map V.str) none (some ((on : Int) + 1)) = (ws.take (on + 1)).map V.str := by
      rw [show (some ((on : Int) + 1)) = some (((on + 1 : Nat) : Nat) : Int) from rfl, cutV_toX on2, List.map_take]
    have t3 : cutV (ws.map V.str) (some (on : Int)) none = (ws.drop on).map V.str := by rw [cutV_dropX on1, List.map_drop]
    have t4 : cutV (ws.map V.str) (some ((on : Int) + 1)) none = (ws.drop (on + 1)).map V.str := by rw [cutV_fromX on2, List.map_drop]
    have g1 := wgt_take ws on
    have g2 := wgt_take ws (on + 1)
    have as : ∀ l : List Str, (∀ y ∈ l, y ∈ ws ∨ y ∈ menuS) → Asc (Txt.join (Str.ofString " ") l) := fun l h => by
      rw [TL.join_eq]
      exact asc_joinX (asc_lit (by decide +kernel)) l fun y hy => (h y hy).elim (wa y) fun hm => (menu_ok y hm).1
    have jl : ∀ l : List Str, (Txt.join (Str.ofString " ") l).length ≤ wgt l := fun l => by
      rw [TL.join_eq]
      exact join_wgt l
    have jb : ∀ l : List Str, wgt l ≤ 100000 → (l.map fun x => x.length).sum + l.length * (Str.ofString " ").length ≤ 16777216 := fun l h => by
      rw [show (Str.ofString " ").length = 1 from by decide +kernel]
      unfold wgt at h
      omega
    refine mid1 (fun σ' H' => σ' = [some (.ref p), some (.str z), some (.int way), some (.int at1), some (.str ⟨#[c]⟩), some (.ref D), some (.int which), some (.int (on : Int)), none] ∧ Pl p H H' ∧ H' D = some (.lst (ws.map V.str)) ∧ 4 ≤ way) ?_ (fun u rest => ?_)
    rotate_left
    · walk_at "rd"
      refine iteB (fun h1 => ?_) (fun h1 => ?_)
      · walk_at "rd"
        intro l4 n4
        rw [t1]
        have hD4 : upd H3 l4 (.lst ((ws.take on).map V.str)) D = _ := upd_get n4 hD
        walk_at "rd"
        intro l5 n5
        rw [t4]
        walk_at "rd"
        refine ⟨by rw [List.length_map, List.length_map, List.length_take, List.length_drop]; omega, fun l6 n6 => ?_⟩
        rw [← List.map_append]
        walk_at "rd"
        refine ⟨jb _ (by rw [wgt_app]; omega), ?_⟩
        exact q _ _ (by walk_at "g but") (as _ fun y hy => (List.mem_append.mp hy).elim (fun h => .inl (List.mem_of_mem_take h)) fun h => .inl (List.mem_of_mem_drop h)) (Nat.le_trans (jl _) (by rw [wgt_app]; omega))
      · walk_at "rd"
        exact rest _ _ ⟨rfl, p3, hD, by
          have h2 := of_decide_eq_false h1
          have : way ≠ 3 := fun e => h2 (by rw [e])
          omega⟩
    clear p3 hD hp3
    rintro σ4 H4 ⟨rfl, p4, hD, w4⟩
    refine mid1 (fun σ' H' => σ' = [some (.ref p), some (.str z), some (.int way), some (.int at1), some (.str ⟨#[c]⟩), some (.ref D), some (.int which), some (.int (on : Int)), none] ∧ Pl p H H' ∧ H' D = some (.lst (ws.map V.str)) ∧ 5 ≤ way) ?_ (fun u rest => ?_)
    rotate_left
    · walk_at "rd"
      refine iteB (fun h1 => ?_) (fun h1 => ?_)
      · walk_at "rd"
        intro l4 n4
        rw [t2]
        have hD4 : upd H4 l4 (.lst ((ws.take (on + 1)).map V.str)) D = _ := upd_get n4 hD
        walk_at "rd"
        intro l5 n5
        rw [t3]
        walk_at "rd"
        refine ⟨by rw [List.length_map, List.length_map, List.length_take, List.length_drop]; omega, fun l6 n6 => ?_⟩
        rw [← List.map_append]
        walk_at "rd"
        refine ⟨jb _ (by rw [wgt_app]; omega), ?_⟩
        exact q _ _ (by walk_at "g but") (as _ fun y hy => (List.mem_append.mp hy).elim (fun h => .inl (List.mem_of_mem_take h)) fun h => .inl (List.mem_of_mem_drop h)) (Nat.le_trans (jl _) (by rw [wgt_app]; omega))
      · walk_at "rd"
        exact rest _ _ ⟨rfl, p4, hD, by
          have h2 := of_decide_eq_false h1
          have : way ≠ 4 := fun e => h2 (by rw [e])
          omega⟩
    clear p4 hD
    rintro σ5 H5 ⟨rfl, p5, hD, w5⟩
    refine mid1 (fun σ' H' => σ' = [some (.ref p), some (.str z), some (.int way), some (.int at1), some (.str ⟨#[c]⟩), some (.ref D), some (.int which), some (.int (on : Int)), none] ∧ Pl p H H' ∧ 8 ≤ way) ?_ (fun u rest => ?_)
    rotate_left
    · walk_at "rd"
      refine iteB (fun h1 => ?_) (fun h1 => ?_)
      · obtain ⟨y, hy, ym⟩ : ∃ y, menuS[which.toNat]? = some y ∧ y ∈ menuS := by
          have lt : which.toNat < menuS.length := by show which.toNat < 24; omega
          exact ⟨menuS[which.toNat], List.getElem?_eq_getElem lt, List.getElem_mem lt⟩
        have ey : atI (menuS.map V.str) which = some (.str y) := at_any (j := which.toNat) (by omega) (by rw [List.getElem?_map, hy]; rfl)
        have yl := (menu_ok y ym).2
        refine mid2 (fun σ' H' => ∃ l : Addr, σ' = [some (.ref p), some (.str z), some (.int way), some (.int at1), some (.str ⟨#[c]⟩), some (.ref D), some (.int which), some (.int (on : Int)), some (.ref l)] ∧ Pl p H H' ∧ H' D = some (.lst (ws.map V.str)) ∧ H' l = some (.lst (menuS.map V.str))) ?_ (fun u rest => ?_)
        rotate_left
        · walk_at "rd"
          intro l4 n4
          walk_at "rd"
          intro l5 n5
          walk_at "rd"
          intro l6 n6
          walk_at "rd"
          exact rest _ _ ⟨l6, rfl, by walk_at "g but", upd_get n6 (upd_get n5 (upd_get n4 hD)), by rw [upd_same]; rfl⟩
        clear p5 hD
        rintro σ6 H6 ⟨l, rfl, p6, hD, hM⟩
        walk_at "rd"
        intro l7 n7
        rw [t1]
        have hM7 : upd H6 l7 (.lst ((ws.take on).map V.str)) l = _ := upd_get n7 hM
        walk_at "rd"
        intro l8 n8
        walk_at "rd"
        refine ⟨by rw [List.length_map, List.length_take]; show _ + 1 ≤ _; omega, fun l9 n9 => ?_⟩
        rw [show List.map V.str (List.take on ws) ++ [V.str y] = (ws.take on ++ [y]).map V.str from by rw [List.map_append]; rfl]
        walk_at "rd"
        intro l10 n10
        rw [t4]
        walk_at "rd"
        refine ⟨by rw [List.length_map, List.length_map, List.length_append, List.length_take, List.length_drop]; show _ + 1 + _ ≤ _; omega, fun l11 n11 => ?_⟩
        rw [← List.map_append]
        walk_at "rd"
        have yw : wgt [y] ≤ 10 := by
          rw [wgt_cons]
          show y.length + 1 + 0 ≤ 10
          omega
        refine ⟨jb _ (by rw [wgt_app, wgt_app]; omega), ?_⟩
        refine q _ _ (by walk_at "g but") (as _ fun v hv => ?_) (Nat.le_trans (jl _) (by rw [wgt_app, wgt_app]; omega))
        rcases List.mem_append.mp hv with hv | hv
        · rcases List.mem_append.mp hv with hv | hv
          · exact .inl (List.mem_of_mem_take hv)
          · exact .inr (List.mem_singleton.mp hv ▸ ym)
        · exact .inl (List.mem_of_mem_drop hv)
      · walk_at "rd"
        exact rest _ _ ⟨rfl, p5, by have := of_decide_eq_false h1; omega⟩
    clear p5 hD
    rintro σ6 H6 ⟨rfl, p6, w8⟩
    walk_at "rd"
    intro l nl
    rcases (show way = 8 ∨ way = 9 by omega) with rfl | rfl
    all_goals
      walk_at "rd"
    · exact q _ _ (by walk_at "g but") (asc_cat za (asc_lit (by decide +kernel))) (by rw [cat_len, show (Str.ofString " ").length = 1 from by decide +kernel]; omega)
    · exact q _ _ (by walk_at "g but") (asc_cat (asc_lit (by decide +kernel)) za) (by rw [cat_len, show (Str.ofString " ").length = 1 from by decide +kernel]; omega)
theorem c_bent (T : Tx K mg) : Cal P w K mg base CX0 3 "_law_bent_line" [] spBent := by
  obtain ⟨fd, F⟩ := T.d__law_bent_line
  exact .mk F (ok_bent T F) T.n__law_bent_line fun _ _ _ _ _ _ us hl => match us, hl with | [_, _], _ => rfl
end
end G
namespace G
open PySem PySem.Spec PyProof.Rows L2
/-! ### rows of which one is, perhaps, none -/
def SmallD (B : Nat) (d : PyData) : Prop := (∃ z, d = .str z ∧ z.length ≤ B ∧ Asc z) ∨ d = .none ∨ d = .int 5 ∨ d = .tuple [.str "end"] ∨ d = .list [.str "end"] ∨ d = .bool true
theorem SmallD.mono {B C : Nat} {d : PyData} (h : SmallD B d) (l : B ≤ C) : SmallD C d := by
  rcases h with ⟨z, e, h1, h2⟩ | h
  · exact .inl ⟨z, e, by omega, h2⟩
  · exact .inr h
structure LnsD (B : Nat) (K : PySem.W.Frag) (H : Hp) (xs : List V) (ds : List PyData) : Prop where
  all : DqAll K H xs ds
  one : 1 ≤ xs.length
  ten : xs.length ≤ 10
  bd : ∀ d ∈ ds, SmallD B d
theorem dqAll_len {K : PySem.W.Frag} {H : Hp} : ∀ {xs : List V} {ds : List PyData}, DqAll K H xs ds → xs.length = ds.length
  | _, _, .nil => rfl
  | _, _, .cons _ h => by rw [List.length_cons, List.length_cons, dqAll_len h]
theorem dqAll_set {K : PySem.W.Frag} {H : Hp} : ∀ {xs : List V} {ds : List PyData} {i : Nat} {x : V} {d : PyData}, DqAll K H xs ds → Dq K H x d → DqAll K H (xs.set i x) (ds.set i d)
  | _, _, _, _, _, .nil, _ => .nil
  | _, _, 0, _, _, .cons _ h', h => .cons h h'
  | _, _, i + 1, _, _, .cons h1 h', h => .cons h1 (dqAll_set (i := i) h' h)
theorem dq_pl {K : PySem.W.Frag} {H H' : Hp} {p : Addr} {B : Nat} {x : V} {d : PyData} (h : Dq K H x d) (s : SmallD B d) (hp : PoolAt H p) (pl : Pl p H H') : Dq K H' x d := by
  rcases s with ⟨z, rfl, _, _⟩ | rfl | rfl | rfl | rfl | rfl
  · cases h; exact .str _
  · cases h; exact .non
  · cases h; exact .int _
  · cases h with
    | tup e ha =>
      cases ha with
      | cons h1 h2 =>
        cases h2
        cases h1
        exact .tup (e.pl pl hp) (.cons (.str _) .nil)
  · cases h with
    | lst e ha =>
      cases ha with
      | cons h1 h2 =>
        cases h2
        cases h1
        refine .lst (pl.get e fun ea => ?_) (.cons (.str _) .nil)
        subst ea
        obtain ⟨a, b, c, e2, _⟩ := hp
        rw [e] at e2
        cases e2
  · cases h; exact .bl _
theorem dqAll_pl {K : PySem.W.Frag} {H H' : Hp} {p : Addr} {B : Nat} (hp : PoolAt H p) (pl : Pl p H H') : ∀ {xs : List V} {ds : List PyData}, DqAll K H xs ds → (∀ d ∈ ds, SmallD B d) → DqAll K H' xs ds
  | _, _, .nil, _ => .nil
  | _, _, .cons h h', s => .cons (dq_pl h (s _ List.mem_cons_self) hp pl) (dqAll_pl hp pl h' fun d hd => s d (List.mem_cons_of_mem _ hd))
theorem LnsD.pl {B : Nat} {K : PySem.W.Frag} {H H' : Hp} {p : Addr} {xs : List V} {ds : List PyData} (h : LnsD B K H xs ds) (hp : PoolAt H p) (pl : Pl p H H') : LnsD B K H' xs ds :=
  ⟨dqAll_pl hp pl h.all h.bd, h.one, h.ten, h.bd⟩
theorem LnsD.same {B : Nat} {K : PySem.W.Frag} {H H' : Hp} {xs : List V} {ds : List PyData} (h : LnsD B K H xs ds) (s : Same H H') : LnsD B K H' xs ds :=
  ⟨dqAll_same s h.all, h.one, h.ten, h.bd⟩
theorem LnsD.ext {B : Nat} {K : PySem.W.Frag} {H H' : Hp} {xs : List V} {ds : List PyData} (h : LnsD B K H xs ds) (s : Kp H H') : LnsD B K H' xs ds :=
  ⟨DqAll.ext s h.all, h.one, h.ten, h.bd⟩
theorem LnsD.set {B C : Nat} {K : PySem.W.Frag} {H : Hp} {xs : List V} {ds : List PyData} {i : Nat} {x : V} {d : PyData} (h : LnsD B K H xs ds) (hx : Dq K H x d) (s : SmallD C d) (l : B ≤ C) : LnsD C K H (xs.set i x) (ds.set i d) :=
  ⟨dqAll_set h.all hx, by rw [List.length_set]; exact h.one, by rw [List.length_set]; exact h.ten, fun e he => by
    rcases List.mem_or_eq_of_mem_set he with he | rfl
    · exact (h.bd e he).mono l
    · exact s⟩
theorem LnsD.strB {B : Nat} {K : PySem.W.Frag} {H : Hp} {xs : List V} {ds : List PyData} (h : LnsD B K H xs ds) (l : B ≤ 10000) {x : V} (hx : x ∈ xs) : StrB x := by
  intro z e
  obtain ⟨i, hi⟩ := List.getElem?_of_mem hx
  obtain ⟨d, hd, hq⟩ := dqAll_at h.all hi
  subst e
  cases hq
  rcases h.bd _ (List.mem_of_getElem? hd) with ⟨y, e, h1, h2⟩ | e | e | e | e | e
  · obtain rfl : z = y := by injection e
    exact ⟨by omega, h2⟩
  all_goals cases e
theorem cut_setX {xs : List V} {i : Nat} {x : V} (h : i < xs.length) : cutV xs none (some (i : Int)) ++ [x] ++ cutV xs (some ((i : Int) + 1)) none = xs.set i x := by
  rw [cutV_toX (Nat.le_of_lt h), cutV_fromX h, List.set_eq_take_append_cons_drop, if_pos h, List.append_assoc]
  rfl
section
variable {P : Program} {w : World} {K : PySem.W.Frag} {mg : Str → Option Value} {base : Heap} {CX : CXT}
def spSpoiled (K : PySem.W.Frag) : Sp := fun vs H Q _ => ∃ (p t : Addr), vs = [.ref p, .ref t] ∧ PoolAt H p ∧ ∃ (B : Nat) (xs : List V) (ds : List PyData), H t = some (.tup xs) ∧ LnsD B K H xs ds ∧ B ≤ 5000 ∧
  ∀ H' t' xs' ds', Pl p H H' → H' t' = some (.tup xs') → LnsD (2 * B + 20) K H' xs' ds' → Q (.ref t') H'
/-- the pool, the rows, and what is put there so far -/
inductive SpSt (K : PySem.W.Frag) (p t : Addr) (C : Nat) (xs : List V) (ds : List PyData) (H : Hp) (σ : L2.St) (H' : Hp) : Prop
  | mk (way which : Int) (on : Nat) (x : V) (d : PyData) (eσ : σ = [some (.ref p), some (.ref t), some (.int way), some (.int (on : Int)), some (.int which), some x]) (pl : Pl p H H') (ho : on < xs.length) (hx : Dq K H' x d) (sm : SmallD C d)
theorem ok_spoiled {f : Addr} {fd : FuncData} {dvs : List V} {kws : List (Str × V)} (T : Tx K mg)
    (F : FunD K "_law_spoiled" "_law_spoiled" (defArgs s__law_spoiled) (defBody s__law_spoiled) (defScope s__law_spoiled) dvs kws f fd) :
    FnG P w K mg base CX0 4 f fd ["_law_pool_here", "_law_lines_here"] (spSpoiled K) := by
  have c__law_draw : Cal P w K mg base CX0 1 "_law_draw" [] spDraw := c_draw T
  have c__law_bent_line : Cal P w K mg base CX0 3 "_law_bent_line" [] spBent := c_bent T
  refine okG F sc__law_spoiled (fun vs H Q E h => ?_) (fun cdv A outer s H vs Q E hr hgd h => ?_)
  · obtain ⟨p, t, rfl, _⟩ := h
    rfl
  · obtain ⟨p, t, rfl, hp, B, xs, ds, ht, ld, B5, q⟩ := h
    have hu := hr.units
    refine ⟨_, PSs.nox (pss_cons (ps_par (i := 2) (j := 3) rfl sc__law_spoiled.nd rfl rfl (by decide) rfl rfl (pa_cons (pe_cal c__law_draw (hr.mono (by decide)) hgd pass0 (pa_cons (pv 0) (pa_cons pe_int pa_nil))) (pa_cons (pe_cal c__law_draw (hr.mono (by decide)) hgd pass0 (pa_cons (pv 0) (pa_cons (pe_callB call_len_seq rfl T.f_len (by decide +kernel) (pa_cons (pv 1) pa_nil)) pa_nil))) pa_nil)) (by rfl))
    (pss_cons (ps_set (i := 4) sc__law_spoiled.nd rfl (Or.inl rfl) (pe_cal c__law_draw (hr.mono (by decide)) hgd pass0 (pa_cons (pv 0) (pa_cons pe_int pa_nil))))
    (pss_cons (ps_set (i := 5) sc__law_spoiled.nd rfl (Or.inl rfl) (pe_ix ix_list (pe_lst (pa_cons pe_non (pa_cons pe_int (pa_cons (pe_tup (pa_cons pe_str pa_nil)) (pa_cons (pe_lst (pa_cons pe_str pa_nil)) (pa_cons pe_str (pa_cons pe_bl pa_nil))))))) (pv 4) (fun _ _ => rfl)))
    (pss_cons (ps_if (pt_cmpR op_gt (pv 2) pe_int (nomark _)) (pss_one (ps_set (i := 5) sc__law_spoiled.nd rfl (Or.inl rfl) (pe_ifExp (pt_val (pe_callB call_isi rfl T.f_isinstance (by decide +kernel) (pa_cons (pe_ix ix_tup (pv 1) (pv 3) (fun _ _ => rfl)) (pa_cons (pe_bltn (v := .ty "str") (u := .type "str") rfl T.f_str (by decide +kernel) rfl) pa_nil)))) (pe_cal c__law_bent_line (hr.mono (by decide)) hgd pass0 (pa_cons (pv 0) (pa_cons (pe_ix ix_tup (pv 1) (pv 3) (fun _ _ => rfl)) pa_nil))) pe_str))) pss_nil)
    (pss_one (ps_ret (pe_op op_catB (pe_op op_catB (pe_slice sl_tupB (pv 1) po_none (po_some (pv 3))) (pe_tup (pa_cons (pv 5) pa_nil))) (pe_slice sl_tupB (pv 1) (po_some (pe_op op_add (pv 3) pe_int)) po_none)))))))), ?_⟩
    clear c__law_draw c__law_bent_line
    have o1 := ld.one
    have o2 := ld.ten
    refine mid3 (fun σ' H' => SpSt K p t (2 * B + 20) xs ds H σ' H') ?_ (fun u rest => ?_)
    rotate_left
    · walk_at "rd"
      intro H1 way p1 w0 w6
      have ht1 := p1.obj hp ht rfl
      have hp1 := p1.pool
      walk_at "rd"
      intro H2 on p2 h0 h1
      have ht2 := p2.obj hp1 ht1 rfl
      have hp2 := p2.pool
      obtain ⟨n, rfl⟩ := Int.eq_ofNat_of_zero_le h0
      walk_at "rd"
      intro H3 which p3 k0 k6
      have hp3 := p3.pool
      walk_at "rd"
      intro l1 n1
      walk_at "rd"
      intro l2 n2
      walk_at "rd"
      intro l3 n3
      have pl3 : Pl p H H3 := (p1.trans p2).trans p3
      have e1 : upd (upd (upd H3 l1 (.tup [.str "end"])) l2 (.lst [.str "end"])) l3 (.lst [.non, .int 5, .ref l1, .ref l2, .str "", .bl true]) l1 = some (.tup [.str "end"]) := upd_get n3 (upd_get n2 upd_same)
      have e2 : upd (upd (upd H3 l1 (.tup [.str "end"])) l2 (.lst [.str "end"])) l3 (.lst [.non, .int 5, .ref l1, .ref l2, .str "", .bl true]) l2 = some (.lst [.str "end"]) := upd_get n3 upd_same
      rcases (show which = 0 ∨ which = 1 ∨ which = 2 ∨ which = 3 ∨ which = 4 ∨ which = 5 by omega) with rfl | rfl | rfl | rfl | rfl | rfl
      all_goals
        walk_at "rd"
      · exact rest _ _ ⟨way, _, n, .non, .none, rfl, by walk_at "g but", by omega, .non, .inr (.inl rfl)⟩
      · exact rest _ _ ⟨way, _, n, .int 5, .int 5, rfl, by walk_at "g but", by omega, .int _, .inr (.inr (.inl rfl))⟩
      · exact rest _ _ ⟨way, _, n, .ref l1, .tuple [.str "end"], rfl, by walk_at "g but", by omega, .tup (SqT.of e1) (.cons (.str _) .nil), .inr (.inr (.inr (.inl rfl)))⟩
      · exact rest _ _ ⟨way, _, n, .ref l2, .list [.str "end"], rfl, by walk_at "g but", by omega, .lst e2 (.cons (.str _) .nil), .inr (.inr (.inr (.inr (.inl rfl))))⟩
      · exact rest _ _ ⟨way, _, n, .str "", .str "", rfl, by walk_at "g but", by omega, .str _, .inl ⟨_, rfl, Nat.zero_le _, asc_lit (by decide +kernel)⟩⟩
      · exact rest _ _ ⟨way, _, n, .bl true, .bool true, rfl, by walk_at "g but", by omega, .bl _, .inr (.inr (.inr (.inr (.inr rfl))))⟩
    rintro σ1 H1 ⟨way, which, on, x, d, rfl, p1, ho, hx, sm⟩
    refine mid1 (fun σ' H' => SpSt K p t (2 * B + 20) xs ds H σ' H') ?_ (fun u rest => ?_)
    rotate_left
    · walk_at "rd"
      refine iteB (fun h1 => ?_) (fun h1 => ?_)
      · obtain ⟨x0, hx0⟩ : ∃ x0, xs[on]? = some x0 := ⟨_, List.getElem?_eq_getElem ho⟩
        have ld1 := ld.pl hp p1
        obtain ⟨d0, hd0, hq0⟩ := dqAll_at ld1.all hx0
        have ht1 := p1.obj hp ht rfl
        have hp1 := p1.pool
        have ax : atI xs (on : Int) = some x0 := atI_nat hx0
        rcases dq_ty hq0 with ⟨z, rfl, ed⟩ | ⟨ns, tt, mt, ty⟩
        · obtain ⟨z1, z2⟩ := ld.strB (by omega) (List.mem_of_getElem? hx0) z rfl
          have z3 : z.length ≤ B := by
            rcases ld.bd _ (List.mem_of_getElem? hd0) with ⟨y, e, h1, _⟩ | e | e | e | e | e
            · rw [ed] at e
              obtain rfl : z = y := by injection e
              exact h1
            all_goals
              rw [ed] at e
              cases e
          walk_at "rd"
          intro H2 z' p2 az lz
          walk_at "rd"
          exact rest _ _ ⟨way, which, on, .str z', .str z', rfl, p1.trans p2, ho, .str _, .inl ⟨_, rfl, by omega, az⟩⟩
        · walk_at "rd"
          refine ⟨not_str tt mt, ?_⟩
          walk_at "rd"
          exact rest _ _ ⟨way, which, on, .str "end", .str "end", rfl, p1, ho, .str _, .inl ⟨_, rfl, by rw [show ("end" : Str).length = 3 from by decide +kernel]; omega, asc_lit (by decide +kernel)⟩⟩
      · walk_at "rd"
        exact rest _ _ ⟨way, which, on, x, d, rfl, p1, ho, hx, sm⟩
    clear p1 ho hx sm
    rintro σ2 H2 ⟨way, which, on, x, d, rfl, p2, ho, hx, sm⟩
    have ht2 := p2.obj hp ht rfl
    have ld2 := ld.pl hp p2
    have c1 := cutV_length xs none (some (on : Int))
    have c2 := cutV_length xs (some ((on : Int) + 1)) none
    walk_at "rd"
    intro H3 v1 s3 hv1
    have ht3 := s3 _ _ ht2
    walk_at "rd"
    intro v2 nv2
    have hv13 : SqT K (upd H3 v2 (.tup [x])) v1 (cutV xs none (some (on : Int))) := SqT.of (upd_get nv2 hv1)
    have ht4 := (upd_get nv2 ht3 : upd H3 v2 (.tup [x]) t = _)
    walk_at "rd"
    refine ⟨by rw [sizeLine_eq]; show _ + 1 ≤ _; omega, fun H5 v3 s5 hv3 => ?_⟩
    have ht5 := s5 _ _ ht4
    walk_at "rd"
    intro H6 v4 s6 hv4
    have hv36 := s6 _ _ hv3
    walk_at "rd"
    refine ⟨by rw [sizeLine_eq, List.length_append]; show _ + 1 + _ ≤ _; omega, fun H7 v5 s7 hv5 => ?_⟩
    rw [cut_setX ho] at hv5
    have sx : Same H2 H7 := (((s3.trans ((Same.refl _).new nv2)).trans s5).trans s6).trans s7
    exact q _ _ _ _ (p2.same sx) hv5 ((ld2.set hx sm (by omega)).same sx)
theorem c_spoiled (T : Tx K mg) : Cal P w K mg base CX0 4 "_law_spoiled" [] (spSpoiled K) := by
  obtain ⟨fd, F⟩ := T.d__law_spoiled
  exact .mk F (ok_spoiled T F) T.n__law_spoiled fun _ _ _ _ _ _ us hl => match us, hl with | [_, _], _ => rfl
end
end G
namespace G
open PySem PySem.Spec PyProof.Rows L2
/-! ### any rows, shown -/
theorem small_sh {B : Nat} {d : PyData} (h : SmallD B d) (l : B ≤ 10000) : ShD 40 110000 d ∧ Asc d.shown := by
  rcases h with ⟨z, rfl, h1, h2⟩ | rfl | rfl | rfl | rfl | rfl
  · refine ⟨⟨rfl, Nat.zero_le _, ?_⟩, asc_dstr h2⟩
    have k := PySem.StrLaws.reprText_len z (fun c hc => Nat.lt_trans (h2 c hc) (by decide))
    show (reprText z).length ≤ 110000
    omega
  · exact ⟨⟨rfl, Nat.zero_le _, by decide +kernel⟩, asc_lit (by decide +kernel)⟩
  · exact ⟨⟨rfl, Nat.zero_le _, by decide +kernel⟩, asc_lit (by decide +kernel)⟩
  · exact ⟨⟨by decide +kernel, by decide +kernel, by decide +kernel⟩, asc_lit (by decide +kernel)⟩
  · exact ⟨⟨by decide +kernel, by decide +kernel, by decide +kernel⟩, asc_lit (by decide +kernel)⟩
  · exact ⟨⟨rfl, Nat.zero_le _, by decide +kernel⟩, asc_lit (by decide +kernel)⟩
theorem LnsD.sh {B : Nat} {K : PySem.W.Frag} {H : Hp} {xs : List V} {ds : List PyData} (h : LnsD B K H xs ds) (l : B ≤ 10000) : ShD 60 sizeLine (.tuple ds) ∧ Asc (PyData.tuple ds).shown := by
  have a := shD_tup fun d hd => (small_sh (h.bd d hd) l).1
  have e := dqAll_len h.all
  have t := h.ten
  refine ⟨⟨a.sh, Nat.le_trans a.dp (by decide), Nat.le_trans a.ln ?_⟩, asc_dtup fun d hd => (small_sh (h.bd d hd) l).2⟩
  rw [sizeLine_eq]
  omega
/-- the rows that are none -/
noncomputable def badB (xs : List V) (i : Nat) : Bool := @decide (¬ LineV (xs.getD i .non) xs.length) (Classical.propDecidable _)
theorem badB_iff {xs : List V} {i : Nat} {x : V} (h : xs[i]? = some x) : badB xs i = true ↔ ¬ LineV x xs.length := by
  unfold badB
  rw [List.getD_eq_getElem?_getD, h]
  exact @decide_eq_true_iff _ (Classical.propDecidable _)
noncomputable def wrongL (xs : List V) (j : Nat) : List Nat := (List.range j).filter (badB xs)
theorem wrongL_len (xs : List V) (j : Nat) : (wrongL xs j).length ≤ j := by
  have := List.length_filter_le (badB xs) (List.range j)
  rw [List.length_range] at this
  exact this
theorem wrongL_succ (xs : List V) (j : Nat) : wrongL xs (j + 1) = if badB xs j = true then wrongL xs j ++ [j] else wrongL xs j := by
  unfold wrongL
  rw [List.range_succ, List.filter_append]
  by_cases h : badB xs j = true
  · rw [if_pos h]
    simp [h]
  · rw [if_neg h]
    simp [h]
/-- the first row that is none, if there is one -/
theorem wrongL_head {xs : List V} {i : Nat} {r : List Nat} (h : wrongL xs xs.length = i :: r) : ∃ x, xs[i]? = some x ∧ ¬ LineV x xs.length ∧ ∀ y ∈ xs.take i, LineV y xs.length := by
  have hm : i ∈ wrongL xs xs.length := by rw [h]; exact List.mem_cons_self
  obtain ⟨h1, h2⟩ := List.mem_filter.mp hm
  have li := List.mem_range.mp h1
  have hx : xs[i]? = some xs[i] := List.getElem?_eq_getElem li
  refine ⟨_, hx, (badB_iff hx).mp h2, fun y hy => Classical.byContradiction fun hn => ?_⟩
  obtain ⟨j, hj⟩ := List.getElem?_of_mem hy
  have lj := (List.getElem?_eq_some_iff.mp hj).1
  rw [List.length_take] at lj
  rw [List.getElem?_take_of_lt (by omega)] at hj
  have bj := (badB_iff hj).mpr hn
  have mj : j ∈ wrongL xs xs.length := List.mem_filter.mpr ⟨List.mem_range.mpr (by omega), bj⟩
  have pw : (wrongL xs xs.length).Pairwise (· < ·) := List.Pairwise.filter _ List.pairwise_lt_range
  rw [h] at mj pw
  rcases List.mem_cons.mp mj with e | mj
  · omega
  · have := (List.pairwise_cons.mp pw).1 j mj
    omega
theorem wrongL_nil {xs : List V} (h : wrongL xs xs.length = []) : ∀ x ∈ xs, LineV x xs.length := by
  intro x hx
  obtain ⟨i, hi⟩ := List.getElem?_of_mem hx
  refine Classical.byContradiction fun hn => ?_
  have : i ∈ wrongL xs xs.length := List.mem_filter.mpr ⟨List.mem_range.mpr (List.getElem?_eq_some_iff.mp hi).1, (badB_iff hi).mpr hn⟩
  rw [h] at this
  cases this
section
variable {P : Program} {w : World} {K : PySem.W.Frag} {mg : Str → Option Value} {base : Heap} {CX : CXT}
/-! ### the constructors, raising -/
theorem c_Kind_2X (T : Tx K mg) : CalC P w K mg base (L2.CX P w) 6 "Kind" (cK K) [.bl false, kindMe K] (spKindX K) := by
  obtain ⟨fd, F⟩ := T.d_Kind___init__
  obtain ⟨ds, rd, hb⟩ := F.binds0 (ps := ["self", "name", "rows", "many", "members"]) 3 (fun h => absurd (show 2 = 0 from congrArg List.length h) (by decide)) rfl (fun D doc pm an cdv ct us ks l1 l2 => match us, ks, l1, l2 with
    | [_, _, _], [_, _], _, _ => ⟨_, _, _, _, _, _, rfl, rfl, _, _, _, _, _, _, rfl, rfl, rfl⟩)
  obtain ⟨u, hm, ru⟩ := T.g_Kind
  obtain rfl : u = Value.ref (cK K) := ru
  exact ⟨_, fd, _, ds, T.mk_Kind, ok_KindX T F, hm, hb, rd⟩
/-- rows, name, many: in the parameters' order -/
def gRNy {α : Type} (us mv ws : List α) : List α := us ++ ((ws.drop 1).take 1 ++ (ws.take 1 ++ (ws.drop 2 ++ mv)))
theorem c_Kind_0_rows_name_many (T : Tx K mg) : CalN P w K mg base (L2.CX P w) 6 "Kind" (cK K) 0 ["rows", "name", "many"] (fun vs zs => gRNy vs [kindMe K] zs) (spKindX K) := by
  obtain ⟨fd, F⟩ := T.d_Kind___init__
  obtain ⟨mv, hb⟩ := F.kbinds0 (ps := ["self", "name", "rows", "many", "members"]) 1 ["rows", "name", "many"] [("members", kindMe K)] gRNy (fun h => absurd (show 2 = 0 from congrArg List.length h) (by decide))
    (fun q hq => List.mem_singleton.mp hq ▸ .tail _ (.head _))
    (fun r1 r2 r3 => vals_app r1 (vals_app (vals_take 1 (vals_drop 1 r3)) (vals_app (vals_take 1 r3) (vals_app (vals_drop 2 r3) r2)))) (fun D doc pm an cdv ct us mv ws l1 l2 l3 => match us, mv, ws, l1, l2, l3 with
    | [_], [_], [_, _, _], _, _, _ => ⟨_, _, _, _, _, _, rfl, rfl, rfl⟩)
  obtain ⟨u, hm, ru⟩ := T.g_Kind
  obtain rfl : u = Value.ref (cK K) := ru
  exact ⟨_, fd, _, _, T.mk_Kind, ok_KindX T F, hm, hb⟩
def qn5 : Str := (envOfC "_law_asked" (defScope s__law_asked) 0 0 .none).qual ++ "<lambda>"
abbrev tabs5 (K : PySem.W.Frag) : List (Addr × Str) := [(tabA K "_law_asked", qn5)]
def spAsk5 (K : PySem.W.Frag) : Sp := fun vs H Q _ => ∃ t : Addr, vs = [.ref t] ∧ ∃ (B : Nat) (xs : List V) (ds : List PyData), H t = some (.tup xs) ∧ LnsD B K H xs ds ∧ B ≤ 10000 ∧ LamX.Tabs (tabs5 K) H ∧ ∀ H', Kp H H' → LamX.Tabs (tabs5 K) H' → Q (.bl true) H'
/-- what is told of rows: themselves, or the index of the first that is none -/
def Due5 (xs : List V) (ds : List PyData) (a b : Str) : Prop :=
  (wrongL xs xs.length = [] ∧ a = "returned" ∧ b = (PyData.tuple ds).shown) ∨ (∃ (i : Nat) (r : List Nat), wrongL xs xs.length = i :: r ∧ a = "InvalidRows" ∧ b = (PyData.int (i : Int)).shown)
theorem int_asc {i : Nat} (h : i < 10) : Asc (PyData.int (i : Int)).shown ∧ ShD 60 sizeLine (.int (i : Int)) := by
  have a : ∀ k : Fin 10, ((PyData.int ((k.val : Nat) : Int)).shown.cps.toList.all fun c => decide (c < 128)) = true ∧ (PyData.int ((k.val : Nat) : Int)).shown.length ≤ 10 := by decide +kernel
  exact ⟨asc_lit (a ⟨i, h⟩).1, by
    simp [PyData.showable]
    exact Nat.lt_of_le_of_lt (Nat.log2_le_self i) (by omega), Nat.zero_le _, Nat.le_trans (a ⟨i, h⟩).2 (by rw [sizeLine_eq]; decide)⟩
theorem int_txt {i : Nat} (h : i < 10) : (Str.ofString (toString (i : Int))) = (PyData.int (i : Int)).shown := by
  have a : ∀ k : Fin 10, (Str.ofString (toString ((k.val : Nat) : Int))) = (PyData.int ((k.val : Nat) : Int)).shown := by decide +kernel
  exact a ⟨i, h⟩
theorem ints_dpAll {H : Hp} : ∀ l : List Nat, DpAll K H (l.map fun (i : Nat) => V.int (i : Int)) (l.map fun (i : Nat) => PyData.int (i : Int))
  | [] => .nil
  | z :: l => .cons (.int _) (ints_dpAll l)
theorem ints_lay : ∀ l : List Nat, PyData.canLayAll0 (l.map fun (i : Nat) => PyData.int (i : Int)) = true ∧ PyData.depthAll (l.map fun (i : Nat) => PyData.int (i : Int)) = 0
  | [] => ⟨by simp only [List.map_nil, PyData.canLayAll0], by simp only [List.map_nil, PyData.depthAll]⟩
  | z :: l => by
    obtain ⟨a, b⟩ := ints_lay l
    refine ⟨?_, ?_⟩
    · simp only [List.map_cons, PyData.canLayAll0, PyData.canLay0, a, Bool.and_self]
    · simp only [List.map_cons, PyData.depthAll, PyData.depth, b]
      rfl
theorem ints_shaped (l : List Nat) : SeqAt.shaped (.list (l.map fun (i : Nat) => PyData.int (i : Int))) = true := by
  obtain ⟨a, b⟩ := ints_lay l
  unfold SeqAt.shaped
  simp only [PyData.canLay0, PyData.depth, a, b, Bool.true_and]
  decide
theorem ints_nil (l : List Nat) : PyData.eqv (.list (l.map fun (i : Nat) => PyData.int (i : Int))) (.list []) = decide (l = []) := by
  cases l <;> rfl
theorem ask5 {H : Hp} {B : Nat} {xs : List V} {ds : List PyData} (T : Tx K mg) (ld : LnsD B K H xs ds) (lB : B ≤ 10000) : ∃ a b : Str, Asc a ∧ Asc b ∧ Due5 xs ds a b ∧
    ∀ (H1 : Hp) (t : Addr) (bb : Bool) (Q : VK), H1 t = some (.tup xs) → LnsD B K H1 xs ds → (∀ t' H', Same H1 H' → H' t' = some (.tup [.str a, .str b]) → Q (.ref t') H') →
      ∀ x dx, H1 x = none → H1 dx = none → dx ≠ x → spKindX K [.ref x, .str "k", .ref t, .bl bb, kindMe K] (upd (upd H1 dx (.own x)) x (.ins (cK K) dx []))
        (fun v H2 => v = .non ∧ ∃ a' dx' fs v', V.ref x = .ref a' ∧ H2 a' = some (.ins (cK K) dx' fs) ∧ fs.lookup ("texts" : Str) = some v' ∧ RetQ K Q v' H2) (WishQ K Q) := by
  have nk : Nm "k" := ⟨by decide +kernel, by decide +kernel⟩
  have kt := T.kt_Kind___init___members
  have o2 := ld.ten
  cases hw : wrongL xs xs.length with
  | nil =>
    obtain ⟨sh, as⟩ := ld.sh lB
    have all := wrongL_nil hw
    refine ⟨"returned", _, asc_lit (by decide +kernel), as, .inl ⟨hw, rfl, rfl⟩, fun H1 t bb Q ht l1 q x dx nx nd ne => ?_⟩
    have s1 : Same H1 (upd (upd H1 dx (.own x)) x (.ins (cK K) dx [])) := ((Same.refl _).new nd).new ((upd_ne ne.symm).trans nx)
    refine ⟨x, dx, t, _, "k", bb, xs, ds, [], rfl, upd_same, nk, s1 _ _ ht, dqAll_same s1 l1.all, l1.one, l1.ten, fun y hy => l1.strB lB hy, .inr ⟨rfl, kt⟩, ⟨fun _ h => (nomatch h), List.nodup_nil, Nat.zero_le _⟩,
      fun rs ro ers H2 pr as2 b2 e2 hpr hrs => ⟨rfl, x, dx, _, .ref t, rfl, e2, rfl, ?_⟩, fun i y hy nl _ d H' s' hd => absurd (all y (List.mem_of_getElem? hy)) nl⟩
    have s2 := made_same nx nd b2
    refine RetQ.of (.tup (SqT.of (s2 _ _ ht)) (DqAll.ext (.of s2) l1.all)) sh fun t' H3 s3 h3 => q t' H3 (s2.trans s3) h3
  | cons i r =>
    obtain ⟨x0, hx0, nl, pre⟩ := wrongL_head hw
    have li := (List.getElem?_eq_some_iff.mp hx0).1
    obtain ⟨as, sh⟩ := int_asc (i := i) (by omega)
    refine ⟨"InvalidRows", _, asc_lit (by decide +kernel), as, .inr ⟨i, r, hw, rfl, rfl⟩, fun H1 t bb Q ht l1 q x dx nx nd ne => ?_⟩
    have s1 : Same H1 (upd (upd H1 dx (.own x)) x (.ins (cK K) dx [])) := ((Same.refl _).new nd).new ((upd_ne ne.symm).trans nx)
    refine ⟨x, dx, t, _, "k", bb, xs, ds, [], rfl, upd_same, nk, s1 _ _ ht, dqAll_same s1 l1.all, l1.one, l1.ten, fun y hy => l1.strB lB hy, .inr ⟨rfl, kt⟩, ⟨fun _ h => (nomatch h), List.nodup_nil, Nat.zero_le _⟩,
      fun rs ro ers H2 pr as2 b2 e2 hpr hrs => ?_, fun j y hy nly prej d H' s' hd => ?_⟩
    · exfalso
      subst ers
      refine nl ?_
      have rl : (rowsV rs).length = rs.length := List.length_map ..
      rw [rl]
      exact ro.line (List.mem_of_getElem? hx0)
    · have ej : j = i := by
        rcases Nat.lt_trichotomy j i with lt | e | gt
        · exact absurd (pre y (by rw [List.mem_take_iff_getElem]; obtain ⟨h1, h2⟩ := List.getElem?_eq_some_iff.mp hy; exact ⟨j, by omega, h2⟩)) nly
        · exact e
        · exact absurd (prej x0 (by rw [List.mem_take_iff_getElem]; obtain ⟨h1, h2⟩ := List.getElem?_eq_some_iff.mp hx0; exact ⟨i, by omega, h2⟩)) nl
      subst ej
      exact ⟨12, .int (j : Int), .non, d, .int (j : Int), by decide, rfl, rfl, hd, .int _, sh, fun t' H3 s3 h3 => q t' H3 ((s1.trans s').trans s3) h3⟩
theorem ok_ask5 {fd : FuncData} {dvs : List V} {kws : List (Str × V)} (T : Tx K mg) (hsm : (base.get? sysModules).isSome = true) (TB : LamX.TabB base mg (codeA K "_law_asked") (tabA K "_law_asked"))
    (code : ∀ oc od fd osl, K.lookup (He.ga K "_law_asked") = some ⟨oc, od, .func fd, osl⟩ → fd.code = .ref (codeA K "_law_asked"))
    (F : FunD K "_law_asked" "_law_asked" (defArgs s__law_asked) (defBody s__law_asked) (defScope s__law_asked) dvs kws (He.ga K "_law_asked") fd) :
    FnG P w K mg base CX0 10 (He.ga K "_law_asked") fd ["_law_lines_here"] (spAsk5 K) := by
  have c__law_is_line : Cal P w K mg base CX0 3 "_law_is_line" [] (spIsLine K) := c_is_line T
  have c_Kind_2 : CalC P w K mg base (L2.CX P w) 6 "Kind" (cK K) [.bl false, kindMe K] (spKindX K) := c_Kind_2X T
  have c_Kind_0_rows_name_many : CalN P w K mg base (L2.CX P w) 6 "Kind" (cK K) 0 ["rows", "name", "many"] (fun vs zs => gRNy vs [kindMe K] zs) (spKindX K) := c_Kind_0_rows_name_many T
  refine okGC F sc__law_asked code (fun vs H Q E h => ?_) (fun A outer s H vs Q E hr hgd h => ?_)
  · obtain ⟨t, rfl, _⟩ := h
    rfl
  · obtain ⟨t, rfl, B, xs, ds, ht, ld, lB, tabs, q⟩ := h
    have hu := hr.units
    refine ⟨_, PSs.nox (pss_cons (ps_setLc (i := 1) (own := [("_law_k", 2)]) (g := gName 2) rfl sc__law_asked.nd rfl rfl (sw_true rfl rfl rfl (by decide +kernel)) (pi_range1 rfl T.f_range (pa_cons (pe_callB call_len_seq rfl T.f_len (by decide +kernel) (pa_cons (pv 0) pa_nil)) pa_nil)) (blkOk_by (own := [("_law_k", 2)]) (N := n__law_asked) (sc := defScope s__law_asked) (by decide +kernel)) (fun _ _ _ _ _ => (pg_name (i := 2) sc__law_asked.nd rfl (Or.inl rfl))) (fun _ _ _ _ _ => (pts_one (pt_not (pt_val (pe_cal c__law_is_line (hr.mono (by decide)) hgd pass0 (pa_cons (pe_ix (ixK (K := K) (r := rIxT) rfl ix_tup) (pv 0) (pv 2) (fun _ _ => rfl)) (pa_cons (pe_callB (crK (K := K) (r := fun K1 => fun xs H Q => ∃ p ys, xs = [V.ref p] ∧ (SqL K1 H p ys ∨ SqT K1 H p ys) ∧ Q (V.int ((List.length ys : Nat) : Int)) H) rfl call_len_seq) rfl T.f_len (by decide +kernel) (pa_cons (pv 0) pa_nil)) pa_nil))))))) (fun _ _ _ _ _ => (pv 2)))
    (pss_cons (ps_set (i := 3) sc__law_asked.nd rfl (Or.inl rfl) (pe_caught (y := "_law_asked") (k := 7) T hsm hgd TB (hr.mono (by decide)) rfl (LamX.lamS_by (sc := defScope s__law_asked) (by decide +kernel)) rfl (fun _ _ _ _ _ => rfl) (fun A outer s H E f c' hrl => (pe_get (T.p_Kind_rows _ _ _) (hrl.mono (by decide)) (pe_mkc c_Kind_2 (hrl.mono (by decide)) passLam (pa_cons pe_str (pa_cons (pv 0) pa_nil)))))))
    (pss_cons (ps_if (pt_cmpR (op_neD hu) (pe_caught (y := "_law_asked") (k := 7) T hsm hgd TB (hr.mono (by decide)) rfl (LamX.lamS_by (sc := defScope s__law_asked) (by decide +kernel)) rfl (fun _ _ _ _ _ => rfl) (fun A outer s H E f c' hrl => (pe_get (T.p_Kind_rows _ _ _) (hrl.mono (by decide)) (pe_mkn0 c_Kind_0_rows_name_many (hrl.mono (by decide)) passLam (pk_cons (pv 0) (pk_cons pe_str (pk_cons pe_bl pk_nil))))))) (pv 3) (nomark _)) (pss_one (ps_ret pe_bl)) pss_nil)
    (pss_one (ps_ret (pe_ifExp (pt_cmpR (op_eqD hu) (pv 1) (pe_lst pa_nil) (nomark _)) (pe_cmpR (op_eqD hu) (pv 3) (pe_tup (pa_cons pe_str (pa_cons (pe_callB (call_reprB hgd hu hsm) rfl T.f_repr (by decide +kernel) (pa_cons (pv 0) pa_nil)) pa_nil))) (nomark _)) (pe_cmpR (op_eqD hu) (pv 3) (pe_tup (pa_cons pe_str (pa_cons (pe_callTy call_str_int rfl T.f_str (by decide +kernel) (pa_cons (pe_ix ix_list (pv 1) pe_int (fun _ _ => rfl)) pa_nil)) pa_nil))) (nomark _)))))))), ?_⟩
    clear c__law_is_line c_Kind_2 c_Kind_0_rows_name_many
    have o2 := ld.ten
    have ht0 : SqT K H t xs := SqT.of ht
    refine mid1 (fun σ' H' => ∃ D : Addr, σ' = [some (.ref t), some (.ref D), none, none] ∧ Same H H' ∧ H' D = some (.lst ((wrongL xs xs.length).map fun (i : Nat) => V.int (i : Int)))) ?_ (fun u rest => ?_)
    rotate_left
    · walk_at "rd"
      intro D nD
      have en : ((xs.length : Nat) : Int).toNat = xs.length := by omega
      rw [en]
      refine lcW (wk_range 0 _) (fun j H' => Same H H' ∧ H' D = some (.lst ((wrongL xs j).map fun (i : Nat) => V.int (i : Int)))) ⟨by walk_at "g but", upd_same⟩ (fun _ _ _ _ => trivial) ?_ ?_
      · rintro j y H' hy ⟨sm, hD⟩
        obtain ⟨rfl, hj⟩ := rng_at hy
        have hx : xs[j]? = some xs[j] := List.getElem?_eq_getElem hj
        obtain ⟨d, hd, hq⟩ := dqAll_at ld.all hx
        have ht1 := sm _ _ ht
        have hq1 := Dq.same sm hq
        have sb := ld.strB lB (List.mem_of_getElem? hx)
        have wl := wrongL_len xs j
        have ax : atI xs (0 + (j : Int)) = some xs[j] := at_any (j := j) (by omega) hx
        walk_at "rd"
        refine ⟨d, rfl, hq1, sb, fun hl H'' s'' => ?_, fun hn H'' s'' => ?_⟩
        · have nb : ¬ badB xs j = true := fun hb => (badB_iff hx).mp hb hl
          walk_at "rd"
          exact ⟨sm.trans s'', by rw [wrongL_succ, if_neg nb]; exact s'' _ _ hD⟩
        · have yb : badB xs j = true := (badB_iff hx).mpr hn
          have hD2 := s'' _ _ hD
          walk_at "rd"
          refine ⟨by rw [List.length_map]; show _ < 16777216; omega, L2.Same.own (sm.trans s'') nD, ?_⟩
          rw [upd_same, wrongL_succ, if_pos yb, List.map_append, Int.zero_add]
          rfl
      · rintro H' ⟨sm, hD⟩
        walk_at "rd"
        exact rest _ _ ⟨D, rfl, sm, by rw [rngV_len] at hD; exact hD⟩
    rintro σ1 H1 ⟨D, rfl, s1, hD⟩
    have ht1 := s1 _ _ ht
    have ld1 := ld.same s1
    have tb1 : LamX.Tabs (tabs5 K) H1 := tabs.ext s1
    have kp1 : Kp H H1 := .of s1
    clear ht ld tabs s1 ht0
    obtain ⟨ta, tb, aa, ab, due, ask⟩ := ask5 T ld1 lB
    walk_at "rd"
    intro H2 n2 tb2
    have kp12 := Kp.ofN n2
    have ht2 := kp12 _ _ ht1 rfl
    have ld2 := ld1.ext kp12
    have hD2 := kp12 _ _ hD rfl
    have kp2 := kp1.trans kp12
    clear ht1 ld1 hD kp1 kp12 n2 tb1
    walk_at "rd"
    refine ask H2 t false _ ht2 ld2 fun t3 H3 s3 h3 => ?_
    have tb3 : LamX.Tabs (tabs5 K) H3 := tb2.ext s3
    have ht3 := s3 _ _ ht2
    have ld3 := ld2.same s3
    have hD3 := s3 _ _ hD2
    have kp3 := kp2.trans (.of s3)
    have sh := two_shaped aa ab
    clear ht2 ld2 hD2 kp2 tb2 s3
    walk_at "rd"
    intro H4 n4 tb4
    have kp34 := Kp.ofN n4
    have ht4 := kp34 _ _ ht3 rfl
    have ld4 := ld3.ext kp34
    have hD4 := kp34 _ _ hD3 rfl
    have h34 := kp34 _ _ h3 rfl
    have kp4 := kp3.trans kp34
    clear ht3 ld3 hD3 h3 kp3 kp34 n4 tb3
    walk_at "rd"
    refine ask H4 t true _ ht4 ld4 fun t5 H5 s5 h5 => ?_
    have ht5 := s5 _ _ ht4
    have ld5 := ld4.same s5
    have hD5 := s5 _ _ hD4
    have h35 := s5 _ _ h34
    have kp5 := kp4.trans (.of s5)
    have tb5 : LamX.Tabs (tabs5 K) H5 := tb4.ext s5
    clear ht4 ld4 hD4 h34 kp4 s5 tb4 ask
    walk_at "rd"
    refine ⟨_, _, two_dp h5, two_dp h35, sh, sh, _, rfl, G.iteKF (by rw [two_eqv]; rfl) ?_⟩
    walk_at "rd"
    intro E1 nE1
    refine ⟨.list ((wrongL xs xs.length).map fun (i : Nat) => PyData.int (i : Int)), .list [], .lst (SqL.of (upd_get nE1 hD5)) (ints_dpAll _), .lst (SqL.of upd_same) .nil, ints_shaped _, by decide +kernel, ?_⟩
    rw [ints_nil]
    have s6 : Same H5 (upd H5 E1 (.lst [])) := by walk_at "g but"
    generalize upd H5 E1 (.lst []) = H6 at s6 ⊢
    have h36 := s6 _ _ h35
    have hD6 := s6 _ _ hD5
    have ht6 := s6 _ _ ht5
    have ld6 := ld5.same s6
    have tb6 : LamX.Tabs (tabs5 K) H6 := tb5.ext s6
    have kp6 := kp5.trans (.of s6)
    clear ht5 ld5 hD5 h35 kp5 s6 tb5 h5 nE1
    refine ⟨_, rfl, iteB (fun e1 => ?_) (fun e1 => ?_)⟩
    · obtain ⟨sd, _⟩ := ld6.sh lB
      have dq6 : Dq K H6 (.ref t) (.tuple ds) := .tup (SqT.of ht6) ld6.all
      rcases due with ⟨_, rfl, rfl⟩ | ⟨i, r, hw, _⟩
      rotate_left
      · rw [of_decide_eq_true e1] at hw
        cases hw
      walk_at "rd"
      refine ⟨.tuple ds, rfl, dq6, sd.sh, sd.dp, sd.ln, ?_⟩
      walk_at "rd"
      intro t7 n7
      refine ⟨_, _, two_dp (by walk_at "g hp"), two_dp upd_same, sh, sh, ?_⟩
      rw [two_eqv]
      exact q _ (kp6.trans (.of (by walk_at "g but"))) (tb6.ext (by walk_at "g but"))
    · rcases due with ⟨hw, _⟩ | ⟨i, r, hw, rfl, rfl⟩
      · exact absurd hw (of_decide_eq_false e1)
      rw [hw] at hD6
      have li : i < 10 := by
        have h1 : i ∈ wrongL xs xs.length := by rw [hw]; exact List.mem_cons_self
        have := List.mem_range.mp (List.mem_filter.mp h1).1
        omega
      have e9 := int_txt li
      have sl : ((i : Nat) : Int).natAbs.log2 < 1920 := Nat.lt_of_le_of_lt (Nat.log2_le_self _) (by omega)
      walk_at "rd"
      refine ⟨at_any (v := V.int (i : Int)) (j := 0) rfl rfl, ?_⟩
      walk_at "rd"
      intro t7 n7
      rw [e9]
      refine ⟨_, _, two_dp (by walk_at "g hp"), two_dp upd_same, sh, sh, ?_⟩
      rw [two_eqv]
      exact q _ (kp6.trans (.of (by walk_at "g but"))) (tb6.ext (by walk_at "g but"))
theorem c_ask5 (T : Tx K mg) (hsm : (base.get? sysModules).isSome = true) (TB : LamX.TabB base mg (codeA K "_law_asked") (tabA K "_law_asked"))
    (code : ∀ oc od fd osl, K.lookup (He.ga K "_law_asked") = some ⟨oc, od, .func fd, osl⟩ → fd.code = .ref (codeA K "_law_asked")) : Cal P w K mg base CX0 10 "_law_asked" [] (spAsk5 K) := by
  obtain ⟨fd, F⟩ := T.d__law_asked
  exact .mk F (ok_ask5 T hsm TB code F) T.n__law_asked fun _ _ _ _ _ _ us hl => match us, hl with | [_], _ => rfl
end
end G
namespace G
open PySem PySem.Spec PyProof.Rows L2
section
variable {P : Program} {w : World} {K : PySem.W.Frag} {mg : Str → Option Value} {base : Heap} {CX : CXT}
theorem c_lines (T : Tx K mg) : Cal P w K mg base CX0 4 "_law_lines" [] spLines := by
  obtain ⟨fd, F⟩ := T.d__law_lines
  exact .mk F (ok_lines T F) T.n__law_lines fun _ _ _ _ _ _ us hl => match us, hl with | [_, _], _ => rfl
/-- rows of the grammar, as any rows -/
theorem lns_rows {H : Hp} {rs : List RwT} (h : RowsOk rs) : LnsD 60 K H (rowsV rs) (rs.map fun q => PyData.str q.text) := by
  have rl : (rowsV rs).length = rs.length := List.length_map ..
  refine ⟨dqAll_strs rs, by rw [rl]; exact h.one, by rw [rl]; exact h.ten, fun d hd => ?_⟩
  obtain ⟨q, hq, rfl⟩ := List.mem_map.mp hd
  have := rowText_len (h.qok hq).ok (h.qok hq).lab
  exact .inl ⟨q.text, rfl, show (rowText q.1 q.2).length ≤ 60 by omega, row_asc (h.qok hq)⟩
theorem pool_kp {H H' : Hp} {p : Addr} (h : PoolAt H p) (k : Kp H H') : PoolAt H' p := by
  obtain ⟨a, b, d, e, r⟩ := h
  exact ⟨a, b, d, k _ _ e rfl, r⟩
theorem kpb_trans {H H1 H2 : Hp} {p : Addr} (a : KpB p H H1) (b : KpB p H1 H2) : KpB p H H2 := fun c o n e t => b c o n (a c o n e t) t
def bN : Nat → Nat
  | 0 => 60
  | n + 1 => 2 * bN n + 20
/-- after so many turns -/
inductive Rt5 (K : PySem.W.Frag) (p : Addr) (H : Hp) (i : Nat) (σ : L2.St) (H' : Hp) : Prop
  | mk (l t : Addr) (b : Option V) (xs : List V) (ds : List PyData) (eσ : σ = [some (.ref p), some (.ref l), some (.ref t), b]) (kb : KpB p H H') (po : PoolAt H' p) (tb : LamX.Tabs (tabs5 K) H') (ht : H' t = some (.tup xs)) (ld : LnsD (bN i) K H' xs ds)
def spRight5 (K : PySem.W.Frag) : Sp := fun vs H Q _ => ∃ p : Addr, vs = [.ref p] ∧ PoolAt H p ∧ LamX.Tabs (tabs5 K) H ∧ ∀ H', KpB p H H' → PoolAt H' p → LamX.Tabs (tabs5 K) H' → Q (.bl true) H'
theorem ok_right5 {f : Addr} {fd : FuncData} {dvs : List V} {kws : List (Str × V)} (T : Tx K mg) (hsm : (base.get? sysModules).isSome = true) (TB : LamX.TabB base mg (codeA K "_law_asked") (tabA K "_law_asked"))
    (code : ∀ oc od fd osl, K.lookup (He.ga K "_law_asked") = some ⟨oc, od, .func fd, osl⟩ → fd.code = .ref (codeA K "_law_asked"))
    (F : FunD K "_law_right" "_law_right" (defArgs s__law_right) (defBody s__law_right) (defScope s__law_right) dvs kws f fd) :
    FnG P w K mg base CX0 11 f fd ["_law_pool_here"] (spRight5 K) := by
  have c__law_tag : Cal P w K mg base CX0 2 "_law_tag" [] spTag := c_tag T
  have c__law_lines : Cal P w K mg base CX0 4 "_law_lines" [] spLines := c_lines T
  have c__law_spoiled : Cal P w K mg base CX0 4 "_law_spoiled" [] (spSpoiled K) := c_spoiled T
  have c__law_asked : Cal P w K mg base CX0 10 "_law_asked" [] (spAsk5 K) := c_ask5 T hsm TB code
  refine okG F sc__law_right (fun vs H Q E h => ?_) (fun cdv A outer s H vs Q E hr hgd h => ?_)
  · obtain ⟨p, rfl, _⟩ := h
    rfl
  · obtain ⟨p, rfl, hp, tabs, q⟩ := h
    have hu := hr.units
    refine ⟨_, PSs.nox (pss_cons (ps_set (i := 1) sc__law_right.nd rfl (Or.inl rfl) (pe_lst (pa_cons (pe_cal c__law_tag (hr.mono (by decide)) hgd pass0 (pa_cons (pv 0) pa_nil)) (pa_cons pe_str pa_nil))))
    (pss_cons (ps_set (i := 2) sc__law_right.nd rfl (Or.inl rfl) (pe_cal c__law_lines (hr.mono (by decide)) hgd pass0 (pa_cons (pv 0) (pa_cons (pv 1) pa_nil))))
    (pss_cons (ps_if (pt_not (pt_val (pe_cal c__law_asked (hr.mono (by decide)) hgd pass0 (pa_cons (pv 2) pa_nil)))) (pss_one (ps_ret pe_bl)) pss_nil)
    (pss_cons (ps_for PassesOwn.never rfl (pi_range1 rfl T.f_range (pa_cons pe_int pa_nil)) (pg_name (i := 3) sc__law_right.nd rfl (Or.inl rfl))
      (pss_cons (ps_set (i := 2) sc__law_right.nd rfl (Or.inl rfl) (pe_cal c__law_spoiled (hr.mono (by decide)) hgd pass0 (pa_cons (pv 0) (pa_cons (pv 2) pa_nil))))
    (pss_one (ps_if (pt_not (pt_val (pe_cal c__law_asked (hr.mono (by decide)) hgd pass0 (pa_cons (pv 2) pa_nil)))) (pss_one (ps_ret pe_bl)) pss_nil))))
    (pss_one (ps_ret pe_bl)))))), ?_⟩
    clear c__law_tag c__law_lines c__law_spoiled c__law_asked
    have ng : Nm "g" := ⟨by decide +kernel, by decide +kernel⟩
    refine mid1 (fun σ' H' => ∃ (l : Addr) (z : Str), σ' = [some (.ref p), some (.ref l), none, none] ∧ Pl p H H' ∧ Nm z ∧ l ≠ p ∧ H' l = some (.lst (([z, "g"] : List Str).map V.str))) ?_ (fun u rest => ?_)
    rotate_left
    · walk_at "rd"
      intro H1 z p1 vz lz
      have hp1 := p1.pool
      walk_at "rd"
      intro l nl
      walk_at "rd"
      exact rest _ _ ⟨l, z, rfl, by walk_at "g but", ⟨vz, lz⟩, PoolAt.ne_new hp1 nl, upd_same⟩
    rintro σ0 H2 ⟨l, z, rfl, pl2, nz, nlp, hl⟩
    have hp2 := pl2.pool
    refine mid2 (fun σ' H' => Rt5 K p H 0 σ' H') ?_ (fun u rest => ?_)
    rotate_left
    · walk_at "rd"
      refine ⟨by simp, by simp, fun y hy => ?_, fun H3 t rs p3 nt ht rok _ => ?_⟩
      · simp only [List.mem_cons, List.not_mem_nil, or_false] at hy
        rcases hy with rfl | rfl
        · exact nz
        · exact ng
      have pl3 := pl2.trans p3
      have tb3 := tabs_pl tabs hp pl3
      walk_at "rd"
      refine ⟨_, ht, lns_rows rok, by decide, tb3, fun H4 kp tb4 => ?_⟩
      walk_at "rd"
      exact rest _ _ ⟨l, t, _, rowsV rs, _, rfl, (KpB.of pl3.but).trans kp, pool_kp pl3.pool kp, tb4, kp _ _ ht rfl, (lns_rows rok).ext kp⟩
    clear hp2 pl2 hl
    rintro σ1 H1 ⟨l, t, b, xs, ds, rfl, kb, po, tb, ht, ld⟩
    walk_at "rd"
    refine forW (wk_range 0 3) (fun i σ' H' => Rt5 K p H i σ' H') (.mk l t b xs ds rfl kb po tb ht ld) (fun _ _ _ _ _ => trivial) ?_ ?_
    · rintro i x σ2 H2 hx ⟨l, t, b, xs, ds, rfl, kb, po, tb, ht, ld⟩
      obtain ⟨rfl, hi⟩ := rng_at hx
      have hb : bN i ≤ 4000 := by
        have a : ∀ k : Fin 3, bN k.val ≤ 4000 := by decide
        exact a ⟨i, hi⟩
      walk_at "rd"
      refine ⟨ds, ht, ld, by omega, fun H3 t3 xs3 ds3 p3 ht3 ld3 => ?_⟩
      have tb3 := tabs_pl tb po p3
      walk_at "rd"
      refine ⟨ds3, ht3, ld3, by omega, tb3, fun H4 kp tb4 => ?_⟩
      walk_at "rd"
      exact ⟨l, t3, _, xs3, ds3, rfl, (kpb_trans kb (.of p3.but)).trans kp, pool_kp p3.pool kp, tb4, kp _ _ ht3 rfl, ld3.ext kp⟩
    · rintro σ2 H2 ⟨l, t, b, xs, ds, rfl, kb, po, tb, ht, ld⟩
      walk_at "rd"
      exact q _ kb po tb
theorem c_right5 (T : Tx K mg) (hsm : (base.get? sysModules).isSome = true) (TB : LamX.TabB base mg (codeA K "_law_asked") (tabA K "_law_asked"))
    (code : ∀ oc od fd osl, K.lookup (He.ga K "_law_asked") = some ⟨oc, od, .func fd, osl⟩ → fd.code = .ref (codeA K "_law_asked")) : Cal P w K mg base CX0 11 "_law_right" [] (spRight5 K) := by
  obtain ⟨fd, F⟩ := T.d__law_right
  exact .mk F (ok_right5 T hsm TB code F) T.n__law_right fun _ _ _ _ _ _ us hl => match us, hl with | [_], _ => rfl
end
end G
namespace G
open PySem PySem.Spec PyProof.Rows L2
def some5 : List Str := (["end", "end ", "a: end", "a:end", ": end", "a: b: end", "a : end", "go 0", "go 0 0", "go 1 0", "go"] : List Str) ++ (["go 5", "arrive g 3", "arrive g 4", "arrive g", "arrive g 03", "wait g", "wait g 0", "wait g else 0"] : List Str) ++
  (["over g 0", "wait g else 1", "over g 3 0", "over g 4 0", "over g 3 1", "join g h", "join", "end:"] : List Str) ++ (["end: end", "go 0 1 2 3", "arrive g 3 0", "look", "anew g ", "drop end", "a1: wait else else 0"] : List Str)
theorem mid7 {t1 t2 t3 t4 t5 : TS} {D : Ends} {σ : L2.St} {H : Hp} (M : L2.St → Hp → Prop) (h2 : ∀ σ' H', M σ' H' → t5 D σ' H')
    (h1 : ∀ u : TS, (∀ σ' H', M σ' H' → u D σ' H') → tSeq t1 (tSeq t2 (tSeq t3 (tSeq t4 u))) D σ H) : tSeq t1 (tSeq t2 (tSeq t3 (tSeq t4 t5))) D σ H := h1 t5 h2
theorem some5_ok : ∀ z ∈ some5, Asc z ∧ z.length ≤ 60 := by
  have a : some5.all (fun z => (z.cps.toList.all fun c => decide (c < 128)) && decide (z.length ≤ 60)) = true := by decide +kernel
  intro z hz
  obtain ⟨h1, h2⟩ := Bool.and_eq_true_iff.mp (List.all_eq_true.mp a z hz)
  exact ⟨asc_lit h1, of_decide_eq_true h2⟩
theorem lns_one {K : PySem.W.Frag} {H : Hp} {z : Str} (h : Asc z ∧ z.length ≤ 60) : LnsD 60 K H [.str z] [.str z] :=
  ⟨.cons (.str _) .nil, (show 1 ≤ 1 from by decide), (show 1 ≤ 10 from by decide), fun d hd => by rw [List.mem_singleton.mp hd]; exact .inl ⟨z, rfl, h.2, h.1⟩⟩
theorem lns_three {K : PySem.W.Frag} {H : Hp} {z : Str} (h : Asc z ∧ z.length ≤ 60) : LnsD 60 K H [.str "end", .str z, .str "go 0 1 2"] [.str "end", .str z, .str "go 0 1 2"] :=
  ⟨.cons (.str _) (.cons (.str _) (.cons (.str _) .nil)), (show 1 ≤ 3 from by decide), (show 3 ≤ 10 from by decide), fun d hd => by
    simp only [List.mem_cons, List.not_mem_nil, or_false] at hd
    rcases hd with rfl | rfl | rfl
    · exact .inl ⟨_, rfl, by decide +kernel, asc_lit (by decide +kernel)⟩
    · exact .inl ⟨z, rfl, h.2, h.1⟩
    · exact .inl ⟨_, rfl, by decide +kernel, asc_lit (by decide +kernel)⟩⟩
section
variable {P : Program} {w : World} {K : PySem.W.Frag} {mg : Str → Option Value} {base : Heap} {CX : CXT}
def spLaw (K : PySem.W.Frag) : Sp := fun vs H Q _ => ∃ (a : Addr) (ns : List Int), vs = [.ref a] ∧ SqL K H a (ns.map V.int) ∧ ns.length ≤ 63 ∧ LamX.Tabs (tabs5 K) H ∧ ∀ H', Q (.bl true) H'
theorem ok_law {f : Addr} {fd : FuncData} {dvs : List V} {kws : List (Str × V)} (T : Tx K mg) (hsm : (base.get? sysModules).isSome = true) (TB : LamX.TabB base mg (codeA K "_law_asked") (tabA K "_law_asked"))
    (code : ∀ oc od fd osl, K.lookup (He.ga K "_law_asked") = some ⟨oc, od, .func fd, osl⟩ → fd.code = .ref (codeA K "_law_asked"))
    (F : FunD K "law" "law" (defArgs s_law) (defBody s_law) (defScope s_law) dvs kws f fd) :
    FnG P w K mg base CX0 12 f fd ["_law_script"] (spLaw K) := by
  have c__law_right : Cal P w K mg base CX0 11 "_law_right" [] (spRight5 K) := c_right5 T hsm TB code
  have c__law_asked : Cal P w K mg base CX0 10 "_law_asked" [] (spAsk5 K) := c_ask5 T hsm TB code
  have c__law_pool : Cal P w K mg base CX0 1 "_law_pool" [] (spPool K) := c_pool T
  refine okG F sc_law (fun vs H Q E h => ?_) (fun cdv A outer s H vs Q E hr hgd h => ?_)
  · obtain ⟨a, ns, rfl, _⟩ := h
    rfl
  · obtain ⟨a, ns, rfl, ha, hl, tabs, q⟩ := h
    have hu := hr.units
    refine ⟨_, PSs.nox (pss_cons (ps_set (i := 1) sc_law.nd rfl (Or.inl rfl) (pe_lst (pa_cons pe_str (pa_cons pe_str (pa_cons pe_str (pa_cons pe_str (pa_cons pe_str (pa_cons pe_str (pa_cons pe_str (pa_cons pe_str (pa_cons pe_str (pa_cons pe_str (pa_cons pe_str pa_nil)))))))))))))
    (pss_cons (ps_set (i := 1) sc_law.nd rfl (Or.inl rfl) (pe_op op_cat (pv 1) (pe_lst (pa_cons pe_str (pa_cons pe_str (pa_cons pe_str (pa_cons pe_str (pa_cons pe_str (pa_cons pe_str (pa_cons pe_str (pa_cons pe_str pa_nil)))))))))))
    (pss_cons (ps_set (i := 1) sc_law.nd rfl (Or.inl rfl) (pe_op op_cat (pv 1) (pe_lst (pa_cons pe_str (pa_cons pe_str (pa_cons pe_str (pa_cons pe_str (pa_cons pe_str (pa_cons pe_str (pa_cons pe_str (pa_cons pe_str pa_nil)))))))))))
    (pss_cons (ps_set (i := 1) sc_law.nd rfl (Or.inl rfl) (pe_op op_cat (pv 1) (pe_lst (pa_cons pe_str (pa_cons pe_str (pa_cons pe_str (pa_cons pe_str (pa_cons pe_str (pa_cons pe_str (pa_cons pe_str pa_nil))))))))))
    (pss_cons (ps_if (pt_not (pt_val (pe_callB (cr_all rfl) rfl T.f_all (by decide +kernel) (pa_cons (pe_lc (own := [("_law_line_here", 2)]) (g := gName 2) (tt := tYes) rfl sc_law.nd (pi_list (pv 1)) (blkOk_by (own := [("_law_line_here", 2)]) (N := n_law) (sc := defScope s_law) (by decide +kernel)) (fun _ _ _ _ _ => (pg_name (i := 2) sc_law.nd rfl (Or.inl rfl))) (fun _ _ _ _ _ => pts_nil) (fun _ _ _ _ _ => (pe_and (pe_cal c__law_asked (hr.mono (by decide)) hgd pass0 (pa_cons (pe_tup (pa_cons (pv 2) pa_nil)) pa_nil)) (pe_one (pe_cal c__law_asked (hr.mono (by decide)) hgd pass0 (pa_cons (pe_tup (pa_cons pe_str (pa_cons (pv 2) (pa_cons pe_str pa_nil)))) pa_nil)))))) pa_nil)))) (pss_one (ps_ret pe_bl)) pss_nil)
    (pss_cons (ps_for PassesOwn.never rfl (pi_range1 rfl T.f_range (pa_cons (pe_callB (call_max2 rfl) rfl T.f_max (by decide +kernel) (pa_cons pe_int (pa_cons (pe_callB (call_min2 rfl) rfl T.f_min (by decide +kernel) (pa_cons (pe_callB call_len_seq rfl T.f_len (by decide +kernel) (pa_cons (pv 0) pa_nil)) (pa_cons pe_int pa_nil))) pa_nil))) pa_nil)) (pg_name (i := 3) sc_law.nd rfl (Or.inl rfl))
      (pss_cons (ps_set (i := 4) sc_law.nd rfl (Or.inr rfl) (pe_cal c__law_pool (hr.mono (by decide)) hgd pass0 (pa_cons (pv 0) (pa_cons (pv 3) pa_nil))))
    (pss_one (ps_if (pt_not (pt_val (pe_callB (cr_all rfl) rfl T.f_all (by decide +kernel) (pa_cons (pe_lc (own := [("_law_turn", 5)]) (g := gName 5) (tt := tYes) rfl sc_law.nd (pi_range1 rfl T.f_range (pa_cons pe_int pa_nil)) (blkOk_by (own := [("_law_turn", 5)]) (N := n_law) (sc := defScope s_law) (by decide +kernel)) (fun _ _ _ _ _ => (pg_name (i := 5) sc_law.nd rfl (Or.inl rfl))) (fun _ _ _ _ _ => pts_nil) (fun _ _ _ _ _ => (pe_cal c__law_right (hr.mono (by decide)) hgd pass0 (pa_cons (pv 4) pa_nil)))) pa_nil)))) (pss_one (ps_ret pe_bl)) pss_nil))))
    (pss_one (ps_ret pe_bl)))))))), ?_⟩
    clear c__law_right c__law_asked c__law_pool
    refine mid7 (fun σ' H' => ∃ l : Addr, σ' = [some (.ref a), some (.ref l), none, none, none, none] ∧ Same H H' ∧ H' l = some (.lst (some5.map V.str))) ?_ (fun u rest => ?_)
    rotate_left
    · walk_at "rd"
      intro l1 n1
      walk_at "rd"
      intro l2 n2
      walk_at "rd"
      intro l3 n3
      walk_at "rd"
      intro l4 n4
      walk_at "rd"
      intro l5 n5
      walk_at "rd"
      intro l6 n6
      walk_at "rd"
      intro l7 n7
      walk_at "rd"
      exact rest _ _ ⟨l7, rfl, by walk_at "g but", by rw [upd_same]; rfl⟩
    rintro σ1 H1 ⟨l, rfl, s1, hl1⟩
    have tb1 : LamX.Tabs (tabs5 K) H1 := tabs.ext s1
    refine mid1 (fun σ' H' => ∃ l : Addr, σ' = [some (.ref a), some (.ref l), none, none, none, none] ∧ Kp H H' ∧ LamX.Tabs (tabs5 K) H') ?_ (fun u rest => ?_)
    rotate_left
    · walk_at "rd"
      refine ⟨⟨_, SqL.of hl1⟩, ?_⟩
      intro D nD
      refine lcW (wk_list (some5.map V.str)) (fun j H' => Kp H1 H' ∧ LamX.Tabs (tabs5 K) H' ∧ H' D = some (.lst (List.replicate j (.bl true)))) ⟨.of (by walk_at "g but"), tb1.ext (by walk_at "g but"), upd_same⟩ (fun j H' _ e => SqL.of (e.1 _ _ hl1 rfl)) ?_ ?_
      · rintro i x H2 hx ⟨k2, t2, hD⟩
        obtain ⟨z, hz, rfl⟩ := List.mem_map.mp (List.mem_of_getElem? hx)
        have zo := some5_ok z hz
        walk_at "rd"
        intro p1 np1
        have s3 : Same H2 (upd H2 p1 (.tup [.str z])) := by walk_at "g but"
        have h3 : upd H2 p1 (.tup [.str z]) p1 = some (.tup [.str z]) := upd_same
        have hD3 := s3 _ _ hD
        have t3 : LamX.Tabs (tabs5 K) (upd H2 p1 (.tup [.str z])) := t2.ext s3
        have k3 := k2.trans (.of s3)
        generalize upd H2 p1 (.tup [.str z]) = H3 at s3 h3 hD3 t3 k3 ⊢
        clear hD t2 k2 s3 np1
        walk_at "rd"
        refine ⟨_, h3, lns_one zo, by decide, t3, fun H4 k4 t4 => ?_⟩
        have hD4 := k4 _ _ hD3 rfl
        have k4' := k3.trans k4
        clear h3 hD3 t3 k3 k4
        walk_at "rd"
        intro p2 np2
        have s5 : Same H4 (upd H4 p2 (.tup [.str "end", .str z, .str "go 0 1 2"])) := by walk_at "g but"
        have h5 : upd H4 p2 (.tup [.str "end", .str z, .str "go 0 1 2"]) p2 = some (.tup [.str "end", .str z, .str "go 0 1 2"]) := upd_same
        have hD5 := s5 _ _ hD4
        have t5 : LamX.Tabs (tabs5 K) (upd H4 p2 (.tup [.str "end", .str z, .str "go 0 1 2"])) := t4.ext s5
        have k5 := k4'.trans (.of s5)
        generalize upd H4 p2 (.tup [.str "end", .str z, .str "go 0 1 2"]) = H5 at s5 h5 hD5 t5 k5 ⊢
        clear hD4 t4 k4' s5 np2
        walk_at "rd"
        refine ⟨_, h5, lns_three zo, by decide, t5, fun H6 k6 t6 => ?_⟩
        have hD6 := k6 _ _ hD5 rfl
        have li := (List.getElem?_eq_some_iff.mp hx).1
        rw [List.length_map] at li
        have l34 : some5.length = 34 := rfl
        refine ⟨_, hD6, by rw [List.length_replicate]; show i < 16777216; omega, ?_, tabs_own t6 hD6, by rw [upd_same, List.replicate_succ']⟩
        intro c o e nt
        have nc : c ≠ D := ne_of_none e nD
        rw [upd_ne nc]
        exact (k5.trans k6) c o e nt
      · rintro H2 ⟨k2, t2, hD⟩
        refine ⟨D, List.replicate _ true, rfl, SqL.of (by rw [hD, List.map_replicate]), ?_⟩
        walk_at "rd"
        exact rest _ _ ⟨l, rfl, (Kp.of s1).trans k2, t2⟩
    clear hl1 tb1 s1
    rintro σ2 H2 ⟨l, rfl, k2, t2⟩
    have ha2 : SqL K H2 a (ns.map V.int) := sqL_ext ha k2
    walk_at "rd"
    refine forW (wk_range 0 _) (fun i σ H' => Kp H H' ∧ LamX.Tabs (tabs5 K) H' ∧ ∃ c d e f, σ = [some (.ref a), some (.ref l), c, d, e, f]) ⟨k2, t2, _, _, _, _, rfl⟩ (fun _ _ _ _ _ => trivial) ?_ (fun σ H' _ => ?_)
    · rintro i x σ H3 hx ⟨k3, t3, c, d, e, f, rfl⟩
      obtain ⟨rfl, hi⟩ := rng_at hx
      have hk : i < 8 := by omega
      have ha3 : SqL K H3 a (ns.map V.int) := sqL_ext ha k3
      walk_at "rd"
      refine ⟨ns, _, rfl, ha3, hl, by omega, by omega, fun H4 p s4 np hp => ?_⟩
      have t4 : LamX.Tabs (tabs5 K) H4 := t3.ext s4
      walk_at "rd"
      intro D nD
      have nDp : D ≠ p := PoolAt.ne_new hp nD
      refine lcW (wk_range 0 3) (fun j H' => KpB p H4 H' ∧ PoolAt H' p ∧ LamX.Tabs (tabs5 K) H' ∧ H' D = some (.lst (List.replicate j (.bl true)))) ⟨.of (by walk_at "g but"), by walk_at "g pool", t4.ext (by walk_at "g but"), upd_same⟩ (fun _ _ _ _ => trivial) ?_ ?_
      · rintro j y H5 hy ⟨k5, p5, t5, hD⟩
        have hj := (List.getElem?_eq_some_iff.mp hy).1
        rw [rngV_len] at hj
        walk_at "rd"
        intro H6 k6 p6 t6
        have hD6 := k6 _ _ nDp hD rfl
        refine ⟨_, hD6, by rw [List.length_replicate]; show j < 16777216; omega, ?_, ?_, tabs_own t6 hD6, by rw [upd_same, List.replicate_succ']⟩
        · intro c o nc e nt
          have ncD : c ≠ D := ne_of_none e nD
          rw [upd_ne ncD]
          exact kpb_trans k5 k6 c o nc e nt
        · obtain ⟨x1, x2, x3, e, r⟩ := p6
          exact ⟨x1, x2, x3, by rw [upd_ne (Ne.symm nDp)]; exact e, r⟩
      · rintro H5 ⟨k5, p5, t5, hD⟩
        rw [rngV_len] at hD
        refine ⟨D, List.replicate 3 true, rfl, SqL.of (by rw [hD]; rfl), ?_⟩
        walk_at "rd"
        refine ⟨fun c o e nt => ?_, t5, _, _, _, _, rfl⟩
        have e3 := k3 c o e nt
        exact k5 c o (ne_of_none e3 np) (s4 _ _ e3) nt
    · walk_at "rd"
      exact q _
end
/-- what the head tells is enough -/
theorem factsS {w : World} {K : PySem.W.Frag} {h : Heap} {mg : Str → Option Value} {f : Addr} (X : K.In h) (Gl : h.Ns mainGlobals mg) (own : mg ("law" : Str) = some (.ref f)) (c : SaysG fa fn gets exs K) (t : ∀ y ∈ tbs, TabK K h y) : LawF w mg f h K := by
  have T := tx_of X Gl c
  obtain ⟨fd, F⟩ := T.d_law
  obtain rfl : f = He.ga K "law" := Value.ref.inj (Option.some.inj (own.symm.trans T.n_law))
  have b := FunD.bindsA (ps := ["_law_script"]) F fun _ _ _ _ _ _ us hl => match us, hl with | [_], _ => rfl
  have m : ("_law_asked" : Str) ∈ tbs := by decide +kernel
  exact ⟨fd, spLaw K, fun s v => b s [v] rfl, fun H a ns hl tb hS => ⟨a, ns, rfl, hS, hl, tabs_nil fun p hp => by
    rw [List.mem_singleton.mp hp]
    exact tb _ m, fun _ => rfl⟩, fun base _ _ tb sm => ok_law T sm (tb _ m) (t _ m).fn F⟩
end G
theorem PySem.Challenge.cw_gatecrowds_k05_rows_bent_holds : PySem.Challenge.rw_gatecrowds_k05_rows_bent.Holds :=
  G.kread_of fun _ _ _ _ _ kin Gl own c t => G.factsS kin Gl own c t
