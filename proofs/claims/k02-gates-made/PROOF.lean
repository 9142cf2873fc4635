import PyProof.Rows.All
import Wide.All
import OpenK.AllK
import Wide.FinOn
import KE.KStateDown
import Lean
import HandS.Base
import HandS.Call
import HandS.List
import HandS.Comp
import HandS.Ends
import HandS.Dict
import HandS.Iter
import HandS.Text
import HandS.More
import HandS.Words
import HandS.WordsList
import HandS.WordsDict
import HandS.Exc
import HandS.WordsExc
import HandS.Defaults
import HandS.IsInst
import HandS.Property
import HandS.MakeKw
import HandS.MakeKwOnly
import HandS.Flow
import HandS.Style
import HandS.Head0
import HandS.Head1
import HandS.Head2
import HandS.HeadEnd
import HandS.HeadHook1
import HandS.HeadHook2
import HandS.HeadHook3
import HandS.HeadHook4
import KE.GoesEnum
import HandS.NoneIn
import HandS.TupAny
import PySem.Challenge.RW_gatecrowds_k02_gates_made
import HandS.Records
set_option Elab.async false
set_option linter.all false
set_option maxRecDepth 100000
set_option maxHeartbeats 4000000
/-! own rules, ahead of all laws -/
namespace G
open PySem PySem.Spec PyProof.Rows L2

/-! ### names of the module -/
theorem pe_gl {X : Cx} {x : Str} {pos : Pos} {v : V} (h : ∃ u, X.mg x = some u ∧ RelV v u) (hg : Gl X x := by rfl)
    (hd : (x == ("__debug__" : Str)) = false := by decide) : PE X (.Name x pos) (tC v) := by
  obtain ⟨u, hm, r⟩ := h
  exact pe_glob hg hm r hd

/-! ### promises that ask that no guard runs -/
structure FnG (P : Program) (w : World) (K : PySem.W.Frag) (mg : Str → Option Value) (base : Heap) (CX : CXT)
    (k : Nat) (f : Addr) (fd : FuncData) (ps : List Str) (sp : Sp) : Prop where
  len : ∀ vs H Q E, sp vs H Q E → vs.length = ps.length
  run : ∀ (A : Around) (outer : List Env) (s : Shared) (H : Hp) (args : Args) (us : List Value) (vs : List V)
    (Q : VK) (E : XK), Room k A → A.guards = some [] → Env0 P w K mg base A outer s H →
    BindsTo s fd args (ps.zip us) → Vals vs us → sp vs H Q E →
    codeAny (model P w) A (.call (.ref f) args) (CR CX outer P w H s Q E) s

section
variable {P : Program} {w : World} {K : PySem.W.Frag} {mg : Str → Option Value} {base : Heap}
variable {CX : CXT} {k : Nat} {f : Addr} {fd : FuncData} {ps : List Str} {sp : Sp}
theorem FnG.of (F : FnOk P w K mg base CX k f fd ps sp) : FnG P w K mg base CX k f fd ps sp :=
  ⟨F.len, fun A o s H args us vs Q E hr _ => F.run A o s H args us vs Q E hr⟩
theorem FnG.mono {j : Nat} (F : FnG P w K mg base CX j f fd ps sp) (h : j ≤ k) : FnG P w K mg base CX k f fd ps sp :=
  ⟨F.len, fun A o s H args us vs Q E hr => F.run A o s H args us vs Q E (hr.mono h)⟩

/-- a def by its body, the body's reading under the knowledge that no guard runs -/
theorem fng_of {name qual : Str} {params : Arguments} {body : List Stmt} {scope : Scope} {dV kV doc pm cdv ct oc : Value}
    {an od : Option Addr} {osl : Array (Option Value)} {N : List Str}
    (lk : K.lookup f = some ⟨oc, od, .func (PySem.W.fnOf name qual params body scope dV kV doc pm an cdv ct), osl⟩)
    (hcd : PySem.W.codeIn K cdv qual = true) (S : FnScope N ps scope)
    (len : ∀ vs H Q E, sp vs H Q E → vs.length = ps.length)
    (hbody : ∀ (A : Around) (outer : List Env) (s : Shared) (H : Hp) (vs : List V) (Q : VK) (E : XK),
      Room k (A.deeper (envOfC qual scope s.heap.objs.size f cdv)) → A.guards = some [] → sp vs H Q E →
      ∃ t, PSs (cxOf CX P w K mg base N qual scope f cdv A outer s H E) body t ∧
        t { nx := fun _ H' => Q .non H', rt := Q } (start N vs) H) :
    FnG P w K mg base CX (k + 1) f (PySem.W.fnOf name qual params body scope dV kV doc pm an cdv ct) ps sp := by
  refine ⟨len, ?_⟩
  intro A outer s H args us vs Q E hr hgd e0 hb r hsp
  have hl := len _ _ _ _ hsp
  have st := fun b o e => (e0.bs b o e).1
  have kin : K.In s.heap := e0.mod.kin.keeps st
  have hlim : s.heap.NoLimit := e0.mod.nolimit.keeps st
  have kinds : ∀ y ∈ ps.zip us, scope.names.lookup y.1 = some .local ∨
      (scope.names.lookup y.1 = some .cell ∧ ((cellsFrom (s.heap.objs.size + 1) scope.names []).lookup y.1).isSome = true) := by
    rintro ⟨n, v⟩ hy
    have hp := S.par n (List.of_mem_zip hy).1
    exact hp.imp id fun q => ⟨q, PySem.W.cellsFrom_some _ _ _ (.inl q)⟩
  refine codeAny_call_function hr.depth (kin _ _ lk) rfl S.co S.gen rfl
    (PySem.W.codeRec_of kin hcd) (hb _ _ _ _ ?_)
  refine wpAny_newFunctionEnv_cells S.kind kinds ?_
  rintro env rfl s1 x
  refine ⟨hlim.keeps x.toInCall.keep, codeAny_func ?_⟩
  obtain ⟨t, ht, hq⟩ := hbody A outer s H vs Q E (hr.deeper _) hgd hsp
  have I0 := inv_start (CX := CX) (E := E) S hr.hd e0 hl r x
  refine wpAny_mono (ht.run [] s1 (start N vs) H _ I0 hq) ?_ (fun e s' hs => hs)
  intro fl s' hs
  cases fl with
  | brk => exact (hs.choose_spec.choose_spec.2).elim
  | cont => exact (hs.choose_spec.choose_spec.2).elim
  | ret u =>
    obtain ⟨v, σ', H', J, rv, q⟩ := hs
    exact ⟨v, H', J.os, J.bare, J.base, J.hok, rv, q⟩
  | next =>
    obtain ⟨σ', H', J, q⟩ := hs
    exact ⟨V.non, H', J.os, J.bare, J.base, J.hok, rfl, q⟩
end

/-- the same of a def as the head tells it -/
theorem okG {P : Program} {w : World} {K : PySem.W.Frag} {mg : Str → Option Value} {base : Heap} {CX : CXT} {k : Nat} {f : Addr}
    {fd : FuncData} {x qual : Str} {params : Arguments} {body : List Stmt} {scope : Scope} {dvs : List V} {kws : List (Str × V)}
    {N ps : List Str} {sp : Sp} (F : FunD K x qual params body scope dvs kws f fd) (S : FnScope N ps scope)
    (len : ∀ vs H Q E, sp vs H Q E → vs.length = ps.length)
    (hbody : ∀ (cdv : Value) (A : Around) (outer : List Env) (s : Shared) (H : Hp) (vs : List V) (Q : VK) (E : XK),
      Room k (A.deeper (envOfC qual scope s.heap.objs.size f cdv)) → A.guards = some [] → sp vs H Q E →
      ∃ t, PSs (cxOf CX P w K mg base N qual scope f cdv A outer s H E) body t ∧
        t { nx := fun _ H' => Q .non H', rt := Q } (start N vs) H) : FnG P w K mg base CX (k + 1) f fd ps sp := by
  obtain ⟨oc, od, dV, kV, doc, pm, an, cdv, ct, osl, rfl, lk, hcd, _, _⟩ := F.ex
  exact fng_of lk hcd S len fun A outer s H vs Q E hr hg hsp => hbody cdv A outer s H vs Q E hr hg hsp

/-! ### a call by name: all that it wants in one -/
/-- the module's name x is a def that keeps sp; dvs fill up behind the written arguments -/
def Cal (P : Program) (w : World) (K : PySem.W.Frag) (mg : Str → Option Value) (base : Heap) (CX : CXT) (k : Nat) (x : Str)
    (dvs : List V) (sp : Sp) : Prop :=
  ∃ f fd ps ds, FnG P w K mg base CX k f fd ps sp ∧ mg x = some (.ref f) ∧ PySem.W.keepIn K (.ref f) = true ∧
    Binds K fd ps ds ∧ Vals dvs ds
theorem Cal.mono {P : Program} {w : World} {K : PySem.W.Frag} {mg : Str → Option Value} {base : Heap} {CX : CXT} {j k : Nat} {x : Str}
    {dvs : List V} {sp : Sp} (C : Cal P w K mg base CX j x dvs sp) (h : j ≤ k) : Cal P w K mg base CX k x dvs sp := by
  obtain ⟨f, fd, ps, ds, F, r⟩ := C
  exact ⟨f, fd, ps, ds, F.mono h, r⟩

/-- the same without a word of guards -/
def CalO (P : Program) (w : World) (K : PySem.W.Frag) (mg : Str → Option Value) (base : Heap) (CX : CXT) (k : Nat) (x : Str)
    (dvs : List V) (sp : Sp) : Prop :=
  ∃ f fd ps ds, FnOk P w K mg base CX k f fd ps sp ∧ mg x = some (.ref f) ∧ PySem.W.keepIn K (.ref f) = true ∧
    Binds K fd ps ds ∧ Vals dvs ds
theorem CalO.cal {P : Program} {w : World} {K : PySem.W.Frag} {mg : Str → Option Value} {base : Heap} {CX : CXT} {k : Nat} {x : Str}
    {dvs : List V} {sp : Sp} (C : CalO P w K mg base CX k x dvs sp) : Cal P w K mg base CX k x dvs sp := by
  obtain ⟨f, fd, ps, ds, F, r⟩ := C
  exact ⟨f, fd, ps, ds, .of F, r⟩
/-- a def without defaults, called with all its arguments -/
theorem CalO.mk {P : Program} {w : World} {K : PySem.W.Frag} {mg : Str → Option Value} {base : Heap} {CX : CXT} {k : Nat} {x qual : Str} {f : Addr} {fd : FuncData}
    {params : Arguments} {body : List Stmt} {scope : Scope} {ps : List Str} {sp : Sp} (F : FunD K x qual params body scope [] [] f fd)
    (ok : FnOk P w K mg base CX k f fd ps sp) (hm : mg x = some (.ref f))
    (h : ∀ (kV doc pm : Value) (an : Option Addr) (cdv ct : Value) (us : List Value), us.length = ps.length → bindArgs (PySem.W.fnOf x qual params body scope .none kV doc pm an cdv ct) ⟨us, []⟩ = pure (ps.zip us)) :
    CalO P w K mg base CX k x [] sp := ⟨f, fd, ps, [], ok, hm, F.kp, F.bindsN h, .nil⟩
theorem Cal.mk {P : Program} {w : World} {K : PySem.W.Frag} {mg : Str → Option Value} {base : Heap} {CX : CXT} {k : Nat} {x qual : Str} {f : Addr} {fd : FuncData}
    {params : Arguments} {body : List Stmt} {scope : Scope} {ps : List Str} {sp : Sp} (F : FunD K x qual params body scope [] [] f fd)
    (ok : FnG P w K mg base CX k f fd ps sp) (hm : mg x = some (.ref f))
    (h : ∀ (kV doc pm : Value) (an : Option Addr) (cdv ct : Value) (us : List Value), us.length = ps.length → bindArgs (PySem.W.fnOf x qual params body scope .none kV doc pm an cdv ct) ⟨us, []⟩ = pure (ps.zip us)) :
    Cal P w K mg base CX k x [] sp := ⟨f, fd, ps, [], ok, hm, F.kp, F.bindsN h, .nil⟩

section
variable {X : Cx} {CX : CXT} {k : Nat} {f : Addr} {fd : FuncData} {ps : List Str} {sp : Sp} {dvs : List V} {ds : List Value}
variable {E : XK} {x : Str} {p pos : Pos} {e : Expr} {es : List Expr} {t : TA}
theorem run_fng {pins : List (Addr × Obj)} {σ : L2.St} {H : Hp} {s : Shared} {Q : VK} {us : List Value} {vs : List V}
    (F : FnG X.prog X.w X.K X.mg X.base CX k f fd ps sp) (hr : Room k X.A) (hgd : X.A.guards = some [])
    (hb : Binds X.K fd ps ds) (hd : Vals dvs ds) (hx : Passes CX X E)
    (I : Inv X pins σ H s) (r : Vals vs us) (h : sp (vs ++ dvs) H Q E) :
    wpAny (model X.prog X.w) X.A (call (.ref f) us) (EP X pins σ Q) X.xe s := by
  have r2 := r.append hd
  have hl := (r2.length.symm.trans (F.len _ _ _ _ h))
  have go := F.run X.A X.stack s H ⟨us, []⟩ (us ++ ds) (vs ++ dvs) Q E hr hgd I.env0 (hb s us I.kIn hl) r2 h
  refine wpAny_call (codeAny_mono go ?_)
  intro r s' hq
  match r, hq with
  | .error e, hq => exact hx pins σ H s e s' I hq
  | .ok (.ret u), hq => exact I.after hq
  | .ok .next, hq => exact hq.elim
  | .ok .brk, hq => exact hq.elim
  | .ok .cont, hq => exact hq.elim
/-- f(e, ..) -/
theorem pe_cal (C : Cal X.prog X.w X.K X.mg X.base CX k x dvs sp) (hr : Room k X.A) (hgd : X.A.guards = some []) (hx : Passes CX X E)
    (ha : PA X (e :: es) t) (hg : Gl X x := by rfl) (hdb : (x == ("__debug__" : Str)) = false := by decide)
    (he : starEach (e :: es) X.env = (false, eval e X.env) :: starEach es X.env := by rfl)
    (hpl : (backTo pos (starEach es X.env)).any (·.1) = false := by rfl) :
    PE X (.Call (.Name x p) (e :: es) [] pos) (tCall sp dvs E t) := by
  obtain ⟨f, fd, ps, ds, F, hm, hk, hb, hd⟩ := C
  refine ⟨?_⟩
  intro pins s σ H Q I h
  refine wpAny_Call_Name_kw (ld_glob I hg hm ?_ hdb)
  refine PySem.W.callWith_K (h₀ := X.base) I.ok.mod.kin hk ?_ he hpl
  refine thn (ha.run pos pins s σ H _ I h) ?_
  rintro us s1 ⟨vs, H1, I1, r, q⟩
  exact ⟨I1.kIn, run_fng F hr hgd hb hd hx I1 r q⟩
theorem pe_calO (C : CalO X.prog X.w X.K X.mg X.base CX k x dvs sp) (hr : Room k X.A) (hx : Passes CX X E)
    (ha : PA X (e :: es) t) (hg : Gl X x := by rfl) (hdb : (x == ("__debug__" : Str)) = false := by decide)
    (he : starEach (e :: es) X.env = (false, eval e X.env) :: starEach es X.env := by rfl)
    (hpl : (backTo pos (starEach es X.env)).any (·.1) = false := by rfl) :
    PE X (.Call (.Name x p) (e :: es) [] pos) (tCall sp dvs E t) := by
  obtain ⟨f, fd, ps, ds, F, hm, hk, hb, hd⟩ := C
  exact pe_call F hr hg hm hk hb hd hx ha hdb he hpl
/-- f() -/
theorem pe_cal0 (C : Cal X.prog X.w X.K X.mg X.base CX k x dvs sp) (hr : Room k X.A) (hgd : X.A.guards = some []) (hx : Passes CX X E)
    (hg : Gl X x := by rfl) (hdb : (x == ("__debug__" : Str)) = false := by decide) :
    PE X (.Call (.Name x p) [] [] pos) (tCall sp dvs E tNil) := by
  obtain ⟨f, fd, ps, ds, F, hm, hk, hb, hd⟩ := C
  refine ⟨?_⟩
  intro pins s σ H Q I h
  refine wpAny_Call_Name_kw (ld_glob I hg hm ?_ hdb)
  exact PySem.W.callWith_K0 I.kIn hk (run_fng (us := []) F hr hgd hb hd hx I .nil h)
end

/-! ### repr of data -/
def rRepr (K : PySem.W.Frag) : List V → Hp → VK → Prop := fun xs H Q => ∃ (x : V) (d : PyData), xs = [x] ∧ Dp K H x d ∧
  d.showable = true ∧ d.hasDict = false ∧ d.depth ≤ 60 ∧ d.shown.length ≤ sizeLine ∧ Q (.str d.shown) H
theorem call_repr {X : Cx} (hgd : X.A.guards = some []) (hu : X.A.units + 64 < cLine) : CallR X (.builtin "repr") (rRepr X.K) := by
  intro pins s σ H xs us Q I r h
  obtain ⟨x, d, rfl, hd, hs, hn, hdp, hz, q⟩ := h
  obtain ⟨u, rfl, rx⟩ := vals1 r
  obtain ⟨as, rd⟩ := Dp.reads I d x u hd rx
  have hsm := PyData.noDict_hsm (as := as) hn
  cases rx' : x with
  | ref a =>
    subst rx'
    obtain rfl : u = Value.ref a := rx
    exact repr_of_reads' rd hs hsm hgd (by omega) (fun _ _ e => e)
      (fun h' t tk hk => ⟨.str d.shown, H, I.kept hk, ⟨_, rfl⟩, q⟩) hz
  | non => subst rx'; cases hd; cases rx; exact PySem.P.repr_of_none ⟨.str _, H, I.tok _, ⟨_, rfl⟩, q⟩
  | bl b => subst rx'; cases hd; cases rx; exact PySem.P.repr_of_bool ⟨.str _, H, I.tok _, ⟨_, rfl⟩, by simpa only [PyData.shown] using q⟩
  | int i =>
    subst rx'; cases hd; obtain ⟨t, rfl⟩ := rx
    exact PySem.P.repr_of_int (by simpa only [PyData.showable, decide_eq_true_eq] using hs) ⟨.str _, H, I.tok _, ⟨_, rfl⟩, by simpa only [PyData.shown] using q⟩
  | str z =>
    subst rx'; cases hd; obtain ⟨t, rfl⟩ := rx
    exact PySem.P.repr_of_str ⟨.str _, H, I.tok _, ⟨_, rfl⟩, by simpa only [PyData.shown] using q⟩ (by simpa only [PyData.shown] using hz)
  | byt b => subst rx'; cases hd
  | flt b => subst rx'; cases hd
  | ty n => subst rx'; cases hd
end G
/-! own rules, second part: instances compared, their truth, attributes as targets, constructors and properties in one -/
namespace G
open PySem PySem.Spec PyProof.Rows L2

/-! ### type of a value, for == -/
theorem type_of {X : Cx} {pins : List (Addr × Obj)} {σ : L2.St} {H : Hp} {s : Shared} {x : V} {u t : Value} {M : Model}
    (I : Inv X pins σ H s) (rx : RelV x u) (ty : TyOf X.K H x t) : PySem.W.Looks M s.heap (typeOf u) t := by
  cases ty with
  | non => cases rx; exact .of_pure rfl
  | bl y => cases rx; exact .of_pure rfl
  | int i => obtain ⟨t, rfl⟩ := rx; exact .of_pure rfl
  | str y => obtain ⟨t, rfl⟩ := rx; exact .of_pure rfl
  | flt y => obtain ⟨t, rfl⟩ := rx; exact .of_pure rfl
  | @lst a xs ea =>
    cases (show u = Value.ref a from rx)
    obtain ⟨_, _, n, _, h1⟩ := (show ObjOk X.prog X.w H s.heap a (.lst xs) from I.hok a _ ea)
    exact (PySem.W.Looks.ld h1).andThen .now
  | @frz a ob xs ea =>
    cases (show u = Value.ref a from rx)
    obtain ⟨_, _, _, n, _, h1⟩ := (show ObjOk X.prog X.w H s.heap a (.frz ob (.lst xs)) from I.hok a _ ea)
    exact (PySem.W.Looks.ld h1).andThen .now
  | @tup a xs ea =>
    cases (show u = Value.ref a from rx)
    obtain ⟨_, _, _, o, h1, h2, _⟩ := (show ObjOk X.prog X.w H s.heap a (.tup xs) from I.hok a _ ea)
    rw [← h2]; exact (PySem.W.Looks.ld h1).andThen .now
  | @dK a kvs ea =>
    cases (show u = Value.ref a from rx)
    obtain ⟨_, _, vs, _, o, es, ep, h1, h2, _⟩ := (show ObjOk X.prog X.w H s.heap a (.dK kvs) from I.hok a _ ea)
    rw [← h2.1]; exact (PySem.W.Looks.ld h1).andThen .now
  | @dT a kvs ea =>
    cases (show u = Value.ref a from rx)
    obtain ⟨_, _, xs, _, o, es, ep, h1, h2, _⟩ := (show ObjOk X.prog X.w H s.heap a (.dT kvs) from I.hok a _ ea)
    rw [← h2.1]; exact (PySem.W.Looks.ld h1).andThen .now
  | @ins a C dx fs ea cl ha hn htk hm =>
    cases (show u = Value.ref a from rx)
    obtain ⟨mA, O, _⟩ := ins_get I.hok ea
    obtain ⟨od, J, _⟩ := O.look
    exact J.type

/-! ### == and != of an instance of a class with its own __eq__ -/
/-- what the class at C wants of its comparison -/
structure EqC (K : PySem.W.Frag) (C f : Addr) : Prop where
  eq : PySem.W.findIn K (.ref C) "__eq__" = some (some (.ref f))
  fn : PySem.W.isFn K (.ref f) = true
  ne : PySem.W.findIn K (.ref C) "__ne__" = some (some (.builtin "object.__ne__"))
  ob : PySem.W.mroIn K C (.type "object") = some true
def rOwnEq (K : PySem.W.Frag) (C : Addr) (sp : Sp) (E : XK) (g : Bool → Bool) : R2 := fun x y H Q => ∃ (a dx : Addr) (fs : List (Str × V)) (t : Value),
  x = .ref a ∧ H a = some (.ins C dx fs) ∧ TyOf K H y t ∧ PySem.W.notFirst K C t = true ∧
  sp [x, y] H (fun v H' => ∃ b, v = .bl b ∧ Q (.bl (g b)) H') E
section
variable {X : Cx} {CX : CXT} {k : Nat} {C f : Addr} {fd : FuncData} {ps : List Str} {sp : Sp} {E : XK}
theorem eq_call {pins : List (Addr × Obj)} {σ : L2.St} {H : Hp} {s : Shared} {A : Around} {x y : V} {v u : Value} {Q : VK} (I : Inv X pins σ H s)
    (Fn : FnOk X.prog X.w X.K X.mg X.base CX k f fd ps sp) (hr : Room k A) (hA : A.frames = some X.stack) (hb : Binds X.K fd ps [])
    (hx : Passes CX X.nox E) (rx : RelV x v) (ry : RelV y u) (h : sp [x, y] H Q E) {E' : Value → Shared → Prop} :
    wpAny (model X.prog X.w) A (call (.ref f) [v, u]) (EP X pins σ Q) E' s := by
  have hl : [v, u].length = ps.length := Fn.len _ _ _ _ h
  have e0 := I.env0
  have e1 : Env0 X.prog X.w X.K X.mg X.base A X.stack s H := ⟨hA, e0.mod, e0.bs, e0.bsz, e0.funs, e0.frf, e0.hok, e0.bare⟩
  have bt := hb s [v, u] I.kIn (by simpa using hl)
  refine wpAny_call (codeAny_mono (Fn.run A X.stack s H ⟨[v, u], []⟩ [v, u] [x, y] Q E hr e1 (by simpa using bt) (.cons rx (.cons ry .nil)) h) ?_)
  intro r s' hq
  match r, hq with
  | .error e, hq => exact (hx pins σ H s e s' (I.wish _) hq).elim
  | .ok (.ret u), hq => exact I.after hq
  | .ok .next, hq => exact hq.elim
  | .ok .brk, hq => exact hq.elim
  | .ok .cont, hq => exact hq.elim
theorem op_eqO (e : EqC X.K C f) (Fn : FnOk X.prog X.w X.K X.mg X.base CX k f fd ps sp) (hr : Room k X.A) (hb : Binds X.K fd ps [])
    (hx : Passes CX X.nox E) : OpR X (compareOp .Eq) (rOwnEq X.K C sp E fun b => b) := by
  intro pins s σ H x y v u Q I rx ry h
  obtain ⟨a, dx, fs, t, rfl, ha, ty, hn, hs⟩ := h
  obtain rfl : v = Value.ref a := rx
  obtain ⟨mA, J, _⟩ := ins_get I.hok ha
  obtain ⟨od, J, _⟩ := J.look
  obtain ⟨m, hF⟩ := I.fr
  show wpAny (model X.prog X.w) X.A (richCompare .Eq (.ref a) u) (EP X pins σ Q) X.xe s
  refine PySem.W.cmp_K (op := .Eq) (tb := t) hr.units0 hF I.ok.mod.kin J (type_of I ry ty) hn e.eq e.fn ?_
  refine wpAny_mono (eq_call (x := V.ref a) (E' := X.xe) I Fn hr I.ok.frames hb hx rfl ry hs) ?_ fun _ _ z => z
  rintro r s' ⟨z, H', I', rz, b, rfl, q⟩
  cases rz
  exact ⟨.bl b, H', I', rfl, q⟩
theorem op_neO (e : EqC X.K C f) (Fn : FnOk X.prog X.w X.K X.mg X.base CX k f fd ps sp) (hr : Room (k + 1) X.A) (hb : Binds X.K fd ps [])
    (hx : Passes CX X.nox E) : OpR X (compareOp .NotEq) (rOwnEq X.K C sp E fun b => !b) := by
  intro pins s σ H x y v u Q I rx ry h
  obtain ⟨a, dx, fs, t, rfl, ha, ty, hn, hs⟩ := h
  obtain rfl : v = Value.ref a := rx
  obtain ⟨mA, J, _⟩ := ins_get I.hok ha
  obtain ⟨od, J, _⟩ := J.look
  have kin := I.kIn
  have un := hr.units
  have one : wpAny (model X.prog X.w) X.A (tryCompare (.ref a) "__ne__" u) (fun r s' => ∃ v, r = some v ∧ EP X pins σ Q v s') X.xe s := by
    have inner : wpAny (model X.prog X.w) X.A.in1 (call (.ref f) [.ref a, u]) (EP X pins σ fun v H' => ∃ b, v = .bl b ∧ Q (.bl (!b)) H') X.xe s :=
      eq_call (x := V.ref a) I Fn hr.in1 (by simpa using I.ok.frames) hb hx rfl ry hs
    have slot : wpAny (model X.prog X.w) X.A (call (.builtin "object.__ne__") [.ref a, u]) (fun v s' => EP X pins σ Q v s' ∧ ∃ b, v = .bool b) X.xe s := by
      refine wpAny_call (codeAny_call_builtin (by decide +kernel) PySem.F.cmpEntry_ne (PySem.W.check_slot PySem.F.cmpKind_ne PySem.F.cmpSplit_ne
        (J.type.andThen (PySem.W.looks_mroIn kin e.ob)) (PySem.F.cmpArgs_ne _ _) ?_))
      unfold Builtin.«object.__ne__»
      refine wpAny_bind (m := slotArgs "__ne__" 1 _) (wpAny_pure ?_)
      refine wpAny_bind (m := cRoomFor _ _) (wpAny_cRoomFor (by show X.A.units + 1 < cLine; omega) ?_)
      refine wpAny_bind (m := callSpecialIfBound? (.ref a) (Str.ofString "__eq__") _) (PySem.W.ifBound_K kin J e.eq e.fn (wpAny_mono inner ?_ fun _ _ z => z))
      rintro r s' ⟨z, H', I', rz, b, rfl, q⟩
      cases rz
      exact wpAny_bind (wpAny_truthy_bool (wpAny_pure ⟨⟨.bl (!b), H', I', rfl, q⟩, _, rfl⟩))
    have bound : wpAny (model X.prog X.w) X.A (callSpecialIfBound? (.ref a) "__ne__" [u]) (fun r s' => ∃ v, r = some v ∧ EP X pins σ Q v s' ∧ ∃ b, v = .bool b) X.xe s := by
      simp only [callSpecialIfBound?, bindSpecialIfBound?]
      refine wpAny_holding (wpAny_bind (wpAny_bind (wpAny_bind (J.type.here ((PySem.W.looks_findIn kin e.ne).here ?_)))))
      have fin : wpAny (model X.prog X.w) X.A (call (.builtin "object.__ne__") ([.ref a] ++ [u]) >>= fun v => pure (some v)) (fun r s' => ∃ v, r = some v ∧ EP X pins σ Q v s' ∧ ∃ b, v = .bool b) X.xe s :=
        wpAny_bind (wpAny_mono slot (fun v s' q => wpAny_pure ⟨v, rfl, q⟩) fun _ _ z => z)
      refine wpAny_bind (wpAny_askSetting (wpAny_ite ?_))
      have bd : bindSpecial (.builtin "object.__ne__") (.ref a) = pure (.builtin "object.__ne__", [.ref a]) := PySem.F.slot_object_ne.bind _
      split
      · exact wpAny_bind ((PySem.W.Looks.of_pure bd).here (wpAny_pure (by exact fin)))
      · exact wpAny_tryCatch (wpAny_bind ((PySem.W.Looks.of_pure bd).here (wpAny_pure (by exact fin))))
    unfold tryCompare
    refine wpAny_bind (wpAny_mono bound ?_ fun _ _ z => z)
    rintro r s' ⟨v, rfl, q, b, rfl⟩
    exact wpAny_pure ⟨_, rfl, q⟩
  show wpAny (model X.prog X.w) X.A (richCompare .NotEq (.ref a) u) (EP X pins σ Q) X.xe s
  unfold richCompare
  simp only [oneThing_ref]
  refine wpAny_holding (wpAny_bind (wpAny_cRoomFor (by omega) ?_))
  refine wpAny_bind (J.type.here (wpAny_bind ((type_of I ry ty).here ?_)))
  split
  · rename_i hne
    have sub : PySem.W.subIn X.K t (.ref C) = some false := by
      rcases Bool.or_eq_true_iff.mp hn with z | z
      · rw [beq_iff_eq.mp z] at hne; simp at hne
      · exact beq_iff_eq.mp z
    refine wpAny_bind ((PySem.W.looks_subIn kin sub).here ?_)
    simp only [Bool.false_eq_true, if_false]
    refine wpAny_bind (wpAny_mono one ?_ fun _ _ z => z)
    rintro r s' ⟨v, rfl, q⟩
    exact wpAny_pure q
  · refine wpAny_bind (wpAny_pure ?_)
    simp only [Bool.false_eq_true, if_false]
    refine wpAny_bind (wpAny_mono one ?_ fun _ _ z => z)
    rintro r s' ⟨v, rfl, q⟩
    exact wpAny_pure q
end

/-! ### truth and length of an instance -/
section
variable {X : Cx} {CX : CXT} {k : Nat} {C f : Addr} {fd : FuncData} {ps : List Str} {sp : Sp} {E : XK}
/-- neither __bool__ nor __len__: true -/
theorem tru_inst (h1 : PySem.W.findIn X.K (.ref C) "__bool__" = some none) (h2 : PySem.W.findIn X.K (.ref C) "__len__" = some none) :
    TruR X (fun x H Q => ∃ (a dx : Addr) (fs : List (Str × V)), x = .ref a ∧ H a = some (.ins C dx fs) ∧ Q true H) := by
  intro pins s σ H x v Q I rx h
  obtain ⟨a, dx, fs, rfl, ha, q⟩ := h
  obtain rfl : v = Value.ref a := rx
  obtain ⟨mA, J, _⟩ := ins_get I.hok ha
  obtain ⟨od, J, _⟩ := J.look
  obtain ⟨m, hF⟩ := I.fr
  exact PySem.W.truthy_K0 hF I.ok.mod.kin J h1 h2 ⟨H, I, q⟩
/-- len(o) by the class's own __len__ -/
theorem call_len_inst (h1 : PySem.W.findIn X.K (.ref C) "__len__" = some (some (.ref f))) (h2 : PySem.W.isFn X.K (.ref f) = true)
    (Fn : FnOk X.prog X.w X.K X.mg X.base CX k f fd ps sp) (hr : Room (k + 1) X.A) (hb : Binds X.K fd ps []) (hx : Passes CX X E) :
    CallR X (.builtin "len") (fun xs H Q => ∃ (a dx : Addr) (fs : List (Str × V)), xs = [.ref a] ∧ H a = some (.ins C dx fs) ∧
      sp [.ref a] H (fun v H' => ∃ n : Int, v = .int n ∧ 0 ≤ n ∧ n < 2 ^ 63 ∧ Q (.int n) H') E) := by
  intro pins s σ H xs us Q I r h
  obtain ⟨a, dx, fs, rfl, ha, hs⟩ := h
  obtain ⟨u, rfl, r1⟩ := vals1 r
  obtain rfl : u = Value.ref a := r1
  obtain ⟨mA, J, _⟩ := ins_get I.hok ha
  obtain ⟨od, J, _⟩ := J.look
  obtain ⟨m, hF⟩ := I.fr
  have hl : [Value.ref a].length = ps.length := Fn.len _ _ _ _ hs
  have e1 : Env0 X.prog X.w X.K X.mg X.base X.A.in1 X.stack s H := I.env0.in1
  have bt := hb s [Value.ref a] I.kIn (by simpa using hl)
  refine PySem.W.len_K hF I.ok.mod.kin J h1 h2 (wpAny_call (codeAny_mono (Fn.run X.A.in1 X.stack s H ⟨[.ref a], []⟩ [.ref a] [.ref a] _ E hr.in1 e1 (by simpa using bt) (.cons rfl .nil) hs) ?_))
  intro r s' hq
  match r, hq with
  | .error e, hq => exact (hx pins σ H s e s' I hq)
  | .ok (.ret w), hq =>
    obtain ⟨v, H', I', rv, n, rfl, n0, n1, q⟩ := I.after hq
    obtain ⟨t, rfl⟩ := rv
    exact ⟨⟨n0, n1⟩, .int n, H', I'.tok _, ⟨_, rfl⟩, q⟩
  | .ok .next, hq => exact hq.elim
  | .ok .brk, hq => exact hq.elim
  | .ok .cont, hq => exact hq.elim
end

/-! ### an attribute as a target -/
def gAttr (K : PySem.W.Frag) (to : TE) (f : Str) : TG := fun v σ H Q => to σ H fun x H1 => ∃ (a C dx : Addr) (fs : List (Str × V)),
  x = .ref a ∧ H1 a = some (.ins C dx fs) ∧ Cls K C ∧ NoAttr K C f ∧ fs.length < 1000 ∧ Q σ (upd H1 a (.ins C dx (putF f v fs)))
theorem pg_attr {X : Cx} {o : Expr} {f : Str} {pos : Pos} {to : TE} (ho : PE X o to)
    (ha : ∀ v, assign (.Attribute o f pos) X.env v = (do
      let ov ← holding [v] (eval o X.env)
      standAt pos.atName
      holding [v, ov] (setAttr ov f v)
      release [v, ov] []) := by intro _; rfl) : PG X (.Attribute o f pos) (gAttr X.K to f) := by
  refine ⟨?_⟩
  intro pins s σ H v u Q I r h
  rw [ha]
  refine wpAny_bind (wpAny_holding (thn (ho.run pins s σ H _ I h) ?_))
  rintro ov s1 ⟨x, H1, I1, rx, a, C, dx, fs, ex, ea, c, n, l, q⟩
  subst ex
  obtain rfl : ov = Value.ref a := rx
  refine wpAny_bind (wpAny_standAt (wpAny_bind (wpAny_holding (setattr_ok I1 ea c n l r ?_))))
  intro s3 I3
  exact wpAny_release ⟨σ, _, I3, q⟩

/-! ### a constructor, a property, a method: all that it wants in one -/
/-- the module's name x is the class at C; its __init__ keeps sp; dvs fill up behind the written arguments -/
def CalC (P : Program) (w : World) (K : PySem.W.Frag) (mg : Str → Option Value) (base : Heap) (CX : CXT) (k : Nat) (x : Str) (C : Addr)
    (dvs : List V) (sp : Sp) : Prop :=
  ∃ f fd ps ds, Mk K C f ∧ FnOk P w K mg base CX k f fd ps sp ∧ mg x = some (.ref C) ∧ Binds K fd ps ds ∧ Vals dvs ds
/-- .. with n written arguments and the keywords ks: gV says how they go to the parameters -/
def CalN (P : Program) (w : World) (K : PySem.W.Frag) (mg : Str → Option Value) (base : Heap) (CX : CXT) (k : Nat) (x : Str) (C : Addr)
    (n : Nat) (ks : List Str) (gV : List V → List V → List V) (sp : Sp) : Prop :=
  ∃ f fd ps g, Mk K C f ∧ FnOk P w K mg base CX k f fd ps sp ∧ mg x = some (.ref C) ∧ KBn K fd ps (n + 1) ks g gV
/-- a property of the class at C that hands back the attribute fld -/
def GetP (P : Program) (w : World) (K : PySem.W.Frag) (mg : Str → Option Value) (base : Heap) (k : Nat) (C : Addr) (f fld : Str) : Prop :=
  ∃ p g fd ps, Cls K C ∧ PropOf K C f p g ∧ FnOk P w K mg base CX0 k g fd ps (getSp C fld) ∧ Binds K fd ps []
def tGet (C : Addr) (fld : Str) (ta : TE) : TE := fun σ H Q => ta σ H fun x H1 => ∃ (a dx : Addr) (fs : List (Str × V)) (v : V),
  x = .ref a ∧ H1 a = some (.ins C dx fs) ∧ fs.lookup fld = some v ∧ Q v H1
section
variable {X : Cx} {CX : CXT} {k n : Nat} {C : Addr} {sp : Sp} {dvs : List V} {ks : List Str} {gV : List V → List V → List V}
variable {E : XK} {x f fld : Str} {p pos : Pos} {e : Expr} {es : List Expr} {kws : List Keyword} {ta : TE} {t tk : TA}
theorem pe_mkc (c : CalC X.prog X.w X.K X.mg X.base CX k x C dvs sp) (hr : Room (k + 1) X.A) (hx : Passes CX X E)
    (ha : PA X (e :: es) t) (hg : Gl X x := by rfl) (hdb : (x == ("__debug__" : Str)) = false := by decide)
    (he : starEach (e :: es) X.env = (false, eval e X.env) :: starEach es X.env := by rfl)
    (hpl : (backTo pos (starEach es X.env)).any (·.1) = false := by rfl) :
    PE X (.Call (.Name x p) (e :: es) [] pos) (tMake C sp dvs E t) := by
  obtain ⟨f, fd, ps, ds, M, Fn, hm, hb, hd⟩ := c
  exact pe_make M Fn hr hg hm hb hd hx ha hdb he hpl
theorem pe_mkn (c : CalN X.prog X.w X.K X.mg X.base CX k x C n ks gV sp) (hr : Room (k + 1) X.A) (hx : Passes CX X E)
    (ha : PA X (e :: es) t) (hkw : PK X kws tk) (hg : Gl X x := by rfl) (hall : (backToKw pos (keywordEach kws X.env)).all (·.1.isSome) = true := by rfl)
    (hks : (backToKw pos (keywordEach kws X.env)).filterMap (·.1) = ks := by rfl) (hdb : (x == ("__debug__" : Str)) = false := by decide)
    (he : starEach (e :: es) X.env = (false, eval e X.env) :: starEach es X.env := by rfl)
    (hpl : ((backTo pos (starEach (e :: es) X.env)).any (·.1) || (backToKw pos (keywordEach kws X.env)).any (·.1.isNone)) = false := by rfl) :
    PE X (.Call (.Name x p) (e :: es) kws pos) (tMakeK C n ks.length sp gV E t tk) := by
  obtain ⟨f, fd, ps, g, M, Fn, hm, hb⟩ := c
  exact pe_makeK M Fn hr hg hm hb hx ha hkw hall hks hdb he hpl
theorem pe_mkn0 (c : CalN X.prog X.w X.K X.mg X.base CX k x C 0 ks gV sp) (hr : Room (k + 1) X.A) (hx : Passes CX X E)
    (hkw : PK X kws tk) (hg : Gl X x := by rfl) (hall : (backToKw pos (keywordEach kws X.env)).all (·.1.isSome) = true := by rfl)
    (hks : (backToKw pos (keywordEach kws X.env)).filterMap (·.1) = ks := by rfl) (hdb : (x == ("__debug__" : Str)) = false := by decide)
    (hpl : ((backTo pos (starEach [] X.env)).any (·.1) || (backToKw pos (keywordEach kws X.env)).any (·.1.isNone)) = false := by rfl) :
    PE X (.Call (.Name x p) [] kws pos) (tMakeK C 0 ks.length sp gV E tNil tk) := by
  obtain ⟨f, fd, ps, g, M, Fn, hm, hb⟩ := c
  exact pe_makeK0 M Fn hr hg hm hb hx hkw hall hks hdb hpl
theorem pe_get (c : GetP X.prog X.w X.K X.mg X.base k C f fld) (hr : Room (k + 1) X.A) (ha : PE X e ta)
    (hab : attributeBase e f X.env (eval e X.env) = eval e X.env := by rfl) : PE X (.Attribute e f pos) (tGet C fld ta) := by
  obtain ⟨p, g, fd, ps, cl, hp, Fn, hb⟩ := c
  refine ⟨?_⟩
  intro pins s σ H Q I h
  refine attr_of hab (thn (ha.run pins s σ H _ I h) ?_)
  rintro u s1 ⟨x, H1, I1, rx, a, dx, fs, v, rfl, ea, el, q⟩
  obtain rfl : u = Value.ref a := rx
  exact getprop_ok (E := E0) I1 ea cl hp Fn hr hb .nil pass0 ⟨a, dx, fs, v, rfl, ea, el, q⟩
end
end G
/-! own rules, third part: heaps behind a pool, loops over anything that stands still, small tactics -/
namespace G
open PySem PySem.Spec PyProof.Rows L2

/-! ### heaps -/
/-- all but what stands at p is as it was -/
def But (p : Addr) (H H' : Hp) : Prop := ∀ q o, q ≠ p → H q = some o → H' q = some o
theorem But.refl (p : Addr) (H : Hp) : But p H H := fun _ _ _ e => e
theorem But.trans {p : Addr} {H H1 H2 : Hp} (a : But p H H1) (b : But p H1 H2) : But p H H2 := fun q o n e => b q o n (a q o n e)
theorem But.of {p : Addr} {H H' : Hp} (a : Same H H') : But p H H' := fun q o _ e => a q o e
theorem But.new {p : Addr} {H H1 : Hp} {q : Addr} {o : HO} (a : But p H H1) (n : H1 q = none) : But p H (upd H1 q o) := fun b u nb e => by
  rw [upd_ne (ne_of_none (a b u nb e) n)]
  exact a b u nb e
theorem But.at {p : Addr} {H H1 : Hp} {o : HO} (a : But p H H1) : But p H (upd H1 p o) := fun b u nb e => by
  rw [upd_ne nb]
  exact a b u nb e
theorem _root_.L2.Same.new {H H1 : Hp} {q : Addr} {o : HO} (a : Same H H1) (n : H1 q = none) : Same H (upd H1 q o) := fun b u e => by
  rw [upd_ne (ne_of_none (a b u e) n)]
  exact a b u e
/-- another object, written: it was new ahead -/
theorem But.own {p : Addr} {H H1 : Hp} {q : Addr} {o : HO} (a : But p H H1) (n : H q = none) : But p H (upd H1 q o) := fun b u nb e => by
  rw [upd_ne (ne_of_none e n)]
  exact a b u nb e
theorem _root_.L2.Same.own {H H1 : Hp} {q : Addr} {o : HO} (a : Same H H1) (n : H q = none) : Same H (upd H1 q o) := fun b u e => by
  rw [upd_ne (ne_of_none e n)]
  exact a b u e
/-- the pool: three whole numbers, none below nought, two of them small -/
def PoolAt (H : Hp) (p : Addr) : Prop := ∃ a b d : Int, H p = some (.lst [.int a, .int b, .int d]) ∧ 0 ≤ a ∧ a < 4294967296 ∧ 0 ≤ b ∧ b < 4294967296 ∧ 0 ≤ d
/-- a pool was drawn from, new things stand -/
structure Pl (p : Addr) (H H' : Hp) : Prop where
  but : But p H H'
  pool : PoolAt H' p
theorem Pl.refl {p : Addr} {H : Hp} (h : PoolAt H p) : Pl p H H := ⟨.refl _ _, h⟩
theorem Pl.trans {p : Addr} {H H1 H2 : Hp} (a : Pl p H H1) (b : Pl p H1 H2) : Pl p H H2 := ⟨a.but.trans b.but, b.pool⟩
theorem PoolAt.new {H : Hp} {p q : Addr} {o : HO} (h : PoolAt H p) (n : H q = none) : PoolAt (upd H q o) p := by
  obtain ⟨a, b, d, e, r⟩ := h
  exact ⟨a, b, d, by rw [upd_ne (ne_of_none e n)]; exact e, r⟩
theorem PoolAt.ne {H : Hp} {p q : Addr} {o : HO} (h : PoolAt H p) (nq : q ≠ p) : PoolAt (upd H q o) p := by
  obtain ⟨a, b, d, e, r⟩ := h
  exact ⟨a, b, d, by rw [upd_ne nq.symm]; exact e, r⟩
theorem Pl.new {p : Addr} {H H1 : Hp} {q : Addr} {o : HO} (a : Pl p H H1) (n : H1 q = none) : Pl p H (upd H1 q o) := ⟨a.but.new n, a.pool.new n⟩
theorem Pl.own {p : Addr} {H H1 : Hp} {q : Addr} {o : HO} (a : Pl p H H1) (n : H q = none) (nq : q ≠ p) : Pl p H (upd H1 q o) := ⟨a.but.own n, a.pool.ne nq⟩
theorem Pl.same {p : Addr} {H H1 H2 : Hp} (a : Pl p H H1) (s : Same H1 H2) : Pl p H H2 := ⟨a.but.trans (.of s), by
  obtain ⟨x, b, d, e, r⟩ := a.pool
  exact ⟨x, b, d, s _ _ e, r⟩⟩
theorem PoolAt.same {p : Addr} {H1 H2 : Hp} (h : PoolAt H1 p) (s : Same H1 H2) : PoolAt H2 p := by
  obtain ⟨x, b, d, e, r⟩ := h
  exact ⟨x, b, d, s _ _ e, r⟩
theorem Pl.get {p q : Addr} {H H1 : Hp} {o : HO} (a : Pl p H H1) (e : H q = some o) (n : q ≠ p) : H1 q = some o := a.but q o n e
/-- what is no list is not the pool -/
def noL : HO → Bool
  | .lst _ => false
  | _ => true
theorem Pl.obj {p q : Addr} {H H1 : Hp} {o : HO} (a : Pl p H H1) (h : PoolAt H p) (e : H q = some o) (n : noL o = true) : H1 q = some o := by
  obtain ⟨x, b, d, e', _⟩ := h
  exact a.get e (ne_of e e' (by rintro rfl; cases n))
theorem Pl.free {p q : Addr} {H H1 : Hp} (a : Pl p H H1) (n : H1 q = none) : H q = none := by
  cases e : H q with
  | none => rfl
  | some o =>
    by_cases hq : q = p
    · obtain ⟨x, b, d, e', _⟩ := a.pool
      rw [hq, e'] at n
      cases n
    · rw [a.get e hq] at n
      cases n
theorem PoolAt.ne_new {H : Hp} {p q : Addr} (h : PoolAt H p) (n : H q = none) : q ≠ p := by
  obtain ⟨x, b, d, e, _⟩ := h
  exact (ne_of_none e n).symm
theorem upd_get {H : Hp} {q g : Addr} {o u : HO} (n : H q = none) (e : H g = some u) : upd H q o g = some u := by
  rw [upd_ne (ne_of_none e n)]
  exact e
theorem _root_.L2.SqL.same {K : PySem.W.Frag} {H H' : Hp} {a : Addr} {xs : List V} (h : SqL K H a xs) (s : Same H H') : SqL K H' a xs := s.seq h
theorem _root_.L2.SqT.same {K : PySem.W.Frag} {H H' : Hp} {a : Addr} {xs : List V} (h : SqT K H a xs) (s : Same H H') : SqT K H' a xs := by
  rcases h with (h | ⟨o, h⟩) | h
  · exact .inl (.inl (s _ _ h))
  · exact .inl (.inr ⟨o, s _ _ h⟩)
  · exact .inr h
theorem _root_.L2.SqT.pl {K : PySem.W.Frag} {p : Addr} {H H' : Hp} {a : Addr} {xs : List V} (h : SqT K H a xs) (r : Pl p H H') (hp : PoolAt H p) : SqT K H' a xs := by
  rcases h with (h | ⟨o, h⟩) | h
  · exact .inl (.inl (r.obj hp h rfl))
  · exact .inl (.inr ⟨o, r.obj hp h rfl⟩)
  · exact .inr h

theorem upd_free {H : Hp} {q p : Addr} {o : HO} (h : upd H q o p = none) : H p = none := by
  by_cases e : p = q
  · rw [e, upd_same] at h; cases h
  · rw [upd_ne e] at h; exact h
theorem upd_free_ne {H : Hp} {q p : Addr} {o : HO} (h : upd H q o p = none) : p ≠ q := fun e => by
  rw [e, upd_same] at h; cases h
theorem same_get {H H1 : Hp} {g : Addr} {u : HO} (s : Same H H1) (e : H g = some u) : H1 g = some u := s _ _ e
/-! ### what is walked and stands still -/
/-- the walk J yields the items xs one by one while Sd holds of the heap -/
structure Wk (J : It) (xs : List V) (Sd : Hp → Prop) : Prop where
  go : ∀ i H, Sd H → i < xs.length → J.go i H
  stop : ∀ i H, Sd H → xs.length ≤ i → J.stop i H
  yld : ∀ i H v H', Sd H → i < xs.length → J.yld i H v H' → H' = H ∧ xs[i]? = some v
theorem wk_list {K : PySem.W.Frag} {a : Addr} (xs : List V) : Wk (Itl K a) xs (fun H => SqL K H a xs) :=
  ⟨fun i H h l => ⟨xs, xs[i], h, by simp [l]⟩, fun i H h l => ⟨xs, h, l⟩, fun i H v H' h _ y => ⟨y.1, y.2 xs h⟩⟩
theorem wk_tup {K : PySem.W.Frag} {a : Addr} (xs : List V) : Wk (Itt K a) xs (fun H => SqT K H a xs) :=
  ⟨fun i H h l => ⟨xs, xs[i], h, by simp [l]⟩, fun i H h l => ⟨xs, h, l⟩, fun i H v H' h _ y => ⟨y.1, y.2 xs h⟩⟩
def signs (x : Str) : List V := x.cps.toList.map fun c => V.str ⟨#[c]⟩
theorem signs_len (x : Str) : (signs x).length = x.cps.size := by simp [signs]
theorem wk_str (x : Str) : Wk (Its x) (signs x) (fun _ => True) :=
  ⟨fun i H _ l => by rw [signs_len] at l; exact l, fun i H _ l => by rw [signs_len] at l; exact l, fun i H v H' _ _ y => by
    obtain ⟨e, c, h, rfl⟩ := y
    refine ⟨e, ?_⟩
    simp only [signs, List.getElem?_map, Array.getElem?_toList, h, Option.map_some]⟩
def rngV (lo : Int) (n : Nat) : List V := (List.range n).map fun (i : Nat) => V.int (lo + (i : Int))
theorem rngV_len (lo : Int) (n : Nat) : (rngV lo n).length = n := by simp [rngV]
theorem wk_range (lo : Int) (n : Nat) : Wk (Itr lo n) (rngV lo n) (fun _ => True) :=
  ⟨fun i H _ l => by rw [rngV_len] at l; exact l, fun i H _ l => by rw [rngV_len] at l; exact l, fun i H v H' _ l y => by
    obtain ⟨e, rfl⟩ := y
    rw [rngV_len] at l
    refine ⟨e, ?_⟩
    simp [rngV, l]⟩

/-- a list comprehension over what stands still -/
theorem lcW {J : It} {xs : List V} {Sd : Hp → Prop} (wk : Wk J xs Sd) {g : TG} {tt : TT} {te : TE} {vs : List Nat} {σ : L2.St} {H1 : Hp} {D : Addr} {Qd : Hp → Prop}
    (Pv : Nat → Hp → Prop) (h0 : Pv 0 (upd H1 D (.lst []))) (hst : ∀ i H, i ≤ xs.length → Pv i H → Sd H)
    (hs : ∀ i x H, xs[i]? = some x → Pv i H → g x (wipe σ vs) H fun σ2 H2 => wipe σ2 vs = wipe σ vs ∧ tt σ2 H2 fun b H3 =>
      if b = true then te σ2 H3 fun y H4 => ∃ acc, H4 D = some (.lst acc) ∧ acc.length < sizeLine ∧ Pv (i + 1) (upd H4 D (.lst (acc ++ [y]))) else Pv (i + 1) H3)
    (hd : ∀ H, Pv xs.length H → Qd H) :
    ∃ W : Nat → Nat → Hp → Prop, (∃ m, W 0 m (upd H1 D (.lst []))) ∧ ∀ i m H, W i m H →
      (J.stop i H ∧ Qd H) ∨ (J.go i H ∧ ∃ Nx : Hp → Prop, (∀ H', Nx H' → ∃ m', m' < m ∧ W (i + 1) m' H') ∧ ∀ x H', J.yld i H x H' →
        g x (wipe σ vs) H' fun σ2 H2 => wipe σ2 vs = wipe σ vs ∧ tt σ2 H2 fun b H3 =>
        if b = true then te σ2 H3 fun y H4 => ∃ acc, H4 D = some (.lst acc) ∧ acc.length < sizeLine ∧ Nx (upd H4 D (.lst (acc ++ [y]))) else Nx H3) := by
  refine ⟨fun i m H => m = xs.length - i ∧ i ≤ xs.length ∧ Pv i H, ⟨xs.length, rfl, Nat.zero_le _, h0⟩, ?_⟩
  rintro i m H ⟨rfl, hi, pv⟩
  have sd := hst i H hi pv
  rcases Nat.lt_or_ge i xs.length with lt | ge
  · refine .inr ⟨wk.go i H sd lt, Pv (i + 1), fun H' q => ⟨xs.length - (i + 1), by omega, rfl, lt, q⟩, ?_⟩
    intro x H' y
    obtain ⟨rfl, hx⟩ := wk.yld i H x H' sd lt y
    exact hs i x _ hx pv
  · have e : i = xs.length := by omega
    subst e
    exact .inl ⟨wk.stop _ H sd ge, hd H pv⟩
/-- a comprehension whose element is a plain function of the item and touches nothing -/
theorem lcP {J : It} {xs : List V} {Sd : Hp → Prop} (wk : Wk J xs Sd) (f : V → V) {g : TG} {te : TE} {vs : List Nat} {σ : L2.St} {H1 : Hp} {D : Addr} {Qd : Hp → Prop}
    (hst : ∀ acc, Sd (upd H1 D (.lst acc))) (hz : xs.length < sizeLine)
    (hs : ∀ (i : Nat) (x : V) (acc : List V) (Q : VK), xs[i]? = some x → Q (f x) (upd H1 D (.lst acc)) → g x (wipe σ vs) (upd H1 D (.lst acc)) fun σ2 H2 => wipe σ2 vs = wipe σ vs ∧ te σ2 H2 Q)
    (hd : Qd (upd H1 D (.lst (xs.map f)))) :
    ∃ W : Nat → Nat → Hp → Prop, (∃ m, W 0 m (upd H1 D (.lst []))) ∧ ∀ i m H, W i m H →
      (J.stop i H ∧ Qd H) ∨ (J.go i H ∧ ∃ Nx : Hp → Prop, (∀ H', Nx H' → ∃ m', m' < m ∧ W (i + 1) m' H') ∧ ∀ x H', J.yld i H x H' →
        g x (wipe σ vs) H' fun σ2 H2 => wipe σ2 vs = wipe σ vs ∧ tYes σ2 H2 fun b H3 =>
        if b = true then te σ2 H3 fun y H4 => ∃ acc, H4 D = some (.lst acc) ∧ acc.length < sizeLine ∧ Nx (upd H4 D (.lst (acc ++ [y]))) else Nx H3) := by
  refine lcW wk (fun i H => H = upd H1 D (.lst ((xs.take i).map f))) (by simp) (fun i H _ e => by rw [e]; exact hst _) ?_ (fun H e => by rw [e, List.take_length]; exact hd)
  rintro i x H hx rfl
  have lt : i < xs.length := (List.getElem?_eq_some_iff.mp hx).1
  have tk : (xs.take (i + 1)).map f = (xs.take i).map f ++ [f x] := by
    rw [List.take_add_one, hx, List.map_append]
    rfl
  have h := hs i x ((xs.take i).map f) (fun y H4 => ∃ acc, H4 D = some (.lst acc) ∧ acc.length < sizeLine ∧ upd H4 D (.lst (acc ++ [y])) = upd H1 D (.lst ((xs.take (i + 1)).map f))) hx
    ⟨_, upd_same, by rw [List.length_map, List.length_take]; omega, by rw [upd_upd, tk]⟩
  exact h
/-- a for over what stands still -/
theorem forW {J : It} {xs : List V} {Sd : Hp → Prop} (wk : Wk J xs Sd) {g : TG} {tb : TS} {D : Ends} {σ : L2.St} {H : Hp} (Pv : Nat → L2.St → Hp → Prop) (h0 : Pv 0 σ H)
    (hst : ∀ i σ H, i ≤ xs.length → Pv i σ H → Sd H)
    (hs : ∀ i x σ H, xs[i]? = some x → Pv i σ H → g x σ H fun σ2 H2 => tb { D with nx := Pv (i + 1), ct := Pv (i + 1), bk := D.nx } σ2 H2) (hd : ∀ σ H, Pv xs.length σ H → D.nx σ H) :
    ∃ W : Nat → Nat → L2.St → Hp → Prop, (∃ m, W 0 m σ H) ∧ ∀ i m σ H, W i m σ H →
      (J.stop i H ∧ D.nx σ H) ∨ (J.go i H ∧ ∃ N : L2.St → Hp → Prop, (∀ σ' H', N σ' H' → ∃ m', m' < m ∧ W (i + 1) m' σ' H') ∧
        ∀ x H', J.yld i H x H' → g x σ H' fun σ2 H2 => tb { D with nx := N, ct := N, bk := D.nx } σ2 H2) := by
  refine ⟨fun i m σ H => m = xs.length - i ∧ i ≤ xs.length ∧ Pv i σ H, ⟨xs.length, rfl, Nat.zero_le _, h0⟩, ?_⟩
  rintro i m σ H ⟨rfl, hi, pv⟩
  have sd := hst i σ H hi pv
  rcases Nat.lt_or_ge i xs.length with lt | ge
  · refine .inr ⟨wk.go i H sd lt, Pv (i + 1), fun σ' H' q => ⟨xs.length - (i + 1), by omega, rfl, lt, q⟩, ?_⟩
    intro x H' y
    obtain ⟨rfl, hx⟩ := wk.yld i H x H' sd lt y
    exact hs i x σ _ hx pv
  · have e : i = xs.length := by omega
    subst e
    exact .inl ⟨wk.stop _ H sd ge, hd σ H pv⟩

/-! ### tests -/
theorem iteD {p A B : Prop} [Decidable p] (h1 : p → A) (h2 : ¬ p → B) : if decide p = true then A else B := by
  by_cases h : p
  · rw [decide_eq_true h]; exact iteT (h1 h)
  · rw [decide_eq_false h]; exact iteF (h2 h)
theorem iteND {p A B : Prop} [Decidable p] (h1 : ¬ p → A) (h2 : p → B) : if (!decide p) = true then A else B := by
  by_cases h : p
  · rw [decide_eq_true h]; exact iteF (h2 h)
  · rw [decide_eq_false h]; exact iteT (h1 h)
theorem iteB {b : Bool} {A B : Prop} (h1 : b = true → A) (h2 : b = false → B) : if b = true then A else B := by
  cases b
  · exact iteF (h2 rfl)
  · exact iteT (h1 rfl)
theorem iteNB {b : Bool} {A B : Prop} (h1 : b = false → A) (h2 : b = true → B) : if (!b) = true then A else B := by
  cases b
  · exact iteT (h1 rfl)
  · exact iteF (h2 rfl)
theorem iteKT {b : Bool} {A B : Prop} (h : b = true) (x : A) : if b = true then A else B := by rw [h]; exact iteT x
theorem iteKF {b : Bool} {A B : Prop} (h : b = false) (x : B) : if b = true then A else B := by rw [h]; exact iteF x
/-- the wished end, by an equation of what comes back -/
theorem ret_eq {Q : VK} {H : Hp} {v u : V} (h : Q v H) (e : v = u) : Q u H := e ▸ h
theorem str_len (z : Str) : z.length = z.cps.toList.length := by
  show z.cps.size = _
  simp
end G
/-! own rules, fourth part: what the head tells -/
namespace G
open PySem PySem.Spec PyProof.Rows L2
/-! ### the head: He's facts, a list of further Bools, the getters of properties -/
/-- the property f of the class named c, its getter -/
def prA (K : PySem.W.Frag) (c f : Str) : Addr := match PySem.W.findIn K (.ref (He.ga K c)) f with
  | some (some (.ref p)) => p
  | _ => 0
def grA (K : PySem.W.Frag) (p : Addr) (T : String) : Addr := match PySem.W.recIn K p T with
  | some (.ref g :: _) => g
  | _ => 0
/-- one getter: its class, its name, the def -/
structure GetD where
  cls : Str
  name : Str
  kind : String
  params : Arguments
  body : List Stmt
  scope : Scope
def GetD.at (d : GetD) (K : PySem.W.Frag) : Addr := grA K (prA K d.cls d.name) d.kind
abbrev ObsF : Type := Option (Str × Str × Arguments × FuncBody × Scope × Addr × List (Str × Addr) × Value × Addr)
def obsF (K : PySem.W.Frag) (a : Addr) : ObsF := match K.lookup a with
  | some ⟨_, _, .func fd, _⟩ => some (fd.name, fd.qualname, fd.params, fd.body, fd.scope, fd.globals, fd.closure, fd.defaults, fd.builtins)
  | _ => none
def GetD.qual (d : GetD) : Str := d.cls ++ ("." ++ d.name)
def GetD.val (d : GetD) : ObsF := some (d.name, d.qual, d.params, .stmts d.body, d.scope, mainGlobals, [], .none, builtinsNs)
def GetD.ok (d : GetD) (K : PySem.W.Frag) : Bool :=
  decide (PySem.W.findIn K (.ref (He.ga K d.cls)) d.name = some (some (.ref (prA K d.cls d.name)))) &&
  (decide (PySem.W.specialIn K (.ref (prA K d.cls d.name)) "__get__" = some (some (.builtin (d.kind ++ ".__get__")))) &&
  (decide (PySem.W.takesIn K (.ref (prA K d.cls d.name)) = some true) &&
  ((match PySem.W.recIn K (prA K d.cls d.name) d.kind with
    | some (.ref g :: _) => decide (g = d.at K)
    | _ => false) &&
  (match K.lookup (d.at K) with
    | some ⟨_, _, .func fd, _⟩ => PySem.W.codeIn K fd.code d.qual
    | _ => false))))
theorem GetD.prop {d : GetD} {K : PySem.W.Frag} (hk : d.kind = "property") (h : d.ok K = true) : PropOf K (He.ga K d.cls) d.name (prA K d.cls d.name) (d.at K) := by
  obtain ⟨h1, h⟩ := He.ba h
  obtain ⟨h2, h⟩ := He.ba h
  obtain ⟨h3, h⟩ := He.ba h
  obtain ⟨h4, _⟩ := He.ba h
  refine ⟨of_decide_eq_true h1, ?_, of_decide_eq_true h3, ?_⟩
  · have e := of_decide_eq_true h2
    rw [hk] at e
    exact e
  · rw [hk] at h4
    split at h4
    · rename_i g r e
      have eg : g = d.at K := of_decide_eq_true h4
      exact ⟨r, by rw [e, eg]⟩
    · cases h4
theorem GetD.fn {d : GetD} {K : PySem.W.Frag} (e : obsF K (d.at K) = d.val) (h : d.ok K = true) :
    ∃ oc od osl kV doc pm an cdv ct, K.lookup (d.at K) = some ⟨oc, od, .func (PySem.W.fnOf d.name d.qual d.params d.body d.scope .none kV doc pm an cdv ct), osl⟩ ∧ PySem.W.codeIn K cdv d.qual = true := by
  obtain ⟨_, h⟩ := He.ba h
  obtain ⟨_, h⟩ := He.ba h
  obtain ⟨_, h⟩ := He.ba h
  obtain ⟨_, c⟩ := He.ba h
  unfold obsF at e
  cases q : K.lookup (d.at K) with
  | none => rw [q] at c; cases c
  | some o =>
    obtain ⟨oc, od, dt, osl⟩ := o
    rw [q] at c e
    cases dt with
    | func fd =>
      obtain ⟨a1, a2, a3, a4, a5, a6, a7, a8, a9, a10, a11, a12, a13, a14, a15⟩ := fd
      have e2 : (some (a1, a2, a3, a4, a5, a6, a7, a8, a15) : ObsF) = some (d.name, d.qual, d.params, .stmts d.body, d.scope, mainGlobals, [], .none, builtinsNs) := e
      simp only [Option.some.injEq, Prod.mk.injEq] at e2
      obtain ⟨rfl, rfl, rfl, rfl, rfl, rfl, rfl, rfl, rfl⟩ := e2
      exact ⟨oc, od, osl, a9, a10, a11, a12, a13, a14, rfl, c⟩
    | _ => cases c
abbrev AlG : Type := He.AlD × Bool × List ObsF
def obsK (fa : List He.Fa) (fn : List He.DefD) (gs : List GetD) (ex : List (PySem.W.Frag → Bool)) (K : PySem.W.Frag) : AlG :=
  (He.obsD fa fn K, (ex.all fun f => f K) && gs.all fun d => d.ok K, gs.map fun d => obsF K (d.at K))
def valK (fn : List He.DefD) (gs : List GetD) : AlG := (He.valD fn, true, gs.map GetD.val)
def obsKG (n : Nat) (fa : List He.Fa) (fn : List He.DefD) (gs : List GetD) (ex : List (PySem.W.Frag → Bool)) (g : Addr → Option Obj) : AlG :=
  obsK fa fn gs ex (He.frG g (He.asD g n))
def SaysG (fa : List He.Fa) (fn : List He.DefD) (gs : List GetD) (ex : List (PySem.W.Frag → Bool)) (K : PySem.W.Frag) : Prop := obsK fa fn gs ex K = valK fn gs
def hookG (n : Nat) (fa : List He.Fa) (fn : List He.DefD) (gs : List GetD) (ex : List (PySem.W.Frag → Bool)) : PySem.W.Hook where
  α := AlG
  obs := fun s => obsKG n fa fn gs ex s.heap.get?
  val := fun _ => valK fn gs
  says := fun _ h => ∃ K : PySem.W.Frag, K.In h ∧ SaysG fa fn gs ex K
  of := fun _ _ e => ⟨_, He.frG_in, e⟩
  keeps := fun _ _ _ ⟨K, hK, c⟩ k => ⟨K, PySem.W.Frag.In.keeps hK k, c⟩
theorem obsKG_eq {n : Nat} {fa : List He.Fa} {fn : List He.DefD} {gs : List GetD} {ex : List (PySem.W.Frag → Bool)} {g : Addr → Option Obj} {s : Shared}
    (h : ∀ a, g a = s.heap.get? a) : obsKG n fa fn gs ex g = (hookG n fa fn gs ex).obs s := by
  have e : g = s.heap.get? := funext h
  rw [e]
  rfl
section
variable {fa : List He.Fa} {fn : List He.DefD} {gs : List GetD} {ex : List (PySem.W.Frag → Bool)} {K : PySem.W.Frag}
theorem SaysG.d (c : SaysG fa fn gs ex K) : He.SaysD fa fn K := congrArg (fun z : AlG => z.1) c
theorem SaysG.more (c : SaysG fa fn gs ex K) (i : Nat) {f : PySem.W.Frag → Bool} (h : ex[i]? = some f := by rfl) : f K = true := by
  have c1 := (He.ba (show ((ex.all fun f => f K) && gs.all fun d => d.ok K) = true from congrArg (fun z : AlG => z.2.1) c)).1
  exact List.all_eq_true.mp c1 f (List.mem_of_getElem? h)
theorem SaysG.getter (c : SaysG fa fn gs ex K) (i : Nat) {d : GetD} (h : gs[i]? = some d := by rfl) : d.ok K = true ∧ obsF K (d.at K) = d.val := by
  have c1 := (He.ba (show ((ex.all fun f => f K) && gs.all fun d => d.ok K) = true from congrArg (fun z : AlG => z.2.1) c)).2
  have e : gs.map (fun d => obsF K (d.at K)) = gs.map GetD.val := congrArg (fun z : AlG => z.2.2) c
  refine ⟨List.all_eq_true.mp c1 d (List.mem_of_getElem? h), ?_⟩
  have e2 : (gs.map fun d => obsF K (d.at K))[i]? = (gs.map GetD.val)[i]? := by rw [e]
  rw [List.getElem?_map, List.getElem?_map, h] at e2
  exact Option.some.inj e2
end
/-! ### what the walk wants of a class -/
def btys : List String := ["NoneType", "bool", "int", "str", "list", "tuple", "dict"]
/-- for isinstance and == -/
structure ClsI (K : PySem.W.Frag) (C : Addr) : Prop where
  ha : PySem.W.findIn K (.ref C) "__class__" = some (some (.builtin "object.__class__"))
  hn : PySem.W.specialIn K (.builtin "object.__class__") "__get__" = some (some (.builtin "getset_descriptor.__get__"))
  htk : PySem.W.takesIn K (.builtin "object.__class__") = some true
  hm : PySem.W.mroIn K C (.type "object") = some true
  me : PySem.W.kitOne K (.ref C) (.ref C) = some true
  /-- a built-in thing is none of it -/
  bt : ∀ t ∈ btys, PySem.W.kitOne K (.type t) (.ref C) = some false
  /-- it is no built-in thing -/
  tb : ∀ t ∈ btys, PySem.W.kitOne K (.ref C) (.type t) = some false
  nf : ∀ t ∈ btys, PySem.W.notFirst K C (.type t) = true
def clsIB (c : Str) (K : PySem.W.Frag) : Bool :=
  decide (PySem.W.findIn K (.ref (He.ga K c)) "__class__" = some (some (.builtin "object.__class__"))) &&
  (decide (PySem.W.specialIn K (.builtin "object.__class__") "__get__" = some (some (.builtin "getset_descriptor.__get__"))) &&
  (decide (PySem.W.takesIn K (.builtin "object.__class__") = some true) &&
  (decide (PySem.W.mroIn K (He.ga K c) (.type "object") = some true) &&
  (decide (PySem.W.kitOne K (.ref (He.ga K c)) (.ref (He.ga K c)) = some true) &&
  ((btys.all fun t => decide (PySem.W.kitOne K (.type t) (.ref (He.ga K c)) = some false)) &&
  ((btys.all fun t => decide (PySem.W.kitOne K (.ref (He.ga K c)) (.type t) = some false)) &&
  (btys.all fun t => PySem.W.notFirst K (He.ga K c) (.type t))))))))
theorem clsI_of {c : Str} {K : PySem.W.Frag} (h : clsIB c K = true) : ClsI K (He.ga K c) := by
  obtain ⟨h1, h⟩ := He.ba h
  obtain ⟨h2, h⟩ := He.ba h
  obtain ⟨h3, h⟩ := He.ba h
  obtain ⟨h4, h⟩ := He.ba h
  obtain ⟨h5, h⟩ := He.ba h
  obtain ⟨h6, h⟩ := He.ba h
  obtain ⟨h7, h8⟩ := He.ba h
  exact ⟨of_decide_eq_true h1, of_decide_eq_true h2, of_decide_eq_true h3, of_decide_eq_true h4, of_decide_eq_true h5,
    fun t ht => of_decide_eq_true (List.all_eq_true.mp h6 t ht), fun t ht => of_decide_eq_true (List.all_eq_true.mp h7 t ht), fun t ht => List.all_eq_true.mp h8 t ht⟩
/-- an instance's type -/
theorem ClsI.ty {K : PySem.W.Frag} {C : Addr} (c : ClsI K C) (cl : Cls K C) {H : Hp} {a dx : Addr} {fs : List (Str × V)} (e : H a = some (.ins C dx fs)) : TyOf K H (.ref a) (.ref C) :=
  .ins e cl c.ha c.hn c.htk c.hm
/-- two unlike classes -/
structure ClsJ (K : PySem.W.Frag) (C D : Addr) : Prop where
  no : PySem.W.kitOne K (.ref C) (.ref D) = some false
  nf : PySem.W.notFirst K C (.ref D) = true
def clsJB (c d : Str) (K : PySem.W.Frag) : Bool :=
  decide (PySem.W.kitOne K (.ref (He.ga K c)) (.ref (He.ga K d)) = some false) && PySem.W.notFirst K (He.ga K c) (.ref (He.ga K d))
theorem clsJ_of {c d : Str} {K : PySem.W.Frag} (h : clsJB c d K = true) : ClsJ K (He.ga K c) (He.ga K d) := by
  obtain ⟨h1, h2⟩ := He.ba h
  exact ⟨of_decide_eq_true h1, h2⟩
def eqCB (c : Str) (K : PySem.W.Frag) : Bool :=
  decide (PySem.W.findIn K (.ref (He.ga K c)) "__eq__" = some (some (.ref (He.ma K (He.ga K c) "__eq__")))) &&
  (PySem.W.isFn K (.ref (He.ma K (He.ga K c) "__eq__")) &&
  (decide (PySem.W.findIn K (.ref (He.ga K c)) "__ne__" = some (some (.builtin "object.__ne__"))) &&
  decide (PySem.W.mroIn K (He.ga K c) (.type "object") = some true)))
theorem eqC_of {c : Str} {K : PySem.W.Frag} (h : eqCB c K = true) : EqC K (He.ga K c) (He.ma K (He.ga K c) "__eq__") := by
  obtain ⟨h1, h⟩ := He.ba h
  obtain ⟨h2, h⟩ := He.ba h
  obtain ⟨h3, h4⟩ := He.ba h
  exact ⟨of_decide_eq_true h1, h2, of_decide_eq_true h3, of_decide_eq_true h4⟩
/-- the class has no attribute of that name at all -/
def noB (c f : Str) (K : PySem.W.Frag) : Bool := decide (PySem.W.findIn K (.ref (He.ga K c)) f = some none)
theorem no_of {c f : Str} {K : PySem.W.Frag} (h : noB c f K = true) : PySem.W.findIn K (.ref (He.ga K c)) f = some none := of_decide_eq_true h
def lenB (c : Str) (K : PySem.W.Frag) : Bool :=
  decide (PySem.W.findIn K (.ref (He.ga K c)) "__len__" = some (some (.ref (He.ma K (He.ga K c) "__len__")))) && PySem.W.isFn K (.ref (He.ma K (He.ga K c) "__len__"))
theorem len_of {c : Str} {K : PySem.W.Frag} (h : lenB c K = true) : PySem.W.findIn K (.ref (He.ga K c)) "__len__" = some (some (.ref (He.ma K (He.ga K c) "__len__"))) ∧
    PySem.W.isFn K (.ref (He.ma K (He.ga K c) "__len__")) = true := by
  obtain ⟨h1, h2⟩ := He.ba h
  exact ⟨of_decide_eq_true h1, h2⟩
/-- an empty tuple stands at a -/
def noneIn (K : PySem.W.Frag) (a : Addr) : Bool := match K.lookup a with
  | some ⟨.type "tuple", _, .seq its _, _⟩ => its.size == 0
  | _ => false
theorem noneIn_of {K : PySem.W.Frag} {a : Addr} (h : noneIn K a = true) : ∀ H, SqT K H a [] := by
  intro H
  unfold noneIn at h
  split at h
  · rename_i d its n sl e
    have z : its = #[] := Array.eq_empty_of_size_eq_zero (eq_of_beq h)
    subst z
    exact .inr ⟨_, _, _, e, rfl, rfl, Nat.zero_le _, .nil⟩
  · cases h
/-- the getter's promise -/
theorem getP_of {P : Program} {w : World} {K : PySem.W.Frag} {mg : Str → Option Value} {base : Heap} {d : GetD} {fld : Str} {p1 p2 p3 : Pos}
    (e : obsF K (d.at K) = d.val) (h : d.ok K = true) (hk : d.kind = "property") (cl : Cls K (He.ga K d.cls)) (na : NoAttr K (He.ga K d.cls) fld)
    (S : FnScope ["self"] ["self"] d.scope) (hb : d.body = [.Return (some (.Attribute (.Name "self" p1) fld p2)) p3])
    (hbind : ∀ (kV doc pm : Value) (an : Option Addr) (cdv ct : Value) (us : List Value), us.length = 1 → bindArgs (PySem.W.fnOf d.name d.qual d.params d.body d.scope .none kV doc pm an cdv ct) ⟨us, []⟩ = pure ((["self"] : List Str).zip us)) :
    GetP P w K mg base 1 (He.ga K d.cls) d.name fld := by
  obtain ⟨oc, od, osl, kV, doc, pm, an, cdv, ct, lk, hcd⟩ := d.fn e h
  exact ⟨_, _, _, ["self"], cl, d.prop hk h, fn_getter lk hcd S rfl hb cl na, .all (hbind kV doc pm an cdv ct)⟩
end G
/-! own rules, fourth part: x, *more = a list; enumerate over a tuple -/
namespace G
open PySem PySem.Spec PyProof.Rows L2

/-! ### x, .., *more = a list -/
theorem star_run {P : Program} {w : World} {A : Around} {E : Value → Shared → Prop} {s : Shared} {l : Addr} {its : Array Value} {k : Nat} {Q : List Value → Shared → Prop}
    (pl : s.heap.IsList l its) (calm : A.handled = none) (hk : k ≤ its.size) (hz : its.size ≤ sizeLine)
    (q : ∀ (hp : Heap) (tk : Nat), (∀ b o, s.heap.get? b = some o → hp.get? b = some o) →
      Q (its.toList.take k ++ [.ref hp.objs.size]) { s with heap := hp.push { cls := .type "list", data := .seq (its.toList.drop k).toArray }, toks := tk }) :
    wpAny (model P w) A (unpackItems (.ref l) (k + 1) (some k)) Q E s := by
  have apart : l ≠ s.heap.objs.size := by
    obtain ⟨o, e, _⟩ := pl
    exact Nat.ne_of_lt (Heap.lt_size e)
  unfold unpackItems notIterableAtAll
  refine wpAny_bind (wpAny_bind (wpAny_specialOf pl.typeIs slot_list_iter.lookup (wpAny_pure ?_)))
  simp only [Bool.false_eq_true, if_false]
  refine wpAny_bind (wpAny_holding (wpAny_pyIter_list pl (wpAny_bind (wpAny_holding (PySem.W.kun_draw apart k 0 _ _ ⟨_, Heap.get?_push_size _ rfl, rfl, rfl⟩ (pl.push _) (by omega) fun h1 it1 sb1 => ?_)))))
  have pl1 : h1.IsList l its := (pl.push _).extBut sb1.extBut apart
  rw [Nat.zero_add] at it1
  obtain ⟨o1, e1, _⟩ := id it1
  obtain ⟨o2, e2, _⟩ := id pl1
  rw [List.drop_zero]
  have tl : (its.toList.take k).length = k := by
    rw [List.length_take, Array.length_toList]
    omega
  rw [if_neg (show ¬ ((its.toList.take k).length < k) by rw [tl]; omega)]
  refine wpAny_bind (wpAny_holding (PySem.W.kun_collect (s := { s with heap := h1 }) (T := "list_iterator") (.inr (.inr (.inl rfl)))
    (Walks.list (A := A.in1) calm s.heap.objs.size l apart its) (fun j u st => st.1.typeIs) (k := k) hk ⟨it1, pl1⟩ (Heap.lt_size e1) (Heap.lt_size e2) (fun h2 tk keep => ?_) hz))
  have ze : k + 1 - 1 - k = 0 := by omega
  have dl : (its.toList.drop k).length - (k + 1 - 1 - k) = (its.toList.drop k).length := by omega
  show wpAny _ _ (if (its.toList.drop k).length < k + 1 - 1 - k then _ else _) _ _ _
  rw [if_neg (by omega)]
  show wpAny _ _ (newList ((its.toList.drop k).take ((its.toList.drop k).length - (k + 1 - 1 - k))) >>= fun d =>
    pure (its.toList.take k ++ [d] ++ (its.toList.drop k).drop ((its.toList.drop k).length - (k + 1 - 1 - k)))) _ _ _
  rw [dl, List.take_length, List.drop_length]
  have old : ∀ b o, s.heap.get? b = some o → h2.get? b = some o := fun b o e => keep b o (Nat.ne_of_lt (Heap.lt_size e))
    (sb1.extBut b o (Nat.ne_of_lt (Heap.lt_size e)) (Heap.get?_push_of_some _ e))
  refine wpAny_bind (wpAny_newList (wpAny_pure ?_) (by rw [List.length_drop, Array.length_toList]; omega))
  rw [List.append_nil]
  exact q h2 tk old
def gStar (K : PySem.W.Frag) (k : Nat) (t : TGs) : TG := fun v σ H Q => ∃ a xs, v = .ref a ∧ SqL K H a xs ∧ k ≤ xs.length ∧
  ∀ D, H D = none → t (xs.take k ++ [.ref D]) σ (upd H D (.lst (xs.drop k))) Q
section
variable {X : Cx} {pos p : Pos} {e : Expr} {es : List Expr} {t : TG} {u : TGs} {k kk : Nat}
theorem pgs_star (h1 : PG X e t) (h2 : PGs X es u)
    (hs : (assignEach (.Starred e p :: es) X.env).map (·.2) = assign e X.env :: (assignEach es X.env).map (·.2) := by rfl) : PGs X (.Starred e p :: es) (gCons t u) := by
  refine ⟨fun pins s σ H vs us Q I r h => ?_⟩
  obtain ⟨v, vr, rfl, h⟩ := h
  cases r with
  | cons r rr =>
    rw [hs]
    refine assignInOrder_cons (thn (h1.run pins s σ H _ _ _ I r h) ?_)
    rintro _ s1 ⟨σ1, H1, I1, q1⟩
    exact h2.run pins s1 σ1 H1 _ _ Q I1 rr q1
theorem vals_take : ∀ {xs : List V} {us : List Value} (n : Nat), Vals xs us → Vals (xs.take n) (us.take n)
  | [], _, n, r => by cases r; rw [List.take_nil, List.take_nil]; exact .nil
  | _ :: _, _, 0, r => by rw [List.take_zero, List.take_zero]; exact .nil
  | _ :: _, _, n + 1, r => by
    cases r with
    | cons r rr => exact .cons r (vals_take n rr)
theorem vals_drop : ∀ {xs : List V} {us : List Value} (n : Nat), Vals xs us → Vals (xs.drop n) (us.drop n)
  | [], _, n, r => by cases r; rw [List.drop_nil, List.drop_nil]; exact .nil
  | _ :: _, _, 0, r => by rw [List.drop_zero, List.drop_zero]; exact r
  | _ :: _, _, n + 1, r => by
    cases r with
    | cons r rr => exact vals_drop n rr
theorem vals_app : ∀ {xs ys : List V} {us vs : List Value}, Vals xs us → Vals ys vs → Vals (xs ++ ys) (us ++ vs)
  | [], _, _, _, r, r' => by cases r; exact r'
  | _ :: _, _, _, _, r, r' => by
    cases r with
    | cons r rr => exact .cons r (vals_app rr r')
theorem pg_star (hc : X.calm = true) (h : PGs X es u) (hn : (assignEach es X.env).length = k + 1 := by rfl)
    (hst : (assignEach es X.env).findIdx? (·.1) = some k := by rfl) : PG X (.Tuple es kk pos) (gStar X.K k u) := by
  refine ⟨fun pins s σ H v w Q I r hw => ?_⟩
  obtain ⟨a, xs, rfl, hq, hl, hw⟩ := hw
  cases r
  obtain ⟨its, rv, pl, hz⟩ := I.list hq
  have el := rv.length
  rw [PyProof.Rows.assign_Tuple]
  refine wpAny_bind (wpAny_standAt ?_)
  unfold unpack
  rw [hn, hst]
  refine wpAny_bind (wpAny_holding (star_run pl.isList (I.ok.hd hc) (by rw [List.size_toArray]; omega) (by rw [List.size_toArray]; omega) fun hp tk keep => ?_))
  have I1 : Inv X pins σ H { s with heap := hp, toks := tk } := I.kept keep
  have fr : H hp.objs.size = none := I1.hok.fresh (Nat.le_refl _)
  have I2 : Inv X pins σ (upd H hp.objs.size (.lst (xs.drop k))) { s with heap := hp.push { cls := .type "list", data := .seq (its.drop k).toArray }, toks := tk } :=
    I1.laid (t' := tk) (fun b u e => Heap.get?_push_of_some _ e) (Nat.le_refl _)
      ⟨by rw [List.length_drop]; omega, its.drop k, 0, vals_drop k rv, Heap.get?_push_size _ rfl⟩
  exact h.run pins _ σ _ _ _ Q I2 (vals_app (vals_take k rv) (.cons (show RelV (V.ref hp.objs.size) (Value.ref hp.objs.size) from rfl) .nil)) (hw _ fr)
end

/-! ### enumerate(a tuple) -/
theorem enum_meets {v : Value} {o : Obj} {Hs : Heap → Prop} (B : Begins v o Hs) :
    Meets (Builtin.«enumerate.__new__» ⟨[.type "enumerate", v], []⟩) (fun _ R s => Hs s.heap ∧ R (.ok (.ret (.ref (s.heap.push o).objs.size)))
      { s with heap := (s.heap.push o).push { cls := .type "enumerate", data := .fields #[.none, .bool false, .ref s.heap.objs.size, rawInt 0, .none, .none] } }) :=
  .of_wp fun prog w A R s h => by
    obtain ⟨hp, g, d, tk, os⟩ := s
    obtain ⟨h1, h⟩ := h
    have sub := sub_enumerate
    have it : ∀ {A' : Around} {E : Value → Shared → Prop} {Q : Value → Shared → Prop}, Q (.ref hp.objs.size) ⟨hp.push o, g, d, tk, os⟩ →
        wpAny (model prog w) A' (pyIter v) Q E ⟨hp, g, d, tk, os⟩ := fun q => B.iter prog w _ _ ⟨hp, g, d, tk, os⟩ _ h1 q
    wp_walk using it
    refine wpAny_stack_any fun st => wpAny_pure ?_
    split
    · rename_i c _ _ _ _ _
      cases (c == Value.type "enumerate")
      · wp_walk using it
        exact ⟨_, rfl, h⟩
      · wp_walk using it
        exact ⟨_, rfl, h⟩
    · wp_walk using it
      exact ⟨_, rfl, h⟩
theorem enum_made {P : Program} {w : World} {A : Around} {E : Value → Shared → Prop} {s : Shared} {v : Value} {o : Obj} {Hs : Heap → Prop} {Q : Value → Shared → Prop}
    (B : Begins v o Hs) (h1 : Hs s.heap) (q : ∀ hp, IsEnum hp (s.heap.objs.size + 1) s.heap.objs.size 0 .none → hp.get? s.heap.objs.size = some o →
      (∀ b u, s.heap.get? b = some u → hp.get? b = some u) → Q (.ref (s.heap.objs.size + 1)) { s with heap := hp }) :
    wpAny (model P w) A (call (.type "enumerate") [v]) Q E s := by
  refine callType_new F.called_enumerate (by decide) (F.typeCall_enumerate_1 _) (F.newCall_enumerate_1 _) (fun obj => F.args_object_init_2 obj _) F.entry_enumerate_new (enum_meets B) ⟨h1, ?_⟩
  have z : (s.heap.push o).objs.size = s.heap.objs.size + 1 := Heap.size_push ..
  show _ ∧ _
  rw [z]
  have en : IsEnum ((s.heap.push o).push { cls := .type "enumerate", data := .fields #[.none, .bool false, .ref s.heap.objs.size, rawInt 0, .none, .none] })
      (s.heap.objs.size + 1) s.heap.objs.size 0 .none := by
    have x := Heap.get?_push_size (s.heap.push o) (o := { cls := .type "enumerate", data := .fields #[.none, .bool false, .ref s.heap.objs.size, rawInt 0, .none, .none] }) rfl
    rw [z] at x
    exact x
  exact ⟨⟨_, en, rfl⟩, q _ en (Heap.get?_push_of_some _ (Heap.get?_push_size _ B.free)) fun b u x => Heap.get?_push_of_some _ (Heap.get?_push_of_some _ x)⟩
/-- the tuple at a, each item in a new pair -/
def ItE (K : PySem.W.Frag) (a : Addr) : It :=
  ⟨fun i H => ∃ (xs : List V) (x : V), SqT K H a xs ∧ xs[i]? = some x,
    fun i H v H' => ∃ T x, v = .ref T ∧ H T = none ∧ H' = upd H T (.tup [.int (i : Nat), x]) ∧ ∀ xs, SqT K H a xs → xs[i]? = some x,
    fun i H => ∃ xs : List V, SqT K H a xs ∧ xs.length ≤ i⟩
theorem enum_end {P : Program} {w : World} {A : Around} {E : Value → Shared → Prop} {s : Shared} {e it t : Addr} {i : Nat} {c : Int} {its : Array Value} {old : Value} {Q : Option Value → Shared → Prop}
    (hh : A.handled = none) (he : IsEnum s.heap e it c old) (hit : s.heap.IsTupleIter it t i) (tp : s.heap.IsTuple t its) (lt : its.size ≤ i)
    (q : ∀ hp, Heap.ExtBut it s.heap hp → Q none { s with heap := hp }) : wpAny (model P w) A (pyNext (.ref e)) Q E s := by
  have T : s.TypeIs (.ref e) "enumerate" := ⟨_, he, rfl⟩
  unfold pyNext
  refine wpAny_bind (wpAny_attempt (wpAny_callSpecial?_slot (name := Str.ofString "__next__") T F.slot_enumerate_next (wpAny_call_entry F.slot_enumerate_next T F.entry_enumerate_next ?_ (F.args_enumerate_next_1 _))))
  show wpAny _ A.in1 (field (.ref e) 2 >>= _) _ _ s
  refine wpAny_bind (wpAny_field he rfl (x := .ref it) rfl (wpAny_bind (wpAny_nextOf_tuple_end hh hit tp (by simp; omega) fun hp x eb ob => ?_)))
  obtain ⟨o, ho, hc⟩ := ob
  exact wpAny_bind (wpAny_isInstance (T := "StopIteration") (b := true) ⟨o, ho, hc⟩ isSubtype_stop (wpAny_pure (q _ eb)))
theorem enum_turn {P : Program} {w : World} {K : PySem.W.Frag} {elts : List Expr} {kk : Nat} {tpos : Pos} (a e it : Addr) :
    Turn P w K (.Tuple elts kk tpos) (ItE K a) [e, it] e (fun i h => (∃ old, IsEnum h e it ((i : Nat) : Int) old) ∧ h.IsTupleIter it a i ∧ e ≠ it ∧ a ≠ it ∧ a ≠ e) where
  mem := List.mem_cons_self
  obj := fun i h st b hb => by
    obtain ⟨⟨old, he⟩, ⟨o, ho, hc, hd⟩, _⟩ := st
    rcases List.mem_cons.mp hb with rfl | hb
    · exact ⟨_, he, fun v q => nomatch q⟩
    · rw [List.mem_singleton.mp hb]
      exact ⟨o, ho, fun v q => by rw [hd] at q; cases q⟩
  keep := fun i h h' st k => ⟨st.1.elim fun old he => ⟨old, k e (by simp) _ he⟩, st.2.1.at fun o q => k it (by simp) o q, st.2.2⟩
  item := by
    rintro X rfl rfl rfl calm i pins s σ H E I hf ⟨⟨old, he⟩, hit, ne, ai, ae⟩ ⟨xs, x, hq, hx⟩
    obtain ⟨its, rv, tp, hz⟩ := I.tuple hq
    obtain ⟨u, hu, ru⟩ := rv.get hx
    have el := Heap.lt_size he
    have tp' : s.heap.IsTuple a its.toArray := tp
    have il : it < s.heap.objs.size := by
      obtain ⟨_, q, _⟩ := hit
      exact Heap.lt_size q
    have lt : i < its.toArray.size := by
      rw [List.size_toArray]
      exact (List.getElem?_eq_some_iff.mp hu).1
    refine PySem.wpAny_pyNext_enum_itemC (Draws.tuple (A := X.A.in1) (I.ok.hd calm) it a ai its.toArray) he ⟨hit, tp'⟩ lt ne (by simp [ne, ae.symm]) fun x2 hp tk hx2 ho st2 hT hsz hk => ?_
    have ex : x2 = u := by
      have h3 : its[i]? = some x2 := by simpa using hx2
      rw [hu] at h3
      exact (Option.some.inj h3).symm
    subst ex
    refine ⟨_, rfl, wpAny_letOwnedTupleGo_enum (s := { s with heap := hp, toks := tk + 1 }) ho fun hp2 he2 sb => ?_⟩
    have hT2 : hp2.get? s.heap.objs.size = some { cls := .type "tuple", data := .seq #[.int i tk, x2] } := (sb.2 _ (Nat.ne_of_gt el)).trans hT
    have pair : ObjOk X.prog X.w (upd H s.heap.objs.size (.tup [.int (i : Nat), x])) hp2 s.heap.objs.size (.tup [.int (i : Nat), x]) :=
      ⟨by show 2 ≤ sizeLine; decide, [.int i tk, x2], .cons ⟨_, rfl⟩ (.cons ru .nil), ⟨_, hT2, rfl, _, rfl⟩⟩
    have I1 : Inv X pins σ (upd H s.heap.objs.size (.tup [.int (i : Nat), x])) { s with heap := hp2, toks := tk + 1 } :=
      I.turnedNew (ch := [e, it]) (fun b ob hb q => (sb.2 b fun z => hb (by simp [z])).trans (hk b ob (fun z => hb (by simp [z])) (fun z => hb (by simp [z])) q)) hf (Nat.le_refl _) pair
    have e1 : ((i + 1 : Nat) : Int) = (i : Int) + 1 := by omega
    refine ⟨.ref s.heap.objs.size, _, I1, rfl, ⟨_, x, rfl, I.hok.fresh (Nat.le_refl _), rfl, fun ys hy => by rw [I.tuple_inj hy hq]; exact hx⟩,
      ⟨⟨x2, by rw [e1]; exact he2⟩, st2.1.at fun o q => (sb.2 it ne.symm).trans q, ne, ai, ae⟩, fun b hb => ?_⟩
    have lb : b < s.heap.objs.size := by
      rcases List.mem_cons.mp hb with rfl | hb
      · exact el
      · rw [List.mem_singleton.mp hb]
        exact il
    rw [upd_ne (Nat.ne_of_lt lb)]
    exact (hf b hb).1
  done := by
    rintro X rfl rfl rfl calm i pins s σ H E I hf ⟨⟨old, he⟩, hit, ne, ai, ae⟩ ⟨xs, hq, hx⟩
    obtain ⟨its, rv, tp, hz⟩ := I.tuple hq
    obtain ⟨f0, f1, f2, f3, f4, f5⟩ := hf it (by simp)
    have tp' : s.heap.IsTuple a its.toArray := tp
    have ln := rv.length
    exact enum_end (I.ok.hd calm) he hit tp' (by simp; omega) fun hp eb => ⟨rfl, I.turned (t' := s.toks) (fun b o hb q => eb b o hb q) f0 f1 f3 f4 f5⟩
  self := fun A i s Q E st h => st.1.elim fun _ he => wpAny_pyIter_enum he h
def iEnumT (K : PySem.W.Frag) (ta : TA) : TI := fun σ H R => ta σ H fun vs H1 => ∃ a xs, vs = [.ref a] ∧ SqT K H1 a xs ∧ R (ItE K a) H1
theorem pi_enumT {X : Cx} {e : Expr} {ta : TA} {p pos tpos : Pos} {elts : List Expr} {kk : Nat} (hg : Gl X "enumerate") (hm : X.mg "enumerate" = none) (ha : PA X [e] ta)
    (hs : starEach [e] X.env = [(false, eval e X.env)] := by rfl) : PI X (.Tuple elts kk tpos) (.Call (.Name "enumerate" p) [e] [] pos) (iEnumT X.K ta) := by
  refine ⟨fun pins s σ H R I h => ?_⟩
  refine Call_ (ld_blt I hg hm boot_enumerate (PyProof.Rows.callWith_type1 (thn (ha.run pos pins s σ H _ I h) ?_) hs rfl))
  rintro us s1 ⟨vs, H1, I1, r1, a, xs, rfl, hq, q⟩
  obtain ⟨u, rfl, r⟩ := vals1 r1
  obtain rfl : u = Value.ref a := r
  obtain ⟨its, rv, tp, hz⟩ := I1.tuple hq
  have tp' : s1.heap.IsTuple a its.toArray := tp
  have la : a < s1.heap.objs.size := by
    obtain ⟨o, e, _⟩ := tp
    exact Heap.lt_size e
  refine enum_made (begins_tuple a its.toArray) tp' fun hp en ti keep => wpAny_pyIter_enum en ?_
  refine ⟨s1.heap.objs.size + 1, [s1.heap.objs.size + 1, s1.heap.objs.size], _, _, H1, rfl, I1.kept (t' := s1.toks) keep, enum_turn a (s1.heap.objs.size + 1) s1.heap.objs.size,
    ⟨⟨.none, en⟩, ⟨_, ti, rfl, rfl⟩, Nat.succ_ne_self _, Nat.ne_of_lt la, Nat.ne_of_lt (Nat.lt_succ_of_lt la)⟩, fun b hb => ?_, q⟩
  have le : s1.heap.objs.size ≤ b := by
    rcases List.mem_cons.mp hb with rfl | hb
    · exact Nat.le_add_right _ _
    · rw [List.mem_singleton.mp hb]
      exact Nat.le_refl _
  exact I1.fpOk le (I1.hok.fresh le)
/-- a for over enumerate of a tuple that stands still -/
theorem forE {K : PySem.W.Frag} {a : Addr} {xs : List V} {g : TG} {tb : TS} {D : Ends} {σ : L2.St} {H : Hp} (Pv : Nat → L2.St → Hp → Prop) (h0 : Pv 0 σ H)
    (hst : ∀ i σ H, i ≤ xs.length → Pv i σ H → SqT K H a xs)
    (hs : ∀ i x σ H T, xs[i]? = some x → Pv i σ H → H T = none → g (.ref T) σ (upd H T (.tup [.int (i : Nat), x])) fun σ2 H2 => tb { D with nx := Pv (i + 1), ct := Pv (i + 1), bk := D.nx } σ2 H2)
    (hd : ∀ σ H, Pv xs.length σ H → D.nx σ H) :
    ∃ W : Nat → Nat → L2.St → Hp → Prop, (∃ m, W 0 m σ H) ∧ ∀ i m σ H, W i m σ H →
      ((ItE K a).stop i H ∧ D.nx σ H) ∨ ((ItE K a).go i H ∧ ∃ N : L2.St → Hp → Prop, (∀ σ' H', N σ' H' → ∃ m', m' < m ∧ W (i + 1) m' σ' H') ∧
        ∀ x H', (ItE K a).yld i H x H' → g x σ H' fun σ2 H2 => tb { D with nx := N, ct := N, bk := D.nx } σ2 H2) := by
  refine ⟨fun i m σ H => m = xs.length - i ∧ i ≤ xs.length ∧ Pv i σ H, ⟨xs.length, rfl, Nat.zero_le _, h0⟩, ?_⟩
  rintro i m σ H ⟨rfl, hi, pv⟩
  have sd := hst i σ H hi pv
  rcases Nat.lt_or_ge i xs.length with lt | ge
  · refine .inr ⟨⟨xs, xs[i], sd, by simp [lt]⟩, Pv (i + 1), fun σ' H' q => ⟨xs.length - (i + 1), by omega, rfl, lt, q⟩, ?_⟩
    rintro v H' ⟨T, x, rfl, nT, rfl, hx⟩
    exact hs i x σ H T (hx xs sd) pv nT
  · have e : i = xs.length := by omega
    subst e
    exact .inl ⟨⟨xs, sd, ge⟩, hd σ H pv⟩
/-! ### inside a comprehension the library's K is the outer one -/
section
variable {X : Cx} {K : PySem.W.Frag} {e : Expr} {f : Str} {pos : Pos} {ta : TE}
theorem pe_fldK (hK : X.K = K) (he : PE X e ta) (hb : attributeBase e f X.env (eval e X.env) = eval e X.env) : PE X (.Attribute e f pos) (tFld K ta f) := hK ▸ pe_fld he hb
theorem ixK {r : PySem.W.Frag → R2} (hK : X.K = K) (h : IxR X (r X.K)) : IxR X (r K) := hK ▸ h
theorem opK {r : PySem.W.Frag → R2} {op : Value → Value → Sem Value} (hK : X.K = K) (h : OpR X op (r X.K)) : OpR X op (r K) := hK ▸ h
theorem crK {r : PySem.W.Frag → List V → Hp → VK → Prop} {c : Value} (hK : X.K = K) (h : CallR X c (r X.K)) : CallR X c (r K) := hK ▸ h
theorem pg_tupK {es : List Expr} {k n : Nat} {t : TGs} (hK : X.K = K) (hc : X.calm = true) (h : PGs X es t)
    (hn : (assignEach es X.env).length = n := by rfl) (hst : (assignEach es X.env).findIdx? (·.1) = none := by rfl) : PG X (.Tuple es k pos) (gTup K n t) := hK ▸ pg_tup hc h hn hst
end
/-- behind a constructor all that was ahead of it still stands -/
theorem made_same {H H' : Hp} {x dx : Addr} {o1 o2 : HO} (nx : H x = none) (nd : H dx = none) (b : But x (upd (upd H dx o1) x o2) H') : Same H H' := fun q o e => by
  have h1 : q ≠ x := ne_of_none e nx
  refine b q o h1 ?_
  rw [upd_ne h1, upd_ne (ne_of_none e nd)]
  exact e
/-- a comprehension over nothing -/
theorem lcE {J : It} {Sd : Hp → Prop} (wk : Wk J [] Sd) {g : TG} {tt : TT} {te : TE} {vs : List Nat} {σ : L2.St} {H1 : Hp} {D : Addr} {Qd : Hp → Prop}
    (hst : Sd (upd H1 D (.lst []))) (hd : Qd (upd H1 D (.lst []))) :
    ∃ W : Nat → Nat → Hp → Prop, (∃ m, W 0 m (upd H1 D (.lst []))) ∧ ∀ i m H, W i m H →
      (J.stop i H ∧ Qd H) ∨ (J.go i H ∧ ∃ Nx : Hp → Prop, (∀ H', Nx H' → ∃ m', m' < m ∧ W (i + 1) m' H') ∧ ∀ x H', J.yld i H x H' →
        g x (wipe σ vs) H' fun σ2 H2 => wipe σ2 vs = wipe σ vs ∧ tt σ2 H2 fun b H3 =>
        if b = true then te σ2 H3 fun y H4 => ∃ acc, H4 D = some (.lst acc) ∧ acc.length < sizeLine ∧ Nx (upd H4 D (.lst (acc ++ [y]))) else Nx H3) :=
  lcW wk (fun i H => H = upd H1 D (.lst [])) rfl (fun i H _ e => e ▸ hst) (fun i x H hx _ => by simp at hx) (fun H e => e ▸ hd)
theorem sqT_ty {K : PySem.W.Frag} {H : Hp} {a : Addr} {xs : List V} (h : SqT K H a xs) : TyX K H (.ref a) (.type "tuple") := by
  rcases h with (h | ⟨o, h⟩) | ⟨o, its, n, h, c, _⟩
  · exact .base (.tup h)
  · exact .fTuple h
  · exact .kTuple h c
theorem But.same {p : Addr} {H H1 H2 : Hp} (a : But p H H1) (b : Same H1 H2) : But p H H2 := a.trans (.of b)
end G
/-! own rules, fifth part: the law's call at the head's end, for promises that ask that no guard runs -/
namespace G
open PySem PySem.Spec PyProof.Rows L2
section
variable {P : Program} {w : World} {K : PySem.W.Frag} {mg mb : Str → Option Value} {CX : CXT} {k : Nat}
variable {fa sa : Addr} {fd : FuncData} {x : Str} {sp : Sp} {s : Shared} {us : List Value} {ns : List Int}
/-- what the judge wants of the call's end -/
abbrev LawEnd (s : Shared) : Result → Shared → Prop := fun r t => r = .ok (.ret (.bool true)) ∧ OldK s.heap t.heap ∧ t.os = s.os ∧ AllBare t.gens
/-- the law's promise in an abstract heap where at most the script at sa stands -/
theorem law_core (H : Hp) (only : Only H) (seq : SqL K H sa (ns.map V.int)) (ok : HOk P w H s.heap) (one : ∀ b, H b ≠ none → b = sa) (out : H sa ≠ none → K.lookup sa = none)
    (kin : K.In s.heap) (gl : s.heap.Ns mainGlobals mg) (bl : s.heap.Ns builtinsNs mb) (bb : ∀ y : Str, y ≠ "__name__" → mb y = bootBuiltins y) (lim : s.heap.NoLimit) (gens : s.gens = #[])
    (obj : s.heap.get? sa = some { cls := .type "list", data := .seq us.toArray }) (room : Room k callerA)
    (F : ∀ base : Heap, K.In base → base.Ns mainGlobals mg → FnG P w K mg base CX k fa fd [x] sp) (bind : ∀ (t : Shared) (u : Value), BindsTo t fd ⟨[u], []⟩ [(x, u)])
    (keeps : sp [.ref sa] H (fun v _ => v = .bl true) fun _ _ _ => False) (noX : ∀ e t, CX [] H s (fun _ _ _ => False) e t → False) :
    codeAny (model P w) callerA (.call (.ref fa) ⟨[.ref sa], []⟩) (LawEnd s) s := by
  -- what is no sequence is not the script
  have free : ∀ {b : Addr} {o : Obj}, s.heap.get? b = some o → (∀ i n, o.data ≠ .seq i n) → H b = none := by
    intro b o e d
    cases hb : H b with
    | none => rfl
    | some u =>
      have z : b = sa := one b (by simp [hb])
      rw [z, obj] at e
      exact absurd rfl (Option.some.inj e ▸ d us.toArray 0)
  have sees : ∀ {b : Addr} {m : Str → Option Value}, s.heap.Ns b m → (hidT s.heap H).Ns b m := by
    rintro b m ⟨o, es, ep, e, d, r⟩
    exact ⟨o, es, ep, hidT_get e (free e fun i n z => by rw [d] at z; cases z), d, r⟩
  have kinB : K.In (hidT s.heap H) := by
    intro b o e
    refine hidT_get (kin b o e) ?_
    cases hb : H b with
    | none => rfl
    | some u =>
      have z : b = sa := one b (by simp [hb])
      subst z
      rw [out (by simp [hb])] at e
      cases e
  obtain ⟨mc, c1, c2⟩ := id lim
  have md : Mod K mg (hidT s.heap H) := ⟨kinB, sees gl, ⟨mb, sees bl, bb⟩, mc, sees c1, c2⟩
  have none_in : ∀ b : Addr, b ∉ ([] : List Addr) := fun b z => nomatch z
  have env : Env0 P w K mg (hidT s.heap H) callerA [] s H :=
    ⟨rfl, md, fun b o e => of_hidT e, Nat.le_of_eq (hidT_size _ _), trivial, fun b z => absurd (show b ∈ ([] : List Addr) from z) (none_in b), ok, .of_eq gens⟩
  have run := (F _ kinB (sees gl)).run callerA [] s H ⟨[.ref sa], []⟩ [.ref sa] [.ref sa] _ _ room rfl env (bind s (.ref sa)) (.cons rfl .nil) keeps
  refine codeAny_mono run ?_
  rintro (e | fl) t h
  · exact (noX e t h).elim
  cases fl with
  | ret u =>
    obtain ⟨v, H', os, bare, un, ok', rv, hv⟩ := h
    obtain rfl : v = V.bl true := hv
    obtain rfl : u = Value.bool true := rv
    refine ⟨rfl, .of_keep fun b o e => ?_, os, bare⟩
    cases hb : H b with
    | none => exact un.keep b o e hb (fun z => none_in b z) (by simp)
    | some u =>
      obtain ⟨ob, xs, z⟩ := (only b).resolve_left (by simp [hb])
      obtain ⟨e1, _⟩ := ok b _ z
      obtain ⟨e2, _⟩ := ok' b _ (un.frzs b ob _ z)
      rw [e] at e1
      exact (Option.some.inj e1) ▸ e2
  | next => exact h.elim
  | brk => exact h.elim
  | cont => exact h.elim
theorem law_callG (kin : K.In s.heap) (gl : s.heap.Ns mainGlobals mg) (bl : s.heap.Ns builtinsNs mb) (bb : ∀ y : Str, y ≠ "__name__" → mb y = bootBuiltins y) (lim : s.heap.NoLimit) (gens : s.gens = #[])
    (obj : s.heap.get? sa = some { cls := .type "list", data := .seq us.toArray }) (iv : IntsAre us ns) (fits : ns.length ≤ sizeLine) (room : Room k callerA)
    (F : ∀ base : Heap, K.In base → base.Ns mainGlobals mg → FnG P w K mg base CX k fa fd [x] sp) (bind : ∀ (t : Shared) (u : Value), BindsTo t fd ⟨[u], []⟩ [(x, u)])
    (keeps : ∀ H : Hp, Only H → SqL K H sa (ns.map V.int) → sp [.ref sa] H (fun v _ => v = .bl true) fun _ _ _ => False) (noX : ∀ H e t, CX [] H s (fun _ _ _ => False) e t → False) :
    codeAny (model P w) callerA (.call (.ref fa) ⟨[.ref sa], []⟩) (LawEnd s) s := by
  have vs := vals_ints iv
  have ln := iv.length
  cases own : K.lookup sa with
  | some o =>
    have e := kin sa o own
    rw [obj] at e
    obtain rfl := Option.some.inj e
    have o1 : Only fun _ => none := fun _ => .inl rfl
    have q1 : SqL K (fun _ => none) sa (ns.map V.int) := .inr ⟨_, us.toArray, _, own, rfl, rfl, rfl, by simpa [ln] using fits, by simpa using vs⟩
    exact law_core _ o1 q1 (fun b u z => nomatch z) (fun b z => absurd rfl z) (fun z => absurd rfl z) kin gl bl bb lim gens obj room F bind (keeps _ o1 q1) (noX _)
  | none =>
    let H : Hp := fun b => if b = sa then some (.frz { cls := .type "list", data := .seq us.toArray } (.lst (ns.map V.int))) else none
    have at1 : H sa = some (.frz { cls := .type "list", data := .seq us.toArray } (.lst (ns.map V.int))) := if_pos rfl
    have at0 : ∀ b, b ≠ sa → H b = none := fun b h => if_neg h
    have o1 : Only H := by
      intro b
      by_cases h : b = sa
      · subst h
        exact .inr ⟨_, _, at1⟩
      · exact .inl (at0 b h)
    have q1 : SqL K H sa (ns.map V.int) := .inl (.inr ⟨_, at1⟩)
    refine law_core H o1 q1 ?_ ?_ (fun _ => own) kin gl bl bb lim gens obj room F bind (keeps H o1 q1) (noX H)
    · intro b u z
      by_cases h : b = sa
      · subst h
        rw [at1] at z
        obtain rfl := Option.some.inj z
        exact ⟨obj, by rw [List.length_map]; exact fits, us, _, vs, obj⟩
      · rw [at0 b h] at z
        cases z
    · intro b z
      by_cases h : b = sa
      · exact h
      · exact absurd (at0 b h) z
end
/-- the walk of a law -/
theorem walkG {l : PySem.W.OpenLaw} {n k : Nat} {q : Program} {loose : List Str} {XP : (Str → Option Value) → Heap → Prop} {YP : World → Heap → Prop} {d : DefRec} {CX : CXT} {x : Str}
    (most : l.most = some n) (fits : n ≤ sizeLine) (dfl : d.params.defaults = []) (room : Room k callerA)
    (F : ∀ (w : World) (mg : Str → Option Value) (fa : Addr) (h : Heap), YP w h → h.Ns mainGlobals mg → mg d.name = some (.ref fa) →
      ∃ (K : PySem.W.Frag) (fd : FuncData) (sp : Sp), K.In h ∧ (∀ (s : Shared) (u : Value), BindsTo s fd ⟨[u], []⟩ [(x, u)]) ∧
        (∀ (H : Hp) (a : Addr) (ns : List Int), ns.length ≤ n → Only H → SqL K H a (ns.map V.int) → sp [.ref a] H (fun v _ => v = .bl true) fun _ _ _ => False) ∧
        ∀ base : Heap, K.In base → base.Ns mainGlobals mg → FnG l.prog w K mg base CX k fa fd [x] sp)
    (noX : ∀ (H : Hp) (s : Shared) (e : Value) (s' : Shared), CX [] H s (fun _ _ _ => False) e s' → False) :
    PySem.W.WalkO q loose XP YP l.row.toRowW d [] (fun f vs => PySem.call f vs) := by
  refine Att.attach_call most dfl ?_
  intro w s0 s1 mg mb fa o pm cd doc sa us ns G Y ho hd hcd hmg obj iv len gens
  obtain ⟨K, fd, sp, kin, bind, keeps, Fk⟩ := F w mg fa _ Y G.T.g hmg
  exact law_callG kin G.T.g G.T.b G.T.builtins G.T.nolimit gens obj iv (Nat.le_trans len fits) room Fk bind (fun H o1 q1 => keeps H sa ns len o1 q1) fun H e t => noX H s1 e t
end G
namespace G
open PySem PySem.Spec PyProof.Rows L2
def top (i : Nat) : Stmt := PySem.Challenge.pw_gatecrowds_k02_gates_made.main.body.getD i (.Pass ⟨0, 0, 0, 0⟩)
abbrev s_InvalidName___init__ : Stmt := inClass (top 2) 0
abbrev n_InvalidName___init__ : List Str := ["self", "given"]
theorem sc_InvalidName___init__ : FnScope n_InvalidName___init__ ["self", "given"] (defScope s_InvalidName___init__) := ⟨rfl, rfl, rfl, by decide +kernel, rfl, by decide +kernel, by decide +kernel⟩
abbrev s_InvalidFlag___init__ : Stmt := inClass (top 3) 0
abbrev n_InvalidFlag___init__ : List Str := ["self", "given"]
theorem sc_InvalidFlag___init__ : FnScope n_InvalidFlag___init__ ["self", "given"] (defScope s_InvalidFlag___init__) := ⟨rfl, rfl, rfl, by decide +kernel, rfl, by decide +kernel, by decide +kernel⟩
abbrev s_InvalidRows___init__ : Stmt := inClass (top 4) 0
abbrev n_InvalidRows___init__ : List Str := ["self", "index"]
theorem sc_InvalidRows___init__ : FnScope n_InvalidRows___init__ ["self", "index"] (defScope s_InvalidRows___init__) := ⟨rfl, rfl, rfl, by decide +kernel, rfl, by decide +kernel, by decide +kernel⟩
abbrev s_InvalidMembers___init__ : Stmt := inClass (top 5) 0
abbrev n_InvalidMembers___init__ : List Str := ["self", "index"]
theorem sc_InvalidMembers___init__ : FnScope n_InvalidMembers___init__ ["self", "index"] (defScope s_InvalidMembers___init__) := ⟨rfl, rfl, rfl, by decide +kernel, rfl, by decide +kernel, by decide +kernel⟩
abbrev s_is_name : Stmt := top 12
abbrev n_is_name : List Str := ["value", "sign"]
theorem sc_is_name : FnScope n_is_name ["value"] (defScope s_is_name) := ⟨rfl, rfl, rfl, by decide +kernel, rfl, by decide +kernel, by decide +kernel⟩
abbrev s_Row___init__ : Stmt := inClass (top 16) 0
abbrev n_Row___init__ : List Str := ["self", "text", "label", "word", "gate", "value", "goals"]
theorem sc_Row___init__ : FnScope n_Row___init__ ["self", "text", "label", "word", "gate", "value", "goals"] (defScope s_Row___init__) := ⟨rfl, rfl, rfl, by decide +kernel, rfl, by decide +kernel, by decide +kernel⟩
abbrev s_digit_of : Stmt := top 17
abbrev n_digit_of : List Str := ["word"]
theorem sc_digit_of : FnScope n_digit_of ["word"] (defScope s_digit_of) := ⟨rfl, rfl, rfl, by decide +kernel, rfl, by decide +kernel, by decide +kernel⟩
abbrev s_row_of_words : Stmt := top 18
abbrev n_row_of_words : List Str := ["text", "label", "words", "word", "more", "goal"]
theorem sc_row_of_words : FnScope n_row_of_words ["text", "label", "words"] (defScope s_row_of_words) := ⟨rfl, rfl, rfl, by decide +kernel, rfl, by decide +kernel, by decide +kernel⟩
abbrev s_has_right_parts : Stmt := top 19
abbrev n_has_right_parts : List Str := ["row", "at"]
theorem sc_has_right_parts : FnScope n_has_right_parts ["row"] (defScope s_has_right_parts) := ⟨rfl, rfl, rfl, by decide +kernel, rfl, by decide +kernel, by decide +kernel⟩
abbrev s_parsed_row : Stmt := top 20
abbrev n_parsed_row : List Str := ["text", "label", "sign", "rest", "row"]
theorem sc_parsed_row : FnScope n_parsed_row ["text"] (defScope s_parsed_row) := ⟨rfl, rfl, rfl, by decide +kernel, rfl, by decide +kernel, by decide +kernel⟩
abbrev s_leads_within : Stmt := top 21
abbrev n_leads_within : List Str := ["row", "many", "goal"]
theorem sc_leads_within : FnScope n_leads_within ["row", "many"] (defScope s_leads_within) := ⟨rfl, rfl, rfl, by decide +kernel, rfl, by decide +kernel, by decide +kernel⟩
abbrev s_Gate___init__ : Stmt := inClass (top 23) 0
abbrev n_Gate___init__ : List Str := ["self", "name", "within"]
theorem sc_Gate___init__ : FnScope n_Gate___init__ ["self", "name", "within"] (defScope s_Gate___init__) := ⟨rfl, rfl, rfl, by decide +kernel, rfl, by decide +kernel, by decide +kernel⟩
abbrev s_Gate_name : Stmt := inClass (top 23) 1
abbrev n_Gate_name : List Str := ["self"]
theorem sc_Gate_name : FnScope n_Gate_name ["self"] (defScope s_Gate_name) := ⟨rfl, rfl, rfl, by decide +kernel, rfl, by decide +kernel, by decide +kernel⟩
abbrev s_Gate_within : Stmt := inClass (top 23) 2
abbrev n_Gate_within : List Str := ["self"]
theorem sc_Gate_within : FnScope n_Gate_within ["self"] (defScope s_Gate_within) := ⟨rfl, rfl, rfl, by decide +kernel, rfl, by decide +kernel, by decide +kernel⟩
abbrev s_Gate___eq__ : Stmt := inClass (top 23) 3
abbrev n_Gate___eq__ : List Str := ["self", "other"]
theorem sc_Gate___eq__ : FnScope n_Gate___eq__ ["self", "other"] (defScope s_Gate___eq__) := ⟨rfl, rfl, rfl, by decide +kernel, rfl, by decide +kernel, by decide +kernel⟩
abbrev s_Kind___init__ : Stmt := inClass (top 24) 0
abbrev n_Kind___init__ : List Str := ["self", "name", "rows", "many", "members"]
theorem sc_Kind___init__ : FnScope n_Kind___init__ ["self", "name", "rows", "many", "members"] (defScope s_Kind___init__) := ⟨rfl, rfl, rfl, by decide +kernel, rfl, by decide +kernel, by decide +kernel⟩
abbrev s_Kind_name : Stmt := inClass (top 24) 1
abbrev n_Kind_name : List Str := ["self"]
theorem sc_Kind_name : FnScope n_Kind_name ["self"] (defScope s_Kind_name) := ⟨rfl, rfl, rfl, by decide +kernel, rfl, by decide +kernel, by decide +kernel⟩
abbrev s_Kind_rows : Stmt := inClass (top 24) 2
abbrev n_Kind_rows : List Str := ["self"]
theorem sc_Kind_rows : FnScope n_Kind_rows ["self"] (defScope s_Kind_rows) := ⟨rfl, rfl, rfl, by decide +kernel, rfl, by decide +kernel, by decide +kernel⟩
abbrev s_Kind_many : Stmt := inClass (top 24) 3
abbrev n_Kind_many : List Str := ["self"]
theorem sc_Kind_many : FnScope n_Kind_many ["self"] (defScope s_Kind_many) := ⟨rfl, rfl, rfl, by decide +kernel, rfl, by decide +kernel, by decide +kernel⟩
abbrev s_Kind_members : Stmt := inClass (top 24) 4
abbrev n_Kind_members : List Str := ["self"]
theorem sc_Kind_members : FnScope n_Kind_members ["self"] (defScope s_Kind_members) := ⟨rfl, rfl, rfl, by decide +kernel, rfl, by decide +kernel, by decide +kernel⟩
abbrev s_Kind___eq__ : Stmt := inClass (top 24) 5
abbrev n_Kind___eq__ : List Str := ["self", "other"]
theorem sc_Kind___eq__ : FnScope n_Kind___eq__ ["self", "other"] (defScope s_Kind___eq__) := ⟨rfl, rfl, rfl, by decide +kernel, rfl, by decide +kernel, by decide +kernel⟩
abbrev s_Kind___len__ : Stmt := inClass (top 24) 6
abbrev n_Kind___len__ : List Str := ["self"]
theorem sc_Kind___len__ : FnScope n_Kind___len__ ["self"] (defScope s_Kind___len__) := ⟨rfl, rfl, rfl, by decide +kernel, rfl, by decide +kernel, by decide +kernel⟩
abbrev s_parsed_rows : Stmt := top 25
abbrev n_parsed_rows : List Str := ["rows", "found", "index", "text", "row"]
theorem sc_parsed_rows : FnScope n_parsed_rows ["rows"] (defScope s_parsed_rows) := ⟨rfl, rfl, rfl, by decide +kernel, rfl, by decide +kernel, by decide +kernel⟩
abbrev s_check_members : Stmt := top 26
abbrev n_check_members : List Str := ["members", "index", "name"]
theorem sc_check_members : FnScope n_check_members ["members"] (defScope s_check_members) := ⟨rfl, rfl, rfl, by decide +kernel, rfl, by decide +kernel, by decide +kernel⟩
abbrev s__law_pool : Stmt := top 28
abbrev n__law_pool : List Str := ["_law_script", "_law_k", "_law_cell", "_law_digits"]
theorem sc__law_pool : FnScope n__law_pool ["_law_script", "_law_k"] (defScope s__law_pool) := ⟨rfl, rfl, rfl, by decide +kernel, rfl, by decide +kernel, by decide +kernel⟩
abbrev s__law_draw : Stmt := top 29
abbrev n__law_draw : List Str := ["_law_pool_here", "_law_most", "_law_digit"]
theorem sc__law_draw : FnScope n__law_draw ["_law_pool_here", "_law_most"] (defScope s__law_draw) := ⟨rfl, rfl, rfl, by decide +kernel, rfl, by decide +kernel, by decide +kernel⟩
abbrev s__law_tag : Stmt := top 30
abbrev n__law_tag : List Str := ["_law_pool_here", "_law_words", "_law_signs", "_law_size", "_law_k"]
theorem sc__law_tag : FnScope n__law_tag ["_law_pool_here"] (defScope s__law_tag) := ⟨rfl, rfl, rfl, by decide +kernel, rfl, by decide +kernel, by decide +kernel⟩
abbrev s__law_around : Stmt := top 31
abbrev n__law_around : List Str := ["_law_pool_here"]
theorem sc__law_around : FnScope n__law_around ["_law_pool_here"] (defScope s__law_around) := ⟨rfl, rfl, rfl, by decide +kernel, rfl, by decide +kernel, by decide +kernel⟩
abbrev s__law_near : Stmt := top 32
abbrev n__law_near : List Str := ["_law_pool_here", "_law_tag_here", "_law_at", "_law_sign", "_law_way"]
theorem sc__law_near : FnScope n__law_near ["_law_pool_here", "_law_tag_here"] (defScope s__law_near) := ⟨rfl, rfl, rfl, by decide +kernel, rfl, by decide +kernel, by decide +kernel⟩
abbrev s__law_is : Stmt := top 33
abbrev n__law_is : List Str := ["_law_gate", "_law_tag_here", "_law_outer"]
theorem sc__law_is : FnScope n__law_is ["_law_gate", "_law_tag_here", "_law_outer"] (defScope s__law_is) := ⟨rfl, rfl, rfl, by decide +kernel, rfl, by decide +kernel, by decide +kernel⟩
abbrev s__law_right : Stmt := top 34
abbrev n__law_right : List Str := ["_law_pool_here", "_law_tag_here", "_law_outer", "_law_way", "_law_other", "_law_far", "_law_one", "_law_two", "_law_same", "_law_others", "_law_thing"]
theorem sc__law_right : FnScope n__law_right ["_law_pool_here"] (defScope s__law_right) := ⟨rfl, rfl, rfl, by decide +kernel, rfl, by decide +kernel, by decide +kernel⟩
abbrev s_law : Stmt := top 35
abbrev n_law : List Str := ["_law_script", "_law_k", "_law_pool_here", "_law_turn"]
theorem sc_law : FnScope n_law ["_law_script"] (defScope s_law) := ⟨rfl, rfl, rfl, by decide +kernel, rfl, by decide +kernel, by decide +kernel⟩
/-- the keyword-only default x of the def at f, if it is an object -/
def kwdAt (f : Str × Option Str) (x : Str) (K : PySem.W.Frag) : Addr := match K.lookup (He.fAd K f) with
  | some ⟨_, _, .func fd, _⟩ => (match fd.kwdefaults with
    | .ref D => (match PySem.W.nsIn K D x with
      | some (some (.ref a)) => a
      | _ => 0)
    | _ => 0)
  | _ => 0
def d_is_name : He.DefD := ⟨("is_name", none), "is_name", "is_name", defArgs s_is_name, defBody s_is_name, defScope s_is_name, [], []⟩
def d_Row___init__ : He.DefD := ⟨("Row", some "__init__"), "__init__", "Row.__init__", defArgs s_Row___init__, defBody s_Row___init__, defScope s_Row___init__, [], [("gate", .non), ("value", .non), ("goals", .adr (kwdAt ("Row", some "__init__") "goals"))]⟩
def d_digit_of : He.DefD := ⟨("digit_of", none), "digit_of", "digit_of", defArgs s_digit_of, defBody s_digit_of, defScope s_digit_of, [], []⟩
def d_row_of_words : He.DefD := ⟨("row_of_words", none), "row_of_words", "row_of_words", defArgs s_row_of_words, defBody s_row_of_words, defScope s_row_of_words, [], []⟩
def d_has_right_parts : He.DefD := ⟨("has_right_parts", none), "has_right_parts", "has_right_parts", defArgs s_has_right_parts, defBody s_has_right_parts, defScope s_has_right_parts, [], []⟩
def d_parsed_row : He.DefD := ⟨("parsed_row", none), "parsed_row", "parsed_row", defArgs s_parsed_row, defBody s_parsed_row, defScope s_parsed_row, [], []⟩
def d_leads_within : He.DefD := ⟨("leads_within", none), "leads_within", "leads_within", defArgs s_leads_within, defBody s_leads_within, defScope s_leads_within, [], []⟩
def d_Gate___init__ : He.DefD := ⟨("Gate", some "__init__"), "__init__", "Gate.__init__", defArgs s_Gate___init__, defBody s_Gate___init__, defScope s_Gate___init__, [.non], []⟩
def d_Gate___eq__ : He.DefD := ⟨("Gate", some "__eq__"), "__eq__", "Gate.__eq__", defArgs s_Gate___eq__, defBody s_Gate___eq__, defScope s_Gate___eq__, [], []⟩
def d_Kind___init__ : He.DefD := ⟨("Kind", some "__init__"), "__init__", "Kind.__init__", defArgs s_Kind___init__, defBody s_Kind___init__, defScope s_Kind___init__, [], [("many", .bl false), ("members", .adr (kwdAt ("Kind", some "__init__") "members"))]⟩
def d_Kind___eq__ : He.DefD := ⟨("Kind", some "__eq__"), "__eq__", "Kind.__eq__", defArgs s_Kind___eq__, defBody s_Kind___eq__, defScope s_Kind___eq__, [], []⟩
def d_Kind___len__ : He.DefD := ⟨("Kind", some "__len__"), "__len__", "Kind.__len__", defArgs s_Kind___len__, defBody s_Kind___len__, defScope s_Kind___len__, [], []⟩
def d_parsed_rows : He.DefD := ⟨("parsed_rows", none), "parsed_rows", "parsed_rows", defArgs s_parsed_rows, defBody s_parsed_rows, defScope s_parsed_rows, [], []⟩
def d_check_members : He.DefD := ⟨("check_members", none), "check_members", "check_members", defArgs s_check_members, defBody s_check_members, defScope s_check_members, [], []⟩
def d__law_pool : He.DefD := ⟨("_law_pool", none), "_law_pool", "_law_pool", defArgs s__law_pool, defBody s__law_pool, defScope s__law_pool, [], []⟩
def d__law_draw : He.DefD := ⟨("_law_draw", none), "_law_draw", "_law_draw", defArgs s__law_draw, defBody s__law_draw, defScope s__law_draw, [], []⟩
def d__law_tag : He.DefD := ⟨("_law_tag", none), "_law_tag", "_law_tag", defArgs s__law_tag, defBody s__law_tag, defScope s__law_tag, [], []⟩
def d__law_around : He.DefD := ⟨("_law_around", none), "_law_around", "_law_around", defArgs s__law_around, defBody s__law_around, defScope s__law_around, [], []⟩
def d__law_near : He.DefD := ⟨("_law_near", none), "_law_near", "_law_near", defArgs s__law_near, defBody s__law_near, defScope s__law_near, [], []⟩
def d__law_is : He.DefD := ⟨("_law_is", none), "_law_is", "_law_is", defArgs s__law_is, defBody s__law_is, defScope s__law_is, [], []⟩
def d__law_right : He.DefD := ⟨("_law_right", none), "_law_right", "_law_right", defArgs s__law_right, defBody s__law_right, defScope s__law_right, [], []⟩
def d_law : He.DefD := ⟨("law", none), "law", "law", defArgs s_law, defBody s_law, defScope s_law, [], []⟩
structure Tx (K : PySem.W.Frag) (mg : Str → Option Value) : Prop where
  f_isinstance : mg "isinstance" = none
  f_str : mg "str" = none
  f_len : mg "len" = none
  f_all : mg "all" = none
  f_int : mg "int" = none
  f_tuple : mg "tuple" = none
  f_range : mg "range" = none
  f_enumerate : mg "enumerate" = none
  f_sum : mg "sum" = none
  f_abs : mg "abs" = none
  f_divmod : mg "divmod" = none
  f_repr : mg "repr" = none
  f_max : mg "max" = none
  f_min : mg "min" = none
  g_MOST_ROWS : ∃ u, mg "MOST_ROWS" = some u ∧ RelV (.int 10) u
  g_MOST_VALUE : ∃ u, mg "MOST_VALUE" = some u ∧ RelV (.int 3) u
  g_LONGEST_NAME : ∃ u, mg "LONGEST_NAME" = some u ∧ RelV (.int 8) u
  g_LETTERS : ∃ u, mg "LETTERS" = some u ∧ RelV (.str "abcdefghijklmnopqrstuvwxyz") u
  g_SIGNS : ∃ u, mg "SIGNS" = some u ∧ RelV (.str "abcdefghijklmnopqrstuvwxyz0123456789") u
  g_DIGITS : ∃ u, mg "DIGITS" = some u ∧ RelV (.str "0123456789") u
  g_MOST_GOALS : ∃ u, mg "MOST_GOALS" = some u ∧ RelV (.int 4) u
  g_WrongValue : ∃ u, mg "WrongValue" = some u ∧ RelV (.ref (He.ga K "WrongValue")) u
  g_InvalidName : ∃ u, mg "InvalidName" = some u ∧ RelV (.ref (He.ga K "InvalidName")) u
  g_InvalidFlag : ∃ u, mg "InvalidFlag" = some u ∧ RelV (.ref (He.ga K "InvalidFlag")) u
  g_InvalidRows : ∃ u, mg "InvalidRows" = some u ∧ RelV (.ref (He.ga K "InvalidRows")) u
  g_InvalidMembers : ∃ u, mg "InvalidMembers" = some u ∧ RelV (.ref (He.ga K "InvalidMembers")) u
  g_Row : ∃ u, mg "Row" = some u ∧ RelV (.ref (He.ga K "Row")) u
  c_Row : Cls K (He.ga K "Row")
  na_Row_goal : NoAttr K (He.ga K "Row") "goal"
  na_Row_text : NoAttr K (He.ga K "Row") "text"
  na_Row_label : NoAttr K (He.ga K "Row") "label"
  na_Row_word : NoAttr K (He.ga K "Row") "word"
  na_Row_gate : NoAttr K (He.ga K "Row") "gate"
  na_Row_value : NoAttr K (He.ga K "Row") "value"
  na_Row_goals : NoAttr K (He.ga K "Row") "goals"
  mk_Row : Mk K (He.ga K "Row") (He.ma K (He.ga K "Row") "__init__")
  g_Gate : ∃ u, mg "Gate" = some u ∧ RelV (.ref (He.ga K "Gate")) u
  c_Gate : Cls K (He.ga K "Gate")
  na_Gate_called : NoAttr K (He.ga K "Gate") "called"
  na_Gate_outer : NoAttr K (He.ga K "Gate") "outer"
  mk_Gate : Mk K (He.ga K "Gate") (He.ma K (He.ga K "Gate") "__init__")
  g_Kind : ∃ u, mg "Kind" = some u ∧ RelV (.ref (He.ga K "Kind")) u
  c_Kind : Cls K (He.ga K "Kind")
  na_Kind_called : NoAttr K (He.ga K "Kind") "called"
  na_Kind_texts : NoAttr K (He.ga K "Kind") "texts"
  na_Kind_parsed : NoAttr K (He.ga K "Kind") "parsed"
  na_Kind_any_number : NoAttr K (He.ga K "Kind") "any_number"
  na_Kind_begun : NoAttr K (He.ga K "Kind") "begun"
  mk_Kind : Mk K (He.ga K "Kind") (He.ma K (He.ga K "Kind") "__init__")
  n_is_name : mg "is_name" = some (.ref (He.ga K "is_name"))
  n_digit_of : mg "digit_of" = some (.ref (He.ga K "digit_of"))
  n_row_of_words : mg "row_of_words" = some (.ref (He.ga K "row_of_words"))
  n_has_right_parts : mg "has_right_parts" = some (.ref (He.ga K "has_right_parts"))
  n_parsed_row : mg "parsed_row" = some (.ref (He.ga K "parsed_row"))
  n_leads_within : mg "leads_within" = some (.ref (He.ga K "leads_within"))
  n_parsed_rows : mg "parsed_rows" = some (.ref (He.ga K "parsed_rows"))
  n_check_members : mg "check_members" = some (.ref (He.ga K "check_members"))
  n__law_pool : mg "_law_pool" = some (.ref (He.ga K "_law_pool"))
  n__law_draw : mg "_law_draw" = some (.ref (He.ga K "_law_draw"))
  n__law_tag : mg "_law_tag" = some (.ref (He.ga K "_law_tag"))
  n__law_around : mg "_law_around" = some (.ref (He.ga K "_law_around"))
  n__law_near : mg "_law_near" = some (.ref (He.ga K "_law_near"))
  n__law_is : mg "_law_is" = some (.ref (He.ga K "_law_is"))
  n__law_right : mg "_law_right" = some (.ref (He.ga K "_law_right"))
  n_law : mg "law" = some (.ref (He.ga K "law"))
  i_Row : ClsI K (He.ga K "Row")
  nb_Row : PySem.W.findIn K (.ref (He.ga K "Row")) "__bool__" = some none
  nl_Row : PySem.W.findIn K (.ref (He.ga K "Row")) "__len__" = some none
  j_Row_Gate : ClsJ K (He.ga K "Row") (He.ga K "Gate")
  j_Row_Kind : ClsJ K (He.ga K "Row") (He.ga K "Kind")
  i_Gate : ClsI K (He.ga K "Gate")
  e_Gate : EqC K (He.ga K "Gate") (He.ma K (He.ga K "Gate") "__eq__")
  nb_Gate : PySem.W.findIn K (.ref (He.ga K "Gate")) "__bool__" = some none
  nl_Gate : PySem.W.findIn K (.ref (He.ga K "Gate")) "__len__" = some none
  j_Gate_Row : ClsJ K (He.ga K "Gate") (He.ga K "Row")
  j_Gate_Kind : ClsJ K (He.ga K "Gate") (He.ga K "Kind")
  i_Kind : ClsI K (He.ga K "Kind")
  e_Kind : EqC K (He.ga K "Kind") (He.ma K (He.ga K "Kind") "__eq__")
  nb_Kind : PySem.W.findIn K (.ref (He.ga K "Kind")) "__bool__" = some none
  l_Kind : PySem.W.findIn K (.ref (He.ga K "Kind")) "__len__" = some (some (.ref (He.ma K (He.ga K "Kind") "__len__"))) ∧ PySem.W.isFn K (.ref (He.ma K (He.ga K "Kind") "__len__")) = true
  j_Kind_Row : ClsJ K (He.ga K "Kind") (He.ga K "Row")
  j_Kind_Gate : ClsJ K (He.ga K "Kind") (He.ga K "Gate")
  kt_Row___init___goals : ∀ H, SqT K H (kwdAt ("Row", some "__init__") "goals" K) []
  kt_Kind___init___members : ∀ H, SqT K H (kwdAt ("Kind", some "__init__") "members" K) []
  p_Gate_name : ∀ (P : Program) (w : World) (base : Heap), GetP P w K mg base 1 (He.ga K "Gate") "name" "called"
  p_Gate_within : ∀ (P : Program) (w : World) (base : Heap), GetP P w K mg base 1 (He.ga K "Gate") "within" "outer"
  p_Kind_name : ∀ (P : Program) (w : World) (base : Heap), GetP P w K mg base 1 (He.ga K "Kind") "name" "called"
  p_Kind_rows : ∀ (P : Program) (w : World) (base : Heap), GetP P w K mg base 1 (He.ga K "Kind") "rows" "texts"
  p_Kind_many : ∀ (P : Program) (w : World) (base : Heap), GetP P w K mg base 1 (He.ga K "Kind") "many" "any_number"
  p_Kind_members : ∀ (P : Program) (w : World) (base : Heap), GetP P w K mg base 1 (He.ga K "Kind") "members" "begun"
  d_is_name : ∃ fd, FunD K d_is_name.name d_is_name.qual d_is_name.params d_is_name.body d_is_name.scope (d_is_name.dvs K) (d_is_name.kws K) (He.fAd K d_is_name.at_) fd
  d_Row___init__ : ∃ fd, FunD K d_Row___init__.name d_Row___init__.qual d_Row___init__.params d_Row___init__.body d_Row___init__.scope (d_Row___init__.dvs K) (d_Row___init__.kws K) (He.fAd K d_Row___init__.at_) fd
  d_digit_of : ∃ fd, FunD K d_digit_of.name d_digit_of.qual d_digit_of.params d_digit_of.body d_digit_of.scope (d_digit_of.dvs K) (d_digit_of.kws K) (He.fAd K d_digit_of.at_) fd
  d_row_of_words : ∃ fd, FunD K d_row_of_words.name d_row_of_words.qual d_row_of_words.params d_row_of_words.body d_row_of_words.scope (d_row_of_words.dvs K) (d_row_of_words.kws K) (He.fAd K d_row_of_words.at_) fd
  d_has_right_parts : ∃ fd, FunD K d_has_right_parts.name d_has_right_parts.qual d_has_right_parts.params d_has_right_parts.body d_has_right_parts.scope (d_has_right_parts.dvs K) (d_has_right_parts.kws K) (He.fAd K d_has_right_parts.at_) fd
  d_parsed_row : ∃ fd, FunD K d_parsed_row.name d_parsed_row.qual d_parsed_row.params d_parsed_row.body d_parsed_row.scope (d_parsed_row.dvs K) (d_parsed_row.kws K) (He.fAd K d_parsed_row.at_) fd
  d_leads_within : ∃ fd, FunD K d_leads_within.name d_leads_within.qual d_leads_within.params d_leads_within.body d_leads_within.scope (d_leads_within.dvs K) (d_leads_within.kws K) (He.fAd K d_leads_within.at_) fd
  d_Gate___init__ : ∃ fd, FunD K d_Gate___init__.name d_Gate___init__.qual d_Gate___init__.params d_Gate___init__.body d_Gate___init__.scope (d_Gate___init__.dvs K) (d_Gate___init__.kws K) (He.fAd K d_Gate___init__.at_) fd
  d_Gate___eq__ : ∃ fd, FunD K d_Gate___eq__.name d_Gate___eq__.qual d_Gate___eq__.params d_Gate___eq__.body d_Gate___eq__.scope (d_Gate___eq__.dvs K) (d_Gate___eq__.kws K) (He.fAd K d_Gate___eq__.at_) fd
  d_Kind___init__ : ∃ fd, FunD K d_Kind___init__.name d_Kind___init__.qual d_Kind___init__.params d_Kind___init__.body d_Kind___init__.scope (d_Kind___init__.dvs K) (d_Kind___init__.kws K) (He.fAd K d_Kind___init__.at_) fd
  d_Kind___eq__ : ∃ fd, FunD K d_Kind___eq__.name d_Kind___eq__.qual d_Kind___eq__.params d_Kind___eq__.body d_Kind___eq__.scope (d_Kind___eq__.dvs K) (d_Kind___eq__.kws K) (He.fAd K d_Kind___eq__.at_) fd
  d_Kind___len__ : ∃ fd, FunD K d_Kind___len__.name d_Kind___len__.qual d_Kind___len__.params d_Kind___len__.body d_Kind___len__.scope (d_Kind___len__.dvs K) (d_Kind___len__.kws K) (He.fAd K d_Kind___len__.at_) fd
  d_parsed_rows : ∃ fd, FunD K d_parsed_rows.name d_parsed_rows.qual d_parsed_rows.params d_parsed_rows.body d_parsed_rows.scope (d_parsed_rows.dvs K) (d_parsed_rows.kws K) (He.fAd K d_parsed_rows.at_) fd
  d_check_members : ∃ fd, FunD K d_check_members.name d_check_members.qual d_check_members.params d_check_members.body d_check_members.scope (d_check_members.dvs K) (d_check_members.kws K) (He.fAd K d_check_members.at_) fd
  d__law_pool : ∃ fd, FunD K d__law_pool.name d__law_pool.qual d__law_pool.params d__law_pool.body d__law_pool.scope (d__law_pool.dvs K) (d__law_pool.kws K) (He.fAd K d__law_pool.at_) fd
  d__law_draw : ∃ fd, FunD K d__law_draw.name d__law_draw.qual d__law_draw.params d__law_draw.body d__law_draw.scope (d__law_draw.dvs K) (d__law_draw.kws K) (He.fAd K d__law_draw.at_) fd
  d__law_tag : ∃ fd, FunD K d__law_tag.name d__law_tag.qual d__law_tag.params d__law_tag.body d__law_tag.scope (d__law_tag.dvs K) (d__law_tag.kws K) (He.fAd K d__law_tag.at_) fd
  d__law_around : ∃ fd, FunD K d__law_around.name d__law_around.qual d__law_around.params d__law_around.body d__law_around.scope (d__law_around.dvs K) (d__law_around.kws K) (He.fAd K d__law_around.at_) fd
  d__law_near : ∃ fd, FunD K d__law_near.name d__law_near.qual d__law_near.params d__law_near.body d__law_near.scope (d__law_near.dvs K) (d__law_near.kws K) (He.fAd K d__law_near.at_) fd
  d__law_is : ∃ fd, FunD K d__law_is.name d__law_is.qual d__law_is.params d__law_is.body d__law_is.scope (d__law_is.dvs K) (d__law_is.kws K) (He.fAd K d__law_is.at_) fd
  d__law_right : ∃ fd, FunD K d__law_right.name d__law_right.qual d__law_right.params d__law_right.body d__law_right.scope (d__law_right.dvs K) (d__law_right.kws K) (He.fAd K d__law_right.at_) fd
  d_law : ∃ fd, FunD K d_law.name d_law.qual d_law.params d_law.body d_law.scope (d_law.dvs K) (d_law.kws K) (He.fAd K d_law.at_) fd
def fa : List He.Fa := [.free "isinstance", .free "str", .free "len", .free "all", .free "int", .free "tuple", .free "range", .free "enumerate", .free "sum", .free "abs", .free "divmod", .free "repr", .free "max", .free "min", .int "MOST_ROWS" 10, .int "MOST_VALUE" 3, .int "LONGEST_NAME" 8, .str "LETTERS" "abcdefghijklmnopqrstuvwxyz", .str "SIGNS" "abcdefghijklmnopqrstuvwxyz0123456789", .str "DIGITS" "0123456789", .int "MOST_GOALS" 4, .glo "WrongValue", .glo "InvalidName", .glo "InvalidFlag", .glo "InvalidRows", .glo "InvalidMembers", .glo "Row", .cls "Row", .noat "Row" "goal", .noat "Row" "text", .noat "Row" "label", .noat "Row" "word", .noat "Row" "gate", .noat "Row" "value", .noat "Row" "goals", .mkr "Row", .glo "Gate", .cls "Gate", .noat "Gate" "called", .noat "Gate" "outer", .mkr "Gate", .glo "Kind", .cls "Kind", .noat "Kind" "called", .noat "Kind" "texts", .noat "Kind" "parsed", .noat "Kind" "any_number", .noat "Kind" "begun", .mkr "Kind", .glo "is_name", .glo "digit_of", .glo "row_of_words", .glo "has_right_parts", .glo "parsed_row", .glo "leads_within", .glo "parsed_rows", .glo "check_members", .glo "_law_pool", .glo "_law_draw", .glo "_law_tag", .glo "_law_around", .glo "_law_near", .glo "_law_is", .glo "_law_right", .glo "law"]
def fn : List He.DefD := [d_is_name, d_Row___init__, d_digit_of, d_row_of_words, d_has_right_parts, d_parsed_row, d_leads_within, d_Gate___init__, d_Gate___eq__, d_Kind___init__, d_Kind___eq__, d_Kind___len__, d_parsed_rows, d_check_members, d__law_pool, d__law_draw, d__law_tag, d__law_around, d__law_near, d__law_is, d__law_right, d_law]
def exs : List (PySem.W.Frag → Bool) := [clsIB "Row", noB "Row" "__bool__", noB "Row" "__len__", clsJB "Row" "Gate", clsJB "Row" "Kind", clsIB "Gate", eqCB "Gate", noB "Gate" "__bool__", noB "Gate" "__len__", clsJB "Gate" "Row", clsJB "Gate" "Kind", clsIB "Kind", eqCB "Kind", noB "Kind" "__bool__", lenB "Kind", clsJB "Kind" "Row", clsJB "Kind" "Gate", (fun K => noneIn K (kwdAt ("Row", some "__init__") "goals" K)), (fun K => noneIn K (kwdAt ("Kind", some "__init__") "members" K))]
def gets : List GetD := [⟨"Gate", "name", "property", defArgs s_Gate_name, defBody s_Gate_name, defScope s_Gate_name⟩, ⟨"Gate", "within", "property", defArgs s_Gate_within, defBody s_Gate_within, defScope s_Gate_within⟩, ⟨"Kind", "name", "property", defArgs s_Kind_name, defBody s_Kind_name, defScope s_Kind_name⟩, ⟨"Kind", "rows", "property", defArgs s_Kind_rows, defBody s_Kind_rows, defScope s_Kind_rows⟩, ⟨"Kind", "many", "property", defArgs s_Kind_many, defBody s_Kind_many, defScope s_Kind_many⟩, ⟨"Kind", "members", "property", defArgs s_Kind_members, defBody s_Kind_members, defScope s_Kind_members⟩]
theorem tx_of {K : PySem.W.Frag} {h : Heap} {mg : Str → Option Value} (X : K.In h) (G : h.Ns mainGlobals mg) (cg : SaysG fa fn gets exs K) : Tx K mg := by
  have c := cg.d
  exact {
    f_isinstance := He.free_ok X G (c.fact 0 rfl)
    f_str := He.free_ok X G (c.fact 1 rfl)
    f_len := He.free_ok X G (c.fact 2 rfl)
    f_all := He.free_ok X G (c.fact 3 rfl)
    f_int := He.free_ok X G (c.fact 4 rfl)
    f_tuple := He.free_ok X G (c.fact 5 rfl)
    f_range := He.free_ok X G (c.fact 6 rfl)
    f_enumerate := He.free_ok X G (c.fact 7 rfl)
    f_sum := He.free_ok X G (c.fact 8 rfl)
    f_abs := He.free_ok X G (c.fact 9 rfl)
    f_divmod := He.free_ok X G (c.fact 10 rfl)
    f_repr := He.free_ok X G (c.fact 11 rfl)
    f_max := He.free_ok X G (c.fact 12 rfl)
    f_min := He.free_ok X G (c.fact 13 rfl)
    g_MOST_ROWS := (He.int_ok X G (c.fact 14 rfl)).elim fun t e => ⟨_, e, t, rfl⟩
    g_MOST_VALUE := (He.int_ok X G (c.fact 15 rfl)).elim fun t e => ⟨_, e, t, rfl⟩
    g_LONGEST_NAME := (He.int_ok X G (c.fact 16 rfl)).elim fun t e => ⟨_, e, t, rfl⟩
    g_LETTERS := (He.str_ok X G (c.fact 17 rfl)).elim fun t e => ⟨_, e, t, rfl⟩
    g_SIGNS := (He.str_ok X G (c.fact 18 rfl)).elim fun t e => ⟨_, e, t, rfl⟩
    g_DIGITS := (He.str_ok X G (c.fact 19 rfl)).elim fun t e => ⟨_, e, t, rfl⟩
    g_MOST_GOALS := (He.int_ok X G (c.fact 20 rfl)).elim fun t e => ⟨_, e, t, rfl⟩
    g_WrongValue := ⟨_, He.glo_ok X G (c.fact 21 rfl), rfl⟩
    g_InvalidName := ⟨_, He.glo_ok X G (c.fact 22 rfl), rfl⟩
    g_InvalidFlag := ⟨_, He.glo_ok X G (c.fact 23 rfl), rfl⟩
    g_InvalidRows := ⟨_, He.glo_ok X G (c.fact 24 rfl), rfl⟩
    g_InvalidMembers := ⟨_, He.glo_ok X G (c.fact 25 rfl), rfl⟩
    g_Row := ⟨_, He.glo_ok X G (c.fact 26 rfl), rfl⟩
    c_Row := He.cls_ok (c.fact 27 rfl)
    na_Row_goal := He.noat_ok (c.fact 28 rfl)
    na_Row_text := He.noat_ok (c.fact 29 rfl)
    na_Row_label := He.noat_ok (c.fact 30 rfl)
    na_Row_word := He.noat_ok (c.fact 31 rfl)
    na_Row_gate := He.noat_ok (c.fact 32 rfl)
    na_Row_value := He.noat_ok (c.fact 33 rfl)
    na_Row_goals := He.noat_ok (c.fact 34 rfl)
    mk_Row := He.mkr_ok (c.fact 35 rfl)
    g_Gate := ⟨_, He.glo_ok X G (c.fact 36 rfl), rfl⟩
    c_Gate := He.cls_ok (c.fact 37 rfl)
    na_Gate_called := He.noat_ok (c.fact 38 rfl)
    na_Gate_outer := He.noat_ok (c.fact 39 rfl)
    mk_Gate := He.mkr_ok (c.fact 40 rfl)
    g_Kind := ⟨_, He.glo_ok X G (c.fact 41 rfl), rfl⟩
    c_Kind := He.cls_ok (c.fact 42 rfl)
    na_Kind_called := He.noat_ok (c.fact 43 rfl)
    na_Kind_texts := He.noat_ok (c.fact 44 rfl)
    na_Kind_parsed := He.noat_ok (c.fact 45 rfl)
    na_Kind_any_number := He.noat_ok (c.fact 46 rfl)
    na_Kind_begun := He.noat_ok (c.fact 47 rfl)
    mk_Kind := He.mkr_ok (c.fact 48 rfl)
    n_is_name := He.glo_ok X G (c.fact 49 rfl)
    n_digit_of := He.glo_ok X G (c.fact 50 rfl)
    n_row_of_words := He.glo_ok X G (c.fact 51 rfl)
    n_has_right_parts := He.glo_ok X G (c.fact 52 rfl)
    n_parsed_row := He.glo_ok X G (c.fact 53 rfl)
    n_leads_within := He.glo_ok X G (c.fact 54 rfl)
    n_parsed_rows := He.glo_ok X G (c.fact 55 rfl)
    n_check_members := He.glo_ok X G (c.fact 56 rfl)
    n__law_pool := He.glo_ok X G (c.fact 57 rfl)
    n__law_draw := He.glo_ok X G (c.fact 58 rfl)
    n__law_tag := He.glo_ok X G (c.fact 59 rfl)
    n__law_around := He.glo_ok X G (c.fact 60 rfl)
    n__law_near := He.glo_ok X G (c.fact 61 rfl)
    n__law_is := He.glo_ok X G (c.fact 62 rfl)
    n__law_right := He.glo_ok X G (c.fact 63 rfl)
    n_law := He.glo_ok X G (c.fact 64 rfl)
    d_is_name := c.def_ 0 rfl
    d_Row___init__ := c.def_ 1 rfl
    d_digit_of := c.def_ 2 rfl
    d_row_of_words := c.def_ 3 rfl
    d_has_right_parts := c.def_ 4 rfl
    d_parsed_row := c.def_ 5 rfl
    d_leads_within := c.def_ 6 rfl
    d_Gate___init__ := c.def_ 7 rfl
    d_Gate___eq__ := c.def_ 8 rfl
    d_Kind___init__ := c.def_ 9 rfl
    d_Kind___eq__ := c.def_ 10 rfl
    d_Kind___len__ := c.def_ 11 rfl
    d_parsed_rows := c.def_ 12 rfl
    d_check_members := c.def_ 13 rfl
    d__law_pool := c.def_ 14 rfl
    d__law_draw := c.def_ 15 rfl
    d__law_tag := c.def_ 16 rfl
    d__law_around := c.def_ 17 rfl
    d__law_near := c.def_ 18 rfl
    d__law_is := c.def_ 19 rfl
    d__law_right := c.def_ 20 rfl
    d_law := c.def_ 21 rfl
    i_Row := clsI_of (cg.more 0 rfl)
    nb_Row := no_of (cg.more 1 rfl)
    nl_Row := no_of (cg.more 2 rfl)
    j_Row_Gate := clsJ_of (cg.more 3 rfl)
    j_Row_Kind := clsJ_of (cg.more 4 rfl)
    i_Gate := clsI_of (cg.more 5 rfl)
    e_Gate := eqC_of (cg.more 6 rfl)
    nb_Gate := no_of (cg.more 7 rfl)
    nl_Gate := no_of (cg.more 8 rfl)
    j_Gate_Row := clsJ_of (cg.more 9 rfl)
    j_Gate_Kind := clsJ_of (cg.more 10 rfl)
    i_Kind := clsI_of (cg.more 11 rfl)
    e_Kind := eqC_of (cg.more 12 rfl)
    nb_Kind := no_of (cg.more 13 rfl)
    l_Kind := len_of (cg.more 14 rfl)
    j_Kind_Row := clsJ_of (cg.more 15 rfl)
    j_Kind_Gate := clsJ_of (cg.more 16 rfl)
    kt_Row___init___goals := noneIn_of (cg.more 17 rfl)
    kt_Kind___init___members := noneIn_of (cg.more 18 rfl)
    p_Gate_name := fun P w base => getP_of (d := ⟨"Gate", "name", "property", defArgs s_Gate_name, defBody s_Gate_name, defScope s_Gate_name⟩) (cg.getter 0 rfl).2 (cg.getter 0 rfl).1 rfl (He.cls_ok (c.fact 37 rfl)) (He.noat_ok (c.fact 38 rfl)) sc_Gate_name rfl fun _ _ _ _ _ _ us hl => match us, hl with | [_], _ => rfl
    p_Gate_within := fun P w base => getP_of (d := ⟨"Gate", "within", "property", defArgs s_Gate_within, defBody s_Gate_within, defScope s_Gate_within⟩) (cg.getter 1 rfl).2 (cg.getter 1 rfl).1 rfl (He.cls_ok (c.fact 37 rfl)) (He.noat_ok (c.fact 39 rfl)) sc_Gate_within rfl fun _ _ _ _ _ _ us hl => match us, hl with | [_], _ => rfl
    p_Kind_name := fun P w base => getP_of (d := ⟨"Kind", "name", "property", defArgs s_Kind_name, defBody s_Kind_name, defScope s_Kind_name⟩) (cg.getter 2 rfl).2 (cg.getter 2 rfl).1 rfl (He.cls_ok (c.fact 42 rfl)) (He.noat_ok (c.fact 43 rfl)) sc_Kind_name rfl fun _ _ _ _ _ _ us hl => match us, hl with | [_], _ => rfl
    p_Kind_rows := fun P w base => getP_of (d := ⟨"Kind", "rows", "property", defArgs s_Kind_rows, defBody s_Kind_rows, defScope s_Kind_rows⟩) (cg.getter 3 rfl).2 (cg.getter 3 rfl).1 rfl (He.cls_ok (c.fact 42 rfl)) (He.noat_ok (c.fact 44 rfl)) sc_Kind_rows rfl fun _ _ _ _ _ _ us hl => match us, hl with | [_], _ => rfl
    p_Kind_many := fun P w base => getP_of (d := ⟨"Kind", "many", "property", defArgs s_Kind_many, defBody s_Kind_many, defScope s_Kind_many⟩) (cg.getter 4 rfl).2 (cg.getter 4 rfl).1 rfl (He.cls_ok (c.fact 42 rfl)) (He.noat_ok (c.fact 46 rfl)) sc_Kind_many rfl fun _ _ _ _ _ _ us hl => match us, hl with | [_], _ => rfl
    p_Kind_members := fun P w base => getP_of (d := ⟨"Kind", "members", "property", defArgs s_Kind_members, defBody s_Kind_members, defScope s_Kind_members⟩) (cg.getter 5 rfl).2 (cg.getter 5 rfl).1 rfl (He.cls_ok (c.fact 42 rfl)) (He.noat_ok (c.fact 47 rfl)) sc_Kind_members rfl fun _ _ _ _ _ _ us hl => match us, hl with | [_], _ => rfl
  }
abbrev R : PySem.W.OpenRow := PySem.W.OpenLaw.row PySem.Challenge.rw_gatecrowds_k02_gates_made
abbrev hk : PySem.W.Hook := hookG 6 fa fn gets exs
def ob (s : PySem.W.SharedT) : AlG := obsKG 6 fa fn gets exs (HandSHeadRun.getT s)
theorem ob_eq (s : PySem.W.SharedT) : ob s = hk.obs s.abs := obsKG_eq (HandSHeadRun.getT_eq s)
def names : List PySem.Str := ["WrongValue", "InvalidName", "InvalidFlag", "InvalidRows", "InvalidMembers", "MOST_ROWS", "MOST_VALUE", "LONGEST_NAME", "LETTERS", "SIGNS", "is_name", "DIGITS", "MOST_GOALS", "Row", "digit_of", "row_of_words", "has_right_parts", "parsed_row", "leads_within", "Gate", "Kind", "parsed_rows", "check_members", "_law_pool", "_law_draw", "_law_tag", "_law_around", "_law_near", "_law_is", "_law_right"]
theorem run (w : World) : HandSHeadRun.RunEq R (PySem.W.view R.prog [35]) hk ob 20000 names w := by
  intro os
  kernel_rfl
end G
/-! ### small tactics -/
local macro_rules | `(tactic| walk_at "g hp") => `(tactic| first
  | assumption
  | exact L2.upd_same
  | (refine G.upd_get (by assumption) ?_; walk_at "g hp")
  | (refine G.same_get (by assumption) ?_; walk_at "g hp")
  | (refine G.Pl.obj (by assumption) (by walk_at "g pool") ?_ rfl; walk_at "g hp")
  | (refine G.Pl.get (by assumption) ?_ (by walk_at "g ne"); walk_at "g hp"))
local macro_rules | `(tactic| walk_at "g but") => `(tactic| first
  | assumption
  | exact G.But.refl _ _
  | exact L2.Same.refl _
  | (refine G.But.at ?_; walk_at "g but")
  | (refine G.But.new ?_ (by assumption); walk_at "g but")
  | (refine L2.Same.new ?_ (by assumption); walk_at "g but")
  | (refine G.Pl.new ?_ (by assumption); walk_at "g but")
  | (refine G.Pl.own ?_ (by assumption) (by walk_at "g ne"); walk_at "g but")
  | (refine G.Pl.same ?_ (by assumption); walk_at "g but")
  | (refine G.Pl.trans ?_ (by assumption); walk_at "g but")
  | (refine G.But.same ?_ (by assumption); walk_at "g but")
  | (refine G.But.of ?_; walk_at "g but")
  | (refine L2.Same.trans ?_ (by assumption); walk_at "g but")
  | (refine G.Pl.refl ?_; walk_at "g pool"))
local macro_rules | `(tactic| walk_at "g ne") => `(tactic| first
  | assumption
  | (refine G.PoolAt.ne_new ?_ (by assumption); walk_at "g pool"))
local macro_rules | `(tactic| walk_at "g pool") => `(tactic| first
  | assumption
  | exact G.Pl.pool (by assumption)
  | (refine G.PoolAt.new ?_ (by assumption); walk_at "g pool")
  | (refine G.PoolAt.same ?_ (by assumption); walk_at "g pool"))
local macro_rules | `(tactic| walk_at "g and") => `(tactic| first
  | exact rfl
  | assumption
  | exact L2.upd_same
  | exact ⟨_, rfl⟩
  | exact L2.ClsV.ty _
  | exact L2.ClsV.own _
  | exact L2.TyX.base (L2.TyOf.str _)
  | exact L2.TyX.base (L2.TyOf.int _)
  | exact L2.TyX.base (L2.TyOf.bl _)
  | exact L2.TyX.base L2.TyOf.non
  | exact L2.kit_ty (by decide +kernel)
  | exact L2.SqL.of (by walk_at "g hp")
  | exact L2.SqT.of (by walk_at "g hp")
  | exact Or.inl (by assumption)
  | exact Or.inr (by assumption)
  | exact Or.inr ((show ∀ H, L2.SqT _ H _ _ by assumption) _)
  | exact (show ∀ H, L2.SqT _ H _ _ by assumption) _
  | exact G.sqT_ty (by assumption)
  | exact G.sqT_ty ((show ∀ H, L2.SqT _ H _ _ by assumption) _)
  | exact Or.inl (L2.SqL.of (by walk_at "g hp"))
  | exact Or.inr (L2.SqT.of (by walk_at "g hp"))
  | walk_at "g pool"
  | (show (_ : Int) < _; decide)
  | (show (_ : Int) < _; omega)
  | (show (_ : Int) ≤ _; omega)
  | exact ⟨by decide, by decide, by decide⟩
  | exact ⟨by decide, by decide⟩
  | exact ⟨by omega, by omega⟩
  | exact Or.inl ⟨by omega, by omega⟩
  | exact Or.inr ⟨by omega, by omega⟩
  | (show (_ : Int) ≤ _; decide)
  | (show (_ : Nat) ≤ _; exact Nat.le_of_ble_eq_true rfl)
  | (show (_ : Nat) < _; exact Nat.le_of_ble_eq_true rfl)
  | walk_at "g hp")
local macro_rules | `(tactic| walk_at "rd") => `(tactic| repeat (first
  | (apply And.intro; (focus (walk_at "g and")))
  | (refine L2.iteT ?_)
  | (refine Or.inl ⟨_, rfl, ?_⟩)
  | (refine Or.inr ⟨_, rfl, ?_⟩)
  | (refine L2.iteF ?_)
  | (refine G.iteKT (by decide +kernel) ?_)
  | (refine G.iteKF (by decide +kernel) ?_)
  | (apply Exists.intro (α := L2.V))
  | (apply Exists.intro (α := Int))
  | (apply Exists.intro (α := PySem.Str))
  | (apply Exists.intro (α := Bool))
  | (apply Exists.intro (α := PySem.Value))
  | (apply Exists.intro (α := PySem.Addr))
  | (apply Exists.intro (α := List L2.V))
  | (apply Exists.intro (α := List (PySem.Str × L2.V)))
  | (apply Exists.intro (α := Nat))
  | (apply Exists.intro (α := List PySem.Str))
  | (apply Exists.intro (α := List Bool))
  | (apply Exists.intro (α := List Nat))
  ))

namespace G
open PySem PySem.Spec PyProof.Rows L2
/-! ### names -/
def lettersS : Str := "abcdefghijklmnopqrstuvwxyz"
def signsS : Str := "abcdefghijklmnopqrstuvwxyz0123456789"
def isLetter (c : Nat) : Bool := decide (c ∈ lettersS.cps.toList)
def isSign (c : Nat) : Bool := decide (c ∈ signsS.cps.toList)
def isNameL (l : List Nat) : Bool := decide (1 ≤ l.length) && decide (l.length ≤ 8) && isLetter (l.headD 0) && l.all isSign
def isNameS (z : Str) : Bool := isNameL z.cps.toList
theorem isNameS_eq (z : Str) : isNameS z = (decide (1 ≤ z.length) && decide (z.length ≤ 8) && isLetter (z.cps.toList.headD 0) && z.cps.toList.all isSign) := by
  unfold isNameS isNameL
  rw [str_len]
theorem at_head {c : Nat} {r : List Nat} : atI (c :: r) 0 = some c := atI_nat (j := 0) rfl
def fSign : V → V
  | .str s => .bl (isSign (s.cps.getD 0 0))
  | _ => .non
theorem signs_map (z : Str) : (signs z).map fSign = (z.cps.toList.map isSign).map V.bl := by
  unfold signs
  rw [List.map_map, List.map_map]
  rfl
theorem all_map {α : Type} (l : List α) (f : α → Bool) : (l.map f).all id = l.all f := by
  induction l with
  | nil => rfl
  | cons a l ih => simp
section
variable {P : Program} {w : World} {K : PySem.W.Frag} {mg : Str → Option Value} {base : Heap} {CX : CXT}
def spIsName (K : PySem.W.Frag) : Sp := fun vs H Q _ => ∃ x : V, vs = [x] ∧
  ((∃ z : Str, x = .str z ∧ z.length ≤ sizeLine ∧ ∀ H', Same H H' → Q (.bl (isNameS z)) H') ∨
   (∃ t, TyX K H x t ∧ PySem.W.kitOne K t (.type "str") = some false ∧ Q (.bl false) H))
theorem ok_is_name {f : Addr} {fd : FuncData} {dvs : List V} {kws : List (Str × V)} (T : Tx K mg)
    (F : FunD K "is_name" "is_name" (defArgs s_is_name) (defBody s_is_name) (defScope s_is_name) dvs kws f fd) :
    FnOk P w K mg base CX 1 f fd ["value"] (spIsName K) := by
  refine F.ok sc_is_name (fun vs H Q E h => ?_) (fun cdv A outer s H vs Q E hr h => ?_)
  · obtain ⟨x, rfl, _⟩ := h
    rfl
  · obtain ⟨x, rfl, h⟩ := h
    refine ⟨_, PSs.nox (pss_cons (ps_if (PW.pt (pw_or (pt_not (pt_val (pe_callB call_isi rfl T.f_isinstance (by decide +kernel) (pa_cons (pv 0) (pa_cons (pe_bltn (v := .ty "str") (u := .type "str") rfl T.f_str (by decide +kernel) rfl) pa_nil))))) (pw_or1 (pt_not (pt_chain op_le op_le pe_int (pe_callB call_len_str rfl T.f_len (by decide +kernel) (pa_cons (pv 0) pa_nil)) (pe_gl T.g_LONGEST_NAME)))))) (pss_one (ps_ret pe_bl)) pss_nil)
    (pss_one (ps_ret (pe_and (pe_cmpR op_in_sign (pe_ix ix_str (pv 0) pe_int (fun _ _ => rfl)) (pe_gl T.g_LETTERS) rfl) (pe_one (pe_callB (cr_all rfl) rfl T.f_all (by decide +kernel) (pa_cons (pe_lc (own := [("sign", 1)]) (g := gName 1) (tt := tYes) rfl sc_is_name.nd (pi_str (pv 0)) (blkOk_by (own := [("sign", 1)]) (N := n_is_name) (sc := defScope s_is_name) (by decide +kernel)) (fun _ _ _ _ _ => (pg_name (i := 1) sc_is_name.nd rfl (Or.inl rfl))) (fun _ _ _ _ _ => pts_nil) (fun _ _ _ _ _ => (pe_cmpR op_in_sign (pv 1) (pe_gl T.g_SIGNS) rfl))) pa_nil))))))), ?_⟩
    rcases h with ⟨z, rfl, hz, q⟩ | ⟨t, ty, ek, q⟩
    · -- a text
      walk_at "rd"
      refine iteD (fun h1 => ?_) (fun h1 => ?_)
      · walk_at "rd"
        refine iteND (fun h2 => ?_) (fun h2 => ?_)
        · have e : isNameS z = false := by
            rw [isNameS_eq, decide_eq_false (show ¬ z.length ≤ 8 by omega)]
            simp
          exact ret_eq (q H (Same.refl H)) (by rw [e])
        · obtain ⟨c, r, ez⟩ : ∃ c r, z.cps.toList = c :: r := by
            rw [str_len] at h1
            cases e : z.cps.toList with
            | nil => rw [e] at h1; simp at h1
            | cons c r => exact ⟨c, r, rfl⟩
          walk_at "rd"
          apply And.intro
          · rw [ez]
            exact at_head
          walk_at "rd"
          refine iteD (fun h3 => ?_) (fun h3 => ?_)
          · walk_at "rd"
            intro D nD
            refine lcP (wk_str z) fSign (fun _ => trivial) (by rw [signs_len]; have := str_len z; simp at this; rw [sizeLine_eq]; omega) ?_ ?_
            · intro i x acc Q' hx hq
              obtain ⟨u, hu, rfl⟩ : ∃ u, z.cps.toList[i]? = some u ∧ x = V.str ⟨#[u]⟩ := by
                unfold signs at hx
                rw [List.getElem?_map] at hx
                cases e : z.cps.toList[i]? with
                | none => rw [e] at hx; cases hx
                | some u => rw [e] at hx; exact ⟨u, rfl, (Option.some.inj hx).symm⟩
              walk_at "rd"
              exact hq
            · refine ⟨D, z.cps.toList.map isSign, rfl, SqL.of ?_, ?_⟩
              · rw [signs_map]; exact upd_same
              · have e : isNameS z = (z.cps.toList.map isSign).all id := by
                  rw [isNameS_eq, all_map, decide_eq_true (show 1 ≤ z.length by omega), decide_eq_true (show z.length ≤ 8 by omega), ez]
                  have hl : isLetter c = true := decide_eq_true h3
                  simp [hl]
                exact ret_eq (q _ ((Same.refl H).new nD)) (by rw [e])
          · have e : isNameS z = false := by
              rw [isNameS_eq, ez]
              have hl : isLetter c = false := decide_eq_false h3
              simp [hl]
            exact ret_eq (q H (Same.refl H)) (by rw [e])
      · walk_at "rd"
        have e : isNameS z = false := by
          rw [isNameS_eq, decide_eq_false (show ¬ 1 ≤ z.length by omega)]
          simp
        exact ret_eq (q H (Same.refl H)) (by rw [e])
    · walk_at "rd"
      exact q
theorem c_is_name (T : Tx K mg) : CalO P w K mg base CX 1 "is_name" [] (spIsName K) := by
  obtain ⟨fd, F⟩ := T.d_is_name
  exact .mk F (ok_is_name T F) T.n_is_name fun _ _ _ _ _ _ us hl => match us, hl with | [_], _ => rfl
/-! ### gates -/
abbrev cG (K : PySem.W.Frag) : Addr := He.ga K "Gate"
def gateF (n w : V) : List (Str × V) := [("called", n), ("outer", w)]
theorem gate_put {n w : V} : putF "outer" w (putF "called" n []) = gateF n w := by
  show (if ("called" : Str) = "outer" then _ else _) = _
  rw [if_neg (by decide +kernel)]
  rfl
/-- a name, or None -/
def NameOr (w : V) : Prop := w = .non ∨ ∃ z, w = .str z ∧ z.length ≤ sizeLine ∧ isNameS z = true
def spGate (K : PySem.W.Frag) : Sp := fun vs H Q _ => ∃ (p dx : Addr) (n : Str) (w : V), vs = [.ref p, .str n, w] ∧ H p = some (.ins (cG K) dx []) ∧
  n.length ≤ sizeLine ∧ isNameS n = true ∧ NameOr w ∧
  ∀ H', But p H H' → H' p = some (.ins (cG K) dx (gateF (.str n) w)) → Q .non H'
theorem ok_Gate {f : Addr} {fd : FuncData} {dvs : List V} {kws : List (Str × V)} (T : Tx K mg)
    (F : FunD K "__init__" "Gate.__init__" (defArgs s_Gate___init__) (defBody s_Gate___init__) (defScope s_Gate___init__) dvs kws f fd) :
    FnOk P w K mg base CX0 2 f fd ["self", "name", "within"] (spGate K) := by
  have c_is_name : CalO P w K mg base CX0 1 "is_name" [] (spIsName K) := c_is_name T
  refine F.ok sc_Gate___init__ (fun vs H Q E h => ?_) (fun cdv A outer s H vs Q E hr h => ?_)
  · obtain ⟨p, dx, n, w, rfl, _⟩ := h
    rfl
  · obtain ⟨p, dx, n, w, rfl, hp, hn, vn, hw, q⟩ := h
    refine ⟨_, PSs.nox (pss_cons (ps_if (pt_not (pt_val (pe_calO c_is_name (hr.mono (by decide)) pass0 (pa_cons (pv 1) pa_nil)))) (pss_one ps_never) pss_nil)
    (pss_cons (ps_if (PW.pt (pw_and (pt_cmpR op_notN (pv 2) pe_non (nomark _)) (pw_and1 (pt_not (pt_val (pe_calO c_is_name (hr.mono (by decide)) pass0 (pa_cons (pv 2) pa_nil))))))) (pss_one ps_never) pss_nil)
    (pss_one (ps_asg (pe_tup (pa_cons (pv 1) (pa_cons (pv 2) pa_nil))) (pg_tup rfl (pgs_cons (pg_attr (pv 0)) (pgs_cons (pg_attr (pv 0)) pgs_nil))))))), ?_⟩
    have cl := T.c_Gate
    have n1 := T.na_Gate_called
    have n2 := T.na_Gate_outer
    walk_at "rd"
    intro H1 s1
    rw [vn]
    rcases hw with rfl | ⟨z, rfl, hz, vz⟩
    · walk_at "rd"
      intro t nt
      walk_at "rd"
      refine q _ (by walk_at "g but") ?_
      rw [upd_same, gate_put]
    · walk_at "rd"
      intro H2 s2
      rw [vz]
      walk_at "rd"
      intro t nt
      walk_at "rd"
      refine q _ (by walk_at "g but") ?_
      rw [upd_same, gate_put]
theorem gate_called {n w : V} : (gateF n w).lookup ("called" : Str) = some n := rfl
theorem gate_outer {n w : V} : (gateF n w).lookup ("outer" : Str) = some w := rfl
theorem scal_nameOr {w w' : V} (h : NameOr w) (h' : NameOr w') : scal w w' = true := by
  rcases h with rfl | ⟨z, rfl, _⟩ <;> rcases h' with rfl | ⟨z', rfl, _⟩ <;> rfl
def spGateEq (K : PySem.W.Frag) : Sp := fun vs H Q _ => ∃ (a dx : Addr) (n : Str) (w y : V), vs = [.ref a, y] ∧ H a = some (.ins (cG K) dx (gateF (.str n) w)) ∧ NameOr w ∧
  ((∃ (b dx' : Addr) (n' : Str) (w' : V), y = .ref b ∧ H b = some (.ins (cG K) dx' (gateF (.str n') w')) ∧ NameOr w' ∧ Q (.bl (decide (n = n') && decide (w = w'))) H) ∨
   (∃ t, TyX K H y t ∧ PySem.W.kitOne K t (.ref (cG K)) = some false ∧ Q (.bl false) H))
theorem ok_Gate_eq {f : Addr} {fd : FuncData} {dvs : List V} {kws : List (Str × V)} (T : Tx K mg)
    (F : FunD K "__eq__" "Gate.__eq__" (defArgs s_Gate___eq__) (defBody s_Gate___eq__) (defScope s_Gate___eq__) dvs kws f fd) :
    FnOk P w K mg base CX 1 f fd ["self", "other"] (spGateEq K) := by
  refine F.ok sc_Gate___eq__ (fun vs H Q E h => ?_) (fun cdv A outer s H vs Q E hr h => ?_)
  · obtain ⟨a, dx, n, w, y, rfl, _⟩ := h
    rfl
  · obtain ⟨a, dx, n, w', y, rfl, ha, hw, h⟩ := h
    have cl := T.c_Gate
    have ci := T.i_Gate
    have n1 := T.na_Gate_called
    have n2 := T.na_Gate_outer
    have me := ci.me
    refine ⟨_, PSs.nox (pss_one (ps_ret (pe_and (pe_callB call_isi rfl T.f_isinstance (by decide +kernel) (pa_cons (pv 1) (pa_cons (pe_gl T.g_Gate) pa_nil))) (pe_and (pe_cmpR op_eq (pe_fld (pv 0) rfl) (pe_fld (pv 1) rfl) (nomark _)) (pe_one (pe_cmpR op_eq (pe_fld (pv 0) rfl) (pe_fld (pv 1) rfl) (nomark _))))))), ?_⟩
    rcases h with ⟨b, dx', n', w'', rfl, hb, hw', q⟩ | ⟨t, ty, ek, q⟩
    · have ty : TyX K H (.ref b) (.ref (cG K)) := .base (ci.ty cl hb)
      have sc := scal_nameOr hw hw'
      walk_at "rd"
      refine iteD (fun h1 => ?_) (fun h1 => ?_)
      · walk_at "rd"
        refine ret_eq q ?_
        have e : n = n' := by injection h1
        rw [decide_eq_true e, Bool.true_and]
      · refine ret_eq q ?_
        have e : ¬ n = n' := fun z => h1 (by rw [z])
        rw [decide_eq_false e, Bool.false_and]
    · walk_at "rd"
      exact q
end
end G
namespace G
open PySem PySem.Spec PyProof.Rows L2
/-! ### the draws -/
theorem cut_take (xs : List V) (k : Nat) : cutV xs none (some (k : Int)) = xs.take k := by
  unfold cutV
  rw [HT.sIx_none, HT.sIx_nat]
  simp only [List.drop_zero, Nat.sub_zero]
  rcases Nat.le_total k xs.length with h | h
  · rw [Nat.min_eq_left h]
  · rw [Nat.min_eq_right h, List.take_of_length_le (Nat.le_refl _), List.take_of_length_le h]
section
variable {P : Program} {w : World} {K : PySem.W.Frag} {mg : Str → Option Value} {base : Heap} {CX : CXT}
def spPool (K : PySem.W.Frag) : Sp := fun vs H Q _ => ∃ (a : Addr) (ns : List Int) (k : Int), vs = [.ref a, .int k] ∧ SqL K H a (ns.map V.int) ∧
  ns.length ≤ 63 ∧ 0 ≤ k ∧ k ≤ 100 ∧ ∀ H' p, Same H H' → H p = none → PoolAt H' p → Q (.ref p) H'
theorem ok_pool {f : Addr} {fd : FuncData} {dvs : List V} {kws : List (Str × V)} (T : Tx K mg)
    (F : FunD K "_law_pool" "_law_pool" (defArgs s__law_pool) (defBody s__law_pool) (defScope s__law_pool) dvs kws f fd) :
    FnG P w K mg base CX 1 f fd ["_law_script", "_law_k"] (spPool K) := by
  refine okG F sc__law_pool (fun vs H Q E h => ?_) (fun cdv A outer s H vs Q E hr hgd h => ?_)
  · obtain ⟨a, ns, k, rfl, _⟩ := h
    rfl
  · obtain ⟨a, ns, k, rfl, ha, hl, k0, k1, q⟩ := h
    have hu := hr.units
    refine ⟨_, PSs.nox (pss_cons (ps_set (i := 2) sc__law_pool.nd rfl (Or.inl rfl) (pe_ifExp (pt_cmpR op_lt (pv 1) (pe_callB call_len_seq rfl T.f_len (by decide +kernel) (pa_cons (pv 0) pa_nil)) (nomark _)) (pe_ix ix_list (pv 0) (pv 1) (fun _ _ => rfl)) (pe_op op_add (pe_op op_mod (pe_callTy call_int1 rfl T.f_int (by decide +kernel) (pa_cons (pe_callB (cr_sum rfl) rfl T.f_sum (by decide +kernel) (pa_cons (pe_slice sl_list (pv 0) po_none (po_some pe_int)) pa_nil)) pa_nil)) pe_int) (pe_op op_mul (pe_op op_mul pe_int (pv 1)) (pv 1)))))
    (pss_cons (ps_set (i := 3) sc__law_pool.nd rfl (Or.inl rfl) (pe_ifExp (pt_cmpR op_ge (pe_callB call_abs rfl T.f_abs (by decide +kernel) (pa_cons (pv 2) pa_nil)) (pe_op op_pow pe_int pe_int) (nomark _)) (pe_callB call_abs rfl T.f_abs (by decide +kernel) (pa_cons (pv 2) pa_nil)) pe_int))
    (pss_one (ps_ret (pe_lst (pa_cons (pe_op op_mod (pe_callTy call_int1 rfl T.f_int (by decide +kernel) (pa_cons (pv 2) pa_nil)) pe_int) (pa_cons (pe_op op_add (pe_op op_mod (pe_callTy call_int1 rfl T.f_int (by decide +kernel) (pa_cons (pe_op op_add (pv 2) (pe_op op_mul pe_int (pv 1))) pa_nil)) pe_int) pe_int) (pa_cons (pv 3) pa_nil)))))))), ?_⟩
    walk_at "rd"
    refine iteD (fun h1 => ?_) (fun h1 => ?_)
    · rw [List.length_map] at h1
      obtain ⟨v, hv⟩ : ∃ v, ns[k.toNat]? = some v := ⟨_, List.getElem?_eq_getElem (by omega)⟩
      walk_at "rd"
      apply And.intro
      · exact at_of (j := k.toNat) (v := V.int v) (by omega) (by rw [List.getElem?_map, hv]; rfl)
      walk_at "rd"
      refine iteD (fun h2 => ?_) (fun h2 => ?_)
      all_goals
        walk_at "rd"
        intro p np
        refine q _ p (by walk_at "g but") np ⟨_, _, _, upd_same, by omega, by omega, by omega, by omega, ?_⟩
        try split
        all_goals omega
    · walk_at "rd"
      intro l nl
      walk_at "rd"
      refine ⟨ns.take 4, rfl, SqL.of ?_, ?_⟩
      · rw [upd_same, show (4 : Int) = ((4 : Nat) : Int) from rfl, cut_take, List.map_take]
      walk_at "rd"
      refine iteD (fun h2 => ?_) (fun h2 => ?_)
      all_goals
        walk_at "rd"
        intro p np
        refine q _ p (by walk_at "g but") (upd_free np) ⟨_, _, _, upd_same, by omega, by omega, by omega, by omega, ?_⟩
        try split
        all_goals omega
def spDraw : Sp := fun vs H Q _ => ∃ (p : Addr) (m : Int), vs = [.ref p, .int m] ∧ 0 < m ∧ m < 1073741824 ∧ PoolAt H p ∧
  ∀ H' r, Pl p H H' → 0 ≤ r → r < m → Q (.int r) H'
theorem ok_draw {f : Addr} {fd : FuncData} {dvs : List V} {kws : List (Str × V)} (T : Tx K mg)
    (F : FunD K "_law_draw" "_law_draw" (defArgs s__law_draw) (defBody s__law_draw) (defScope s__law_draw) dvs kws f fd) :
    FnG P w K mg base CX 1 f fd ["_law_pool_here", "_law_most"] spDraw := by
  refine okG F sc__law_draw (fun vs H Q E h => ?_) (fun cdv A outer s H vs Q E hr hgd h => ?_)
  · obtain ⟨p, m, rfl, _⟩ := h
    rfl
  · obtain ⟨p, m, rfl, m0, m1, ⟨a, b, d, hp, a0, a1, b0, b1, d0⟩, q⟩ := h
    have hu := hr.units
    refine ⟨_, PSs.nox (pss_cons (ps_asg (pe_op op_mod (pe_callTy call_int1 rfl T.f_int (by decide +kernel) (pa_cons (pe_op op_add (pe_op op_add (pe_op op_mul (pe_ix ix_list (pv 0) pe_int (fun _ _ => rfl)) pe_int) (pe_ix ix_list (pv 0) pe_int (fun _ _ => rfl))) pe_int) pa_nil)) pe_int) (pg_sub (pv 0) pe_int set_list))
    (pss_cons (ps_asg (pe_op op_mod (pe_callTy call_int1 rfl T.f_int (by decide +kernel) (pa_cons (pe_op op_add (pe_op op_add (pe_op op_mul (pe_ix ix_list (pv 0) pe_int (fun _ _ => rfl)) pe_int) (pe_op op_fdiv (pe_ix ix_list (pv 0) pe_int (fun _ _ => rfl)) pe_int)) pe_int) pa_nil)) pe_int) (pg_sub (pv 0) pe_int set_list))
    (pss_cons (ps_if (pt_cmpR op_gt (pe_ix ix_list (pv 0) pe_int (fun _ _ => rfl)) pe_int (nomark _)) (pss_cons (ps_asg (pe_callB call_divmod rfl T.f_divmod (by decide +kernel) (pa_cons (pe_ix ix_list (pv 0) pe_int (fun _ _ => rfl)) (pa_cons (pv 1) pa_nil))) (pg_tup rfl (pgs_cons (pg_sub (pv 0) pe_int set_list) (pgs_cons (pg_name (i := 2) sc__law_draw.nd rfl (Or.inl rfl)) pgs_nil))))
    (pss_one (ps_ret (pv 2)))) pss_nil)
    (pss_one (ps_ret (pe_op op_mod (pe_callTy call_int1 rfl T.f_int (by decide +kernel) (pa_cons (pe_op op_add (pe_op op_fdiv (pe_ix ix_list (pv 0) pe_int (fun _ _ => rfl)) pe_int) (pe_op op_fdiv (pe_ix ix_list (pv 0) pe_int (fun _ _ => rfl)) pe_int)) pa_nil)) (pv 1))))))), ?_⟩
    walk_at "rd"
    refine iteD (fun h1 => ?_) (fun h1 => ?_)
    · walk_at "rd"
      intro t nt
      walk_at "rd"
      refine q _ _ ⟨by walk_at "g but", _, _, _, upd_same, ?_⟩ (Int.emod_nonneg _ (by omega)) (Int.emod_lt_of_pos _ m0)
      have := Int.ediv_nonneg d0 (Int.le_of_lt m0)
      refine ⟨?_, ?_, ?_, ?_, ?_⟩ <;> omega
    · walk_at "rd"
      refine q _ _ ⟨by walk_at "g but", _, _, _, upd_same, ?_⟩ (Int.emod_nonneg _ (by omega)) (Int.emod_lt_of_pos _ m0)
      refine ⟨?_, ?_, ?_, ?_, ?_⟩ <;> omega

theorem c_pool (T : Tx K mg) : Cal P w K mg base CX 1 "_law_pool" [] (spPool K) := by
  obtain ⟨fd, F⟩ := T.d__law_pool
  exact .mk F (ok_pool T F) T.n__law_pool fun _ _ _ _ _ _ us hl => match us, hl with | [_, _], _ => rfl
theorem c_draw (T : Tx K mg) : Cal P w K mg base CX 1 "_law_draw" [] spDraw := by
  obtain ⟨fd, F⟩ := T.d__law_draw
  exact .mk F (ok_draw T F) T.n__law_draw fun _ _ _ _ _ _ us hl => match us, hl with | [_, _], _ => rfl
/-! ### drawn names -/
def tagWords : List Str := ["gate", "in", "of", "one", "many", "join", "drop", "arrive", "wait", "else", "look", "anew", "over", "go", "end"]
theorem tagWords_ok : (tagWords.all fun z => isNameS z && decide (z.length ≤ 8)) = true := by decide +kernel
theorem at_any {α : Type} {xs : List α} {z : Int} {j : Nat} {v : α} (e : z = (j : Int)) (h : xs[j]? = some v) : atI xs z = some v := by
  rw [e]
  exact atI_nat h
theorem word_at {r : Int} (h0 : 0 ≤ r) (h1 : r < 15) : ∃ z, atI (tagWords.map V.str) r = some (.str z) ∧ isNameS z = true ∧ z.length ≤ 8 := by
  have lt : r.toNat < tagWords.length := by show r.toNat < 15; omega
  have e : tagWords[r.toNat]? = some (tagWords[r.toNat]) := List.getElem?_eq_getElem lt
  have h := List.all_eq_true.mp tagWords_ok _ (List.getElem_mem lt)
  obtain ⟨h2, h3⟩ := Bool.and_eq_true_iff.mp h
  exact ⟨tagWords[r.toNat], at_any (z := r) (j := r.toNat) (by omega) (by rw [List.getElem?_map, e]; rfl), h2, of_decide_eq_true h3⟩
theorem signs_ok : (signsS.cps.toList.all isSign) = true := by decide +kernel
theorem letters_ok : ((signsS.cps.toList.take 26).all isLetter) = true := by decide +kernel
theorem sign_at {r : Int} (h0 : 0 ≤ r) (h1 : r < 36) : ∃ c, atI signsS.cps.toList r = some c ∧ isSign c = true ∧ (r < 26 → isLetter c = true) := by
  have hl : signsS.cps.toList.length = 36 := by decide +kernel
  have lt : r.toNat < signsS.cps.toList.length := by omega
  have e : signsS.cps.toList[r.toNat]? = some (signsS.cps.toList[r.toNat]) := List.getElem?_eq_getElem lt
  refine ⟨signsS.cps.toList[r.toNat], at_any (z := r) (j := r.toNat) (by omega) e, List.all_eq_true.mp signs_ok _ (List.getElem_mem lt), fun h => ?_⟩
  refine List.all_eq_true.mp letters_ok _ ?_
  rw [List.mem_take_iff_getElem]
  exact ⟨r.toNat, by omega, rfl⟩
theorem letter_at {r : Int} (h0 : 0 ≤ r) (h1 : r < 26) : ∃ c, atI lettersS.cps.toList r = some c ∧ isLetter c = true := by
  have hl : lettersS.cps.toList.length = 26 := by decide +kernel
  have lt : r.toNat < lettersS.cps.toList.length := by omega
  have e : lettersS.cps.toList[r.toNat]? = some (lettersS.cps.toList[r.toNat]) := List.getElem?_eq_getElem lt
  exact ⟨lettersS.cps.toList[r.toNat], at_any (z := r) (j := r.toNat) (by omega) e, decide_eq_true (List.getElem_mem lt)⟩
theorem letter_sign {c : Nat} (h : isLetter c = true) : isSign c = true := by
  have sub : (lettersS.cps.toList.all isSign) = true := by decide +kernel
  exact List.all_eq_true.mp sub c (of_decide_eq_true h)
def one (c : Nat) : Str := ⟨#[c]⟩
theorem joinL_ones : ∀ cs : List Nat, TL.joinL [] (cs.map fun c => [c]) = cs
  | [] => rfl
  | [c] => rfl
  | c :: d :: r => by
    show [c] ++ ([] ++ TL.joinL [] ((d :: r).map fun c => [c])) = c :: d :: r
    rw [joinL_ones (d :: r)]
    rfl
theorem join_ones (cs : List Nat) : (Txt.join Str.empty (cs.map one)).cps.toList = cs := by
  rw [TL.join_eq]
  have h := TL.tl_join Str.empty (cs.map one)
  rw [List.map_map] at h
  exact h.trans (joinL_ones cs)
theorem name_cons {c : Nat} {cs : List Nat} (h : isLetter c = true) (hs : cs.all isSign = true) (hl : cs.length ≤ 7) {z : Str} (e : z.cps.toList = c :: cs) : isNameS z = true ∧ z.length ≤ 8 := by
  refine ⟨?_, by rw [str_len, e, List.length_cons]; omega⟩
  unfold isNameS isNameL
  rw [e, decide_eq_true (show 1 ≤ (c :: cs).length by simp), decide_eq_true (show (c :: cs).length ≤ 8 by rw [List.length_cons]; omega)]
  simp only [List.headD_cons, h, List.all_cons, letter_sign h, hs, Bool.and_self]
theorem cat_len (x y : Str) : (x ++ y).length = x.length + y.length := by
  rw [str_len, str_len, str_len, ← List.length_append]
  show (x.cps ++ y.cps).toList.length = _
  rw [Array.toList_append]
/-- None, or a name that is short -/
def NameOr8 (v : V) : Prop := v = .non ∨ ∃ z, v = .str z ∧ z.length ≤ 8 ∧ isNameS z = true
def spTag : Sp := fun vs H Q _ => ∃ p : Addr, vs = [.ref p] ∧ PoolAt H p ∧ ∀ H' z, Pl p H H' → isNameS z = true → z.length ≤ 8 → Q (.str z) H'
theorem ok_tag {f : Addr} {fd : FuncData} {dvs : List V} {kws : List (Str × V)} (T : Tx K mg)
    (F : FunD K "_law_tag" "_law_tag" (defArgs s__law_tag) (defBody s__law_tag) (defScope s__law_tag) dvs kws f fd) :
    FnG P w K mg base CX0 2 f fd ["_law_pool_here"] spTag := by
  have c__law_draw : Cal P w K mg base CX0 1 "_law_draw" [] spDraw := c_draw T
  refine okG F sc__law_tag (fun vs H Q E h => ?_) (fun cdv A outer s H vs Q E hr hgd h => ?_)
  · obtain ⟨p, rfl, _⟩ := h
    rfl
  · obtain ⟨p, rfl, hp, q⟩ := h
    have hu := hr.units
    refine ⟨_, PSs.nox (pss_cons (ps_if (pt_cmpR op_eq (pe_cal c__law_draw (hr.mono (by decide)) hgd pass0 (pa_cons (pv 0) (pa_cons pe_int pa_nil))) pe_int (nomark _)) (pss_cons (ps_set (i := 1) sc__law_tag.nd rfl (Or.inl rfl) (pe_lst (pa_cons pe_str (pa_cons pe_str (pa_cons pe_str (pa_cons pe_str (pa_cons pe_str (pa_cons pe_str (pa_cons pe_str (pa_cons pe_str (pa_cons pe_str (pa_cons pe_str (pa_cons pe_str (pa_cons pe_str (pa_cons pe_str pa_nil)))))))))))))))
    (pss_one (ps_ret (pe_ix ix_list (pe_op op_cat (pv 1) (pe_lst (pa_cons pe_str (pa_cons pe_str pa_nil)))) (pe_cal c__law_draw (hr.mono (by decide)) hgd pass0 (pa_cons (pv 0) (pa_cons pe_int pa_nil))) (fun _ _ => rfl))))) pss_nil)
    (pss_cons (ps_asg (pe_tup (pa_cons pe_str (pa_cons (pe_cal c__law_draw (hr.mono (by decide)) hgd pass0 (pa_cons (pv 0) (pa_cons pe_int pa_nil))) pa_nil))) (pg_tup rfl (pgs_cons (pg_name (i := 2) sc__law_tag.nd rfl (Or.inr rfl)) (pgs_cons (pg_name (i := 3) sc__law_tag.nd rfl (Or.inl rfl)) pgs_nil))))
    (pss_one (ps_ret (pe_op op_add_str (pe_ix ix_str (pv 2) (pe_cal c__law_draw (hr.mono (by decide)) hgd pass0 (pa_cons (pv 0) (pa_cons pe_int pa_nil))) (fun _ _ => rfl)) (pe_join pe_str (pe_lc (own := [("_law_k", 4)]) (g := gName 4) (tt := tYes) rfl sc__law_tag.nd (pi_range1 rfl T.f_range (pa_cons (pv 3) pa_nil)) (blkOk_by (own := [("_law_k", 4)]) (N := n__law_tag) (sc := defScope s__law_tag) (by decide +kernel)) (fun _ _ _ _ _ => (pg_name (i := 4) sc__law_tag.nd rfl (Or.inl rfl))) (fun _ _ _ _ _ => pts_nil) (fun _ _ _ _ _ => (pe_ix ix_str (pv 2) (pe_cal c__law_draw (hr.mono (by decide)) hgd pass0 (pa_cons (pv 0) (pa_cons pe_int pa_nil))) (fun _ _ => rfl)))))))))), ?_⟩
    walk_at "rd"
    intro H1 r r1 r0 rm
    walk_at "rd"
    refine iteD (fun h1 => ?_) (fun h1 => ?_)
    · walk_at "rd"
      intro l1 n1
      walk_at "rd"
      intro l2 n2
      walk_at "rd"
      intro l3 n3
      walk_at "rd"
      intro H2 r2 s2 r20 r21
      obtain ⟨z, hz, vz, lz⟩ := word_at r20 r21
      walk_at "rd"
      exact q _ _ (by walk_at "g but") vz lz
    · walk_at "rd"
      intro H2 sz r2 sz0 szm
      walk_at "rd"
      intro t nt
      walk_at "rd"
      intro H3 at1 r3 at0 atm
      obtain ⟨c, hc, lc⟩ := sign_at at0 (show at1 < 36 by omega)
      walk_at "rd"
      intro D nD
      refine lcW (wk_range 0 sz.toNat) (fun i H => Pl p H3 H ∧ ∃ cs : List Nat, H D = some (.lst ((cs.map one).map V.str)) ∧ cs.length = i ∧ cs.all isSign = true)
        ⟨by walk_at "g but", [], upd_same, rfl, rfl⟩ (fun _ _ _ _ => trivial) ?_ ?_
      · rintro i x H4 hx ⟨pl4, cs, hD, hl, ha⟩
        have hi := (List.getElem?_eq_some_iff.mp hx).1
        rw [rngV_len] at hi
        walk_at "rd"
        intro H5 r5 pl5 r50 r51
        obtain ⟨c5, hc5, sc5, _⟩ := sign_at r50 r51
        walk_at "rd"
        refine ⟨by rw [List.length_map, List.length_map, hl]; show i < 16777216; omega, by walk_at "g but", cs ++ [c5], ?_, ?_, ?_⟩
        · rw [upd_same, List.map_append, List.map_append]
          rfl
        · rw [List.length_append, hl]
          rfl
        · rw [List.all_append, ha]
          simp [sc5]
      · rintro H4 ⟨pl4, cs, hD, hl, ha⟩
        rw [rngV_len] at hl
        have hz := join_ones cs
        have hc := name_cons (lc.2 atm) ha (by omega) (z := one c ++ Txt.join (Str.ofString "") (cs.map one)) (by
          show (#[c] ++ _).toList = _
          rw [Array.toList_append]
          exact congrArg (c :: ·) hz)
        have hs : ((cs.map one).map fun x => x.length).sum = cs.length := by
          rw [List.map_map]
          clear hz hc hl ha hD
          induction cs with
          | nil => rfl
          | cons d r ih => rw [List.map_cons, List.sum_cons, ih, List.length_cons]; show 1 + _ = _; omega
        walk_at "rd"
        refine ⟨by rw [hs, List.length_map]; show cs.length + cs.length * 0 ≤ _; omega, ?_⟩
        walk_at "rd"
        exact ⟨by have h8 : _ ≤ 8 := hc.2; exact Nat.le_trans (Nat.le_of_eq (cat_len _ _).symm) (Nat.le_trans h8 (by decide)), q _ _ (by walk_at "g but") hc.1 hc.2⟩
theorem c_tag (T : Tx K mg) : Cal P w K mg base CX0 2 "_law_tag" [] spTag := by
  obtain ⟨fd, F⟩ := T.d__law_tag
  exact .mk F (ok_tag T F) T.n__law_tag fun _ _ _ _ _ _ us hl => match us, hl with | [_], _ => rfl
def spAround : Sp := fun vs H Q _ => ∃ p : Addr, vs = [.ref p] ∧ PoolAt H p ∧ ∀ H' v, Pl p H H' → NameOr8 v → Q v H'
theorem ok_around {f : Addr} {fd : FuncData} {dvs : List V} {kws : List (Str × V)} (T : Tx K mg)
    (F : FunD K "_law_around" "_law_around" (defArgs s__law_around) (defBody s__law_around) (defScope s__law_around) dvs kws f fd) :
    FnG P w K mg base CX0 3 f fd ["_law_pool_here"] spAround := by
  have c__law_draw : Cal P w K mg base CX0 1 "_law_draw" [] spDraw := c_draw T
  have c__law_tag : Cal P w K mg base CX0 2 "_law_tag" [] spTag := c_tag T
  refine okG F sc__law_around (fun vs H Q E h => ?_) (fun cdv A outer s H vs Q E hr hgd h => ?_)
  · obtain ⟨p, rfl, _⟩ := h
    rfl
  · obtain ⟨p, rfl, hp, q⟩ := h
    have hu := hr.units
    refine ⟨_, PSs.nox (pss_one (ps_ret (pe_ifExp (pt_cmpR op_eq (pe_cal c__law_draw (hr.mono (by decide)) hgd pass0 (pa_cons (pv 0) (pa_cons pe_int pa_nil))) pe_int (nomark _)) pe_non (pe_cal c__law_tag (hr.mono (by decide)) hgd pass0 (pa_cons (pv 0) pa_nil))))), ?_⟩
    walk_at "rd"
    intro H1 r r1 r0 rm
    walk_at "rd"
    refine iteD (fun h1 => ?_) (fun h1 => ?_)
    · walk_at "rd"
      exact q _ _ (by walk_at "g but") (.inl rfl)
    · walk_at "rd"
      intro H2 z r2 vz lz
      exact q _ _ (by walk_at "g but") (.inr ⟨z, rfl, lz, vz⟩)
theorem c_around (T : Tx K mg) : Cal P w K mg base CX0 3 "_law_around" [] spAround := by
  obtain ⟨fd, F⟩ := T.d__law_around
  exact .mk F (ok_around T F) T.n__law_around fun _ _ _ _ _ _ us hl => match us, hl with | [_], _ => rfl
theorem name_form {z : Str} (h : isNameS z = true) : ∃ c r, z.cps.toList = c :: r ∧ isLetter c = true ∧ r.all isSign = true ∧ r.length ≤ 7 := by
  rw [isNameS_eq, str_len] at h
  simp only [Bool.and_eq_true, decide_eq_true_eq] at h
  obtain ⟨⟨⟨h1, h2⟩, h3⟩, h4⟩ := h
  cases e : z.cps.toList with
  | nil => rw [e] at h1; simp at h1
  | cons c r =>
    rw [e] at h2 h3 h4
    rw [List.all_cons, Bool.and_eq_true] at h4
    exact ⟨c, r, rfl, h3, h4.2, by rw [List.length_cons] at h2; omega⟩
theorem cat_list (x y : Str) : (x ++ y).cps.toList = x.cps.toList ++ y.cps.toList := by
  show (x.cps ++ y.cps).toList = _
  rw [Array.toList_append]
theorem name_snoc {z : Str} {d : Nat} (h : isNameS z = true) (hd : isLetter d = true) (hl : z.length < 8) : isNameS (z ++ ⟨#[d]⟩) = true ∧ (z ++ ⟨#[d]⟩).length ≤ 8 := by
  obtain ⟨c, r, e, hc, hr, h7⟩ := name_form h
  rw [str_len, e, List.length_cons] at hl
  refine name_cons hc (cs := r ++ [d]) (by rw [List.all_append, hr]; simp [letter_sign hd]) (by rw [List.length_append]; show _ + 1 ≤ 7; omega) ?_
  rw [cat_list, e]
  rfl
theorem name_init {z : Str} (h : isNameS z = true) (hl : 1 < z.length) : isNameS (cutS z none (some (-1))) = true ∧ (cutS z none (some (-1))).length ≤ 8 := by
  obtain ⟨c, r, e, hc, hr, h7⟩ := name_form h
  have ez : z.length = r.length + 1 := by rw [str_len, e, List.length_cons]
  refine name_cons hc (cs := r.take (r.length - 1)) ?_ (by rw [List.length_take]; omega) ?_
  · rw [List.all_eq_true] at hr ⊢
    intro x hx
    exact hr x (List.mem_of_mem_take hx)
  · show List.take (HT.sIx z.length z.length (some (-1)) - HT.sIx z.length 0 none) (List.drop (HT.sIx z.length 0 none) z.cps.toList) = _
    have e1 : HT.sIx z.length z.length (some (-1)) = z.length - 1 := by
      show (if (-1 : Int) < 0 then (-1 + (z.length : Int)).toNat else min ((-1 : Int).toNat) z.length) = _
      rw [if_pos (by decide)]
      omega
    rw [e1, HT.sIx_none, List.drop_zero, e, ez, show r.length + 1 - 1 - 0 = (r.length - 1) + 1 by omega, List.take_succ_cons]
theorem cut_to (z : Str) (k : Nat) (h : k ≤ z.length) : (cutS z none (some (k : Int))).cps.toList = z.cps.toList.take k := by
  show List.take (HT.sIx z.length z.length (some (k : Int)) - HT.sIx z.length 0 none) (List.drop (HT.sIx z.length 0 none) z.cps.toList) = _
  rw [HT.sIx_nat, HT.sIx_none, List.drop_zero, Nat.sub_zero, Nat.min_eq_left h]
theorem cut_from (z : Str) (k : Nat) (h : k ≤ z.length) : (cutS z (some (k : Int)) none).cps.toList = z.cps.toList.drop k := by
  show List.take (HT.sIx z.length z.length none - HT.sIx z.length 0 (some (k : Int))) (List.drop (HT.sIx z.length 0 (some (k : Int))) z.cps.toList) = _
  rw [HT.sIx_nat, HT.sIx_none, Nat.min_eq_left h]
  exact List.take_of_length_le (by rw [List.length_drop, ← str_len]; exact Nat.le_refl _)
theorem name_mid {z : Str} {d : Nat} {at1 : Int} (h : isNameS z = true) (hd : isLetter d = true) (h0 : 0 ≤ at1) (h1 : at1 < z.length) :
    (isNameS (cutS z none (some at1) ++ ⟨#[d]⟩ ++ cutS z (some (at1 + 1)) none) = true ∧ (cutS z none (some at1) ++ ⟨#[d]⟩ ++ cutS z (some (at1 + 1)) none).length ≤ 8) ∧
    (cutS z none (some at1) ++ ⟨#[d]⟩ : Str).length ≤ 8 := by
  obtain ⟨c, r, e, hc, hr, h7⟩ := name_form h
  have ez : z.length = r.length + 1 := by rw [str_len, e, List.length_cons]
  obtain ⟨k, rfl⟩ := Int.eq_ofNat_of_zero_le h0
  have hk : k < r.length + 1 := by omega
  have t1 := cut_to z k (by omega)
  have t2 : (cutS z (some ((k : Int) + 1)) none).cps.toList = z.cps.toList.drop (k + 1) := cut_from z (k + 1) (by omega)
  have e2 : (cutS z none (some (k : Int)) ++ ⟨#[d]⟩ ++ cutS z (some ((k : Int) + 1)) none).cps.toList = z.cps.toList.take k ++ [d] ++ z.cps.toList.drop (k + 1) := by
    rw [cat_list, cat_list, t1, t2]
  rw [List.all_eq_true] at hr
  refine ⟨?_, by rw [cat_len, str_len, t1, List.length_take, e, List.length_cons]; show _ + 1 ≤ 8; omega⟩
  cases k with
  | zero =>
    refine name_cons hd (cs := r) (List.all_eq_true.mpr hr) h7 ?_
    rw [e2, e]
    rfl
  | succ k =>
    refine name_cons hc (cs := r.take k ++ [d] ++ r.drop (k + 1)) ?_ ?_ ?_
    · rw [List.all_append, List.all_append, Bool.and_eq_true, Bool.and_eq_true]
      refine ⟨⟨List.all_eq_true.mpr fun x hx => hr x (List.mem_of_mem_take hx), by simp [letter_sign hd]⟩, List.all_eq_true.mpr fun x hx => hr x (List.mem_of_mem_drop hx)⟩
    · rw [List.length_append, List.length_append, List.length_take, List.length_drop]
      show _ + 1 + _ ≤ 7
      omega
    · rw [e2, e, List.take_succ_cons, List.drop_succ_cons]
      rfl
def spNear : Sp := fun vs H Q _ => ∃ (p : Addr) (z : Str), vs = [.ref p, .str z] ∧ PoolAt H p ∧ isNameS z = true ∧ z.length ≤ 8 ∧
  ∀ H' z', Pl p H H' → isNameS z' = true → z'.length ≤ 8 → Q (.str z') H'
theorem ok_near {f : Addr} {fd : FuncData} {dvs : List V} {kws : List (Str × V)} (T : Tx K mg)
    (F : FunD K "_law_near" "_law_near" (defArgs s__law_near) (defBody s__law_near) (defScope s__law_near) dvs kws f fd) :
    FnG P w K mg base CX0 3 f fd ["_law_pool_here", "_law_tag_here"] spNear := by
  have c__law_draw : Cal P w K mg base CX0 1 "_law_draw" [] spDraw := c_draw T
  refine okG F sc__law_near (fun vs H Q E h => ?_) (fun cdv A outer s H vs Q E hr hgd h => ?_)
  · obtain ⟨p, z, rfl, _⟩ := h
    rfl
  · obtain ⟨p, z, rfl, hp, vz, lz, q⟩ := h
    have hu := hr.units
    have z1 : 1 ≤ z.length := by
      rw [isNameS_eq] at vz
      simp only [Bool.and_eq_true, decide_eq_true_eq] at vz
      exact vz.1.1.1
    refine ⟨_, PSs.nox (pss_cons (ps_par (i := 2) (j := 3) rfl sc__law_near.nd rfl rfl (by decide) rfl rfl (pa_cons (pe_cal c__law_draw (hr.mono (by decide)) hgd pass0 (pa_cons (pv 0) (pa_cons (pe_callB call_len_str rfl T.f_len (by decide +kernel) (pa_cons (pv 1) pa_nil)) pa_nil))) (pa_cons (pe_ix ix_str pe_str (pe_cal c__law_draw (hr.mono (by decide)) hgd pass0 (pa_cons (pv 0) (pa_cons pe_int pa_nil))) (fun _ _ => rfl)) pa_nil)) (by rfl))
    (pss_cons (ps_set (i := 4) sc__law_near.nd rfl (Or.inl rfl) (pe_cal c__law_draw (hr.mono (by decide)) hgd pass0 (pa_cons (pv 0) (pa_cons pe_int pa_nil))))
    (pss_cons (ps_if (PW.pt (pw_and (pt_cmpR op_eq (pv 4) pe_int (nomark _)) (pw_and1 (pt_cmpR op_lt (pe_callB call_len_str rfl T.f_len (by decide +kernel) (pa_cons (pv 1) pa_nil)) pe_int (nomark _))))) (pss_one (ps_ret (pe_op op_add_str (pv 1) (pv 3)))) pss_nil)
    (pss_one (ps_ret (pe_ifExp (PW.pt (pw_and (pt_cmpR op_eq (pv 4) pe_int (nomark _)) (pw_and1 (pt_cmpR op_gt (pe_callB call_len_str rfl T.f_len (by decide +kernel) (pa_cons (pv 1) pa_nil)) pe_int (nomark _))))) (pe_slice sl_str (pv 1) po_none (po_some (pe_un un_neg pe_int))) (pe_op op_add_str (pe_op op_add_str (pe_slice sl_str (pv 1) po_none (po_some (pv 2))) (pv 3)) (pe_slice sl_str (pv 1) (po_some (pe_op op_add (pv 2) pe_int)) po_none)))))))), ?_⟩
    have zs : z.length ≤ sizeLine := Nat.le_trans lz (by decide)
    walk_at "rd"
    intro H1 at1 r1 a0 am
    walk_at "rd"
    intro H2 ls r2 l0 lm
    obtain ⟨c, hc, lc⟩ := letter_at l0 lm
    walk_at "rd"
    have hm := name_mid vz lc a0 am
    intro H3 way r3 w0 wm
    walk_at "rd"
    refine iteD (fun h1 => ?_) (fun h1 => ?_)
    · walk_at "rd"
      refine iteD (fun h2 => ?_) (fun h2 => ?_)
      · walk_at "rd"
        have h := name_snoc vz lc (by omega)
        exact ⟨by rw [← cat_len]; exact Nat.le_trans h.2 (by decide), q _ _ (by walk_at "g but") h.1 h.2⟩
      · --A
        walk_at "rd"
        refine iteD (fun h3 => ?_) (fun h3 => ?_)
        · walk_at "rd"
          refine iteD (fun h4 => ?_) (fun h4 => ?_)
          · walk_at "rd"
            have h := name_init vz (by omega)
            exact q _ _ (by walk_at "g but") h.1 h.2
          · walk_at "rd"
            refine ⟨?_, ?_⟩
            · rw [← cat_len]
              exact Nat.le_trans hm.2 (by decide)
            walk_at "rd"
            refine ⟨?_, ?_⟩
            · rw [← cat_len]
              exact Nat.le_trans hm.1.2 (by decide)
            exact q _ _ (by walk_at "g but") hm.1.1 hm.1.2
        · walk_at "rd"
          refine ⟨?_, ?_⟩
          · rw [← cat_len]
            exact Nat.le_trans hm.2 (by decide)
          walk_at "rd"
          refine ⟨?_, ?_⟩
          · rw [← cat_len]
            exact Nat.le_trans hm.1.2 (by decide)
          exact q _ _ (by walk_at "g but") hm.1.1 hm.1.2
    · --A
      walk_at "rd"
      refine iteD (fun h3 => ?_) (fun h3 => ?_)
      · walk_at "rd"
        refine iteD (fun h4 => ?_) (fun h4 => ?_)
        · walk_at "rd"
          have h := name_init vz (by omega)
          exact q _ _ (by walk_at "g but") h.1 h.2
        · walk_at "rd"
          refine ⟨?_, ?_⟩
          · rw [← cat_len]
            exact Nat.le_trans hm.2 (by decide)
          walk_at "rd"
          refine ⟨?_, ?_⟩
          · rw [← cat_len]
            exact Nat.le_trans hm.1.2 (by decide)
          exact q _ _ (by walk_at "g but") hm.1.1 hm.1.2
      · walk_at "rd"
        refine ⟨?_, ?_⟩
        · rw [← cat_len]
          exact Nat.le_trans hm.2 (by decide)
        walk_at "rd"
        refine ⟨?_, ?_⟩
        · rw [← cat_len]
          exact Nat.le_trans hm.1.2 (by decide)
        exact q _ _ (by walk_at "g but") hm.1.1 hm.1.2

end
end G
namespace G
open PySem PySem.Spec PyProof.Rows L2
section
variable {P : Program} {w : World} {K : PySem.W.Frag} {mg : Str → Option Value} {base : Heap} {CX : CXT}
/-! ### rows -/
abbrev cR (K : PySem.W.Frag) : Addr := He.ga K "Row"
abbrev cK (K : PySem.W.Frag) : Addr := He.ga K "Kind"
abbrev rowGo (K : PySem.W.Frag) : V := .ref (kwdAt ("Row", some "__init__") "goals" K)
abbrev kindMe (K : PySem.W.Frag) : V := .ref (kwdAt ("Kind", some "__init__") "members" K)
def spRow (K : PySem.W.Frag) : Sp := fun vs H Q _ => ∃ (p dx g : Addr) (tx la wo ga va : V), vs = [.ref p, tx, la, wo, ga, va, .ref g] ∧ H p = some (.ins (cR K) dx []) ∧ (∀ H, SqT K H g []) ∧
  ∀ H', But p H H' → H' p = some (.ins (cR K) dx [("text", tx), ("label", la), ("word", wo), ("gate", ga), ("value", va), ("goals", .ref g), ("goal", .non)]) → Q .non H'
theorem ok_Row {f : Addr} {fd : FuncData} {dvs : List V} {kws : List (Str × V)} (T : Tx K mg)
    (F : FunD K "__init__" "Row.__init__" (defArgs s_Row___init__) (defBody s_Row___init__) (defScope s_Row___init__) dvs kws f fd) :
    FnOk P w K mg base CX 1 f fd ["self", "text", "label", "word", "gate", "value", "goals"] (spRow K) := by
  refine F.ok sc_Row___init__ (fun vs H Q E h => ?_) (fun cdv A outer s H vs Q E hr h => ?_)
  · obtain ⟨p, dx, g, tx, la, wo, ga, va, rfl, _⟩ := h
    rfl
  · obtain ⟨p, dx, g, tx, la, wo, ga, va, rfl, hp, hg, q⟩ := h
    have cl := T.c_Row
    have n1 := T.na_Row_text
    have n2 := T.na_Row_label
    have n3 := T.na_Row_word
    have n4 := T.na_Row_gate
    have n5 := T.na_Row_value
    have n6 := T.na_Row_goals
    have n7 := T.na_Row_goal
    refine ⟨_, PSs.nox (pss_cons (ps_asg (pe_tup (pa_cons (pv 1) (pa_cons (pv 2) (pa_cons (pv 3) pa_nil)))) (pg_tup rfl (pgs_cons (pg_attr (pv 0)) (pgs_cons (pg_attr (pv 0)) (pgs_cons (pg_attr (pv 0)) pgs_nil)))))
    (pss_cons (ps_asg (pe_tup (pa_cons (pv 4) (pa_cons (pv 5) (pa_cons (pv 6) pa_nil)))) (pg_tup rfl (pgs_cons (pg_attr (pv 0)) (pgs_cons (pg_attr (pv 0)) (pgs_cons (pg_attr (pv 0)) pgs_nil)))))
    (pss_one (ps_fld (pv 0) (pe_ifExp (pt_cmpR op_gt (pe_callB call_len_seq rfl T.f_len (by decide +kernel) (pa_cons (pv 6) pa_nil)) pe_int (nomark _)) (pe_ix ix_tup (pv 6) pe_int (fun _ _ => rfl)) pe_non) rfl)))), ?_⟩
    walk_at "rd"
    intro t nt
    walk_at "rd"
    intro t2 nt2
    walk_at "rd"
    refine q _ (by walk_at "g but") ?_
    rw [upd_same]
    rfl
theorem c_Row_3 (T : Tx K mg) : CalC P w K mg base CX 1 "Row" (cR K) [.non, .non, rowGo K] (spRow K) := by
  obtain ⟨fd, F⟩ := T.d_Row___init__
  obtain ⟨ds, rd, hb⟩ := F.binds0 (ps := ["self", "text", "label", "word", "gate", "value", "goals"]) 4 (fun h => absurd (show 3 = 0 from congrArg List.length h) (by decide)) rfl (fun D doc pm an cdv ct us ks l1 l2 => match us, ks, l1, l2 with
    | [_, _, _, _], [_, _, _], _, _ => ⟨_, _, _, _, _, _, rfl, rfl, _, _, _, _, _, _, rfl, rfl, _, _, _, _, _, _, rfl, rfl, rfl⟩)
  obtain ⟨u, hm, ru⟩ := T.g_Row
  obtain rfl : u = Value.ref (cR K) := ru
  exact ⟨_, fd, _, ds, T.mk_Row, ok_Row T F, hm, hb, rd⟩
abbrev rowF (K : PySem.W.Frag) (tx la wo : V) : List (Str × V) := [("text", tx), ("label", la), ("word", wo), ("gate", .non), ("value", .non), ("goals", rowGo K), ("goal", .non)]
def spRowOf (K : PySem.W.Frag) : Sp := fun vs H Q _ => ∃ (a : Addr) (tx la : V), vs = [tx, la, .ref a] ∧ H a = some (.lst [.str "end"]) ∧
  ∀ H' r dx, Same H H' → H' r = some (.ins (cR K) dx (rowF K tx la (.str "end"))) → Q (.ref r) H'
theorem ok_row_of_words {f : Addr} {fd : FuncData} {dvs : List V} {kws : List (Str × V)} (T : Tx K mg)
    (F : FunD K "row_of_words" "row_of_words" (defArgs s_row_of_words) (defBody s_row_of_words) (defScope s_row_of_words) dvs kws f fd) :
    FnOk P w K mg base CX0 3 f fd ["text", "label", "words"] (spRowOf K) := by
  have c_Row_3 : CalC P w K mg base CX0 1 "Row" (cR K) [.non, .non, rowGo K] (spRow K) := c_Row_3 T
  refine F.ok sc_row_of_words (fun vs H Q E h => ?_) (fun cdv A outer s H vs Q E hr h => ?_)
  · obtain ⟨a, tx, la, rfl, _⟩ := h
    rfl
  · obtain ⟨a, tx, la, rfl, ha, q⟩ := h
    have hu := hr.units
    refine ⟨_, PSs.nox (pss_cons (ps_asg (pv 2) (pg_star (k := 1) rfl (pgs_cons (pg_name (i := 3) sc_row_of_words.nd rfl (Or.inl rfl)) (pgs_star (pg_name (i := 4) sc_row_of_words.nd rfl (Or.inl rfl)) pgs_nil))))
    (pss_cons (ps_if (PW.pt (pw_and (pt_cmpR op_in_seq (pv 3) (pe_tup (pa_cons pe_str (pa_cons pe_str (pa_cons pe_str (pa_cons pe_str pa_nil))))) rfl) (pw_and1 (pt_cmpR op_eq (pe_callB call_len_seq rfl T.f_len (by decide +kernel) (pa_cons (pv 4) pa_nil)) pe_int (nomark _))))) (pss_one ps_never) pss_nil)
    (pss_cons (ps_if (PW.pt (pw_and (pt_cmpR op_eq (pv 3) pe_str (nomark _)) (pw_and1 (pt_cmpR op_eq (pe_callB call_len_seq rfl T.f_len (by decide +kernel) (pa_cons (pv 4) pa_nil)) pe_int (nomark _))))) (pss_one ps_never) pss_nil)
    (pss_cons (ps_if (PW.pt (pw_and (pt_cmpR op_eq (pv 3) pe_str (nomark _)) (pw_and (pt_cmpR op_eq (pe_callB call_len_seq rfl T.f_len (by decide +kernel) (pa_cons (pv 4) pa_nil)) pe_int (nomark _)) (pw_and1 (pt_cmpR op_eq (pe_ix ix_list (pv 4) pe_int (fun _ _ => rfl)) pe_str (nomark _)))))) (pss_one ps_never) pss_nil)
    (pss_cons (ps_if (PW.pt (pw_and (pt_cmpR op_eq (pv 3) pe_str (nomark _)) (pw_and1 (pt_cmpR op_eq (pe_callB call_len_seq rfl T.f_len (by decide +kernel) (pa_cons (pv 4) pa_nil)) pe_int (nomark _))))) (pss_one ps_never) pss_nil)
    (pss_cons (ps_if (PW.pt (pw_and (pt_cmpR op_eq (pv 3) pe_str (nomark _)) (pw_and1 (pt_chain op_le op_le pe_int (pe_callB call_len_seq rfl T.f_len (by decide +kernel) (pa_cons (pv 4) pa_nil)) (pe_gl T.g_MOST_GOALS))))) (pss_one ps_never) pss_nil)
    (pss_one (ps_ret (pe_ifExp (pt_cmpR (op_eqD hu) (pv 2) (pe_lst (pa_cons pe_str pa_nil)) (nomark _)) (pe_mkc c_Row_3 (hr.mono (by decide)) pass0 (pa_cons (pv 0) (pa_cons (pv 1) (pa_cons (pv 3) pa_nil)))) pe_non))))))))), ?_⟩
    walk_at "rd"
    intro D nD
    walk_at "rd"
    intro p1 np1
    walk_at "rd"
    intro p2 np2
    walk_at "rd"
    refine ⟨.list [.str "end"], .list [.str "end"], .lst (.inl (.inl (by walk_at "g hp"))) (.cons (.str _) .nil), .lst (.inl (.inl upd_same)) (.cons (.str _) .nil), by decide +kernel, by decide +kernel, ?_⟩
    walk_at "rd"
    intro x dx nx nd ne
    refine ⟨x, dx, _, tx, la, .str "end", .non, .non, rfl, upd_same, T.kt_Row___init___goals, fun H' b e => ⟨rfl, q H' x dx ?_ e⟩⟩
    refine L2.Same.trans ?_ (made_same nx nd b)
    walk_at "g but"
def spHas (K : PySem.W.Frag) : Sp := fun vs H Q _ => ∃ (r dx : Addr) (tx : V), vs = [.ref r] ∧ H r = some (.ins (cR K) dx (rowF K tx .non (.str "end"))) ∧ ∀ H', Same H H' → Q (.bl true) H'
theorem ok_has_right_parts {f : Addr} {fd : FuncData} {dvs : List V} {kws : List (Str × V)} (T : Tx K mg)
    (F : FunD K "has_right_parts" "has_right_parts" (defArgs s_has_right_parts) (defBody s_has_right_parts) (defScope s_has_right_parts) dvs kws f fd) :
    FnOk P w K mg base CX0 2 f fd ["row"] (spHas K) := by
  have c_is_name : CalO P w K mg base CX0 1 "is_name" [] (spIsName K) := c_is_name T
  refine F.ok sc_has_right_parts (fun vs H Q E h => ?_) (fun cdv A outer s H vs Q E hr h => ?_)
  · obtain ⟨r, dx, tx, rfl, _⟩ := h
    rfl
  · obtain ⟨r, dx, tx, rfl, ha, q⟩ := h
    have hu := hr.units
    have cl := T.c_Row
    have n1 := T.na_Row_text
    have n2 := T.na_Row_label
    have n3 := T.na_Row_word
    have n4 := T.na_Row_gate
    have n5 := T.na_Row_value
    have n6 := T.na_Row_goals
    have kt := T.kt_Row___init___goals
    refine ⟨_, PSs.nox (pss_cons (ps_if (PW.pt (pw_and (pt_cmpR op_notN (pe_fld (pv 0) rfl) pe_non (nomark _)) (pw_and1 (pt_not (pt_val (pe_calO c_is_name (hr.mono (by decide)) pass0 (pa_cons (pe_fld (pv 0) rfl) pa_nil))))))) (pss_one (ps_ret pe_bl)) pss_nil)
    (pss_cons (ps_if (PW.pt (pw_and (pt_cmpR op_notN (pe_fld (pv 0) rfl) pe_non (nomark _)) (pw_and1 (pt_not (pt_val (pe_calO c_is_name (hr.mono (by decide)) pass0 (pa_cons (pe_fld (pv 0) rfl) pa_nil))))))) (pss_one (ps_ret pe_bl)) pss_nil)
    (pss_cons (ps_if (PW.pt (pw_and (pt_cmpR op_in_seq (pe_fld (pv 0) rfl) (pe_tup (pa_cons pe_str (pa_cons pe_str pa_nil))) rfl) (pw_and1 (PW.pt (pw_or (pt_cmpR op_isN (pe_fld (pv 0) rfl) pe_non (nomark _)) (pw_or1 (pt_cmpR op_gt (pe_fld (pv 0) rfl) (pe_gl T.g_MOST_VALUE) (nomark _)))))))) (pss_one (ps_ret pe_bl)) pss_nil)
    (pss_cons (ps_if (pt_cmpR op_in_seq pe_non (pe_fld (pv 0) rfl) rfl) (pss_one (ps_ret pe_bl)) pss_nil)
    (pss_one (ps_ret (pe_callB (cr_all rfl) rfl T.f_all (by decide +kernel) (pa_cons (pe_lc (own := [("at", 1)]) (g := gName 1) (tt := tYes) rfl sc_has_right_parts.nd (pi_range1 rfl T.f_range (pa_cons (pe_op op_sub (pe_callB call_len_seq rfl T.f_len (by decide +kernel) (pa_cons (pe_fld (pv 0) rfl) pa_nil)) pe_int) pa_nil)) (blkOk_by (own := [("at", 1)]) (N := n_has_right_parts) (sc := defScope s_has_right_parts) (by decide +kernel)) (fun _ _ _ _ _ => (pg_name (i := 1) sc_has_right_parts.nd rfl (Or.inl rfl))) (fun _ _ _ _ _ => pts_nil) (fun _ _ _ _ _ => (pe_cmpR op_lt (pe_ix (ixK (K := K) (r := rIxT) rfl ix_tup) (pe_fldK (K := K) rfl (pv 0) rfl) (pv 1) (fun _ _ => rfl)) (pe_ix (ixK (K := K) (r := rIxT) rfl ix_tup) (pe_fldK (K := K) rfl (pv 0) rfl) (pe_op op_add (pv 1) pe_int) (fun _ _ => rfl)) (nomark _)))) pa_nil)))))))), ?_⟩
    walk_at "rd"
    intro p1 np1
    walk_at "rd"
    intro D nD
    refine lcE (show Wk (Itr 0 0) [] _ from wk_range 0 0) trivial ?_
    exact ⟨D, [], rfl, SqL.of upd_same, q _ (by walk_at "g but")⟩
def spLeads (K : PySem.W.Frag) : Sp := fun vs H Q _ => ∃ (r dx : Addr) (m tx : V), vs = [.ref r, m] ∧ H r = some (.ins (cR K) dx (rowF K tx .non (.str "end"))) ∧ ∀ H', Same H H' → Q (.bl true) H'
theorem ok_leads_within {f : Addr} {fd : FuncData} {dvs : List V} {kws : List (Str × V)} (T : Tx K mg)
    (F : FunD K "leads_within" "leads_within" (defArgs s_leads_within) (defBody s_leads_within) (defScope s_leads_within) dvs kws f fd) :
    FnOk P w K mg base CX 1 f fd ["row", "many"] (spLeads K) := by
  refine F.ok sc_leads_within (fun vs H Q E h => ?_) (fun cdv A outer s H vs Q E hr h => ?_)
  · obtain ⟨r, dx, m, tx, rfl, _⟩ := h
    rfl
  · obtain ⟨r, dx, m, tx, rfl, ha, q⟩ := h
    have hu := hr.units
    have cl := T.c_Row
    have n6 := T.na_Row_goals
    have kt := T.kt_Row___init___goals
    refine ⟨_, PSs.nox (pss_one (ps_ret (pe_callB (cr_all rfl) rfl T.f_all (by decide +kernel) (pa_cons (pe_lc (own := [("goal", 2)]) (g := gName 2) (tt := tYes) rfl sc_leads_within.nd (pi_tup (pe_fld (pv 0) rfl)) (blkOk_by (own := [("goal", 2)]) (N := n_leads_within) (sc := defScope s_leads_within) (by decide +kernel)) (fun _ _ _ _ _ => (pg_name (i := 2) sc_leads_within.nd rfl (Or.inl rfl))) (fun _ _ _ _ _ => pts_nil) (fun _ _ _ _ _ => (pe_cmpR op_lt (pv 2) (pv 1) (nomark _)))) pa_nil)))), ?_⟩
    walk_at "rd"
    refine ⟨⟨_, kt _⟩, ?_⟩
    intro D nD
    refine lcE (wk_tup []) (kt _) ?_
    exact ⟨D, [], rfl, SqL.of upd_same, q _ (by walk_at "g but")⟩
theorem c_has_right_parts (T : Tx K mg) : CalO P w K mg base CX0 2 "has_right_parts" [] (spHas K) := by
  obtain ⟨fd, F⟩ := T.d_has_right_parts
  exact .mk F (ok_has_right_parts T F) T.n_has_right_parts fun _ _ _ _ _ _ us hl => match us, hl with | [_], _ => rfl
theorem c_row_of_words (T : Tx K mg) : CalO P w K mg base CX0 3 "row_of_words" [] (spRowOf K) := by
  obtain ⟨fd, F⟩ := T.d_row_of_words
  exact .mk F (ok_row_of_words T F) T.n_row_of_words fun _ _ _ _ _ _ us hl => match us, hl with | [_, _, _], _ => rfl
theorem c_leads_within (T : Tx K mg) : CalO P w K mg base CX 1 "leads_within" [] (spLeads K) := by
  obtain ⟨fd, F⟩ := T.d_leads_within
  exact .mk F (ok_leads_within T F) T.n_leads_within fun _ _ _ _ _ _ us hl => match us, hl with | [_, _], _ => rfl
def spParsed (K : PySem.W.Frag) : Sp := fun vs H Q _ => vs = [.str "end"] ∧ ∀ H' r dx, Same H H' → H' r = some (.ins (cR K) dx (rowF K (.str "end") .non (.str "end"))) → Q (.ref r) H'
theorem ok_parsed_row {f : Addr} {fd : FuncData} {dvs : List V} {kws : List (Str × V)} (T : Tx K mg)
    (F : FunD K "parsed_row" "parsed_row" (defArgs s_parsed_row) (defBody s_parsed_row) (defScope s_parsed_row) dvs kws f fd) :
    FnOk P w K mg base CX0 4 f fd ["text"] (spParsed K) := by
  have c_row_of_words : CalO P w K mg base CX0 3 "row_of_words" [] (spRowOf K) := c_row_of_words T
  have c_has_right_parts : CalO P w K mg base CX0 2 "has_right_parts" [] (spHas K) := c_has_right_parts T
  refine F.ok sc_parsed_row (fun vs H Q E h => ?_) (fun cdv A outer s H vs Q E hr h => ?_)
  · obtain ⟨rfl, _⟩ := h
    rfl
  · obtain ⟨rfl, q⟩ := h
    have hu := hr.units
    refine ⟨_, PSs.nox (pss_cons (ps_if (pt_not (pt_val (pe_callB call_isi rfl T.f_isinstance (by decide +kernel) (pa_cons (pv 0) (pa_cons (pe_bltn (v := .ty "str") (u := .type "str") rfl T.f_str (by decide +kernel) rfl) pa_nil))))) (pss_one (ps_ret pe_non)) pss_nil)
    (pss_cons (ps_asg (pe_partition (pv 0) pe_str) (pg_tup rfl (pgs_cons (pg_name (i := 1) sc_parsed_row.nd rfl (Or.inl rfl)) (pgs_cons (pg_name (i := 2) sc_parsed_row.nd rfl (Or.inl rfl)) (pgs_cons (pg_name (i := 3) sc_parsed_row.nd rfl (Or.inl rfl)) pgs_nil)))))
    (pss_cons (ps_if (pt_cmpR op_eq (pv 2) pe_str (nomark _)) (pss_one (ps_par (i := 1) (j := 3) rfl sc_parsed_row.nd rfl rfl (by decide) rfl rfl (pa_cons pe_non (pa_cons (pv 0) pa_nil)) (by rfl))) pss_nil)
    (pss_cons (ps_set (i := 4) sc_parsed_row.nd rfl (Or.inl rfl) (pe_calO c_row_of_words (hr.mono (by decide)) pass0 (pa_cons (pv 0) (pa_cons (pv 1) (pa_cons (pe_split (pv 3) pe_str) pa_nil)))))
    (pss_one (ps_ret (pe_ifExp (PW.pt (pw_and (pt_cmpR op_notN (pv 4) pe_non (nomark _)) (pw_and1 (pt_val (pe_calO c_has_right_parts (hr.mono (by decide)) pass0 (pa_cons (pv 4) pa_nil)))))) (pv 4) pe_non))))))), ?_⟩
    have e1 : Txt.partition (Str.ofString "end") (Str.ofString ": ") = (Str.ofString "end", Str.ofString "", Str.ofString "") := by decide +kernel
    have e2 : Txt.split (Str.ofString "end") (Str.ofString " ") = [Str.ofString "end"] := by decide +kernel
    walk_at "rd"
    intro p np
    rw [e1]
    walk_at "rd"
    rw [e2]
    intro p2 np2
    walk_at "rd"
    intro H' r dx s' hr'
    walk_at "rd"
    intro H2 s2
    walk_at "rd"
    refine q H2 r dx ?_ (s2 _ _ hr')
    refine L2.Same.trans (L2.Same.trans ?_ s') s2
    walk_at "g but"
theorem c_parsed_row (T : Tx K mg) : CalO P w K mg base CX0 4 "parsed_row" [] (spParsed K) := by
  obtain ⟨fd, F⟩ := T.d_parsed_row
  exact .mk F (ok_parsed_row T F) T.n_parsed_row fun _ _ _ _ _ _ us hl => match us, hl with | [_], _ => rfl
def spRows (K : PySem.W.Frag) : Sp := fun vs H Q _ => ∃ t, vs = [.ref t] ∧ H t = some (.tup [.str "end"]) ∧ ∀ H' p, Same H H' → Q (.ref p) H'
theorem ok_parsed_rows {f : Addr} {fd : FuncData} {dvs : List V} {kws : List (Str × V)} (T : Tx K mg)
    (F : FunD K "parsed_rows" "parsed_rows" (defArgs s_parsed_rows) (defBody s_parsed_rows) (defScope s_parsed_rows) dvs kws f fd) :
    FnOk P w K mg base CX0 5 f fd ["rows"] (spRows K) := by
  have c_parsed_row : CalO P w K mg base CX0 4 "parsed_row" [] (spParsed K) := c_parsed_row T
  have c_leads_within : CalO P w K mg base CX0 1 "leads_within" [] (spLeads K) := c_leads_within T
  refine F.ok sc_parsed_rows (fun vs H Q E h => ?_) (fun cdv A outer s H vs Q E hr h => ?_)
  · obtain ⟨t, rfl, _⟩ := h
    rfl
  · obtain ⟨t, rfl, ht, q⟩ := h
    have hu := hr.units
    have ht0 : SqT K H t [.str "end"] := SqT.of ht
    refine ⟨_, PSs.nox (pss_cons (ps_if (PW.pt (pw_or (pt_not (pt_val (pe_callB call_isi rfl T.f_isinstance (by decide +kernel) (pa_cons (pv 0) (pa_cons (pe_bltn (v := .ty "tuple") (u := .type "tuple") rfl T.f_tuple (by decide +kernel) rfl) pa_nil))))) (pw_or1 (pt_cmpR op_eq (pe_callB call_len_seq rfl T.f_len (by decide +kernel) (pa_cons (pv 0) pa_nil)) pe_int (nomark _))))) (pss_one ps_never) pss_nil)
    (pss_cons (ps_set (i := 1) sc_parsed_rows.nd rfl (Or.inl rfl) (pe_lst pa_nil))
    (pss_cons (ps_for PassesOwn.never rfl (pi_enumT rfl T.f_enumerate (pa_cons (pe_slice sl_tupA (pv 0) po_none (po_some (pe_gl T.g_MOST_ROWS))) pa_nil)) (pg_tup rfl (pgs_cons (pg_name (i := 2) sc_parsed_rows.nd rfl (Or.inl rfl)) (pgs_cons (pg_name (i := 3) sc_parsed_rows.nd rfl (Or.inl rfl)) pgs_nil)))
      (pss_cons (ps_set (i := 4) sc_parsed_rows.nd rfl (Or.inl rfl) (pe_calO c_parsed_row (hr.mono (by decide)) pass0 (pa_cons (pv 3) pa_nil)))
    (pss_cons (ps_if (PW.pt (pw_or (pt_cmpR op_isN (pv 4) pe_non (nomark _)) (pw_or1 (pt_not (pt_val (pe_calO c_leads_within (hr.mono (by decide)) pass0 (pa_cons (pv 4) (pa_cons (pe_callB call_len_seq rfl T.f_len (by decide +kernel) (pa_cons (pv 0) pa_nil)) pa_nil)))))))) (pss_one ps_never) pss_nil)
    (pss_one (ps_expr (pe_bm PySem.F.plainAttrs_list PySem.F.slot_list_append PySem.F.type_list_append mt_append (pv 1) (pa_cons (pv 4) pa_nil)))))))
    (pss_cons (ps_if (pt_cmpR op_gt (pe_callB call_len_seq rfl T.f_len (by decide +kernel) (pa_cons (pv 0) pa_nil)) (pe_gl T.g_MOST_ROWS) (nomark _)) (pss_one ps_never) pss_nil)
    (pss_one (ps_ret (pe_callTy call_tuple_of rfl T.f_tuple (by decide +kernel) (pa_cons (pv 1) pa_nil)))))))), ?_⟩
    walk_at "rd"
    intro D nD
    walk_at "rd"
    have ht' : SqT K (upd H D (.lst [])) t [.str "end"] := SqT.of (upd_get nD ht)
    refine ⟨fun _ => ?_, fun h => absurd ⟨rfl, rfl⟩ h⟩
    walk_at "rd"
    refine forE (xs := [.str "end"]) (fun i σ H' => Same H H' ∧ ∃ (rs : List V) (a b c : Option V), σ = [some (.ref t), some (.ref D), a, b, c] ∧ H' D = some (.lst rs) ∧ rs.length = i)
      ⟨by walk_at "g but", [], none, none, none, rfl, upd_same, rfl⟩ (fun i σ H' _ pv => SqT.of (pv.1 _ _ ht)) ?_ ?_
    · rintro i x σ H' T hx ⟨s', rs, a, b, c, rfl, hD, hl⟩ nT
      obtain rfl : i = 0 := by have := (List.getElem?_eq_some_iff.mp hx).1; simpa using this
      obtain rfl : V.str "end" = x := Option.some.inj hx
      walk_at "rd"
      intro H2 r dx s2 hr2
      walk_at "rd"
      intro H3 s3
      walk_at "rd"
      have hD3 : H3 D = some (.lst rs) := s3 _ _ (s2 _ _ (upd_get nT hD))
      refine ⟨.inl ⟨rfl, _, SqL.of hD3⟩, ?_⟩
      refine ⟨_, rfl, ?_⟩
      refine ⟨D, rs, .ref r, rfl, rfl, hD3, by rw [hl]; decide, ?_⟩
      exact ⟨L2.Same.own (((s'.new nT).trans s2).trans s3) nD, _, _, _, _, rfl, upd_same, by simp [hl]⟩
    · rintro σ H' ⟨s', rs, a, b, c, rfl, hD, hl⟩
      walk_at "rd"
      exact .inl ⟨SqL.of hD, fun l nl => q _ _ (by walk_at "g but")⟩
theorem c_parsed_rows (T : Tx K mg) : CalO P w K mg base CX0 5 "parsed_rows" [] (spRows K) := by
  obtain ⟨fd, F⟩ := T.d_parsed_rows
  exact .mk F (ok_parsed_rows T F) T.n_parsed_rows fun _ _ _ _ _ _ us hl => match us, hl with | [_], _ => rfl
def spMembers (K : PySem.W.Frag) : Sp := fun vs H Q _ => ∃ t, vs = [.ref t] ∧ (∀ H, SqT K H t []) ∧ ∀ H', Same H H' → Q .non H'
theorem ok_check_members {f : Addr} {fd : FuncData} {dvs : List V} {kws : List (Str × V)} (T : Tx K mg)
    (F : FunD K "check_members" "check_members" (defArgs s_check_members) (defBody s_check_members) (defScope s_check_members) dvs kws f fd) :
    FnOk P w K mg base CX0 2 f fd ["members"] (spMembers K) := by
  have c_is_name : CalO P w K mg base CX0 1 "is_name" [] (spIsName K) := c_is_name T
  refine F.ok sc_check_members (fun vs H Q E h => ?_) (fun cdv A outer s H vs Q E hr h => ?_)
  · obtain ⟨t, rfl, _⟩ := h
    rfl
  · obtain ⟨t, rfl, ht, q⟩ := h
    have hu := hr.units
    refine ⟨_, PSs.nox (pss_cons (ps_if (pt_not (pt_val (pe_callB call_isi rfl T.f_isinstance (by decide +kernel) (pa_cons (pv 0) (pa_cons (pe_bltn (v := .ty "tuple") (u := .type "tuple") rfl T.f_tuple (by decide +kernel) rfl) pa_nil))))) (pss_one ps_never) pss_nil)
    (pss_one (ps_for PassesOwn.never rfl (pi_enumT rfl T.f_enumerate (pa_cons (pv 0) pa_nil)) (pg_tup rfl (pgs_cons (pg_name (i := 1) sc_check_members.nd rfl (Or.inl rfl)) (pgs_cons (pg_name (i := 2) sc_check_members.nd rfl (Or.inl rfl)) pgs_nil)))
      (pss_one (ps_if (PW.pt (pw_or (pt_not (pt_val (pe_calO c_is_name (hr.mono (by decide)) pass0 (pa_cons (pv 2) pa_nil)))) (pw_or1 (pt_cmpR op_in_seq (pv 2) (pe_slice sl_tupA (pv 0) po_none (po_some (pv 1))) rfl)))) (pss_one ps_never) pss_nil))))), ?_⟩
    walk_at "rd"
    refine forE (xs := []) (fun _ _ H' => H' = H) rfl (fun _ _ _ _ _ => ht _) (fun i x σ H T hx => by simp at hx) (fun σ H' e => ?_)
    rw [e]
    exact q _ (.refl _)
theorem c_check_members (T : Tx K mg) : CalO P w K mg base CX0 2 "check_members" [] (spMembers K) := by
  obtain ⟨fd, F⟩ := T.d_check_members
  exact .mk F (ok_check_members T F) T.n_check_members fun _ _ _ _ _ _ us hl => match us, hl with | [_], _ => rfl
end
end G
namespace G
open PySem PySem.Spec PyProof.Rows L2
section
variable {P : Program} {w : World} {K : PySem.W.Frag} {mg : Str → Option Value} {base : Heap} {CX : CXT}
/-! ### the kind that the law makes -/
def spKind (K : PySem.W.Frag) : Sp := fun vs H Q _ => ∃ (p dx t m : Addr) (n : Str), vs = [.ref p, .str n, .ref t, .bl false, .ref m] ∧ H p = some (.ins (cK K) dx []) ∧
  n.length ≤ sizeLine ∧ isNameS n = true ∧ H t = some (.tup [.str "end"]) ∧ (∀ H, SqT K H m []) ∧
  ∀ H' fs, But p H H' → H' p = some (.ins (cK K) dx fs) → Q .non H'
theorem ok_Kind {f : Addr} {fd : FuncData} {dvs : List V} {kws : List (Str × V)} (T : Tx K mg)
    (F : FunD K "__init__" "Kind.__init__" (defArgs s_Kind___init__) (defBody s_Kind___init__) (defScope s_Kind___init__) dvs kws f fd) :
    FnOk P w K mg base CX0 6 f fd ["self", "name", "rows", "many", "members"] (spKind K) := by
  have c_is_name : CalO P w K mg base CX0 1 "is_name" [] (spIsName K) := c_is_name T
  have c_parsed_rows : CalO P w K mg base CX0 5 "parsed_rows" [] (spRows K) := c_parsed_rows T
  have c_check_members : CalO P w K mg base CX0 2 "check_members" [] (spMembers K) := c_check_members T
  refine F.ok sc_Kind___init__ (fun vs H Q E h => ?_) (fun cdv A outer s H vs Q E hr h => ?_)
  · obtain ⟨p, dx, t, m, n, rfl, _⟩ := h
    rfl
  · obtain ⟨p, dx, t, m, n, rfl, hp, hn, vn, ht, hm, q⟩ := h
    have cl := T.c_Kind
    have n1 := T.na_Kind_called
    have n2 := T.na_Kind_texts
    have n3 := T.na_Kind_parsed
    have n4 := T.na_Kind_any_number
    have n5 := T.na_Kind_begun
    refine ⟨_, PSs.nox (pss_cons (ps_if (pt_not (pt_val (pe_calO c_is_name (hr.mono (by decide)) pass0 (pa_cons (pv 1) pa_nil)))) (pss_one ps_never) pss_nil)
    (pss_cons (ps_asg (pe_tup (pa_cons (pv 1) (pa_cons (pv 2) (pa_cons (pe_calO c_parsed_rows (hr.mono (by decide)) pass0 (pa_cons (pv 2) pa_nil)) pa_nil)))) (pg_tup rfl (pgs_cons (pg_attr (pv 0)) (pgs_cons (pg_attr (pv 0)) (pgs_cons (pg_attr (pv 0)) pgs_nil)))))
    (pss_cons (ps_if (PW.pt (pw_and (pt_cmpR op_notBl (pv 3) pe_bl (nomark _)) (pw_and1 (pt_cmpR op_notBl (pv 3) pe_bl (nomark _))))) (pss_one ps_never) pss_nil)
    (pss_cons (ps_expr (pe_calO c_check_members (hr.mono (by decide)) pass0 (pa_cons (pv 4) pa_nil)))
    (pss_one (ps_asg (pe_tup (pa_cons (pv 3) (pa_cons (pv 4) pa_nil))) (pg_tup rfl (pgs_cons (pg_attr (pv 0)) (pgs_cons (pg_attr (pv 0)) pgs_nil))))))))), ?_⟩
    walk_at "rd"
    intro H1 s1
    rw [vn]
    walk_at "rd"
    intro H2 r2 s2
    walk_at "rd"
    intro t1 nt1
    walk_at "rd"
    intro H3 s3
    walk_at "rd"
    intro t2 nt2
    walk_at "rd"
    refine q _ _ ?_ upd_same
    walk_at "g but"
/-! ### constructors -/
theorem c_Gate_2 (T : Tx K mg) : CalC P w K mg base CX0 2 "Gate" (cG K) [] (spGate K) := by
  obtain ⟨fd, F⟩ := T.d_Gate___init__
  obtain ⟨ds, rd, hb⟩ := F.binds1 (ps := ["self", "name", "within"]) 3 1 (fun h => absurd (show 1 = 0 from congrArg List.length h) (by decide)) rfl (fun T kV doc pm an cdv ct us its l1 l2 => match us, its, l1, l2 with
    | [_, _, _], [_], _, _ => ⟨_, rfl, rfl⟩)
  obtain ⟨u, hm, ru⟩ := T.g_Gate
  obtain rfl : u = Value.ref (cG K) := ru
  exact ⟨_, fd, _, ds, T.mk_Gate, ok_Gate T F, hm, hb, rd⟩
theorem c_Gate_1 (T : Tx K mg) : CalC P w K mg base CX0 2 "Gate" (cG K) [.non] (spGate K) := by
  obtain ⟨fd, F⟩ := T.d_Gate___init__
  obtain ⟨ds, rd, hb⟩ := F.binds1 (ps := ["self", "name", "within"]) 2 0 (fun h => absurd (show 1 = 0 from congrArg List.length h) (by decide)) rfl (fun T kV doc pm an cdv ct us its l1 l2 => match us, its, l1, l2 with
    | [_, _], [_], _, _ => ⟨_, rfl, rfl⟩)
  obtain ⟨u, hm, ru⟩ := T.g_Gate
  obtain rfl : u = Value.ref (cG K) := ru
  exact ⟨_, fd, _, ds, T.mk_Gate, ok_Gate T F, hm, hb, rd⟩
def gWN {α : Type} (us ds ws : List α) : List α := us ++ (ws.drop 1 ++ ws.take 1)
def gNA {α : Type} (us ds ws : List α) : List α := us ++ (ws ++ ds)
theorem c_Gate_0_within_name (T : Tx K mg) : CalN P w K mg base CX0 2 "Gate" (cG K) 0 ["within", "name"] (fun vs zs => gWN vs [.non] zs) (spGate K) := by
  obtain ⟨fd, F⟩ := T.d_Gate___init__
  obtain ⟨its, hb⟩ := F.kbindsD (ps := ["self", "name", "within"]) 1 ["within", "name"] gWN (fun h => absurd (show 1 = 0 from congrArg List.length h) (by decide))
    (fun r1 r2 r3 => vals_app r1 (vals_app (vals_drop 1 r3) (vals_take 1 r3))) (fun T kV doc pm an cdv ct us its ws l1 l2 l3 => match us, its, ws, l1, l2, l3 with
    | [_], [_], [_, _], _, _, _ => ⟨_, rfl, rfl⟩)
  obtain ⟨u, hm, ru⟩ := T.g_Gate
  obtain rfl : u = Value.ref (cG K) := ru
  exact ⟨_, fd, _, _, T.mk_Gate, ok_Gate T F, hm, hb⟩
theorem c_Gate_0_name (T : Tx K mg) : CalN P w K mg base CX0 2 "Gate" (cG K) 0 ["name"] (fun vs zs => gNA vs [.non] zs) (spGate K) := by
  obtain ⟨fd, F⟩ := T.d_Gate___init__
  obtain ⟨its, hb⟩ := F.kbindsD (ps := ["self", "name", "within"]) 1 ["name"] gNA (fun h => absurd (show 1 = 0 from congrArg List.length h) (by decide))
    (fun r1 r2 r3 => vals_app r1 (vals_app r3 r2)) (fun T kV doc pm an cdv ct us its ws l1 l2 l3 => match us, its, ws, l1, l2, l3 with
    | [_], [_], [_], _, _, _ => ⟨_, rfl, rfl⟩)
  obtain ⟨u, hm, ru⟩ := T.g_Gate
  obtain rfl : u = Value.ref (cG K) := ru
  exact ⟨_, fd, _, _, T.mk_Gate, ok_Gate T F, hm, hb⟩
theorem c_Kind_2 (T : Tx K mg) : CalC P w K mg base CX0 6 "Kind" (cK K) [.bl false, kindMe K] (spKind K) := by
  obtain ⟨fd, F⟩ := T.d_Kind___init__
  obtain ⟨ds, rd, hb⟩ := F.binds0 (ps := ["self", "name", "rows", "many", "members"]) 3 (fun h => absurd (show 2 = 0 from congrArg List.length h) (by decide)) rfl (fun D doc pm an cdv ct us ks l1 l2 => match us, ks, l1, l2 with
    | [_, _, _], [_, _], _, _ => ⟨_, _, _, _, _, _, rfl, rfl, _, _, _, _, _, _, rfl, rfl, rfl⟩)
  obtain ⟨u, hm, ru⟩ := T.g_Kind
  obtain rfl : u = Value.ref (cK K) := ru
  exact ⟨_, fd, _, ds, T.mk_Kind, ok_Kind T F, hm, hb, rd⟩
end
end G
namespace G
open PySem PySem.Spec PyProof.Rows L2
/-! ### the text of a pair of names -/
def dOf : V → PyData
  | .str z => .str z
  | _ => .none
def pairD (n : Str) (v : V) : PyData := .list [.str n, dOf v]
theorem sign_small {c : Nat} (h : isSign c = true) : c < 16 ^ 8 := by
  have a : ∀ c ∈ signsS.cps.toList, c < 16 ^ 8 := by decide +kernel
  exact a c (of_decide_eq_true h)
theorem name_repr {z : Str} (h : isNameS z = true) (hl : z.length ≤ 8) : (reprText z).length ≤ 82 := by
  obtain ⟨c, r, e, hc, hr, _⟩ := name_form h
  have k := PySem.StrLaws.reprText_len z (by
    rw [e]
    intro d hd
    rcases List.mem_cons.mp hd with rfl | hd
    · exact sign_small (letter_sign hc)
    · exact sign_small (List.all_eq_true.mp hr d hd))
  omega
theorem pair_len {n : Str} {v : V} (h : isNameS n = true) (hl : n.length ≤ 8) (hv : NameOr8 v) : (pairD n v).shown.length ≤ sizeLine := by
  have h1 := name_repr h hl
  have h2 : (dOf v).shown.length ≤ 82 := by
    rcases hv with rfl | ⟨z, rfl, lz, vz⟩
    · show (Str.ofString "None").length ≤ 82
      decide +kernel
    · exact name_repr vz lz
  show (Str.ofString "[" ++ Str.ofString "" ++ reprText n ++ Str.ofString ", " ++ (dOf v).shown ++ Str.ofString "]").length ≤ sizeLine
  rw [cat_len, cat_len, cat_len, cat_len, cat_len, show (Str.ofString "[").length = 1 from by decide +kernel, show (Str.ofString "").length = 0 from by decide +kernel,
    show (Str.ofString ", ").length = 2 from by decide +kernel, show (Str.ofString "]").length = 1 from by decide +kernel, sizeLine_eq]
  omega
theorem pair_show (n : Str) {v : V} (hv : NameOr8 v) : (pairD n v).showable = true ∧ (pairD n v).hasDict = false ∧ (pairD n v).depth ≤ 60 := by
  rcases hv with rfl | ⟨z, rfl, _⟩
  · exact ⟨rfl, rfl, by simp [pairD, dOf, PyData.depth, PyData.depthAll]⟩
  · exact ⟨rfl, rfl, by simp [pairD, dOf, PyData.depth, PyData.depthAll]⟩
theorem pair_dp {K : PySem.W.Frag} {H : Hp} {a : Addr} {n : Str} {v : V} (h : H a = some (.lst [.str n, v])) (hv : NameOr8 v) : Dp K H (.ref a) (pairD n v) := by
  refine .lst (SqL.of h) (.cons (.str _) (.cons ?_ .nil))
  rcases hv with rfl | ⟨z, rfl, _⟩
  · exact .non
  · exact .str _
theorem nameOr_of {v : V} (h : NameOr8 v) : NameOr v := by
  rcases h with rfl | ⟨z, rfl, l, e⟩
  · exact .inl rfl
  · exact .inr ⟨z, rfl, Nat.le_trans l (by decide), e⟩
section
variable {P : Program} {w : World} {K : PySem.W.Frag} {mg : Str → Option Value} {base : Heap} {CX : CXT}
def spIs (K : PySem.W.Frag) : Sp := fun vs H Q _ => ∃ (g dx : Addr) (n : Str) (v : V), vs = [.ref g, .str n, v] ∧ H g = some (.ins (cG K) dx (gateF (.str n) v)) ∧
  isNameS n = true ∧ n.length ≤ 8 ∧ NameOr8 v ∧ ∀ H', Same H H' → Q (.bl true) H'
theorem ok_is {f : Addr} {fd : FuncData} {dvs : List V} {kws : List (Str × V)} (T : Tx K mg)
    (F : FunD K "_law_is" "_law_is" (defArgs s__law_is) (defBody s__law_is) (defScope s__law_is) dvs kws f fd) :
    FnG P w K mg base CX0 3 f fd ["_law_gate", "_law_tag_here", "_law_outer"] (spIs K) := by
  refine okG F sc__law_is (fun vs H Q E h => ?_) (fun cdv A outer s H vs Q E hr hgd h => ?_)
  · obtain ⟨g, dx, n, v, rfl, _⟩ := h
    rfl
  · obtain ⟨g, dx, n, v, rfl, hg, vn, ln, hv, q⟩ := h
    have hu := hr.units
    have cl := T.c_Gate
    have ci := T.i_Gate
    have me := ci.me
    have ty : TyX K H (.ref g) (.ref (cG K)) := .base (ci.ty cl hg)
    refine ⟨_, PSs.nox (pss_cons (ps_if (PW.pt (pw_or (pt_not (pt_val (pe_callB call_isi rfl T.f_isinstance (by decide +kernel) (pa_cons (pv 0) (pa_cons (pe_gl T.g_Gate) pa_nil))))) (pw_or1 (pt_not (pt_truthR (pv 0) (tru_inst T.nb_Gate T.nl_Gate) (by intro _; rfl)))))) (pss_one (ps_ret pe_bl)) pss_nil)
    (pss_one (ps_ret (pe_cmpR op_eq (pe_callB (call_repr hgd hu) rfl T.f_repr (by decide +kernel) (pa_cons (pe_lst (pa_cons (pe_get (T.p_Gate_name _ _ _) (hr.mono (by decide)) (pv 0)) (pa_cons (pe_get (T.p_Gate_within _ _ _) (hr.mono (by decide)) (pv 0)) pa_nil))) pa_nil)) (pe_callB (call_repr hgd hu) rfl T.f_repr (by decide +kernel) (pa_cons (pe_lst (pa_cons (pv 1) (pa_cons (pv 2) pa_nil))) pa_nil)) (nomark _))))), ?_⟩
    walk_at "rd"
    intro p1 np1
    have sh := pair_show n hv
    refine ⟨.ref p1, pairD n v, rfl, pair_dp upd_same hv, sh.1, sh.2.1, sh.2.2, pair_len vn ln hv, ?_⟩
    walk_at "rd"
    intro p2 np2
    refine ⟨.ref p2, pairD n v, rfl, pair_dp upd_same hv, sh.1, sh.2.1, sh.2.2, pair_len vn ln hv, ?_⟩
    walk_at "rd"
    exact ret_eq (q _ (by walk_at "g but")) (by simp)
theorem c_is (T : Tx K mg) : Cal P w K mg base CX0 3 "_law_is" [] (spIs K) := by
  obtain ⟨fd, F⟩ := T.d__law_is
  exact .mk F (ok_is T F) T.n__law_is fun _ _ _ _ _ _ us hl => match us, hl with | [_, _, _], _ => rfl
/-- == of gates: all that it wants -/
theorem eqG (T : Tx K mg) : ∃ f fd ps, EqC K (cG K) f ∧ FnOk P w K mg base CX 1 f fd ps (spGateEq K) ∧ Binds K fd ps [] := by
  obtain ⟨fd, F⟩ := T.d_Gate___eq__
  exact ⟨_, fd, _, T.e_Gate, ok_Gate_eq T F, F.bindsN fun _ _ _ _ _ _ us hl => match us, hl with | [_, _], _ => rfl⟩
theorem eqGG (T : Tx K mg) {H : Hp} {a da b db : Addr} {n n' : Str} {v v' : V} {W : VK} {E : Bool} (ha : H a = some (.ins (cG K) da (gateF (.str n) v)))
    (hb : H b = some (.ins (cG K) db (gateF (.str n') v'))) (hv : NameOr8 v) (hv' : NameOr8 v') (e : E = (decide (n = n') && decide (v = v'))) (q : W (.bl E) H) :
    TyOf K H (.ref b) (.ref (cG K)) ∧ PySem.W.notFirst K (cG K) (.ref (cG K)) = true ∧ spGateEq K [.ref a, .ref b] H W E0 :=
  ⟨T.i_Gate.ty T.c_Gate hb, by simp [PySem.W.notFirst], a, da, n, v, .ref b, rfl, ha, nameOr_of hv, .inl ⟨b, db, n', v', rfl, hb, nameOr_of hv', by rw [← e]; exact q⟩⟩
theorem eqGO {H : Hp} {a da : Addr} {n : Str} {v y : V} {t : Value} {W : VK} (ha : H a = some (.ins (cG K) da (gateF (.str n) v))) (hv : NameOr8 v)
    (ty : TyOf K H y t) (nf : PySem.W.notFirst K (cG K) t = true) (ko : PySem.W.kitOne K t (.ref (cG K)) = some false) (q : W (.bl false) H) :
    TyOf K H y t ∧ PySem.W.notFirst K (cG K) t = true ∧ spGateEq K [.ref a, y] H W E0 :=
  ⟨ty, nf, a, da, n, v, y, rfl, ha, nameOr_of hv, .inr ⟨t, .base ty, ko, q⟩⟩
def fourD (E : Bool) : PyData := .list [.bool E, .bool E, .bool (!E), .bool (!E)]
theorem four_ok (E : Bool) : (fourD E).showable = true ∧ (fourD E).hasDict = false ∧ (fourD E).depth ≤ 60 ∧ (fourD E).shown.length ≤ sizeLine := by
  cases E <;> decide +kernel
theorem four_dp {H : Hp} {a : Addr} {E : Bool} (h : H a = some (.lst [.bl E, .bl E, .bl (!E), .bl (!E)])) : Dp K H (.ref a) (fourD E) :=
  .lst (SqL.of h) (.cons (.bl _) (.cons (.bl _) (.cons (.bl _) (.cons (.bl _) .nil))))
/-- a resting place between statements -/
theorem mid1 {t1 t2 : TS} {D : Ends} {σ : L2.St} {H : Hp} (M : L2.St → Hp → Prop) (h2 : ∀ σ' H', M σ' H' → t2 D σ' H')
    (h1 : ∀ u : TS, (∀ σ' H', M σ' H' → u D σ' H') → tSeq t1 u D σ H) : tSeq t1 t2 D σ H := h1 t2 h2
theorem mid3 {t1 t2 t3 t4 : TS} {D : Ends} {σ : L2.St} {H : Hp} (M : L2.St → Hp → Prop) (h2 : ∀ σ' H', M σ' H' → t4 D σ' H')
    (h1 : ∀ u : TS, (∀ σ' H', M σ' H' → u D σ' H') → tSeq t1 (tSeq t2 (tSeq t3 u)) D σ H) : tSeq t1 (tSeq t2 (tSeq t3 t4)) D σ H := h1 t4 h2
theorem mid6 {t1 t2 t3 t4 t5 t6 t7 : TS} {D : Ends} {σ : L2.St} {H : Hp} (M : L2.St → Hp → Prop) (h2 : ∀ σ' H', M σ' H' → t7 D σ' H')
    (h1 : ∀ u : TS, (∀ σ' H', M σ' H' → u D σ' H') → tSeq t1 (tSeq t2 (tSeq t3 (tSeq t4 (tSeq t5 (tSeq t6 u))))) D σ H) :
    tSeq t1 (tSeq t2 (tSeq t3 (tSeq t4 (tSeq t5 (tSeq t6 t7))))) D σ H := h1 t7 h2
theorem c_near (T : Tx K mg) : Cal P w K mg base CX0 3 "_law_near" [] spNear := by
  obtain ⟨fd, F⟩ := T.d__law_near
  exact .mk F (ok_near T F) T.n__law_near fun _ _ _ _ _ _ us hl => match us, hl with | [_, _], _ => rfl
def spRight : Sp := fun vs H Q _ => ∃ p : Addr, vs = [.ref p] ∧ PoolAt H p ∧ ∀ H', Pl p H H' → Q (.bl true) H'
theorem ok_right {f : Addr} {fd : FuncData} {dvs : List V} {kws : List (Str × V)} (T : Tx K mg)
    (F : FunD K "_law_right" "_law_right" (defArgs s__law_right) (defBody s__law_right) (defScope s__law_right) dvs kws f fd) :
    FnG P w K mg base CX0 8 f fd ["_law_pool_here"] spRight := by
  have c__law_draw : Cal P w K mg base CX0 1 "_law_draw" [] spDraw := c_draw T
  have c__law_tag : Cal P w K mg base CX0 2 "_law_tag" [] spTag := c_tag T
  have c__law_around : Cal P w K mg base CX0 3 "_law_around" [] spAround := c_around T
  have c__law_near : Cal P w K mg base CX0 3 "_law_near" [] spNear := c_near T
  have c__law_is : Cal P w K mg base CX0 3 "_law_is" [] (spIs K) := c_is T
  have c_Gate_2 : CalC P w K mg base CX0 2 "Gate" (cG K) [] (spGate K) := c_Gate_2 T
  have c_Gate_1 : CalC P w K mg base CX0 2 "Gate" (cG K) [.non] (spGate K) := c_Gate_1 T
  have c_Kind_2 : CalC P w K mg base CX0 6 "Kind" (cK K) [.bl false, kindMe K] (spKind K) := c_Kind_2 T
  have c_Gate_0_name : CalN P w K mg base CX0 2 "Gate" (cG K) 0 ["name"] (fun vs zs => gNA vs [.non] zs) (spGate K) := c_Gate_0_name T
  have c_Gate_0_within_name : CalN P w K mg base CX0 2 "Gate" (cG K) 0 ["within", "name"] (fun vs zs => gWN vs [.non] zs) (spGate K) := c_Gate_0_within_name T
  refine okG F sc__law_right (fun vs H Q E h => ?_) (fun cdv A outer s H vs Q E hr hgd h => ?_)
  · obtain ⟨p, rfl, _⟩ := h
    rfl
  · obtain ⟨p, rfl, hp, q⟩ := h
    have hu := hr.units
    have cl := T.c_Gate
    have ci := T.i_Gate
    have me := ci.me
    obtain ⟨fe, fde, pse, ee, fne, bne⟩ := eqG (P := P) (w := w) (base := base) (CX := CX0) T
    refine ⟨_, PSs.nox (pss_cons (ps_par (i := 1) (j := 2) rfl sc__law_right.nd rfl rfl (by decide) rfl rfl (pa_cons (pe_cal c__law_tag (hr.mono (by decide)) hgd pass0 (pa_cons (pv 0) pa_nil)) (pa_cons (pe_cal c__law_around (hr.mono (by decide)) hgd pass0 (pa_cons (pv 0) pa_nil)) pa_nil)) (by rfl))
    (pss_cons (ps_set (i := 3) sc__law_right.nd rfl (Or.inl rfl) (pe_cal c__law_draw (hr.mono (by decide)) hgd pass0 (pa_cons (pv 0) (pa_cons pe_int pa_nil))))
    (pss_cons (ps_set (i := 4) sc__law_right.nd rfl (Or.inl rfl) (pe_ifExp (pt_cmpR op_lt (pv 3) pe_int (nomark _)) (pv 1) (pe_cal c__law_near (hr.mono (by decide)) hgd pass0 (pa_cons (pv 0) (pa_cons (pv 1) pa_nil)))))
    (pss_cons (ps_set (i := 5) sc__law_right.nd rfl (Or.inl rfl) (pe_ifExp (pt_cmpR op_in_seq (pv 3) (pe_lst (pa_cons pe_int (pa_cons pe_int pa_nil))) rfl) (pv 2) (pe_cal c__law_around (hr.mono (by decide)) hgd pass0 (pa_cons (pv 0) pa_nil))))
    (pss_cons (ps_if (PW.pt (pw_and (pt_cmpR op_eq (pv 3) pe_int (nomark _)) (pw_and (pt_cmpR op_notN (pv 2) pe_non (nomark _)) (pw_and1 (pt_cmpR op_eq (pe_cal c__law_draw (hr.mono (by decide)) hgd pass0 (pa_cons (pv 0) (pa_cons pe_int pa_nil))) pe_int (nomark _)))))) (pss_one (ps_set (i := 5) sc__law_right.nd rfl (Or.inl rfl) (pe_cal c__law_near (hr.mono (by decide)) hgd pass0 (pa_cons (pv 0) (pa_cons (pv 2) pa_nil))))) pss_nil)
    (pss_cons (ps_set (i := 6) sc__law_right.nd rfl (Or.inr rfl) (pe_mkc c_Gate_2 (hr.mono (by decide)) pass0 (pa_cons (pv 1) (pa_cons (pv 2) pa_nil))))
    (pss_cons (ps_set (i := 7) sc__law_right.nd rfl (Or.inl rfl) (pe_mkn0 c_Gate_0_within_name (hr.mono (by decide)) pass0 (pk_cons (pv 5) (pk_cons (pv 4) pk_nil))))
    (pss_cons (ps_if (PW.pt (pw_or (pt_not (pt_val (pe_cal c__law_is (hr.mono (by decide)) hgd pass0 (pa_cons (pv 6) (pa_cons (pv 1) (pa_cons (pv 2) pa_nil)))))) (pw_or1 (pt_not (pt_val (pe_cal c__law_is (hr.mono (by decide)) hgd pass0 (pa_cons (pv 7) (pa_cons (pv 4) (pa_cons (pv 5) pa_nil))))))))) (pss_one (ps_ret pe_bl)) pss_nil)
    (pss_cons (ps_if (pt_not (pt_val (pe_cal c__law_is (hr.mono (by decide)) hgd pass0 (pa_cons (pe_mkn0 c_Gate_0_name (hr.mono (by decide)) pass0 (pk_cons (pv 1) pk_nil)) (pa_cons (pv 1) (pa_cons pe_non pa_nil)))))) (pss_one (ps_ret pe_bl)) pss_nil)
    (pss_cons (ps_if (pt_not (pt_val (pe_cal c__law_is (hr.mono (by decide)) hgd pass0 (pa_cons (pe_mkc c_Gate_1 (hr.mono (by decide)) pass0 (pa_cons (pv 1) pa_nil)) (pa_cons (pv 1) (pa_cons pe_non pa_nil)))))) (pss_one (ps_ret pe_bl)) pss_nil)
    (pss_cons (ps_set (i := 8) sc__law_right.nd rfl (Or.inl rfl) (pe_and (pe_cmpR op_eq (pv 1) (pv 4) (nomark _)) (pe_one (pe_cmpR op_eq (pv 2) (pv 5) (nomark _)))))
    (pss_cons (ps_if (pt_cmpR op_ne (pe_callB (call_repr hgd hu) rfl T.f_repr (by decide +kernel) (pa_cons (pe_lst (pa_cons (pe_cmpR (opK (K := K) (r := fun K1 => rOwnEq K1 (cG K) (spGateEq K) E0 fun b => b) rfl (op_eqO ee fne (hr.mono (by decide)) bne pass0)) (pv 6) (pv 7) (nomark _)) (pa_cons (pe_cmpR (opK (K := K) (r := fun K1 => rOwnEq K1 (cG K) (spGateEq K) E0 fun b => b) rfl (op_eqO ee fne (hr.mono (by decide)) bne pass0)) (pv 7) (pv 6) (nomark _)) (pa_cons (pe_cmpR (opK (K := K) (r := fun K1 => rOwnEq K1 (cG K) (spGateEq K) E0 fun b => !b) rfl (op_neO ee fne (hr.mono (by decide)) bne pass0)) (pv 6) (pv 7) (nomark _)) (pa_cons (pe_cmpR (opK (K := K) (r := fun K1 => rOwnEq K1 (cG K) (spGateEq K) E0 fun b => !b) rfl (op_neO ee fne (hr.mono (by decide)) bne pass0)) (pv 7) (pv 6) (nomark _)) pa_nil))))) pa_nil)) (pe_callB (call_repr hgd hu) rfl T.f_repr (by decide +kernel) (pa_cons (pe_lst (pa_cons (pv 8) (pa_cons (pv 8) (pa_cons (pe_not (pv 8)) (pa_cons (pe_not (pv 8)) pa_nil))))) pa_nil)) (nomark _)) (pss_one (ps_ret pe_bl)) pss_nil)
    (pss_cons (ps_if (PW.pt (pw_or (pt_cmpR op_ne (pe_cmpR (opK (K := K) (r := fun K1 => rOwnEq K1 (cG K) (spGateEq K) E0 fun b => b) rfl (op_eqO ee fne (hr.mono (by decide)) bne pass0)) (pe_mkc c_Gate_1 (hr.mono (by decide)) pass0 (pa_cons (pv 1) pa_nil)) (pv 6) (nomark _)) (pe_cmpR op_isN (pv 2) pe_non (nomark _)) (nomark _)) (pw_or1 (pt_not (pt_cmpR (opK (K := K) (r := fun K1 => rOwnEq K1 (cG K) (spGateEq K) E0 fun b => b) rfl (op_eqO ee fne (hr.mono (by decide)) bne pass0)) (pe_mkc c_Gate_2 (hr.mono (by decide)) pass0 (pa_cons (pv 1) (pa_cons (pv 2) pa_nil))) (pv 6) (nomark _)))))) (pss_one (ps_ret pe_bl)) pss_nil)
    (pss_cons (ps_set (i := 9) sc__law_right.nd rfl (Or.inl rfl) (pe_lst (pa_cons (pv 1) (pa_cons (pe_tup (pa_cons (pv 1) (pa_cons (pv 2) pa_nil))) (pa_cons pe_non (pa_cons pe_int (pa_cons (pe_lst (pa_cons (pv 1) (pa_cons (pv 2) pa_nil))) (pa_cons (pe_mkc c_Kind_2 (hr.mono (by decide)) pass0 (pa_cons (pv 1) (pa_cons (pe_tup (pa_cons pe_str pa_nil)) pa_nil))) (pa_cons pe_dnewK pa_nil)))))))))
    (pss_one (ps_ret (pe_and (pe_callB (cr_all rfl) rfl T.f_all (by decide +kernel) (pa_cons (pe_lc (own := [("_law_thing", 10)]) (g := gName 10) (tt := tYes) rfl sc__law_right.nd (pi_list (pv 9)) (blkOk_by (own := [("_law_thing", 10)]) (N := n__law_right) (sc := defScope s__law_right) (by decide +kernel)) (fun _ _ _ _ _ => (pg_name (i := 10) sc__law_right.nd rfl (Or.inl rfl))) (fun _ _ _ _ _ => pts_nil) (fun _ _ _ _ _ => (pe_and (pe_not (pe_cmpR (opK (K := K) (r := fun K1 => rOwnEq K1 (cG K) (spGateEq K) E0 fun b => b) rfl (op_eqO ee fne (hr.mono (by decide)) bne pass0)) (pv 6) (pv 10) (nomark _))) (pe_one (pe_cmpR (opK (K := K) (r := fun K1 => rOwnEq K1 (cG K) (spGateEq K) E0 fun b => !b) rfl (op_neO ee fne (hr.mono (by decide)) bne pass0)) (pv 6) (pv 10) (nomark _)))))) pa_nil)) (pe_one (pe_cal c__law_is (hr.mono (by decide)) hgd pass0 (pa_cons (pv 6) (pa_cons (pv 1) (pa_cons (pv 2) pa_nil)))))))))))))))))))))), ?_⟩
    refine mid3 (fun σ' H' => ∃ (n n' : Str) (v : V) (r : Int), σ' = [some (.ref p), some (.str n), some v, some (.int r), some (.str n'), none, none, none, none, none, none] ∧ Pl p H H' ∧
      (isNameS n = true ∧ n.length ≤ 8) ∧ (isNameS n' = true ∧ n'.length ≤ 8) ∧ NameOr8 v) ?_ (fun u rest => ?_)
    · rintro σ1 H1 ⟨n, n', v, r, rfl, p1, ⟨vn, ln⟩, ⟨vn', ln'⟩, hv⟩
      refine mid1 (fun σ' H' => ∃ v' : V, σ' = [some (.ref p), some (.str n), some v, some (.int r), some (.str n'), some v', none, none, none, none, none] ∧ Pl p H H' ∧ NameOr8 v') ?_ (fun u rest => ?_)
      · rintro σ2 H2 ⟨v2, rfl, p2, hv2⟩
        refine mid1 (fun σ' H' => ∃ v' : V, σ' = [some (.ref p), some (.str n), some v, some (.int r), some (.str n'), some v', none, none, none, none, none] ∧ Pl p H H' ∧ NameOr8 v') ?_ (fun u rest => ?_)
        · rintro σ3 H3 ⟨v3, rfl, p3, hv3⟩
          have sl : n.length ≤ sizeLine := Nat.le_trans ln (by decide)
          have sl' : n'.length ≤ sizeLine := Nat.le_trans ln' (by decide)
          have hp3 := p3.pool
          refine mid6 (fun σ' H' => ∃ a da b db : Addr, σ' = [some (.ref p), some (.str n), some v, some (.int r), some (.str n'), some v3, some (.ref a), some (.ref b), some (.bl (decide (n = n') && decide (v = v3))), none, none] ∧
            Same H3 H' ∧ H' a = some (.ins (cG K) da (gateF (.str n) v)) ∧ H' b = some (.ins (cG K) db (gateF (.str n') v3))) ?_ (fun u rest => ?_)
          · rintro σ4 H4 ⟨a, da, b, db, rfl, s4, ha, hb⟩
            obtain ⟨E, hE⟩ : ∃ E, E = (decide (n = n') && decide (v = v3)) := ⟨_, rfl⟩
            have hE' : E = (decide (n' = n) && decide (v3 = v)) := by
              rw [hE]
              congr 1 <;> exact decide_eq_decide.mpr eq_comm
            rw [← hE]
            obtain ⟨f1, f2, f3, f4⟩ := four_ok E
            walk_at "rd"
            refine eqGG T ha hb hv hv3 hE ?_
            walk_at "rd"
            refine eqGG T hb ha hv3 hv hE' ?_
            walk_at "rd"
            refine eqGG T ha hb hv hv3 hE ?_
            walk_at "rd"
            refine eqGG T hb ha hv3 hv hE' ?_
            walk_at "rd"
            intro l1 nl1
            refine ⟨.ref l1, fourD E, rfl, four_dp upd_same, f1, f2, f3, f4, ?_⟩
            walk_at "rd"
            intro l2 nl2
            refine ⟨.ref l2, fourD E, rfl, four_dp upd_same, f1, f2, f3, f4, ?_⟩
            walk_at "rd"
            refine iteKF (by simp) ?_
            walk_at "rd"
            have nn : NameOr8 V.non := .inl rfl
            intro c1 dc1 nc1 ndc1 _
            refine ⟨c1, dc1, n, .non, rfl, upd_same, sl, vn, .inl rfl, fun H5 b5 e5 => ⟨rfl, ?_⟩⟩
            have s5 := made_same nc1 ndc1 b5
            have ha5 := s5 _ _ (upd_get nl2 (upd_get nl1 ha))
            walk_at "rd"
            refine eqGG T e5 ha5 nn hv (E := decide (v = .non)) (by simp [eq_comm]) ?_
            walk_at "rd"
            refine iteKF (by simp) ?_
            walk_at "rd"
            intro c2 dc2 nc2 ndc2 _
            refine ⟨c2, dc2, n, v, rfl, upd_same, sl, vn, nameOr_of hv, fun H6 b6 e6 => ⟨rfl, ?_⟩⟩
            have s6 := made_same nc2 ndc2 b6
            have ha6 := s6 _ _ ha5
            walk_at "rd"
            refine eqGG T e6 ha6 hv hv (E := true) (by simp) ?_
            walk_at "rd"
            have kt := T.kt_Kind___init___members
            intro t1 nt1
            walk_at "rd"
            intro l3 nl3
            walk_at "rd"
            intro t2 nt2
            walk_at "rd"
            intro k dk nk ndk nek
            refine ⟨k, dk, t2, _, n, rfl, upd_same, sl, vn, upd_get ((upd_ne nek.symm).trans nk) (upd_get ndk upd_same), kt, fun H7 fs b7 e7 => ⟨rfl, ?_⟩⟩
            have s7 := made_same nk ndk b7
            walk_at "rd"
            intro d nd
            walk_at "rd"
            intro l4 nl4
            walk_at "rd"
            refine ⟨⟨_, SqL.of upd_same⟩, ?_⟩
            intro D nD
            have haC : ∀ Hc, Same (upd H7 d (.dK [])) Hc → Hc a = some (.ins (cG K) da (gateF (.str n) v)) := fun Hc sc =>
              sc _ _ (upd_get nd (s7 _ _ (upd_get nt2 (upd_get nl3 (upd_get nt1 ha6)))))
            have hty : ∀ Hc x, Same (upd H7 d (.dK [])) Hc → x ∈ ([.str n, .ref t1, .non, .int 0, .ref l3, .ref k, .ref d] : List V) →
                ∃ t, TyOf K Hc x t ∧ PySem.W.notFirst K (cG K) t = true ∧ PySem.W.kitOne K t (.ref (cG K)) = some false := by
              intro Hc x sc hx
              have x1 : Hc t1 = some (.tup [.str n, v]) := sc _ _ (upd_get nd (s7 _ _ (upd_get nt2 (upd_get nl3 upd_same))))
              have x2 : Hc l3 = some (.lst [.str n, v]) := sc _ _ (upd_get nd (s7 _ _ (upd_get nt2 upd_same)))
              have x3 : Hc k = some (.ins (cK K) dk fs) := sc _ _ (upd_get nd e7)
              have x4 : Hc d = some (.dK []) := sc _ _ upd_same
              simp only [List.mem_cons, List.not_mem_nil, or_false] at hx
              rcases hx with rfl | rfl | rfl | rfl | rfl | rfl | rfl
              · exact ⟨_, .str _, T.i_Gate.nf _ (by decide), T.i_Gate.bt _ (by decide)⟩
              · exact ⟨_, .tup x1, T.i_Gate.nf _ (by decide), T.i_Gate.bt _ (by decide)⟩
              · exact ⟨_, .non, T.i_Gate.nf _ (by decide), T.i_Gate.bt _ (by decide)⟩
              · exact ⟨_, .int _, T.i_Gate.nf _ (by decide), T.i_Gate.bt _ (by decide)⟩
              · exact ⟨_, .lst x2, T.i_Gate.nf _ (by decide), T.i_Gate.bt _ (by decide)⟩
              · exact ⟨_, T.i_Kind.ty T.c_Kind x3, T.j_Gate_Kind.nf, T.j_Kind_Gate.no⟩
              · exact ⟨_, .dK x4, T.i_Gate.nf _ (by decide), T.i_Gate.bt _ (by decide)⟩
            refine lcP (wk_list [.str n, .ref t1, .non, .int 0, .ref l3, .ref k, .ref d]) (fun _ => V.bl true) (fun acc => SqL.of (upd_get nD upd_same)) (show 7 < sizeLine by decide) ?_ ?_
            · intro i x acc Q' hx hq
              have sd := (((Same.refl (upd H7 d (.dK []))).new nl4 (o := .lst [.str n, .ref t1, .non, .int 0, .ref l3, .ref k, .ref d])).new nD (o := .lst acc))
              obtain ⟨t, ty, nf, ko⟩ := hty _ x sd (List.mem_of_getElem? hx)
              walk_at "rd"
              refine ⟨nameOr_of hv, .inr ⟨t, .base ty, ko, ?_⟩⟩
              walk_at "rd"
              refine ⟨nameOr_of hv, .inr ⟨t, .base ty, ko, ?_⟩⟩
              walk_at "rd"
              exact hq
            · refine ⟨D, [true, true, true, true, true, true, true], rfl, SqL.of upd_same, ?_⟩
              have haD := haC _ (((Same.refl (upd H7 d (.dK []))).new nl4 (o := .lst [.str n, .ref t1, .non, .int 0, .ref l3, .ref k, .ref d])).new nD (o := .lst [.bl true, .bl true, .bl true, .bl true, .bl true, .bl true, .bl true]))
              walk_at "rd"
              intro H9 s9
              exact q _ (by walk_at "g but")
          · walk_at "rd"
            intro a da na nda nea
            refine ⟨a, da, n, v, rfl, upd_same, sl, vn, nameOr_of hv, fun H4 b4 e4 => ⟨rfl, ?_⟩⟩
            have s4 := made_same na nda b4
            walk_at "rd"
            intro b db nb ndb neb
            refine ⟨b, db, n', v3, rfl, upd_same, sl', vn', nameOr_of hv3, fun H5 b5 e5 => ⟨rfl, ?_⟩⟩
            have s5 := made_same nb ndb b5
            have e45 := s5 _ _ e4
            have sc := scal_nameOr (nameOr_of hv) (nameOr_of hv3)
            have nn : NameOr8 V.non := .inl rfl
            walk_at "rd"
            intro H6 s6
            walk_at "rd"
            intro H7 s7
            walk_at "rd"
            intro c1 dc1 nc1 ndc1 _
            refine ⟨c1, dc1, n, .non, rfl, upd_same, sl, vn, .inl rfl, fun H8 b8 e8 => ⟨rfl, ?_⟩⟩
            have s8 := made_same nc1 ndc1 b8
            walk_at "rd"
            intro H9 s9
            walk_at "rd"
            intro c2 dc2 nc2 ndc2 _
            refine ⟨c2, dc2, n, .non, rfl, upd_same, sl, vn, .inl rfl, fun H10 b10 e10 => ⟨rfl, ?_⟩⟩
            have s10 := made_same nc2 ndc2 b10
            walk_at "rd"
            intro H11 s11
            walk_at "rd"
            have sa : Same H5 H11 := ((((s6.trans s7).trans s8).trans s9).trans s10).trans s11
            refine iteD (fun h1 => ?_) (fun h1 => ?_)
            · walk_at "rd"
              have e : n = n' := V.str.inj h1
              exact rest _ _ ⟨a, da, b, db, by rw [decide_eq_true e, Bool.true_and]; rfl, (s4.trans s5).trans sa, sa _ _ e45, sa _ _ e5⟩
            · walk_at "rd"
              have e : ¬ n = n' := fun z => h1 (by rw [z])
              exact rest _ _ ⟨a, da, b, db, by rw [decide_eq_false e, Bool.false_and]; rfl, (s4.trans s5).trans sa, sa _ _ e45, sa _ _ e5⟩
        · walk_at "rd"
          refine iteD (fun h1 => ?_) (fun h1 => ?_)
          · walk_at "rd"
            refine iteND (fun h2 => ?_) (fun h2 => ?_)
            · obtain ⟨zo, rfl, lo, vo⟩ : ∃ zo, v = .str zo ∧ zo.length ≤ 8 ∧ isNameS zo = true := by
                rcases hv with rfl | h
                · exact absurd rfl h2
                · exact h
              walk_at "rd"
              intro H3 r3 p3 _ _
              walk_at "rd"
              refine iteD (fun h3 => ?_) (fun h3 => ?_)
              · walk_at "rd"
                intro H4 z4 p4 vz lz
                walk_at "rd"
                exact rest _ _ ⟨_, rfl, by walk_at "g but", .inr ⟨z4, rfl, lz, vz⟩⟩
              · walk_at "rd"
                exact rest _ _ ⟨v2, rfl, by walk_at "g but", hv2⟩
            · walk_at "rd"
              exact rest _ _ ⟨v2, rfl, by walk_at "g but", hv2⟩
          · walk_at "rd"
            exact rest _ _ ⟨v2, rfl, by walk_at "g but", hv2⟩
      · walk_at "rd"
        intro l nl
        walk_at "rd"
        refine iteB (fun h1 => ?_) (fun h1 => ?_)
        · walk_at "rd"
          exact rest _ _ ⟨v, rfl, by walk_at "g but", hv⟩
        · walk_at "rd"
          intro H2 v2 p2 hv2
          walk_at "rd"
          exact rest _ _ ⟨v2, rfl, by walk_at "g but", hv2⟩
    · walk_at "rd"
      intro H1 n p1 vn ln
      walk_at "rd"
      intro H2 v p2 hv
      walk_at "rd"
      intro H3 r p3 r0 rm
      walk_at "rd"
      refine iteD (fun h1 => ?_) (fun h1 => ?_)
      · walk_at "rd"
        exact rest _ _ ⟨n, n, v, r, rfl, by walk_at "g but", ⟨vn, ln⟩, ⟨vn, ln⟩, hv⟩
      · walk_at "rd"
        intro H4 z4 p4 vz lz
        walk_at "rd"
        exact rest _ _ ⟨n, z4, v, r, rfl, by walk_at "g but", ⟨vn, ln⟩, ⟨vz, lz⟩, hv⟩
end
end G
namespace G
open PySem PySem.Spec PyProof.Rows L2
theorem rng_at {lo : Int} {n i : Nat} {x : V} (h : (rngV lo n)[i]? = some x) : x = .int (lo + (i : Int)) ∧ i < n := by
  have lt := (List.getElem?_eq_some_iff.mp h).1
  rw [rngV_len] at lt
  refine ⟨?_, lt⟩
  unfold rngV at h
  rw [List.getElem?_map, List.getElem?_range lt] at h
  exact (Option.some.inj h).symm
theorem own_same {H H1 H2 H3 : Hp} {p : Addr} (s : Same H H1) (n : H1 p = none) (s2 : Same H1 H2) (pl : But p H2 H3) : Same H H3 := fun q o e =>
  pl q o (ne_of_none (s q o e) n) (s2 q o (s q o e))
section
variable {P : Program} {w : World} {K : PySem.W.Frag} {mg : Str → Option Value} {base : Heap} {CX : CXT}
theorem c_right (T : Tx K mg) : Cal P w K mg base CX0 8 "_law_right" [] spRight := by
  obtain ⟨fd, F⟩ := T.d__law_right
  exact .mk F (ok_right T F) T.n__law_right fun _ _ _ _ _ _ us hl => match us, hl with | [_], _ => rfl
def spLaw (K : PySem.W.Frag) : Sp := fun vs H Q _ => ∃ (a : Addr) (ns : List Int), vs = [.ref a] ∧ SqL K H a (ns.map V.int) ∧ ns.length ≤ 63 ∧ ∀ H', Q (.bl true) H'
theorem ok_law {f : Addr} {fd : FuncData} {dvs : List V} {kws : List (Str × V)} (T : Tx K mg)
    (F : FunD K "law" "law" (defArgs s_law) (defBody s_law) (defScope s_law) dvs kws f fd) :
    FnG P w K mg base CX0 9 f fd ["_law_script"] (spLaw K) := by
  have c__law_right : Cal P w K mg base CX0 8 "_law_right" [] spRight := c_right T
  have c__law_pool : Cal P w K mg base CX0 1 "_law_pool" [] (spPool K) := c_pool T
  refine okG F sc_law (fun vs H Q E h => ?_) (fun cdv A outer s H vs Q E hr hgd h => ?_)
  · obtain ⟨a, ns, rfl, _⟩ := h
    rfl
  · obtain ⟨a, ns, rfl, ha, hl, q⟩ := h
    have hu := hr.units
    refine ⟨_, PSs.nox (pss_cons (ps_for PassesOwn.never rfl (pi_range1 rfl T.f_range (pa_cons (pe_callB (call_max2 rfl) rfl T.f_max (by decide +kernel) (pa_cons pe_int (pa_cons (pe_callB (call_min2 rfl) rfl T.f_min (by decide +kernel) (pa_cons (pe_callB call_len_seq rfl T.f_len (by decide +kernel) (pa_cons (pv 0) pa_nil)) (pa_cons pe_int pa_nil))) pa_nil))) pa_nil)) (pg_name (i := 1) sc_law.nd rfl (Or.inl rfl))
      (pss_cons (ps_set (i := 2) sc_law.nd rfl (Or.inr rfl) (pe_cal c__law_pool (hr.mono (by decide)) hgd pass0 (pa_cons (pv 0) (pa_cons (pv 1) pa_nil))))
    (pss_one (ps_if (pt_not (pt_val (pe_callB (cr_all rfl) rfl T.f_all (by decide +kernel) (pa_cons (pe_lc (own := [("_law_turn", 3)]) (g := gName 3) (tt := tYes) rfl sc_law.nd (pi_range1 rfl T.f_range (pa_cons pe_int pa_nil)) (blkOk_by (own := [("_law_turn", 3)]) (N := n_law) (sc := defScope s_law) (by decide +kernel)) (fun _ _ _ _ _ => (pg_name (i := 3) sc_law.nd rfl (Or.inl rfl))) (fun _ _ _ _ _ => pts_nil) (fun _ _ _ _ _ => (pe_cal c__law_right (hr.mono (by decide)) hgd pass0 (pa_cons (pv 2) pa_nil)))) pa_nil)))) (pss_one (ps_ret pe_bl)) pss_nil))))
    (pss_one (ps_ret pe_bl))), ?_⟩
    walk_at "rd"
    refine forW (wk_range 0 _) (fun i σ H' => Same H H' ∧ ∃ b c d, σ = [some (.ref a), b, c, d]) ⟨.refl _, _, _, _, rfl⟩ (fun _ _ _ _ _ => trivial) ?_ (fun σ H' _ => ?_)
    · rintro i x σ H1 hx ⟨s1, b, c, d, rfl⟩
      obtain ⟨rfl, hi⟩ := rng_at hx
      have hk : i < 12 := by omega
      have ha1 : SqL K H1 a (ns.map V.int) := ha.same s1
      walk_at "rd"
      refine ⟨ns, _, rfl, ha1, hl, by omega, by omega, fun H2 p s2 np hp => ?_⟩
      walk_at "rd"
      intro D nD
      refine lcW (wk_range 0 6) (fun j H' => Pl p H2 H' ∧ H' D = some (.lst (List.replicate j (.bl true)))) ⟨by walk_at "g but", upd_same⟩ (fun _ _ _ _ => trivial) ?_ ?_
      · rintro j y H3 hy ⟨p3, hD⟩
        have hj := (List.getElem?_eq_some_iff.mp hy).1
        rw [rngV_len] at hj
        have hp3 := p3.pool
        walk_at "rd"
        intro H4 p4
        have np' : D ≠ p := PoolAt.ne_new hp nD
        refine ⟨_, p4.get hD np', by rw [List.length_replicate]; show j < 16777216; omega, ?_, ?_⟩
        · exact Pl.own (p3.trans p4) nD np'
        · rw [upd_same, List.replicate_succ']
      · rintro H3 ⟨p3, hD⟩
        rw [rngV_len] at hD
        refine ⟨D, List.replicate 6 true, rfl, SqL.of hD, ?_⟩
        walk_at "rd"
        exact ⟨own_same s1 np s2 p3.but, _, _, _, rfl⟩
    · walk_at "rd"
      exact q _
end
theorem facts {P : Program} {w : World} {K : PySem.W.Frag} {h : Heap} {mg : Str → Option Value} {f : Addr} (X : K.In h) (G : h.Ns mainGlobals mg) (own : mg ("law" : Str) = some (.ref f)) (c : SaysG fa fn gets exs K) :
    ∃ fd : FuncData, (∀ (s : Shared) (v : Value), BindsTo s fd ⟨[v], []⟩ [("_law_script", v)]) ∧ ∀ base : Heap, FnG P w K mg base CX0 9 f fd ["_law_script"] (spLaw K) := by
  have T := tx_of X G c
  obtain ⟨fd, F⟩ := T.d_law
  obtain rfl : f = He.ga K "law" := Value.ref.inj (Option.some.inj (own.symm.trans T.n_law))
  have b := FunD.bindsA (ps := ["_law_script"]) F fun _ _ _ _ _ _ us hl => match us, hl with | [_], _ => rfl
  exact ⟨fd, fun s v => b s [v] rfl, fun base => ok_law T F⟩
end G
open PySem PySem.W PySem.Calls PyProof.Rows
theorem PySem.Challenge.cw_gatecrowds_k02_gates_made_holds : PySem.Challenge.rw_gatecrowds_k02_gates_made.Holds := by
  w_on; o_law
  refine HandSHeadRun.head_any (r := G.R) (q := view G.R.prog [35]) (H := G.hk) (ob := G.ob) (M := 20000) (loose := G.names) (d := HandSHeadRun.topDef G.R.prog 35) (kwd := []) G.ob_eq
    (by kernel_rfl) (fun s => by kernel_rfl) G.run (by kernel_rfl) (by kernel_rfl) (by kernel_rfl) (by rfl) (by first | assumption | decide +kernel) (by decide +kernel)
    ⟨rfl, rfl, rfl, rfl, rfl, by decide +kernel⟩ ?hw ?hc
  case hw => w_witness2
  case hc =>
    refine G.walkG (l := PySem.Challenge.rw_gatecrowds_k02_gates_made) (n := 63) (k := 9) (x := "_law_script") (CX := L2.CX0) rfl (by decide) (by kernel_rfl) ⟨rfl, by decide, by decide⟩ ?F (fun _ _ _ _ z => z)
    intro w mg fa h Y Gl own
    obtain ⟨K, kin, c⟩ := Y
    have own' : mg ("law" : PySem.Str) = some (.ref fa) := by
      have e : (HandSHeadRun.topDef G.R.prog 35).name = ("law" : PySem.Str) := by kernel_rfl
      rw [← e]
      exact own
    obtain ⟨fd, hb, hF⟩ := G.facts (P := (PySem.Challenge.rw_gatecrowds_k02_gates_made).prog) (w := w) kin Gl own' c
    exact ⟨K, fd, G.spLaw K, kin, hb, fun H a ns hl _ hS => ⟨a, ns, rfl, hS, hl, fun _ => rfl⟩, fun base _ _ => hF base⟩
