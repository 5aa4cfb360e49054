import PyProof.Rows.All
import Wide.All
import OpenK.AllK
import Wide.FinOn
import PyProof.EqAt
import PyProof.EqKinds
import PyProof.TupleCall
import HandS.ForExc
import HandS.Lambda
import HandS.EndTab
import HandS.HeadWalk
import HandS.TryMany
import HandS.ExcInit
import HandS.ExcField
import HandS.ClsMeth
import HandS.IsInst
import HandS.Wide
import HandS.Gcd
import HandS.OwnEq
import PyProof.InstNe
import HandS.ExcIs
import HandS.Iter
import HandS.Walk
import HandS.MakeKwOnly
import KE.GoesMore
import HandS.Style
import HandS.Conv
import PySem.Challenge.RW_otherdiagonal_k05_maps_and_what_they_do
import HandS.ForMost
set_option Elab.async false
set_option linter.all false
set_option maxRecDepth 100000
set_option maxHeartbeats 2000000
/-! GA: what the hand layer lacks for laws that show nested data by repr, walk a list or a tuple, and name an own base class in __init__. -/
namespace OG
open PySem PySem.Spec PyProof.Rows L2

/-! ### room with known guards -/
structure RmG (k : Nat) (A : Around) : Prop where
  rm : Room k A
  gd : A.guards = some []
theorem RmG.mono {j k : Nat} {A : Around} (r : RmG k A) (h : j ≤ k) : RmG j A := ⟨r.rm.mono h, r.gd⟩
theorem RmG.deeper {k : Nat} {A : Around} (r : RmG (k + 1) A) (env : Env) : RmG k (A.deeper env) := ⟨r.rm.deeper env, r.gd⟩

/-- a def's promise, where nothing is being shown around the call -/
structure FnG (P : Program) (w : World) (K : PySem.W.Frag) (mg : Str → Option Value) (base : Heap) (CX : CXT) (k : Nat) (f : Addr) (fd : FuncData) (ps : List Str) (sp : Sp) : Prop where
  len : ∀ vs H Q E, sp vs H Q E → vs.length = ps.length
  run : ∀ (A : Around) (outer : List Env) (s : Shared) (H : Hp) (args : Args) (us : List Value) (vs : List V) (Q : VK) (E : XK),
    RmG k A → Env0 P w K mg base A outer s H → BindsTo s fd args (ps.zip us) → Vals vs us → sp vs H Q E →
    codeAny (model P w) A (.call (.ref f) args) (CR CX outer P w H s Q E) s

section
variable {P : Program} {w : World} {K : PySem.W.Frag} {mg : Str → Option Value} {base : Heap}
/-- a def by its body: the guards are told to the body -/
theorem Fun_okG {CX : CXT} {x qual : Str} {st : Stmt} {f : Addr} {fd : FuncData} {N ps : List Str} {k : Nat} {sp : Sp} (F : Fun K x qual st f fd) (S : FnScope N ps (defScope st))
    (len : ∀ vs H Q E, sp vs H Q E → vs.length = ps.length)
    (hbody : ∀ (cdv : Value) (A : Around) (outer : List Env) (s : Shared) (H : Hp) (vs : List V) (Q : VK) (E : XK),
      RmG k (A.deeper (envOfC qual (defScope st) s.heap.objs.size f cdv)) → PySem.W.codeIn K cdv qual = true → (∃ oc od kV doc pm an ct osl, K.lookup f = some ⟨oc, od, .func (PySem.W.fnOf x qual (defArgs st) (defBody st) (defScope st) .none kV doc pm an cdv ct), osl⟩) → sp vs H Q E →
      ∃ t, PSs (cxOf CX P w K mg base N qual (defScope st) f cdv A outer s H E) (defBody st) t ∧ t { nx := fun _ H' => Q .non H', rt := Q } (start N vs) H) :
    FnG P w K mg base CX (k + 1) f fd ps sp := by
  obtain ⟨oc, od, kV, doc, pm, an, cdv, ct, osl, rfl, lk, hcd⟩ := F.ex
  refine ⟨len, fun A outer s H args us vs Q E hr e0 hb r hsp => ?_⟩
  have hl := len _ _ _ _ hsp
  have KX : K.In s.heap := e0.mod.kin.keeps fun b o e => (e0.bs b o e).1
  have lim : s.heap.NoLimit := e0.mod.nolimit.keeps fun b o e => (e0.bs b o e).1
  have hkind : ∀ y ∈ ps.zip us, (defScope st).names.lookup y.1 = some .local ∨ ((defScope st).names.lookup y.1 = some .cell ∧ ((cellsFrom (s.heap.objs.size + 1) (defScope st).names []).lookup y.1).isSome = true) := by
    intro ⟨n, v⟩ hy
    rcases S.par n (List.of_mem_zip hy).1 with q | q
    · exact .inl q
    · exact .inr ⟨q, PySem.W.cellsFrom_some _ _ _ (.inl q)⟩
  refine codeAny_call_function hr.rm.depth (KX _ _ lk) rfl S.co S.gen rfl (PySem.W.codeRec_of KX hcd) (hb _ _ _ _ ?_)
  refine wpAny_newFunctionEnv_cells S.kind hkind fun env he s1 x => ?_
  subst he
  refine ⟨lim.keeps x.toInCall.keep, codeAny_func ?_⟩
  obtain ⟨t, ht, hq⟩ := hbody cdv A outer s H vs Q E (hr.deeper _) hcd ⟨_, _, _, _, _, _, _, _, lk⟩ hsp
  have I := inv_start (CX := CX) (E := E) (f := f) (cd := cdv) (qual := qual) S hr.rm.hd e0 hl r x
  refine wpAny_mono (ht.run [] s1 (start N vs) H _ I hq) (fun fl s' hs => ?_) fun e s' hs => hs
  cases fl with
  | ret u =>
    obtain ⟨v, σ', H', J, rv, q⟩ := hs
    exact ⟨v, H', J.os, J.bare, J.base, J.hok, rv, q⟩
  | next =>
    obtain ⟨σ', H', J, q⟩ := hs
    exact ⟨V.non, H', J.os, J.bare, J.base, J.hok, rfl, q⟩
  | brk =>
    obtain ⟨_, _, _, q⟩ := hs
    exact False.elim q
  | cont =>
    obtain ⟨_, _, _, q⟩ := hs
    exact False.elim q
end

section
variable {X : Cx} {CX : CXT} {k : Nat} {f : Addr} {fd : FuncData} {ps : List Str} {sp : Sp} {dvs : List V} {ds : List Value} {E : XK} {x : Str} {p pos : Pos} {e : Expr} {es : List Expr} {t : TA}
/-- f(e, ..) of such a def -/
theorem pe_callG (F : FnG X.prog X.w X.K X.mg X.base CX k f fd ps sp) (hr : RmG k X.A) (hg : Gl X x) (hm : X.mg x = some (.ref f)) (hk : PySem.W.keepIn X.K (.ref f) = true) (hb : Binds X.K fd ps ds) (hd : Vals dvs ds) (hx : Passes CX X E)
    (ha : PA X (e :: es) t) (hdb : (x == ("__debug__" : Str)) = false := by decide) (he : starEach (e :: es) X.env = (false, eval e X.env) :: starEach es X.env := by rfl) (hpl : (backTo pos (starEach es X.env)).any (·.1) = false := by rfl) :
    PE X (.Call (.Name x p) (e :: es) [] pos) (tCall sp dvs E t) := by
  refine ⟨fun pins s σ H Q I h => ?_⟩
  refine wpAny_Call_Name_kw (ld_glob I hg hm ?_ hdb)
  refine PySem.W.callWith_K (h₀ := X.base) I.ok.mod.kin hk (thn (ha.run pos pins s σ H _ I h) fun us s1 ⟨vs, H1, I1, r, q⟩ => ⟨I1.kIn, ?_⟩) he hpl
  have r2 : Vals (vs ++ dvs) (us ++ ds) := r.append hd
  have hl : (us ++ ds).length = ps.length := by
    rw [← r2.length]
    exact F.len _ _ _ _ q
  refine wpAny_call (codeAny_mono (F.run X.A X.stack s1 H1 ⟨us, []⟩ (us ++ ds) (vs ++ dvs) Q E hr I1.env0 (hb s1 us I1.kIn hl) r2 q) fun r s' hq => ?_)
  cases r with
  | error er => exact hx pins σ H1 s1 er s' I1 hq
  | ok fl =>
    cases fl with
    | ret u => exact I1.after hq
    | next => exact False.elim hq
    | brk => exact False.elim hq
    | cont => exact False.elim hq
end

/-! ### repr of nested data -/
/-- repr(x), x a list or a tuple of data -/
def rRepr (K : PySem.W.Frag) : List V → Hp → VK → Prop := fun xs H Q => ∃ (a : Addr) (d : PyData), xs = [.ref a] ∧ Dp K H (.ref a) d ∧ d.showable = true ∧ d.hasDict = false ∧ d.depth ≤ 64 ∧ d.shown.length ≤ sizeLine ∧ Q (.str d.shown) H
theorem call_repr {X : Cx} (hg : X.A.guards = some []) (hu : X.A.units + 65 < cLine) : CallR X (.builtin "repr") (rRepr X.K) := by
  intro pins s σ H xs us Q I r h
  obtain ⟨a, d, rfl, hd, hs, hn, hdp, hz, q⟩ := h
  obtain ⟨u, rfl, ru⟩ := vals1 r
  obtain rfl : u = Value.ref a := ru
  obtain ⟨as, rd⟩ := Dp.reads I d _ _ hd rfl
  refine repr_of_reads' rd hs (PyData.noDict_hsm hn) hg (by omega) (fun _ _ e => e) (fun h' u tk hk => ?_) hz
  exact ⟨.str d.shown, H, I.kept hk, ⟨_, rfl⟩, q⟩

/-! ### an own base class named in __init__: B.__init__(self, ..) where B has ValueError's -/
structure BaseC (K : PySem.W.Frag) (B : Addr) (mc : Value) : Prop where
  rd : PySem.W.readsIn K B mc = true
  ga : PySem.W.specialIn K (.ref B) "__getattribute__" = some (some (.builtin "type.__getattribute__"))
  at_ : PySem.W.findCls K (.ref B) mc "__init__" = some (.val (.builtin "ValueError.__init__"))
theorem pe_binit {X : Cx} {e : Expr} {es : List Expr} {ta : TA} {p1 p2 pos : Pos} {x : Str} {B : Addr} {mc : Value} {pl : Sem Bool} (T : BaseC X.K B mc) (hg : Gl X x) (hm : X.mg x = some (.ref B)) (ha : PA X (e :: es) ta)
    (hc : eval (.Call (.Attribute (.Name x p1) "__init__" p2) (e :: es) [] pos) X.env = (do
      let ov ← eval (.Name x p1) X.env
      standAt p2.atName
      let (f, first) ← holding [ov] (getMethod ov "__init__" pl)
      callWith pos f first (backTo pos (starEach (e :: es) X.env)) (backToKw pos (keywordEach [] X.env))) := by rfl)
    (hdb : (x == ("__debug__" : Str)) = false := by decide)
    (he : starEach (e :: es) X.env = (false, eval e X.env) :: starEach es X.env := by rfl) (hpl : (backTo pos (starEach es X.env)).any (·.1) = false := by rfl) :
    PE X (.Call (.Attribute (.Name x p1) "__init__" p2) (e :: es) [] pos) (tVeI X.K ta) := by
  refine ⟨fun pins s σ H Q I h => ?_⟩
  refine PySem.W.methodCall_KW (ld_glob I hg hm ?_ hdb) hc
  refine PySem.W.method_cls I.kIn T.ga (PySem.W.cls_value I.kIn T.rd T.at_ (by rfl) ?_)
  show wpAny _ _ (callWith pos (Value.builtin "ValueError.__init__") [] (backTo pos (starEach (e :: es) X.env)) []) _ _ _
  refine PyProof.Rows.callWith_method1 (thn (ha.run pos pins _ σ H _ (I.tok _) h) fun us s1 ⟨vs, H1, I1, r1, a, C, ws, ev, hl, T, ea, q⟩ => ?_) he hpl
  subst ev
  cases r1 with
  | @cons _ u0 _ ur ra rw' =>
    obtain rfl : u0 = Value.ref a := ra
    have hlen : ur.length ≤ sizeLine := by
      rw [← Paired.length rw', sizeLine_eq]
      omega
    exact oinit_ok T I1 ea hlen fun s' J => ⟨.non, H1, J, rfl, q⟩

/-! ### a list or a tuple, walked -/
def SqS (K : PySem.W.Frag) (H : Hp) (a : Addr) (xs : List V) : Prop := SqL K H a xs ∨ SqT K H a xs
def iSeq (K : PySem.W.Frag) (tl : TE) : TI := fun σ H R => tl σ H fun x H1 => ∃ a, x = .ref a ∧ (((∃ xs, SqL K H1 a xs) ∧ R (Itl K a) H1) ∨ ((∃ xs, SqT K H1 a xs) ∧ R (Itt K a) H1))
theorem pi_seq {X : Cx} {tg l : Expr} {tl : TE} (hl : PE X l tl) : PI X tg l (iSeq X.K tl) := by
  refine ⟨fun pins s σ H R I h => ?_⟩
  refine thn (hl.run pins s σ H _ I h) fun v s1 ⟨x, H1, I1, r1, q1⟩ => ?_
  obtain ⟨a, e, q⟩ := q1
  subst e
  cases r1
  have hfp : ∀ b ∈ [s1.heap.objs.size], FpOk X pins H1 b := fun b hb => by
    have e : b = s1.heap.objs.size := by simpa using hb
    subst e
    exact I1.fpOk (Nat.le_refl _) (I1.hok.fresh (Nat.le_refl _))
  rcases q with ⟨⟨xs, hq⟩, q⟩ | ⟨⟨xs, hq⟩, q⟩
  · obtain ⟨its, rv, p, hz⟩ := I1.list hq
    refine wpAny_pyIter_list p.isList ?_
    exact ⟨s1.heap.objs.size, [s1.heap.objs.size], _, _, H1, rfl, I1.kept (t' := s1.toks) fun b o e => Heap.get?_push_of_some _ e, turn_list a _, ⟨_, Heap.get?_push_size _ rfl, rfl, rfl⟩, hfp, q⟩
  · obtain ⟨its, rv, p, hz⟩ := I1.tuple hq
    refine wpAny_pyIter_tuple (show s1.heap.IsTuple a its.toArray from p) ?_
    exact ⟨s1.heap.objs.size, [s1.heap.objs.size], _, _, H1, rfl, I1.kept (t' := s1.toks) fun b o e => Heap.get?_push_of_some _ e, turn_tuple a _, ⟨_, Heap.get?_push_size _ rfl, rfl, rfl⟩, hfp, q⟩
end OG


set_option Elab.async false
set_option linter.all false
set_option maxRecDepth 100000
set_option maxHeartbeats 2000000
/-! GB: several clauses «except X as n», each with its suite. -/
namespace OG
open PySem PySem.Spec PyProof.Rows L2

/-- behind a suite the clause's name is gone -/
def Ends.drop (i : Nat) (D : Ends) : Ends :=
  { nx := fun σ H => D.nx (σ.set i none) H, rt := D.rt, bk := fun σ H => D.bk (σ.set i none) H, ct := fun σ H => D.ct (σ.set i none) H }
/-- the clauses' wishes, one after the other: class, slot of the name, the suite's reading -/
def wNs (K : PySem.W.Frag) (Wout : WX) (D : Ends) : List (Value × Nat × (Addr → Value → Option Addr → TS)) → WX
  | [] => Wout
  | (c, i, ts) :: r => fun cls d σ H => ∃ b, PySem.W.exmOne K cls c = some b ∧ (b = true → ∀ a, H a = none → ts a cls d (Ends.drop i D) (σ.set i (some (.ref a))) H) ∧ (b = false → wNs K Wout D r cls d σ H)
inductive HdsN (X : Cx) : List ExceptHandler → List (Value × Nat × (Addr → Value → Option Addr → TS)) → Prop
  | nil : HdsN X [] []
  | cons {x n : Str} {c : Value} {i : Nat} {ts : Addr → Value → Option Addr → TS} {b₀ : Stmt} {suite : List Stmt} {np pos' : Pos} {hds : List ExceptHandler} {l : List (Value × Nat × (Addr → Value → Option Addr → TS))}
      (hi : X.N[i]? = some n) (hln : X.env.kindOf n = some .local) (hc : Names X x c)
      (hsu : ∀ (a : Addr) (oe : Obj) (cls : Value) (d : Option Addr) (pn : List (Addr × Obj)), Zc cls d oe → (∃ vs, oe.data = .fields vs) → PSs (X.suite a ((a, oe) :: pn)) (b₀ :: suite) (ts a cls d))
      (r : HdsN X hds l) : HdsN X (.ExceptHandler (some (.Name x np)) (some n) (b₀ :: suite) pos' :: hds) ((c, i, ts) :: l)

section
variable {X : Cx} {body : List Stmt} {h₀ : ExceptHandler} {hds : List ExceptHandler} {l : List (Value × Nat × (Addr → Value → Option Addr → TS))} {pos : Pos} {tb : WX → TS} {Wout : WX}
theorem ps_try_ns (hs : X.stack = X.env :: X.outer) (hf : X.env.frame = some X.env.locals) (hN : X.N.Nodup) (tk : Takes X Wout)
    (hb : ∀ (W : WX) (pn : List (Addr × Obj)) (xe : Value → Shared → Prop), Takes (X.tr pn xe) W → PassesOwn (model X.prog X.w) X.A X.env xe → PSs (X.tr pn xe) body (tb W))
    (hh : HdsN X (h₀ :: hds) l) : PS X (.Try body (h₀ :: hds) [] [] pos) (fun D σ H => tb (wNs X.K Wout D l) D σ H) := by
  refine ⟨fun pins s σ H D I h => ?_⟩
  have ok := I.ok
  have hfr : X.A.frames = some (X.env :: X.outer) := by rw [ok.frames, hs]
  refine wpAny_Try_except ?_
  refine wpAny_mono ((hb (wNs X.K Wout D l) (X.pn ++ pins) (fun e s₁ => wpAny (model X.prog X.w) X.A (noteFrame e X.env) (fun _ s₂ => wpAny (model X.prog X.w) X.A (setFlight e none) (fun _ s₃ =>
    wpAny (model X.prog X.w) X.A (handleBy e X.env (h₀ :: hds)) (SP X pins D) X.xe s₃) X.xe s₂) X.xe s₁) (fun u s' xx => ?_) PassesOwn.looking).run [] s σ H D (I.toTry _) h) (fun f s1 hsp => ?_) (fun e s1 he => he)
  · obtain ⟨a, B, sI, pins', σ', H', cls, d, rfl, J', nb, up, sky, na, os, ag, w⟩ := xx
    have J : Inv X pins σ' H' sI := J'.ofTry ok
    have sky' : Sky B (X.env :: X.outer) a (Zc cls d) X.env.locals s'.heap := by rw [← hs]; exact sky
    show wpAny (model X.prog X.w) X.A (noteFrame (.ref a) X.env) _ _ _
    refine Sky.land Zc.steady hfr hf sky' fun h3 fl3 up3 => ?_
    have J3 : Inv X pins σ' H' { s' with heap := h3 } := J.landed nb fl3.1 (up.trans up3) os ag
    obtain ⟨oe3, vs3, he3, hz3, hd3⟩ := fl3.there
    have nfr : a ∉ frs (X.env :: X.outer) := fun hm => by
      obtain ⟨_, o', e', hnf⟩ := fl3.2.2.1.mem hm
      rw [he3] at e'; cases e'
      exact hnf _ hd3
    have nL : a ≠ X.env.locals := fun z => nfr (List.mem_filterMap.mpr ⟨X.env, List.mem_cons_self, by rw [hf, z]⟩)
    have nF : a ∉ X.fs := fun hm => by
      obtain ⟨e, he, q⟩ := List.mem_filterMap.mp hm
      exact nfr (List.mem_filterMap.mpr ⟨e, List.mem_cons_of_mem _ he, q⟩)
    have S3 := J3.suite he3 hd3 na nL nF
    have go : ∀ {hds' : List ExceptHandler} {l' : List (Value × Nat × (Addr → Value → Option Addr → TS))}, HdsN X hds' l' → wNs X.K Wout D l' cls d σ' H' →
        wpAny (model X.prog X.w) X.A (handleBy (.ref a) X.env hds') (SP X pins D) X.xe { s' with heap := h3 } := by
      intro hds' l' hk
      induction hk with
      | nil =>
        intro w
        refine wpAny_handleBy_nil ?_
        obtain ⟨k1, k2, k3, oe, vs, T, oT, ts', he, hz, hd, h1, hr⟩ := id fl3
        unfold PySem.passOn
        refine wpAny_bind (wpAny_field he hd h1 ?_)
        rw [if_neg (show ¬ ((Value.ref T == Value.none) = true) from by simp)]
        have fin : wpAny (model X.prog X.w) X.A (setFlight (.ref a) X.env.frame) (fun _ s4 => wpAny (model X.prog X.w) X.A (throw (.ref a) : Sem Flow) (SP X pins D) X.xe s4) X.xe { s' with heap := h3 } := by
          rw [hf]
          refine HandSPX.setFlight_upZ fl3 fun h4 hh4 up4 => wpAny_throw (tk _ _ ?_)
          exact ⟨a, B, sI, pins, σ', H', cls, d, rfl, J, nb, (up.trans up3).trans up4, .inr (.inr (by rw [hs]; exact hh4)), na, os, ag, w⟩
        first
          | exact wpAny_bind (wpAny_pure (wpAny_bind fin))
          | exact wpAny_bind fin
      | @cons x n c i ts b₀ suite np pos' hds2 l2 hi hln hc hsu r ih =>
        intro w
        obtain ⟨b, hb1, hyes, hno⟩ := w
        refine wpAny_handleBy_cons (codeAny_handlers_test ?_) (by intro q; cases q)
        have LT : PySem.W.Looks (model X.prog X.w) h3 (typeOf (.ref a)) cls := fun A Q E s k q => wpAny_typeOf_ref (k _ _ he3) (by rw [hz3.1]; exact q)
        have LM := PySem.W.exm_one (M := model X.prog X.w) (J3.kIn) LT hb1
        have test : ∀ {Q : Value → Shared → Prop} {E : Value → Shared → Prop}, Q c { s' with heap := h3 } → wpAny (model X.prog X.w) (X.A.mark (some (.ref a))) (eval (.Name x np) X.env) Q E { s' with heap := h3 } := fun {Q E} q => by
          obtain ⟨hg, hdbg, hm | ⟨hm, hv, hnn⟩⟩ := hc
          · exact ld_glob (X := X.suite a ((a, oe3) :: (X.pn ++ pins))) S3 hg hm q hdbg
          · exact ld_blt (X := X.suite a ((a, oe3) :: (X.pn ++ pins))) S3 hg hm hv q hnn hdbg
        refine test (LM.here ?_)
        cases b with
        | true =>
          refine codeAny_handlers_suite_as ?_
          refine HandSPX.lands_againZ fl3 fun h4 fl4 up4 => ?_
          have J4 : Inv X pins σ' H' { s' with heap := h4 } := J.landed nb fl4.1 ((up.trans up3).trans up4) os ag
          obtain ⟨oe4, vs4, he4, hz4, hd4⟩ := fl4.there
          have S4 := J4.suite he4 hd4 na nL nF
          refine store_ok (X := X.suite a ((a, oe4) :: (X.pn ++ pins))) (v := .ref a) S4 hN hi (.inl hln) rfl (fun s5 S5 => ?_) (.inr hln)
          refine wpAny_mono ((hsu a oe4 cls d (X.pn ++ pins) hz4 ⟨_, hd4⟩).run [] s5 _ H' _ S5 (hyes rfl a na)) (fun f s6 hsp => ?_) (fun _ _ z => False.elim z)
          have end_ : ∀ {σ6 : L2.St} {H6 : Hp} {Q : Shared → Prop}, Inv (X.suite a ((a, oe4) :: (X.pn ++ pins))) [] σ6 H6 s6 → (∀ s7, Inv X pins (σ6.set i none) H6 s7 → Q s7) →
              wpAny (model X.prog X.w) X.A (do bindName X.env n .none; unbindBehindTheSuite X.env n pos') (fun _ s7 => Q s7) X.xe s6 := fun {σ6 H6 Q} S6 hq => gone_ok (S6.unsuite ok) hN hi hln hq
          cases f with
          | next =>
            obtain ⟨σ6, H6, S6, q6⟩ := hsp
            exact end_ S6 fun s7 J7 => ⟨_, _, J7, q6⟩
          | brk =>
            obtain ⟨σ6, H6, S6, q6⟩ := hsp
            exact end_ S6 fun s7 J7 => ⟨_, _, J7, q6⟩
          | cont =>
            obtain ⟨σ6, H6, S6, q6⟩ := hsp
            exact end_ S6 fun s7 J7 => ⟨_, _, J7, q6⟩
          | ret u =>
            obtain ⟨v6, σ6, H6, S6, r6, q6⟩ := hsp
            exact end_ S6 fun s7 J7 => ⟨_, _, _, J7, r6, q6⟩
        | false =>
          show wpAny _ X.A (handleBy (.ref a) X.env hds2) _ _ _
          exact ih (hno rfl)
    exact go hh w
  · cases f with
    | next =>
      obtain ⟨σ', H', J', q⟩ := hsp
      exact wpAny_execs_nil ⟨σ', H', J'.ofTry ok, q⟩
    | brk =>
      obtain ⟨σ', H', J', q⟩ := hsp
      exact ⟨σ', H', J'.ofTry ok, q⟩
    | cont =>
      obtain ⟨σ', H', J', q⟩ := hsp
      exact ⟨σ', H', J'.ofTry ok, q⟩
    | ret u =>
      obtain ⟨v, σ', H', J', r, q⟩ := hsp
      exact ⟨v, σ', H', J'.ofTry ok, r, q⟩
end
end OG


set_option Elab.async false
set_option linter.all false
set_option maxRecDepth 100000
set_option maxHeartbeats 2000000
/-! GC: a lambda with one parameter that has an int for its default, handed to a def that calls it without arguments. -/
namespace OG
open PySem PySem.Spec PyProof.Rows L2 LamX

/-- the made function's record; dV: its defaults -/
abbrev ldFd (qual : Str) (params : Arguments) (body : Expr) (scope : Scope) (cl : List (Str × Addr)) (dV pm cdv ct : Value) : FuncData :=
  { name := "<lambda>", qualname := qual, params, body := .expr body, scope, globals := mainGlobals, closure := cl, defaults := dV, kwdefaults := .none, doc := .none, pyModule := pm, annotations := none, code := cdv, closureTuple := ct, builtins := builtinsNs }
abbrev ldObj (qual : Str) (params : Arguments) (body : Expr) (scope : Scope) (clos : List (Str × Addr)) (dV pm : Value) (c' : Addr) (ctv : Value) : Obj :=
  { cls := .type "function", data := .func (ldFd qual params body scope clos dV pm (.ref c') ctv) }

section
variable {M : Model} {A : Around} {E : Value → Shared → Prop} {s : Shared} {qual : Str} {params : Arguments} {body : Expr} {scope : Scope} {env : Env} {c P : Addr} {ps : Array Value} {pos : Pos} {firstLine : Nat} {mg : Str → Option Value}
  {clos : List (Str × Addr)} {dV : Value} {Q : Value → Shared → Prop}
theorem ld_tail (hcl : closureFor scope env = pure clos) (hge0 : env.globals = mainGlobals) (hg : s.heap.Ns mainGlobals mg) (hcode : env.code = .ref c) (C : PySem.W.CodeHd s.heap c P) (hP : s.heap.get? P = some (PySem.W.tabObj ps)) (ht : TriplesOk ps.toList)
    (hnf : codeAmong pos ps.toList = none) (hgP : mainGlobals ≠ P) (hb : s.heap.BuiltinsAt mg P)
    (h : ∀ c' ctv h' tk, Heap.ExtBut P s.heap h' → s.heap.objs.size ≤ c' → c' < h'.objs.size → h'.CodeRec (.ref c') qual → h'.get? P = some (PySem.W.tabObj (ps ++ #[rawInt pos.line, rawInt pos.col, .ref c'])) →
      Q (.ref h'.objs.size) { s with heap := h'.push (ldObj qual params body scope clos dV ((mg "__name__").getD .none) c' ctv), toks := tk }) :
    wpAny M A (makeTail "<lambda>" qual params (.expr body) scope env dV .none none pos firstLine) Q E s := by
  obtain ⟨bm, ob, hbm, hne0, _, hneP, hbo, hcls, hdict, hdata⟩ := hb
  unfold makeTail
  rw [hcl, hge0]
  refine wpAny_bind (wpAny_pure ?_)
  cases clos with
  | nil =>
    simp only [List.isEmpty_nil, if_true]
    refine wpAny_bind (wpAny_pure ?_)
    refine wpAny_bind (wpAny_functionCodeX hcode (C.code hP ht) (C.tab hP) hnf fun c' h' tk hx hge hlt _ hrec htb _ => ?_)
    have hg' := hg.extBut hx hgP
    refine wpAny_bind (wpAny_builtinsFor hg' hbm hne0 (hx _ _ hneP hbo) hcls hdict hdata ?_)
    refine wpAny_bind (wpAny_nsGet hg' ?_)
    exact wpAny_bind (wpAny_pure (wpAny_newObj_type (h c' .none h' tk hx hge hlt hrec htb.2) (by size_fits)))
  | cons q r =>
    simp only [List.isEmpty_cons, Bool.false_eq_true, if_false]
    refine wpAny_bind (wpAny_newTextTuple ?_)
    refine wpAny_bind (wpAny_functionCodeX hcode ((C.keeps fun b o e => Heap.get?_push_of_some _ e).code (Heap.get?_push_of_some _ hP) ht) ((C.keeps fun b o e => Heap.get?_push_of_some _ e).tab (Heap.get?_push_of_some _ hP)) hnf fun c' h' tk hx hge hlt _ hrec htb _ => ?_)
    have hg' := (hg.push _).extBut hx hgP
    have hx' : Heap.ExtBut P s.heap h' := fun b o hb' e => hx b o hb' (Heap.get?_push_of_some _ e)
    have hge' : s.heap.objs.size ≤ c' := Nat.le_trans (by rw [Heap.size_push]; omega) hge
    refine wpAny_bind (wpAny_builtinsFor hg' hbm hne0 (hx' _ _ hneP hbo) hcls hdict hdata ?_)
    refine wpAny_bind (wpAny_nsGet hg' ?_)
    exact wpAny_bind (wpAny_pure (wpAny_newObj_type (h c' _ h' tk hx' hge' hlt hrec htb.2) (by size_fits)))
theorem ld_tailHit {c1 : Addr} (hcl : closureFor scope env = pure clos) (hge0 : env.globals = mainGlobals) (hg : s.heap.Ns mainGlobals mg) (hcode : env.code = .ref c) (C : PySem.W.CodeHd s.heap c P) (hP : s.heap.get? P = some (PySem.W.tabObj ps)) (ht : TriplesOk ps.toList)
    (hf : codeAmong pos ps.toList = some (.ref c1)) (hb : s.heap.BuiltinsAt mg P)
    (h : ∀ (ctv : Value) (h' : Heap) (tk : Tok), (∀ b o, s.heap.get? b = some o → h'.get? b = some o) → s.heap.objs.size ≤ h'.objs.size →
      Q (.ref h'.objs.size) { s with heap := h'.push (ldObj qual params body scope clos dV ((mg "__name__").getD .none) c1 ctv), toks := tk }) :
    wpAny M A (makeTail "<lambda>" qual params (.expr body) scope env dV .none none pos firstLine) Q E s := by
  obtain ⟨bm, ob, hbm, hne0, _, hneP, hbo, hcls, hdict, hdata⟩ := hb
  unfold makeTail
  rw [hcl, hge0]
  refine wpAny_bind (wpAny_pure ?_)
  cases clos with
  | nil =>
    simp only [List.isEmpty_nil, if_true]
    refine wpAny_bind (wpAny_pure ?_)
    refine wpAny_bind (wpAny_functionCode_hit hcode (C.code hP ht) hf ?_)
    refine wpAny_bind (wpAny_builtinsFor hg hbm hne0 hbo hcls hdict hdata ?_)
    refine wpAny_bind (wpAny_nsGet hg ?_)
    exact wpAny_bind (wpAny_pure (wpAny_newObj_type (h .none s.heap s.toks (fun _ _ e => e) (Nat.le_refl _)) (by size_fits)))
  | cons q r =>
    simp only [List.isEmpty_cons, Bool.false_eq_true, if_false]
    refine wpAny_bind (wpAny_newTextTuple ?_)
    refine wpAny_bind (wpAny_functionCode_hit hcode ((C.keeps fun b o e => Heap.get?_push_of_some _ e).code (Heap.get?_push_of_some _ hP) ht) hf ?_)
    refine wpAny_bind (wpAny_builtinsFor (hg.push _) hbm hne0 (Heap.get?_push_of_some _ hbo) hcls hdict hdata ?_)
    refine wpAny_bind (wpAny_nsGet (hg.push _) ?_)
    have hsz : ∀ oT : Obj, s.heap.objs.size ≤ (s.heap.push oT).objs.size := fun oT => by rw [Heap.size_push]; omega
    exact wpAny_bind (wpAny_pure (wpAny_newObj_type (h _ _ s.toks (fun b o e => Heap.get?_push_of_some _ e) (hsz _)) (by size_fits)))
end

section
variable {X : Cx} {pins : List (Addr × Obj)} {σ : L2.St} {H HZ : Hp} {s s1 : Shared}
/-- the lambda's function object with defaults dV is made: its code object is new, or found in the table -/
theorem ld_fun {T : List (Addr × Str)} {c P : Addr} {params : Arguments} {body : Expr} {scope : Scope} {pos : Pos} {dV : Value} {E : Value → Shared → Prop} {Q : Value → Shared → Prop} (I : Inv X pins σ H s) (TB : TabB X.base X.mg c P) (hcode : X.env.code = .ref c)
    (hm : (P, X.env.qual ++ "<lambda>") ∈ T) (hu : ∀ p ∈ T, p.1 = P → p.2 = X.env.qual ++ "<lambda>") (hT : Tabs T H) (hfree : ∀ y ∈ scope.names, y.2 = .free → ∃ c, X.env.cells.lookup y.1 = some c)
    (h : ∀ (f c' : Addr) (pm ctv : Value) (H1 : Hp) (s' : Shared), Inv X pins σ H1 s' → ExtN H H1 → Tabs T H1 →
      s'.heap.get? f = some (ldObj (X.env.qual ++ "<lambda>") params body scope (cloFrom X.env.cells scope.names []) dV pm c' ctv) → H1 f = none → f ∉ frs X.stack → H1 c' = some (CodeO c' (X.env.qual ++ "<lambda>")) → Q (.ref f) s') :
    wpAny (model X.prog X.w) X.A (makeTail "<lambda>" (X.env.qual ++ "<lambda>") params (.expr body) scope X.env dV .none none pos pos.line) Q E s := by
  obtain ⟨ps, hP, ht, ha⟩ := hT _ hm
  have bP : s.heap.BuiltinsAt X.mg P := TB.bm.keeps I.bk
  have hP' : s.heap.get? P = some { cls := .none, data := .fields ps } := I.hok P _ hP
  have nofr : ∀ f, s.heap.objs.size ≤ f → f ∉ frs X.stack := fun f hf z => by
    rcases List.mem_cons.mp (I.stkSub _ z) with e | e
    · have h1 := I.lt
      rw [← e] at h1
      exact Nat.lt_irrefl _ (Nat.lt_of_lt_of_le h1 hf)
    · exact I.nofs hf e
  cases hc : codeAmong pos ps.toList with
  | none =>
    refine ld_tail (mg := X.mg) (c := c) (P := P) (ps := ps) (closure_ok hfree) I.ok.glob (I.mod.glob.keeps I.bk) hcode (TB.code.keeps I.bk) hP' ht hc TB.gP bP fun c' ctv h' tk hx hge hlt hrec htb => ?_
    obtain ⟨c2, oc, vs, t, e2, hoc, hd, hv⟩ := hrec
    cases e2
    have hsz : s.heap.objs.size ≤ h'.objs.size := Nat.le_trans hge (Nat.le_of_lt hlt)
    have nC : H c' = none := I.hok.fresh hge
    have I1 := inv_table (t' := tk) (more := #[rawInt pos.line, rawInt pos.col, .ref c']) (h' := h'.push (ldObj (X.env.qual ++ "<lambda>") params body scope (cloFrom X.env.cells scope.names []) dV ((X.mg "__name__").getD .none) c' ctv)) I hP
      (fun b o hb e => Heap.get?_push_of_some _ (hx b o hb e)) (Heap.get?_push_of_some _ htb) hge ⟨oc, vs, t, Heap.get?_push_of_some _ hoc, hd, hv⟩
    have hE : ExtN H (upd (upd H P (.tbl (ps ++ #[rawInt pos.line, rawInt pos.col, .ref c']))) c' (CodeO c' (X.env.qual ++ "<lambda>"))) := fun b o e n => by
      rw [upd_ne (ne_of_none e nC), upd_ne (fun z => n ps (Option.some.inj (e.symm.trans (by rw [z]; exact hP))))]
      exact e
    have eL : (ps ++ #[rawInt pos.line, rawInt pos.col, .ref c']).toList = ps.toList ++ [rawInt pos.line, rawInt pos.col, .ref c'] := by simp
    refine h h'.objs.size c' ((X.mg "__name__").getD .none) ctv _ _ I1 hE (fun p hp => ?_) (Heap.get?_push_size _ rfl) ?_ (nofr _ hsz) upd_same
    · by_cases hb : p.1 = P
      · rw [hu p hp hb, hb]
        refine ⟨_, by rw [upd_ne (ne_of_none hP nC), upd_same], by rw [eL]; exact PySem.TriplesOk_snoc _ _ _ _ ht, fun p' cv hcv => ?_⟩
        rw [eL] at hcv
        rcases among_app _ ht hcv with z | z
        · obtain ⟨c0, e1, e2⟩ := ha p' cv z
          exact ⟨c0, e1, hE _ _ e2 codeO_ne⟩
        · exact ⟨c', z, upd_same⟩
      · obtain ⟨ps', a1, a2, a3⟩ := hT p hp
        refine ⟨ps', by rw [upd_ne (ne_of_none a1 nC), upd_ne hb]; exact a1, a2, fun p' cv hcv => ?_⟩
        obtain ⟨c0, e1, e2⟩ := a3 p' cv hcv
        exact ⟨c0, e1, hE _ _ e2 codeO_ne⟩
    · have n1 : h'.objs.size ≠ c' := Nat.ne_of_gt hlt
      have n2 : h'.objs.size ≠ P := Nat.ne_of_gt (Nat.lt_of_lt_of_le (Heap.lt_size hP') hsz)
      rw [upd_ne n1, upd_ne n2]
      exact I.hok.fresh hsz
  | some cv =>
    obtain ⟨c', e, hco⟩ := ha pos cv hc
    subst e
    refine ld_tailHit (mg := X.mg) (c := c) (P := P) (ps := ps) (closure_ok hfree) I.ok.glob (I.mod.glob.keeps I.bk) hcode (TB.code.keeps I.bk) hP' ht hc bP fun ctv h' tk hx hsz => ?_
    have I1 : Inv X pins σ H { s with heap := h'.push (ldObj (X.env.qual ++ "<lambda>") params body scope (cloFrom X.env.cells scope.names []) dV ((X.mg "__name__").getD .none) c' ctv), toks := tk } := I.kept fun b o e => Heap.get?_push_of_some _ (hx b o e)
    exact h h'.objs.size c' ((X.mg "__name__").getD .none) ctv H _ I1 (ExtN.refl H) hT (Heap.get?_push_size _ rfl) (I.hok.fresh hsz) (nofr _ hsz) hco

/-- .. the default's tuple ahead of it -/
theorem ld_make {T : List (Addr × Str)} {c P : Addr} {params : Arguments} {body : Expr} {scope : Scope} {pos dp : Pos} {n : Int} {j : Nat} {E : Value → Shared → Prop} {Q : Value → Shared → Prop} (I : Inv X pins σ H s) (TB : TabB X.base X.mg c P) (hcode : X.env.code = .ref c)
    (hm : (P, X.env.qual ++ "<lambda>") ∈ T) (hu : ∀ p ∈ T, p.1 = P → p.2 = X.env.qual ++ "<lambda>") (hT : Tabs T H) (hdef : defaultsOf params X.env = ([eval (.Constant (.int n) j dp) X.env], [])) (hkw : params.kwonlyargs = []) (hfree : ∀ y ∈ scope.names, y.2 = .free → ∃ c, X.env.cells.lookup y.1 = some c)
    (h : ∀ (f c' pd : Addr) (pm ctv : Value) (H1 : Hp) (s' : Shared), Inv X pins σ H1 s' → ExtN H H1 → Tabs T H1 →
      s'.heap.get? f = some (ldObj (X.env.qual ++ "<lambda>") params body scope (cloFrom X.env.cells scope.names []) (.ref pd) pm c' ctv) → H1 f = none → f ∉ frs X.stack → H1 c' = some (CodeO c' (X.env.qual ++ "<lambda>")) →
      H1 pd = some (.tup [.int n]) → Q (.ref f) s') :
    wpAny (model X.prog X.w) X.A (eval (.Lambda params body scope pos) X.env) Q E s := by
  rw [arm_eval_Lambda, hdef]
  refine wpAny_bind (wpAny_evalAll_cons (wpAny_Constant_int (wpAny_evalAll_nil ?_)))
  refine wpAny_bind (wpAny_holding (wpAny_pure ?_))
  rw [makeFunction_eq, hkw]
  simp only [List.zip_nil_right, List.zip_nil_left, List.filterMap_nil, List.isEmpty_nil, List.isEmpty_cons, if_true, pure_bind, Bool.false_eq_true, if_false]
  refine wpAny_bind (wpAny_newTextTuple ?_)
  have hn0 : H s.heap.objs.size = none := I.hok.fresh (Nat.le_refl _)
  have I0 : Inv X pins σ (upd H s.heap.objs.size (.tup [.int n])) { s with heap := s.heap.push { cls := .type "tuple", data := .seq [Value.int n s.toks].toArray }, toks := s.toks + 1 } :=
    I.laid (fun b o e => Heap.get?_push_of_some _ e) (Nat.le_refl _) ⟨by show 1 ≤ sizeLine; decide, [Value.int n s.toks], .cons ⟨_, rfl⟩ .nil, ⟨_, Heap.get?_push_size _ rfl, rfl, _, rfl⟩⟩
  have sm : ∀ b o, H b = some o → upd H s.heap.objs.size (.tup [.int n]) b = some o := fun b o e => by
    rw [upd_ne (ne_of_none e hn0)]
    exact e
  refine ld_fun I0 TB hcode hm hu (hT.ext sm) hfree fun f c' pm ctv H1 s' I1 eN T1 hf hfn hfr hco => ?_
  exact h f c' s.heap.objs.size pm ctv H1 s' I1 ((ExtN.of sm).trans eN) T1 hf hfn hfr hco (eN _ _ upd_same fun ps z => by cases z)
end

/-! ### the body's names: the default's own name is a local that none of the maker's names is -/
structure LamD (N : List Str) (a : Str) (sc scope : Scope) : Prop where
  kind : scope.kind = .function
  co : scope.isCoroutine = false
  gen : scope.isGenerator = false
  nocell : ∀ y ∈ scope.names, y.2 ≠ .cell
  loc : scope.names.lookup a = some .local
  own : ∀ y ∈ N, scope.names.lookup y ≠ some .local
  free : ∀ y ∈ scope.names, y.2 = .free → sc.names.lookup y.1 = some .cell ∨ sc.names.lookup y.1 = some .free
def lamDB (N : List Str) (a : Str) (sc scope : Scope) : Bool :=
  decide (scope.kind = .function) && (!scope.isCoroutine && (!scope.isGenerator && ((scope.names.all fun y => !decide (y.2 = .cell)) && (decide (scope.names.lookup a = some .local) && ((N.all fun y => !decide (scope.names.lookup y = some .local)) &&
    scope.names.all fun y => !decide (y.2 = .free) || (decide (sc.names.lookup y.1 = some .cell) || decide (sc.names.lookup y.1 = some .free)))))))
theorem lamD_by {N : List Str} {a : Str} {sc scope : Scope} (h : lamDB N a sc scope = true) : LamD N a sc scope := by
  unfold lamDB at h
  simp only [Bool.and_eq_true, Bool.or_eq_true, Bool.not_eq_true', decide_eq_true_eq, decide_eq_false_iff_not, List.all_eq_true] at h
  obtain ⟨h1, h2, h3, h4, h5, h6, h7⟩ := h
  refine ⟨h1, h2, h3, h4, h5, h6, fun y hy e => ?_⟩
  rcases h7 y hy with z | z
  · exact absurd e z
  · exact z
theorem LamD.has {X : Cx} {a : Str} {scope : Scope} (L : LamD X.N a X.env.scope scope) (ok : X.Ok) : ∀ y ∈ scope.names, y.2 = .free → ∃ c, X.env.cells.lookup y.1 = some c := fun y hy e => by
  rcases L.free y hy e with k | k
  · exact ok.has _ (.inl k)
  · exact ok.has _ (.inr k)

section
variable {X : Cx} {pins : List (Addr × Obj)} {σ : L2.St} {H HZ : Hp} {s s1 : Shared}
theorem ld_start {A : Around} {outer : List Env} {E : XK} {a : Str} {scope : Scope} {f c' : Addr} {h₁ : Heap} {tk : Nat} {m₁ : Str → Option Value} (I : Inv X pins σ H s) (L : LamD X.N a X.env.scope scope) (e0 : Env0 X.prog X.w X.K X.mg X.base A outer s1 HZ) (hd : A.handled = none)
    (un : Un (frs X.stack) [] H HZ s.heap s1.heap) (hns : h₁.Ns s1.heap.objs.size m₁) (kp : ∀ b o, s1.heap.get? b = some o → h₁.get? b = some o) :
    Inv (lamCx X A outer s1 HZ E scope f c') [] σ HZ { s1 with heap := h₁, toks := tk } := by
  have hfree := L.has I.ok
  have cm : ∀ {y c}, (cloFrom X.env.cells scope.names []).lookup y = some c → X.env.cells.lookup y = some c := fun {y c} e => by
    rcases cloFrom_mem (PySem.mem_of_lookup e) with hm | ⟨h1, h2⟩
    · cases hm
    · obtain ⟨c1, hc⟩ := hfree _ h1 rfl
      have hc : X.env.cells.lookup y = some c1 := hc
      have e2 : c = c1 := by
        rw [h2, hc] <;> rfl
      rw [e2]
      exact hc
  have look : ∀ {y}, scope.names.lookup y = some .free → ∃ c, (cloFrom X.env.cells scope.names []).lookup y = some c := fun {y} hl => by
    have hy : (y, NameKind.free) ∈ scope.names := PySem.mem_of_lookup hl
    exact mem_lookup (cloFrom_has (cells := X.env.cells) (acc := []) hy)
  have cellK : ∀ {c : Addr} {v : Option Value}, H c = none → s.heap.IsCell c v → h₁.IsCell c v := fun {c v} n ⟨o, ho, hd⟩ => by
    obtain ⟨sl, q⟩ := un.any ho n (by simp)
    exact ⟨_, kp _ _ q, hd⟩
  have noA : ∀ b : Addr, b ∉ (lamCx X A outer s1 HZ E scope f c').ex := fun b z => absurd (show b ∈ ([] : List Addr) from z) (by simp)
  refine ⟨⟨e0.mod, L.kind, rfl, rfl, Nat.le_refl _, fun y z c e1 e2 => I.ok.inj y z c (cm e1) (cm e2), fun y hy => ?_, fun y c z _ => ?_, fun _ => hd, Around.frames_deeper e0.frames, .inr ⟨rfl, rfl⟩, fun b z => absurd z (noA b), e0.bs, e0.bsz, fun b _ _ => noA b,
      fun b z => absurd z (noA b), e0.funs, e0.frf⟩,
    rfl, e0.bare, Un.kept kp, ⟨_, hns, fun i y v e1 e2 e3 => ?_⟩, fun y c e => ?_, e0.hok.fresh (Nat.le_refl _), fun y c e => ?_, fun q hq => absurd (show q ∈ ([] : List (Addr × Obj)) ++ [] from hq) (by simp), e0.hok.kept kp, I.len⟩
  · have hy : scope.names.lookup y = some .cell ∨ scope.names.lookup y = some .free := hy
    rcases hy with hy | hy
    · exact absurd rfl (L.nocell _ (PySem.mem_of_lookup hy))
    · exact look hy
  · have z : false = true := z
    cases z
  · have e3 : Vis scope y := e3
    have e1 : X.N[i]? = some y := e1
    rcases e3 with k | k | k
    · exact absurd k (L.own y (List.mem_of_getElem? e1))
    · exact absurd rfl (L.nocell _ (PySem.mem_of_lookup k))
    · obtain ⟨m, hn, hl⟩ := I.loc
      have hvis : Vis X.env.scope y := (L.free _ (PySem.mem_of_lookup k) rfl).elim (fun k => .inr (.inl k)) (fun k => .inr (.inr k))
      obtain ⟨w', r, q⟩ := hl i y v e1 e2 hvis
      obtain ⟨c2, h2⟩ := look k
      refine ⟨w', r, .inr ⟨.inr k, c2, h2, ?_⟩⟩
      have c1 := cm h2
      rcases q with ⟨k', _⟩ | ⟨_, c3, e', z⟩
      · have k' : X.env.scope.names.lookup y = some .local := k'
        rcases L.free _ (PySem.mem_of_lookup k) rfl with k2 | k2 <;> rw [show X.env.scope.names.lookup y = _ from k2] at k' <;> cases k'
      · rw [c1] at e'
        cases e'
        exact cellK (I.freeC y _ c1) z
  · obtain ⟨w', z⟩ := I.cell y c (cm e)
    exact ⟨w', cellK (I.freeC y c (cm e)) z⟩
  · obtain ⟨v, o, ho, hd⟩ := I.cell y c (cm e)
    exact un.free c o ho (I.freeC y c (cm e)) (by simp)

/-- how its call without arguments binds -/
def LdBind (params : Arguments) (a : Str) : Prop := ∀ (q : Str) (body : Expr) (scope : Scope) (cl : List (Str × Addr)) (dV pm cv ctv : Value), ∃ k : Option (Array Value) → Sem (List (Str × Value)),
  bindArgs (ldFd q params body scope cl dV pm cv ctv) ⟨[], []⟩ = seqItems? dV >>= k ∧ ∀ v : Value, k (some #[v]) = pure [(a, v)]
/-- x(), in the def that got the lambda -/
theorem pe_actD {CXg : CXT} {Eg : XK} {Ng : List Str} {qg : Str} {sg : Scope} {g f c' pd : Addr} {cdg pm ctv : Value} {params : Arguments} {body : Expr} {scope : Scope} {k i : Nat} {a b : Str} {n : Int} {pn : List (Addr × Obj)} {xe : Value → Shared → Prop} {W : WX} {E : XK} {tb : TE} {p1 p2 : Pos}
    (I : Inv X pins σ H s) (L : LamD X.N b X.env.scope scope) (hf : s.heap.get? f = some (ldObj (X.env.qual ++ "<lambda>") params body scope (cloFrom X.env.cells scope.names []) (.ref pd) pm c' ctv)) (hfn : H f = none) (hfr : f ∉ frs X.stack)
    (hpd : H pd = some (.tup [.int n])) (hbind : LdBind params b)
    (tk : Takes ((cxOf CXg X.prog X.w X.K X.mg X.base Ng qg sg g cdg X.A X.stack s H Eg).tr pn xe) W) (hW : ∀ cls d σ' H', E cls d H' → W cls d σ' H') (hr : Room (k + 1) (X.A.deeper (envOfC qg sg s.heap.objs.size g cdg)))
    (hbody : ∀ (A : Around) (outer : List Env) (s : Shared) (H : Hp), Room k (A.deeper (lamEnv X scope s.heap.objs.size f c')) → PE (lamCx X A outer s H E scope f c') body tb)
    (hN : Ng[i]? = some a) (hv : Vis sg a) (hd : (a == ("__debug__" : Str)) = false := by decide) (hcd : (a == ("__classdict__" : Str)) = false := by decide) :
    PE ((cxOf CXg X.prog X.w X.K X.mg X.base Ng qg sg g cdg X.A X.stack s H Eg).tr pn xe) (.Call (.Name a p1) [] [] p2)
      (fun σZ HZ Q => σZ[i]? = some (some (.ref f)) ∧ HZ c' = some (CodeO c' (X.env.qual ++ "<lambda>")) ∧ tb σ HZ Q) := by
  refine ⟨fun pinsZ sZ σZ HZ Q IZ h => ?_⟩
  obtain ⟨hs, hc, ht⟩ := h
  refine wpAny_Call_Name_kw (thn ((pe_var (pos := p1) (i := i) hN hv hd hcd).run pinsZ sZ σZ HZ (fun v H1 => v = .ref f ∧ H1 = HZ) IZ ⟨.ref f, hs, rfl, rfl⟩) fun u s1 ⟨v, H1, I1, r1, q1⟩ => ?_)
  obtain ⟨ev, eH⟩ := q1
  subst ev
  rw [eH] at I1
  obtain rfl : u = Value.ref f := r1
  have of1 : s1.heap.get? f = some (ldObj (X.env.qual ++ "<lambda>") params body scope (cloFrom X.env.cells scope.names []) (.ref pd) pm c' ctv) := I1.base.keep f _ hf hfn hfr (fun z => nomatch (show f ∈ ([] : List Addr) from z))
  refine PySem.W.callWith_F0 ⟨_, _, _, _, of1⟩ ?_
  have un : Un (frs X.stack) [] H HZ s.heap s1.heap := I1.base
  obtain ⟨⟨oc, vs, t, hoc, hdc, hvc⟩, _, _⟩ := I1.hok c' _ hc
  have hpz : HZ pd = some (.tup [.int n]) := un.tups pd _ hpd
  obtain ⟨_, its, rv, o2, ho2, _, n2, hd2⟩ := (show ObjOk X.prog X.w HZ s1.heap pd (.tup [.int n]) from I1.hok pd _ hpz)
  obtain ⟨u1, rfl, ru1⟩ := vals1 rv
  obtain ⟨kb, hb1, hb2⟩ := hbind (X.env.qual ++ "<lambda>") body scope (cloFrom X.env.cells scope.names []) (.ref pd) pm (.ref c') ctv
  have hbd : BindsTo s1 (ldFd (X.env.qual ++ "<lambda>") params body scope (cloFrom X.env.cells scope.names []) (.ref pd) pm (.ref c') ctv) ⟨[], []⟩ [(b, u1)] := .of_defaults rfl ho2 hd2 hb1 (hb2 u1)
  have rc : codeAny (model X.prog X.w) (X.A.deeper (envOfC qg sg s.heap.objs.size g cdg)) (.call (.ref f) ⟨[], []⟩) (CR (L2.CX X.prog X.w) (envOfC qg sg s.heap.objs.size g cdg :: X.stack) X.prog X.w HZ s1 Q E) s1 := by
    refine PySem.W.kla_callFunE hr.depth of1 rfl L.co L.gen rfl ⟨c', oc, vs, t, rfl, hoc, hdc, hvc⟩ (hbd _ _ _ _ ?_)
    refine wpAny_newFunctionEnv L.nocell (fun y hy => ?_) (fun h₁ hns hsb => ⟨I1.nolimit.fresh _ hsb, ?_⟩) L.kind
    · obtain rfl : y = (b, u1) := List.mem_singleton.mp hy
      exact L.loc
    · show codeAny _ _ (.expr body (lamEnv X scope s1.heap.objs.size f c')) _ _
      have kp : ∀ b o, s1.heap.get? b = some o → h₁.get? b = some o := fun b o e => hsb.extBut b o (Nat.ne_of_lt (Heap.lt_size e)) (Heap.get?_push_of_some _ e)
      have J : Inv (lamCx X (X.A.deeper (envOfC qg sg s.heap.objs.size g cdg)) (envOfC qg sg s.heap.objs.size g cdg :: X.stack) s1 HZ E scope f c') [] σ HZ { s1 with heap := h₁, toks := s1.toks + ([(b, u1)] : List (Str × Value)).length } :=
        ld_start I L I1.env0 hr.hd un hns kp
      refine PySem.W.kla_codeExpr (wpAny_mono ((hbody _ _ s1 HZ (hr.deeper _)).run [] _ _ HZ Q J ht) (fun v s' hq => ?_) fun e s' hq => hq)
      obtain ⟨w', H', J', rv, q⟩ := hq
      exact ⟨w', H', J'.os, J'.bare, J'.base, J'.hok, rv, q⟩
  have hx : Passes (L2.CX X.prog X.w) ((cxOf CXg X.prog X.w X.K X.mg X.base Ng qg sg g cdg X.A X.stack s H Eg).tr pn xe) E := passes_call tk hW
  refine wpAny_call (codeAny_mono rc fun r s' hq => ?_)
  cases r with
  | error e => exact hx pinsZ σZ HZ s1 e s' I1 hq
  | ok fl =>
    cases fl with
    | ret u => exact I1.after hq
    | next => exact False.elim hq
    | brk => exact False.elim hq
    | cont => exact False.elim hq
end

section
variable {X : Cx}
/-- x(lambda b=n: body) -/
theorem pe_lamcallD {T : List (Addr × Str)} {TT : (XK → Hp → VK → Prop) → Hp → VK → Prop} {x a b : Str} {n : Int} {j : Nat} {g c P : Addr} {k : Nat} {pg : Arguments} {bg : List Stmt} {sg : Scope} {dV kV doc pm cdv ct oc : Value} {an od : Option Addr} {osl : Array (Option Value)} {Ng : List Str}
    {params : Arguments} {body : Expr} {scope : Scope} {t : XK → TE} {p lpos pos dp : Pos} (hg : Gl X x) (hm : X.mg x = some (.ref g)) (hk : PySem.W.keepIn X.K (.ref g) = true)
    (lk : X.K.lookup g = some ⟨oc, od, .func (PySem.W.fnOf x x pg bg sg dV kV doc pm an cdv ct), osl⟩) (hcg : PySem.W.codeIn X.K cdv x = true) (hb : L2.Binds X.K (PySem.W.fnOf x x pg bg sg dV kV doc pm an cdv ct) [a] []) (Sg : FnScope Ng [a] sg) (hNg : Ng[0]? = some a) (hva : Vis sg a)
    (hG : GivesTo X Ng x sg g cdv bg a (X.env.qual ++ "<lambda>") TT)
    (TB : TabB X.base X.mg c P) (hcode : X.env.code = .ref c) (hmT : (P, X.env.qual ++ "<lambda>") ∈ T) (hu : ∀ p ∈ T, p.1 = P → p.2 = X.env.qual ++ "<lambda>") (hr : Room (k + 2) X.A) (L : LamD X.N b X.env.scope scope)
    (hdef : defaultsOf params X.env = ([eval (.Constant (.int n) j dp) X.env], [])) (hkw : params.kwonlyargs = []) (hbind : LdBind params b)
    (hbody : ∀ (A : Around) (outer : List Env) (s : Shared) (H : Hp) (E : XK) (f c' : Addr), Room k (A.deeper (lamEnv X scope s.heap.objs.size f c')) → PE (lamCx X A outer s H E scope f c') body (t E))
    (hdb : (x == ("__debug__" : Str)) = false := by decide) (hd : (a == ("__debug__" : Str)) = false := by decide) (hcd : (a == ("__classdict__" : Str)) = false := by decide) :
    PE X (.Call (.Name x p) [.Lambda params body scope lpos] [] pos) (tLam T TT t) := by
  refine ⟨fun pins s σ H Q I h => ?_⟩
  obtain ⟨hT, h⟩ := h
  refine wpAny_Call_Name_kw (ld_glob I hg hm ?_ hdb)
  refine PySem.W.callWith_K (h₀ := X.base) I.ok.mod.kin hk ?_ (by rfl) (by rfl)
  show wpAny _ _ (spliced ((false, eval (.Lambda params body scope lpos) X.env) :: backTo pos (starEach [] X.env))) _ _ s
  refine Calls.spliced_cons (ld_make I TB hcode hmT hu hT hdef hkw (L.has I.ok) fun f c' pd pm' ctv H1 s' I1 eN T1 hf hfn hfr hco hpd => ?_)
  refine Calls.spliced_nil ⟨I1.kIn, ?_⟩
  have rc : codeAny (model X.prog X.w) X.A (.call (.ref g) ⟨[.ref f], []⟩) (CR C8.CX0 X.stack X.prog X.w H1 s' Q C8.E0) s' := by
    refine run_ofS (N := Ng) (ps := [a]) (us := [.ref f]) (vs := [.ref f]) lk hcg Sg hr I1.env0 (hb s' [.ref f] I1.kIn rfl) (.cons rfl .nil) rfl fun hr' => ?_
    obtain ⟨t', ht', hq'⟩ := hG f c' s' H1 Q (fun E H' Q' => t E σ H' Q') (fun W pn xe E p1 p2 tk hW => pe_actD (i := 0) I1 L hf hfn hfr hpd hbind tk hW hr' (fun A outer s H hr2 => hbody A outer s H E f c' hr2) hNg hva hd hcd) hco (h H1 eN T1)
    exact ⟨t', ht'.nox, hq'⟩
  refine wpAny_call (codeAny_mono rc fun r s2 hq => ?_)
  cases r with
  | error e => exact (show False from hq).elim
  | ok fl =>
    cases fl with
    | ret u => exact I1.after hq
    | next => exact False.elim hq
    | brk => exact False.elim hq
    | cont => exact False.elim hq
end
end OG


set_option Elab.async false
set_option linter.all false
set_option maxRecDepth 100000
set_option maxHeartbeats 2000000
/-! GD: the end of a law row where the law's promise knows the guards; xs[-2::-1]. -/
namespace OG
open PySem PySem.Spec PyProof.Rows L2 LamX
/-- the tables' places -/
abbrev tabs (cs : List (Addr × Addr)) : List Addr := cs.map fun p => p.2
/-- the law's call at the head's heap, for a promise that knows the guards; cs: code objects and their tables -/
theorem law_callG {P : Program} {w : World} {K : PySem.W.Frag} {mg mb : Str → Option Value} {CX : CXT} {k : Nat} {fa a : Addr} {cs : List (Addr × Addr)} {fd : FuncData} {x : Str} {sp : Sp} {s₁ : Shared} {vs : List Value} {ns : List Int}
    (KX : K.In s₁.heap) (hns : s₁.heap.Ns mainGlobals mg) (hb : s₁.heap.Ns builtinsNs mb) (hbb : ∀ x : Str, x ≠ "__name__" → mb x = bootBuiltins x) (hlim : s₁.heap.NoLimit) (hg : s₁.gens = #[])
    (hT : ∀ p ∈ cs, s₁.heap.get? p.2 = some { cls := .none, data := .fields #[] }) (nT : ∀ p ∈ cs, K.lookup p.2 = none) (C : ∀ p ∈ cs, PySem.W.CodeHd s₁.heap p.1 p.2)
    (hbm : ∃ (bm : Addr) (ob : Obj), mg "__builtins__" = some (.ref bm) ∧ bm ≠ builtinsNs ∧ s₁.heap.get? bm = some ob ∧ ob.cls = .type "module" ∧ ob.dict = some builtinsNs ∧ ob.data = .plain)
    (ha : s₁.heap.get? a = some { cls := .type "list", data := .seq vs.toArray }) (hi : IntsAre vs ns) (hl : ns.length ≤ sizeLine) (hr : RmG k callerA)
    (F : ∀ base : Heap, K.In base → base.Ns mainGlobals mg → (∀ p ∈ cs, TabB base mg p.1 p.2) → FnG P w K mg base CX k fa fd [x] sp) (hbind : ∀ (s : Shared) (u : Value), BindsTo s fd ⟨[u], []⟩ [(x, u)])
    (hsp : ∀ H : Hp, (∀ p ∈ cs, H p.2 = some (.tbl #[])) → SqL K H a (ns.map V.int) → sp [.ref a] H (fun v _ => v = .bl true) fun _ _ _ => False)
    (hCX : ∀ H e s', CX [] H s₁ (fun _ _ _ => False) e s' → False) :
    codeAny (model P w) callerA (.call (.ref fa) ⟨[.ref a], []⟩) (fun r s' => r = .ok (.ret (.bool true)) ∧ OldK s₁.heap s'.heap ∧ s'.os = s₁.os ∧ AllBare s'.gens) s₁ := by
  have rv := vals_ints hi
  have lenV := hi.length
  have isT : ∀ b : Addr, b ∈ tabs cs → s₁.heap.get? b = some { cls := .none, data := .fields #[] } := fun b hb => by
    obtain ⟨p, hp, e⟩ := List.mem_map.mp hb
    rw [← e]
    exact hT p hp
  have aT : a ∉ tabs cs := fun z => by
    have q := isT a z
    rw [ha] at q
    have z' : Data.seq vs.toArray _ = Data.fields #[] := congrArg Obj.data (Option.some.inj q)
    cases z'
  have memT : ∀ p ∈ cs, p.2 ∈ tabs cs := fun p hp => List.mem_map.mpr ⟨p, hp, rfl⟩
  -- from an abstract heap in which nothing but the script and the tables may be tracked
  have core : ∀ H : Hp, (∀ p ∈ cs, H p.2 = some (.tbl #[])) → (∀ b, H b = none ∨ b ∈ tabs cs ∨ ∃ o xs, H b = some (.frz o (.lst xs))) → SqL K H a (ns.map V.int) → HOk P w H s₁.heap → (∀ b, H b ≠ none → b = a ∨ b ∈ tabs cs) → (H a ≠ none → K.lookup a = none) →
      codeAny (model P w) callerA (.call (.ref fa) ⟨[.ref a], []⟩) (fun r s' => r = .ok (.ret (.bool true)) ∧ OldK s₁.heap s'.heap ∧ s'.os = s₁.os ∧ AllBare s'.gens) s₁ := by
    intro H hH hO hS hok hA hK
    have base_of : ∀ {b : Addr} {o : Obj}, s₁.heap.get? b = some o → H b = none → (hidT s₁.heap H).get? b = some o := fun e n => hidT_get e n
    have noD : ∀ {b : Addr} {o : Obj}, s₁.heap.get? b = some o → (∀ vs n, o.data ≠ .seq vs n) → o.data ≠ .fields #[] → H b = none := fun {b o} e h1 h2 => by
      cases q : H b with
      | none => rfl
      | some u =>
        rcases hA b (by rw [q]; simp) with e' | e'
        · rw [e', ha] at e
          cases e
          exact (h1 _ _ rfl).elim
        · rw [isT b e'] at e
          cases e
          exact (h2 rfl).elim
    have noA : ∀ {b : Addr} {o : Obj} {es : Array DictEntry} {ep : Nat}, s₁.heap.get? b = some o → o.data = .dict es ep → H b = none := fun {b o es ep} e d => by
      refine noD e (fun vs n z => ?_) fun z => ?_
      · rw [d] at z
        cases z
      · rw [d] at z
        cases z
    have nsK : ∀ {b : Addr} {m : Str → Option Value}, s₁.heap.Ns b m → (hidT s₁.heap H).Ns b m := fun {b m} ⟨o, es, ep, e, d, r⟩ => ⟨o, es, ep, base_of e (noA e d), d, r⟩
    have hKb : K.In (hidT s₁.heap H) := fun b o e => base_of (KX b o e) (by
      cases q : H b with
      | none => rfl
      | some u =>
        rcases hA b (by rw [q]; simp) with e' | e'
        · rw [e'] at e q
          rw [hK (by rw [q]; simp)] at e
          cases e
        · obtain ⟨p, hp, ep⟩ := List.mem_map.mp e'
          rw [← ep, nT p hp] at e
          cases e)
    have hM : L2.Mod K mg (hidT s₁.heap H) := ⟨hKb, nsK hns, ⟨mb, nsK hb, hbb⟩, let ⟨mc, h1, h2⟩ := hlim; ⟨mc, nsK h1, h2⟩⟩
    have TB : ∀ p ∈ cs, TabB (hidT s₁.heap H) mg p.1 p.2 := fun p hp => by
      have hTp := hT p hp
      refine ⟨?_, ?_, fun z => ?_⟩
      · obtain ⟨o, us, file, tf, flags, tg, inF, text, tt, e1, r1, r2, r3, r4, r5, r6, r7, r8, hne⟩ := C p hp
        refine ⟨o, us, file, tf, flags, tg, inF, text, tt, base_of e1 (noD e1 (fun vs n z => ?_) fun z => ?_), r1, r2, r3, r4, r5, r6, r7, r8, hne⟩
        · rw [r2] at z
          cases z
        · rw [r2] at z
          cases z
          simp at r3
      · obtain ⟨bm, ob, b1, b2, b3, b4, b5, b6⟩ := hbm
        have nG : bm ≠ mainGlobals := fun q => by
          obtain ⟨o, es, ep, e, hd, _⟩ := hns
          rw [q, e] at b3
          cases b3
          rw [hd] at b6
          cases b6
        have nP : bm ≠ p.2 := fun q => by
          rw [q, hTp] at b3
          cases b3
          cases b6
        refine ⟨bm, ob, b1, b2, nG, nP, base_of b3 (noD b3 (fun vs n z => ?_) fun z => ?_), b4, b5, b6⟩
        · rw [b6] at z
          cases z
        · rw [b6] at z
          cases z
      · obtain ⟨o, es, ep, e, hd, _⟩ := hns
        rw [z, hTp] at e
        cases e
        cases hd
    have e0 : Env0 P w K mg (hidT s₁.heap H) callerA [] s₁ H := ⟨rfl, hM, fun b o e => of_hidT e, Nat.le_of_eq (hidT_size _ _), trivial, fun b hb => absurd (show b ∈ ([] : List Addr) from hb) (by simp), hok, .of_eq hg⟩
    refine codeAny_mono ((F _ hKb (nsK hns) TB).run callerA [] s₁ H ⟨[.ref a], []⟩ [.ref a] [.ref a] _ _ hr e0 (hbind s₁ (.ref a)) (.cons rfl .nil) (hsp H hH hS)) fun r s' h => ?_
    cases r with
    | error e => exact (hCX H e s' h).elim
    | ok fl =>
      cases fl with
      | next => exact False.elim h
      | brk => exact False.elim h
      | cont => exact False.elim h
      | ret u =>
        obtain ⟨v, H', os, bare, un, hok', r', q⟩ := h
        have q' : v = .bl true := q
        subst q'
        obtain rfl : u = Value.bool true := r'
        have key : ∀ b o, b ∉ tabs cs → s₁.heap.get? b = some o → s'.heap.get? b = some o := fun b o nb e => by
          cases q : H b with
          | none => exact un.keep b o e q (by intro z; exact absurd (show b ∈ ([] : List Addr) from z) (by simp)) (by simp)
          | some u =>
            rcases hO b with z | z | ⟨ob, xs, z⟩
            · rw [q] at z; cases z
            · exact absurd z nb
            · have z2 := un.frzs b ob _ z
              obtain ⟨e1, _⟩ := hok b _ z
              obtain ⟨e2, _⟩ := hok' b _ z2
              rw [e] at e1; cases e1
              exact e2
        have grown : ∀ p ∈ cs, ∃ more : Array Value, s'.heap.get? p.2 = some { cls := .none, data := .fields more } := fun p hp => by
          obtain ⟨more, z⟩ := un.tbls p.2 #[] (hH p hp)
          exact ⟨_, hok' p.2 _ z⟩
        refine ⟨rfl, ⟨fun b o e => ?_, fun b o e => ?_⟩, os, bare⟩
        · by_cases hb : b ∈ tabs cs
          · obtain ⟨p, hp, ep⟩ := List.mem_map.mp hb
            obtain ⟨more, hm⟩ := grown p hp
            rw [← ep] at e ⊢
            rw [hT p hp] at e
            cases e
            exact .inr (.inl ⟨((C p hp).tab (hT p hp)).isCodeTable, rfl, #[], more, rfl, by rw [Array.empty_append]; exact hm⟩)
          · exact .inl (key b o hb e)
        · by_cases hb : b ∈ tabs cs
          · obtain ⟨p, hp, ep⟩ := List.mem_map.mp hb
            obtain ⟨more, hm⟩ := grown p hp
            rw [← ep]
            exact ⟨_, hm⟩
          · exact ⟨o, key b o hb e⟩
  cases hk : K.lookup a with
  | some o =>
    have e := KX a o hk
    rw [ha] at e
    cases e
    refine core (fun b => if b ∈ tabs cs then some (.tbl #[]) else none) (fun p hp => if_pos (memT p hp)) (fun b => ?_) (.inr ⟨_, vs.toArray, _, hk, rfl, rfl, rfl, by rw [List.size_toArray, lenV]; exact hl, by simpa using rv⟩) (fun b u z => ?_) (fun b z => ?_) fun z => absurd (show (if a ∈ tabs cs then some (HO.tbl #[]) else none) = none from if_neg aT) z
    · by_cases hb : b ∈ tabs cs
      · exact .inr (.inl hb)
      · exact .inl (if_neg hb)
    · by_cases hb : b ∈ tabs cs
      · have z' := (if_pos hb).symm.trans z
        cases z'
        exact isT b hb
      · have z' := (if_neg hb).symm.trans z
        cases z'
    · by_cases hb : b ∈ tabs cs
      · exact .inr hb
      · exact absurd (if_neg hb) z
  | none =>
    refine core (fun b => if b = a then some (.frz { cls := .type "list", data := .seq vs.toArray } (.lst (ns.map V.int))) else if b ∈ tabs cs then some (.tbl #[]) else none) (fun p hp => (if_neg (show ¬ p.2 = a from fun z => aT (by rw [← z]; exact memT p hp))).trans (if_pos (memT p hp))) (fun b => ?_)
      (.inl (.inr ⟨{ cls := .type "list", data := .seq vs.toArray }, if_pos rfl⟩)) (fun b u z => ?_) (fun b z => ?_) fun _ => hk
    · by_cases hb : b = a
      · exact .inr (.inr ⟨_, _, if_pos hb⟩)
      · by_cases hb2 : b ∈ tabs cs
        · exact .inr (.inl hb2)
        · exact .inl ((if_neg hb).trans (if_neg hb2))
    · by_cases hb : b = a
      · have z' := (if_pos hb).symm.trans z
        cases z'
        rw [hb]
        exact ⟨ha, by rw [List.length_map]; exact hl, vs, _, rv, ha⟩
      · have z1 := (if_neg hb).symm.trans z
        by_cases hb2 : b ∈ tabs cs
        · have z' := (if_pos hb2).symm.trans z1
          cases z'
          exact isT b hb2
        · have z' := (if_neg hb2).symm.trans z1
          cases z'
    · by_cases hb : b = a
      · exact .inl hb
      · by_cases hb2 : b ∈ tabs cs
        · exact .inr hb2
        · exact absurd ((if_neg hb).trans (if_neg hb2)) z
/-- what is known of the law's promise at the head's heap h -/
def LawAtG (l : PySem.W.OpenLaw) (w : World) (K : PySem.W.Frag) (CX : CXT) (k n : Nat) (x : Str) (mg : Str → Option Value) (fa : Addr) (h : Heap) : Prop :=
  ∃ (fd : FuncData) (cs : List (Addr × Addr)) (sp : Sp), (∀ p ∈ cs, h.get? p.2 = some { cls := .none, data := .fields #[] }) ∧ (∀ p ∈ cs, K.lookup p.2 = none) ∧ (∀ p ∈ cs, PySem.W.CodeHd h p.1 p.2) ∧
    (∀ (s : Shared) (u : Value), BindsTo s fd ⟨[u], []⟩ [(x, u)]) ∧
    (∀ (H : Hp) (a : Addr) (ns : List Int), ns.length ≤ n → (∀ z ∈ ns, Builtin.Int.intBits z ≤ 1048576) → (∀ p ∈ cs, H p.2 = some (.tbl #[])) → SqL K H a (ns.map V.int) → sp [.ref a] H (fun v _ => v = .bl true) fun _ _ _ => False) ∧
    ∀ base : Heap, K.In base → base.Ns mainGlobals mg → (∀ p ∈ cs, TabB base mg p.1 p.2) → FnG l.prog w K mg base CX k fa fd [x] sp
theorem walk_ofG {l : PySem.W.OpenLaw} {n k : Nat} {q : Program} {loose : List Str} {XP : (Str → Option Value) → Heap → Prop} {YP : World → Heap → Prop} {d : DefRec} {K : Params → PySem.W.Frag} {CX : World → CXT} {x : Str}
    (hn : l.most = some n) (hn2 : n ≤ sizeLine) (hdf : d.params.defaults = []) (hr : RmG k callerA) (hY : ∀ (w : World) (h : Heap), YP w h → (K w.params).In h)
    (F : ∀ (w : World) (mg : Str → Option Value) (fa : Addr) (h : Heap), YP w h → (K w.params).In h → h.Ns mainGlobals mg → mg d.name = some (.ref fa) → LawAtG l w (K w.params) (CX w) k n x mg fa h)
    (hCX : ∀ (w : World) (H : Hp) (s : Shared) (e : Value) (s' : Shared), CX w [] H s (fun _ _ _ => False) e s' → False) :
    PySem.W.WalkO q loose XP YP l.row.toRowW d [] (fun f vs => PySem.call f vs) := by
  refine Att.attach_callB hn hdf fun w s₀ s₁ mg mb fa o pm cd doc a vs ns G Y ho hd hcd hmg hobj hints hlen hbits hg => ?_
  have KX := hY w _ Y
  obtain ⟨fd, cs, sp, hT, nT, C, hb, hsp, hF⟩ := F w mg fa _ Y KX G.T.g hmg
  exact law_callG KX G.T.g G.T.b G.T.builtins G.T.nolimit hg hT nT C G.T.bmain hobj hints (Nat.le_trans hlen hn2) hr hF hb (fun H hH hS => hsp H a ns hlen hbits hH hS) fun H e s' => hCX w H s₁ e s'

/-! ### xs[-2::-1] -/
theorem take_all {α : Type} : ∀ (l : List α) (m : Nat), m ≤ l.length → (List.range m).filterMap (fun i => l[i]?) = l.take m
  | l, 0, _ => by simp
  | l, m + 1, h => by
    rw [List.range_succ, List.filterMap_append, take_all l m (by omega)]
    have e : l[m]? = some l[m] := List.getElem?_eq_getElem (by omega)
    rw [List.take_succ, e]
    simp [e]
theorem bounds_back (n : Nat) (h : 2 ≤ n) : sliceBounds (some (-2)) none (some (-1)) n = (((n - 1 : Nat) : Int) - 1, -1, -1) := by
  have e : max (-1) (min (-2 + (n : Int)) ((n : Int) - 1)) = ((n - 1 : Nat) : Int) - 1 := by omega
  show (max (-1) (min (-2 + (n : Int)) ((n : Int) - 1)), (-1 : Int), (-1 : Int)) = _
  rw [e]
theorem pick_back (its : Array Value) (h : 2 ≤ its.size) : slicePick its (some (-2)) none (some (-1)) = (its.toList.take (its.size - 1)).reverse.toArray := by
  unfold slicePick
  rw [bounds_back _ h]
  show ((sliceRange (((its.size - 1 : Nat) : Int) - 1) (-1) (-1)).filterMap (its[·]?)).toArray = _
  rw [PySem.W.krv_sliceRange, PySem.W.krv_range, List.filterMap_reverse]
  have e : (List.range (its.size - 1)).filterMap (its[·]?) = its.toList.take (its.size - 1) := by
    rw [← take_all its.toList (its.size - 1) (by rw [Array.length_toList]; omega)]
    congr 1
    funext i
    rw [Array.getElem?_toList]
  rw [e]
def tBackL (K : PySem.W.Frag) (te : TE) : TE := fun σ H Q => te σ H fun x H1 => ∃ a xs, x = .ref a ∧ SqL K H1 a xs ∧ 2 ≤ xs.length ∧ ∀ p, H1 p = none → Q (.ref p) (upd H1 p (.lst (xs.take (xs.length - 1)).reverse))
theorem pe_backL {X : Cx} {e : Expr} {te : TE} {k k' : Nat} {p0 p1 p2 p3 p4 pos : Pos} (he : PE X e te) :
    PE X (.Subscript e (.Slice (some (.UnaryOp .USub (.Constant (.int 2) k' p0) p4)) none (some (.UnaryOp .USub (.Constant (.int 1) k p1) p2)) p3) pos) (tBackL X.K te) := by
  refine ⟨fun pins s σ H Q I h => ?_⟩
  refine Subscript_ (thn (he.run pins s σ H _ I h) fun v s1 ⟨x, H1, I1, r1, q1⟩ => ?_)
  obtain ⟨a, xs, ex, hx, h2, q⟩ := q1
  subst ex
  cases r1
  have hst : PO X (some (.UnaryOp .USub (.Constant (.int 1) k p1) p2)) (tPart (tUn (rU fun i => .int (-i)) (tC (.int 1)))) := po_some (pe_un un_neg pe_int)
  have hlo : PO X (some (.UnaryOp .USub (.Constant (.int 2) k' p0) p4)) (tPart (tUn (rU fun i => .int (-i)) (tC (.int 2)))) := po_some (pe_un un_neg pe_int)
  refine wpAny_Slice (thn (hlo.run pins s1 σ H1 (fun o H2 => o = some (-2) ∧ H2 = H1) I1 ⟨2, rfl, -2, rfl, rfl, rfl⟩) fun vl s2 ⟨l, H2, I2, pl, el, e2⟩ => ?_)
  subst el e2
  refine thn (po_none.run pins s2 σ H2 (fun o H3 => o = none ∧ H3 = H2) I2 ⟨rfl, rfl⟩) fun vu s3 ⟨u, H3, I3, pu, eu, e3⟩ => ?_
  subst eu e3
  refine thn (hst.run pins s3 σ H3 (fun o H4 => o = some (-1) ∧ H4 = H3) I3 ⟨1, rfl, -1, rfl, rfl, rfl⟩) fun vs s4 ⟨o, H4, I4, ps, eo, e4⟩ => ?_
  subst eo e4
  have I5 : Inv X pins σ H4 { s4 with heap := s4.heap.push { cls := .type "slice", data := .fields #[vl, vu, vs] } } := I4.kept (t' := s4.toks) fun b ob q => Heap.get?_push_of_some _ q
  obtain ⟨its, r, ht, hz⟩ := I5.list hx
  have hlen := r.length
  refine tail_any (ops := [.ref a, .ref s4.heap.objs.size]) ht.isList.typeIs (PySem.slot_list_getitem.lookup) ?_ (by with_unfolding_all rfl)
  refine wpAny_getItem_list_slice ht.isList (Heap.IsSliceOf.new _ vl vu vs) pl pu ps (by decide) ?_ (by rw [List.size_toArray]; omega)
  rw [pick_back _ (by rw [List.size_toArray]; omega)]
  refine ⟨.ref _, _, I5.laid (t' := s4.toks) (o := .lst (xs.take (xs.length - 1)).reverse) (fun b ob q => Heap.get?_push_of_some _ q) (Nat.le_refl _) ?_, rfl, q _ (I5.hok.fresh (Nat.le_refl _))⟩
  refine ⟨by rw [List.length_reverse, List.length_take]; omega, _, 0, ?_, Heap.get?_push_size _ rfl⟩
  have e : its.toArray.toList.take (its.toArray.size - 1) = its.take (xs.length - 1) := by
    rw [List.size_toArray, hlen]
  rw [e]
  exact (r.take (xs.length - 1)).reverse
end OG


set_option Elab.async false
set_option linter.all false
set_option maxRecDepth 100000
set_option maxHeartbeats 2000000
/-! GE: own __len__, own == and != that answer both ways. -/
namespace OG
open PySem PySem.Spec PyProof.Rows L2
section
variable {X : Cx} {CX : CXT} {n : Nat} {f C : Addr} {fd : FuncData} {ps : List Str} {sp : Sp} {E : XK}
/-- the callee runs, below the body -/
theorem run_sub {A : Around} {pins : List (Addr × Obj)} {σ : L2.St} {H : Hp} {s : Shared} {Q : VK} {us : List Value} {vs : List V} (F : FnOk X.prog X.w X.K X.mg X.base CX n f fd ps sp) (sb : Sub X n A) (hb : Binds X.K fd ps []) (hx : Passes CX X E)
    (I : Inv X pins σ H s) (r : Vals vs us) (h : sp vs H Q E) : wpAny (model X.prog X.w) A (call (.ref f) us) (EP X pins σ Q) X.xe s := by
  have e0 : Env0 X.prog X.w X.K X.mg X.base A X.stack s H := by
    have e := I.env0
    exact ⟨by rw [sb.fr]; exact e.frames, e.mod, e.bs, e.bsz, e.funs, e.frf, e.hok, e.bare⟩
  have hl : (us ++ []).length = ps.length := by
    rw [List.append_nil, ← r.length]
    exact F.len _ _ _ _ h
  have hbt := hb s us I.kIn hl
  rw [List.append_nil] at hbt
  refine wpAny_call (codeAny_mono (F.run A X.stack s H ⟨us, []⟩ us vs Q E sb.room e0 hbt r h) fun r s' hq => ?_)
  cases r with
  | error e => exact hx pins σ H s e s' I hq
  | ok fl =>
    cases fl with
    | ret u => exact I.after hq
    | next => exact False.elim hq
    | brk => exact False.elim hq
    | cont => exact False.elim hq
theorem tyx_looks {pins : List (Addr × Obj)} {σ : L2.St} {H : Hp} {s : Shared} {x : V} {u t : Value} (I : Inv X pins σ H s) (rx : L2.RelV x u) (ty : TyX X.K H x t) : PySem.W.Looks (model X.prog X.w) s.heap (typeOf u) t := by
  obtain ⟨P, k, p, _⟩ := kit_of I rx ty
  exact k.ty _ _ I.kIn p
theorem sub_in1 (hr : Room (n + 1) X.A) : Sub X n X.A.in1 := ⟨hr.in1, rfl⟩
/-- len(x), x an instance of the class at C with the text's own __len__ -/
def rLenO (C : Addr) (sp : Sp) (E : XK) : List V → Hp → VK → Prop := fun xs H Q => ∃ (a dx : Addr) (fs : List (Str × V)), xs = [.ref a] ∧ H a = some (.ins C dx fs) ∧ sp [.ref a] H (fun v H' => ∃ i : Int, v = .int i ∧ 0 ≤ i ∧ i < 2 ^ 63 ∧ Q (.int i) H') E
theorem call_lenO (F : FnOk X.prog X.w X.K X.mg X.base CX n f fd ps sp) (hr : Room (n + 1) X.A) (hs : PySem.W.findIn X.K (.ref C) "__len__" = some (some (.ref f))) (hf : PySem.W.isFn X.K (.ref f) = true) (hb : Binds X.K fd ps []) (hx : Passes CX X E) :
    CallR X (.builtin "len") (rLenO C sp E) := by
  intro pins s σ H xs us Q I r h
  obtain ⟨a, dx, fs, rfl, ha, h⟩ := h
  rw [Vals.ref1 r]
  obtain ⟨mA, J, _⟩ := ins_get I.hok ha
  obtain ⟨od, J, _⟩ := J.look
  obtain ⟨m, hF⟩ := I.fr
  refine PySem.W.len_K hF I.ok.mod.kin J hs hf (wpAny_mono (run_sub F (sub_in1 hr) hb hx I (.cons (show L2.RelV (.ref a) (.ref a) from rfl) .nil) h) (fun v s' hv => ?_) fun _ _ x => x)
  obtain ⟨z, H', I', rz, i, rfl, h0, h1, q⟩ := hv
  obtain ⟨t, rfl⟩ := rz
  exact ⟨⟨h0, h1⟩, .int i, H', I'.tok _, ⟨_, rfl⟩, q⟩
/-- x == y, x such an instance; y of the type tb -/
def rEqO (K : PySem.W.Frag) (C : Addr) (sp : Sp) (E : XK) : R2 := fun x y H Q => ∃ (a dx : Addr) (fs : List (Str × V)) (tb : Value), x = .ref a ∧ H a = some (.ins C dx fs) ∧ TyX K H y tb ∧ PySem.W.notFirst K C tb = true ∧ sp [.ref a, y] H (fun v H' => ∃ b, v = .bl b ∧ Q (.bl b) H') E
theorem op_eqO (F : FnOk X.prog X.w X.K X.mg X.base CX n f fd ps sp) (hr : Room n X.A) (hs : PySem.W.findIn X.K (.ref C) "__eq__" = some (some (.ref f))) (hf : PySem.W.isFn X.K (.ref f) = true) (hb : Binds X.K fd ps []) (hx : Passes CX X E) :
    OpR X (compareOp .Eq) (rEqO X.K C sp E) := by
  intro pins s σ H x y v u Q I rx ry h
  obtain ⟨a, dx, fs, tb, rfl, ha, ty, nf, h⟩ := h
  cases rx
  obtain ⟨mA, J, _⟩ := ins_get I.hok ha
  obtain ⟨od, J, _⟩ := J.look
  obtain ⟨m, hF⟩ := I.fr
  show wpAny (model X.prog X.w) X.A (richCompare .Eq (.ref a) u) (EP X pins σ Q) X.xe s
  refine PySem.W.cmp_K (op := .Eq) hr.units0 hF I.ok.mod.kin J (tyx_looks I ry ty) nf hs hf (wpAny_mono (run_sub F ⟨hr, rfl⟩ hb hx I (.cons (show L2.RelV (.ref a) (.ref a) from rfl) (.cons ry .nil)) h) (fun v s' hv => ?_) fun _ _ x => x)
  obtain ⟨z, H', I', rz, b, rfl, q⟩ := hv
  cases rz
  exact ⟨.bl b, H', I', rfl, q⟩
/-- x != y, both such instances -/
def rNeO (C : Addr) (sp : Sp) (E : XK) : R2 := fun x y H Q => ∃ (a b dx dy : Addr) (fs gs : List (Str × V)), x = .ref a ∧ y = .ref b ∧ H a = some (.ins C dx fs) ∧ H b = some (.ins C dy gs) ∧ sp [.ref a, .ref b] H (fun v H' => ∃ b, v = .bl b ∧ Q (.bl (!b)) H') E
theorem ns_at {K : PySem.W.Frag} {h : Heap} {N : Addr} {mg : Str → Option Value} {n : Str} {v : Value} (X : K.In h) (G : h.Ns N mg) (e : PySem.W.nsIn K N n = some (some v)) : mg n = some v := by
  obtain ⟨o, es, ep, ho, hd, _, hf⟩ := G
  unfold PySem.W.nsIn at e
  split at e
  · rename_i c d es' n' sl q
    have := X _ _ q
    rw [ho] at this
    cases this
    cases hd
    split at e
    · rename_i en he
      cases e
      rw [← hf]
      unfold nsFind findBy
      rw [← Array.find?_toList, he]
      rfl
    · split at e <;> cases e
  · cases e
/-- what the class must be for != to go by its == -/
structure NeC (K : PySem.W.Frag) (C f : Addr) : Prop where
  cls : ∃ (nm q : Str) (N : Addr) (bs : List Value) (hdct : Bool) (sn : List Str) (sub : List Value) (ab : Bool) (col : Option Bool) (dd : Option Addr) (k0 k1 k2 k3 k5 : Option Value) (newId : String) (oc : Value) (od : Option Addr) (da : Data) (sl : Array (Option Value)),
    K.lookup C = some (excClassObj nm q C N bs [.type "object"] hdct sn sub ab col dd k0 k1 k2 k3 k5 newId) ∧ K.lookup f = some ⟨.type "function", od, da, sl⟩ ∧ PySem.W.nsOkIn K N = true ∧ PySem.W.nsIn K N "__eq__" = some (some (.ref f)) ∧ PySem.W.nsIn K N "__ne__" = some none
theorem op_neO (F : FnOk X.prog X.w X.K X.mg X.base CX n f fd ps sp) (hr : Room (n + 1) X.A) (T : NeC X.K C f) (hb : Binds X.K fd ps []) (hx : Passes CX X E) : OpR X (compareOp .NotEq) (rNeO C sp E) := by
  intro pins s σ H x y v u Q I rx ry h
  obtain ⟨a, b, dx, dy, fs, gs, rfl, rfl, ha, hb', h⟩ := h
  cases rx
  cases ry
  obtain ⟨mA, J, _⟩ := ins_get I.hok ha
  obtain ⟨mB, J', _⟩ := ins_get I.hok hb'
  obtain ⟨od, J, _⟩ := J.look
  obtain ⟨od', J', _⟩ := J'.look
  obtain ⟨nm, q, N, bs, hdct, sn, sub, ab, col, dd, k0, k1, k2, k3, k5, newId, oc, odf, da, sl, xL, lf, nok, ne, nn⟩ := T.cls
  have KX := I.kIn
  have G : s.heap.Ns N (s.heap.nsMap N) := .of_isNs (PySem.W.isNs_of_in KX nok)
  have O : s.heap.OwnEqNoNe a C f "object" [.type "object"] := ⟨_, _, nm, q, N, bs, hdct, sn, sub, ab, col, dd, k0, k1, k2, k3, k5, newId, _, _, J.1, rfl, KX _ _ xL, G, ns_at KX G ne, KX _ _ lf, rfl, PySem.F.cmp_object.mro, PySem.F.cmp_object.eq.lookup, PySem.W.ns_none_of KX G nn⟩
  refine compareOp_ne_ownEq PySem.F.cmp_object O J'.1 rfl (by have := hr.un; omega) (wpAny_mono (run_sub F (sub_in1 hr) hb hx I (.cons (show L2.RelV (.ref a) (.ref a) from rfl) (.cons (show L2.RelV (.ref b) (.ref b) from rfl) .nil)) h) (fun v s' hv => ?_) fun _ _ x => x)
  obtain ⟨z, H', I', rz, c, rfl, q⟩ := hv
  cases rz
  exact ⟨c, rfl, .bl (!c), H', I', rfl, q⟩
end
end OG


set_option Elab.async false
set_option linter.all false
set_option maxRecDepth 100000
set_option maxHeartbeats 2000000
/-! GF: «except (A, B, C, D) as n: y = n»: the exception is kept in y behind its suite. -/
namespace OG
open PySem PySem.Spec PyProof.Rows L2
/-- a kept exception: its class, its dict -/
def exk (a : Addr) (cls : Value) (d : Option Addr) : HO := .ext fun h => ∃ (oe : Obj) (vs : Array Value), h.get? a = some oe ∧ Zc cls d oe ∧ oe.data = .fields vs
theorem exk_ne_tup {a : Addr} {cls : Value} {d : Option Addr} {xs : List V} : exk a cls d ≠ .tup xs := fun z => by unfold exk at z; cases z
theorem exk_ne_own {a b : Addr} {cls : Value} {d : Option Addr} : exk a cls d ≠ .own b := fun z => by unfold exk at z; cases z
section
variable {X : Cx} {pins : List (Addr × Obj)} {σ : L2.St} {H : Hp} {s : Shared}
/-- a pinned object is tracked from now on -/
theorem inv_keep {a : Addr} {oe : Obj} {vs : Array Value} {cls : Value} {d : Option Addr} (I : Inv X ((a, oe) :: pins) σ H s) (hz : Zc cls d oe) (hd : oe.data = .fields vs) (hex : X.ex = []) (n0 : X.s_0.heap.get? a = none) (np : ∀ p ∈ X.pn ++ pins, p.1 ≠ a) :
    Inv X pins σ (upd H a (exk a cls d)) s := by
  obtain ⟨ha, hn, nL, nF, _⟩ := I.pin (a, oe) (List.mem_append_right _ List.mem_cons_self)
  have ha : s.heap.get? a = some oe := ha
  have hn : H a = none := hn
  have nex : ∀ b : Addr, b ∉ X.ex := fun b z => by rw [hex] at z; cases z
  have ne0 : ∀ b o, X.s_0.heap.get? b = some o → b ≠ a := fun b o e z => by rw [z, n0] at e; cases e
  have neH : ∀ b u, H b = some u → b ≠ a := fun b u e => ne_of_none e hn
  refine ⟨I.ok, I.os, I.bare, ⟨I.base.keep, I.base.slot, fun b o e n x => ?_, I.base.there, fun b xs e => ?_, fun b o u e => ?_, fun b ps e => ?_⟩, I.loc, I.cell, ?_, fun y c e => ?_, fun p hp => ?_, fun b u e => ?_, I.len⟩
  · rw [upd_ne (ne0 b o e)]
    exact I.base.free b o e n x
  · have q := I.base.tups b xs e
    rw [upd_ne (neH b _ q)]
    exact q
  · have q := I.base.frzs b o u e
    rw [upd_ne (neH b _ q)]
    exact q
  · obtain ⟨more, q⟩ := I.base.tbls b ps e
    exact ⟨more, by rw [upd_ne (neH b _ q)]; exact q⟩
  · rw [upd_ne (fun z => nL z.symm)]
    exact I.free
  · have hc : c ≠ a := fun z => by
      obtain ⟨v, o, ho, hcd⟩ := I.cell y c e
      rw [z, ha] at ho
      cases ho
      rw [hd] at hcd
      cases hcd
    rw [upd_ne hc]
    exact I.freeC y c e
  · have hp' : p ∈ X.pn ++ (a, oe) :: pins := by
      rcases List.mem_append.mp hp with z | z
      · exact List.mem_append_left _ z
      · exact List.mem_append_right _ (List.mem_cons_of_mem _ z)
    obtain ⟨h1, h2, h3, h4, h5⟩ := I.pin p hp'
    exact ⟨h1, by rw [upd_ne (np p hp)]; exact h2, h3, h4, h5⟩
  · by_cases hb : b = a
    · subst hb
      rw [upd_same] at e
      cases e
      exact ⟨⟨oe, vs, ha, hz, hd⟩, ⟨oe, ha⟩, fun h1 h2 ⟨o1, v1, e1, e2, e3⟩ st => ⟨o1, v1, st _ e1, e2, e3⟩⟩
    · rw [upd_ne hb] at e
      exact (I.hok b u e).stay (fun c v _ q => q) (fun c q => by rw [upd_ne (neH c _ q)]; exact q) fun c xs q => by rw [upd_ne (neH c _ q)]; exact q
theorem flyz_keeps {B : Heap} {l : List Env} {e : Addr} {Z : Obj → Prop} {h h' : Heap} (R : HandSPX.FlyingZ B l e Z h) (k : ∀ b o, h.get? b = some o → h'.get? b = some o) : HandSPX.FlyingZ B l e Z h' := by
  obtain ⟨f1, f2, f3, oe, ws, T, oT, ts, he, hc, hd, h1, hn, hne, hT, hdT, h3⟩ := R
  exact ⟨fun b o q => k b o (f1 b o q), f2, f3.of_keeps fun b o q _ => ⟨o, k b o q, rfl⟩, oe, ws, T, oT, ts, k _ _ he, hc, hd, h1, hn, hne, k _ _ hT, hdT, h3⟩
end
/-- what «except (..) as n: y = n» wishes of an exception of the body: slots i (n's) and j (y's) -/
def wKeep (K : PySem.W.Frag) (Wout : WX) (D : Ends) (i j : Nat) (cs : List Value) : WX := fun cls d σ H =>
  ∃ b, PySem.W.exmAny K cls cs = some b ∧ (b = true → ∀ a, H a = none → D.nx (((σ.set i (some (.ref a))).set j (some (.ref a))).set i none) (upd H a (exk a cls d))) ∧ (b = false → Wout cls d σ H)
section
variable {X : Cx} {body : List Stmt} {pos : Pos} {tb : WX → TS} {Wout : WX} {i j : Nat} {n y x1 x2 x3 x4 : Str} {c1 c2 c3 c4 : Value} {p1 p2 p3 p4 tpos pos' py pn' spos : Pos} {kk : Nat}
theorem ps_try_keep (hs : X.stack = X.env :: X.outer) (hf : X.env.frame = some X.env.locals) (hN : X.N.Nodup) (hex : X.ex = []) (tk : Takes X Wout)
    (hb : ∀ (W : WX) (pn : List (Addr × Obj)) (xe : Value → Shared → Prop), Takes (X.tr pn xe) W → PassesOwn (model X.prog X.w) X.A X.env xe → PSs (X.tr pn xe) body (tb W))
    (hi : X.N[i]? = some n) (hln : X.env.kindOf n = some .local) (n1 : Names X x1 c1) (n2 : Names X x2 c2) (n3 : Names X x3 c3) (n4 : Names X x4 c4)
    (hsu : ∀ (a : Addr) (oe : Obj) (cls : Value) (d : Option Addr) (pn : List (Addr × Obj)), Zc cls d oe → (∃ vs, oe.data = .fields vs) → PSs (X.suite a ((a, oe) :: pn)) [.Assign [.Name y py] (.Name n pn') spos] (tAsg (tVar i) (gName j))) :
    PS X (.Try body [.ExceptHandler (some (.Tuple [.Name x1 p1, .Name x2 p2, .Name x3 p3, .Name x4 p4] kk tpos)) (some n) [.Assign [.Name y py] (.Name n pn') spos] pos'] [] [] pos) (fun D σ H => tb (wKeep X.K Wout D i j [c1, c2, c3, c4]) D σ H) := by
  refine ⟨fun pins s σ H D I h => ?_⟩
  have ok := I.ok
  have hfr : X.A.frames = some (X.env :: X.outer) := by rw [ok.frames, hs]
  refine wpAny_Try_except ?_
  refine wpAny_mono ((hb (wKeep X.K Wout D i j [c1, c2, c3, c4]) (X.pn ++ pins) (fun e s₁ => wpAny (model X.prog X.w) X.A (noteFrame e X.env) (fun _ s₂ => wpAny (model X.prog X.w) X.A (setFlight e none) (fun _ s₃ =>
    wpAny (model X.prog X.w) X.A (handleBy e X.env [.ExceptHandler (some (.Tuple [.Name x1 p1, .Name x2 p2, .Name x3 p3, .Name x4 p4] kk tpos)) (some n) [.Assign [.Name y py] (.Name n pn') spos] pos']) (SP X pins D) X.xe s₃) X.xe s₂) X.xe s₁) (fun u s' xx => ?_) PassesOwn.looking).run [] s σ H D (I.toTry _) h) (fun f s1 hsp => ?_) (fun e s1 he => he)
  · obtain ⟨a, B, sI, pins', σ', H', cls, d, rfl, J', nb, up, sky, na, os, ag, w⟩ := xx
    have J : Inv X pins σ' H' sI := J'.ofTry ok
    have sky' : Sky B (X.env :: X.outer) a (Zc cls d) X.env.locals s'.heap := by rw [← hs]; exact sky
    show wpAny (model X.prog X.w) X.A (noteFrame (.ref a) X.env) _ _ _
    refine Sky.land Zc.steady hfr hf sky' fun h3 fl3 up3 => ?_
    have J3 : Inv X pins σ' H' { s' with heap := h3 } := J.landed nb fl3.1 (up.trans up3) os ag
    obtain ⟨oe3, vs3, he3, hz3, hd3⟩ := fl3.there
    have nfr : a ∉ frs (X.env :: X.outer) := fun hm => by
      obtain ⟨_, o', e', hnf⟩ := fl3.2.2.1.mem hm
      rw [he3] at e'; cases e'
      exact hnf _ hd3
    have nL : a ≠ X.env.locals := fun z => nfr (List.mem_filterMap.mpr ⟨X.env, List.mem_cons_self, by rw [hf, z]⟩)
    have nF : a ∉ X.fs := fun hm => by
      obtain ⟨e, he, q⟩ := List.mem_filterMap.mp hm
      exact nfr (List.mem_filterMap.mpr ⟨e, List.mem_cons_of_mem _ he, q⟩)
    have S3 := J3.suite he3 hd3 na nL nF
    have nI : sI.heap.get? a = none := by
      cases q : sI.heap.get? a with
      | none => rfl
      | some o =>
        have z := nb a o q (by rw [hs]; exact nfr)
        rw [fl3.2.1] at z
        cases z
    have n0 : X.s_0.heap.get? a = none := by
      cases q : X.s_0.heap.get? a with
      | none => rfl
      | some o =>
        obtain ⟨o', e'⟩ := J.base.there a o q (by rw [hex]; exact List.not_mem_nil)
        rw [nI] at e'
        cases e'
    have np : ∀ p ∈ X.pn ++ pins, p.1 ≠ a := fun p hp z => by
      have e := (J.pin p hp).1
      rw [z, nI] at e
      cases e
    obtain ⟨b, hb1, hyes, hno⟩ := w
    refine wpAny_handleBy_cons (codeAny_handlers_test ?_) (by intro q; cases q)
    have LT : PySem.W.Looks (model X.prog X.w) h3 (typeOf (.ref a)) cls := fun A Q E s k q => wpAny_typeOf_ref (k _ _ he3) (by rw [hz3.1]; exact q)
    have name : ∀ {x : Str} {c : Value} {np : Pos} {Q : Value → Shared → Prop} {E : Value → Shared → Prop}, Names X x c → Q c { s' with heap := h3 } → wpAny (model X.prog X.w) (X.A.mark (some (.ref a))) (eval (.Name x np) X.env) Q E { s' with heap := h3 } := fun {x c np Q E} hc q => by
      obtain ⟨hg, hdbg, hm | ⟨hm, hv, hnn⟩⟩ := hc
      · exact ld_glob (X := X.suite a ((a, oe3) :: (X.pn ++ pins))) S3 hg hm q hdbg
      · exact ld_blt (X := X.suite a ((a, oe3) :: (X.pn ++ pins))) S3 hg hm hv q hnn hdbg
    refine wpAny_Tuple ?_
    refine wpAny_items_cons (name n1 ?_)
    refine wpAny_items_cons (name n2 ?_)
    refine wpAny_items_cons (name n3 ?_)
    refine wpAny_items_cons (name n4 ?_)
    refine wpAny_items_nil ⟨by size_fits, ?_⟩
    have kp : ∀ q o, h3.get? q = some o → (h3.push { cls := .type "tuple", data := .seq [c1, c2, c3, c4].toArray }).get? q = some o := fun _ _ z => Heap.get?_push_of_some _ z
    have LM := PySem.W.exm_tup4 (M := model X.prog X.w) (K := X.K) (J3.kIn.keeps kp) (LT.keeps kp) (Heap.get?_push_size h3 rfl) hb1
    refine LM.here ?_
    have fl3' := flyz_keeps fl3 kp
    have up3' : s'.heap.UpToSlots (h3.push { cls := .type "tuple", data := .seq [c1, c2, c3, c4].toArray }) := up3.trans (Heap.UpToSlots.of_keeps kp)
    generalize h3.push { cls := .type "tuple", data := .seq [c1, c2, c3, c4].toArray } = h3' at *
    cases b with
    | true =>
      refine codeAny_handlers_suite_as ?_
      refine HandSPX.lands_againZ fl3' fun h4 fl4 up4 => ?_
      have J4 : Inv X pins σ' H' { s' with heap := h4 } := J.landed nb fl4.1 ((up.trans up3').trans up4) os ag
      obtain ⟨oe4, vs4, he4, hz4, hd4⟩ := fl4.there
      have S4 := J4.suite he4 hd4 na nL nF
      refine store_ok (X := X.suite a ((a, oe4) :: (X.pn ++ pins))) (v := .ref a) S4 hN hi (.inl hln) rfl (fun s5 S5 => ?_) (.inr hln)
      have hil : i < σ'.length := by
        rw [J.len]
        exact (List.getElem?_eq_some_iff.mp hi).1
      refine wpAny_mono ((hsu a oe4 cls d (X.pn ++ pins) hz4 ⟨_, hd4⟩).run [] s5 _ H' { nx := fun σ6 H6 => σ6 = (σ'.set i (some (.ref a))).set j (some (.ref a)) ∧ H6 = H', rt := fun _ _ => False, bk := fun _ _ => False, ct := fun _ _ => False } S5
        ⟨.ref a, List.getElem?_set_self hil, rfl, rfl⟩) (fun f s6 hsp => ?_) (fun _ _ z => False.elim z)
      cases f with
      | next =>
        obtain ⟨σ6, H6, S6, rfl, rfl⟩ := hsp
        have I6 : Inv X ((a, oe4) :: pins) ((σ'.set i (some (.ref a))).set j (some (.ref a))) H6 s6 := ⟨ok, S6.os, S6.bare, S6.base, S6.loc, S6.cell, S6.free, S6.freeC, fun p hp => S6.pin p (by
            rw [List.append_nil]
            rcases List.mem_append.mp hp with z | z
            · exact List.mem_cons_of_mem _ (List.mem_append_left _ z)
            · rcases List.mem_cons.mp z with z | z
              · rw [z]
                exact List.mem_cons_self
              · exact List.mem_cons_of_mem _ (List.mem_append_right _ z)), S6.hok, S6.len⟩
        exact gone_ok I6 hN hi hln fun s7 J7 => ⟨_, _, inv_keep J7 hz4 hd4 hex n0 np, hyes rfl a na⟩
      | brk =>
        obtain ⟨_, _, _, z⟩ := hsp
        exact z.elim
      | cont =>
        obtain ⟨_, _, _, z⟩ := hsp
        exact z.elim
      | ret u =>
        obtain ⟨_, _, _, _, _, z⟩ := hsp
        exact z.elim
    | false =>
      show wpAny _ X.A (handleBy (.ref a) X.env []) _ _ _
      refine wpAny_handleBy_nil ?_
      obtain ⟨k1, k2, k3, oe, vs, T, oT, ts', he, hz, hd, h1, hr⟩ := id fl3'
      unfold PySem.passOn
      refine wpAny_bind (wpAny_field he hd h1 ?_)
      rw [if_neg (show ¬ ((Value.ref T == Value.none) = true) from by simp)]
      have fin : wpAny (model X.prog X.w) X.A (setFlight (.ref a) X.env.frame) (fun _ s4 => wpAny (model X.prog X.w) X.A (throw (.ref a) : Sem Flow) (SP X pins D) X.xe s4) X.xe { s' with heap := h3' } := by
        rw [hf]
        refine HandSPX.setFlight_upZ fl3' fun h4 hh4 up4 => wpAny_throw (tk _ _ ?_)
        exact ⟨a, B, sI, pins, σ', H', cls, d, rfl, J, nb, (up.trans up3').trans up4, .inr (.inr (by rw [hs]; exact hh4)), na, os, ag, hno rfl⟩
      first
        | exact wpAny_bind (wpAny_pure (wpAny_bind fin))
        | exact wpAny_bind fin
  · cases f with
    | next =>
      obtain ⟨σ', H', J', q⟩ := hsp
      exact wpAny_execs_nil ⟨σ', H', J'.ofTry ok, q⟩
    | brk =>
      obtain ⟨σ', H', J', q⟩ := hsp
      exact ⟨σ', H', J'.ofTry ok, q⟩
    | cont =>
      obtain ⟨σ', H', J', q⟩ := hsp
      exact ⟨σ', H', J'.ofTry ok, q⟩
    | ret u =>
      obtain ⟨v, σ', H', J', r, q⟩ := hsp
      exact ⟨v, σ', H', J'.ofTry ok, r, q⟩
end
/-! ### isinstance of a kept exception, its fields -/
section
variable {prog : Program} {w : World} {A : Around} {E : Value → Shared → Prop} {s : Shared} {K : PySem.W.Frag} {x D : Addr} {ox : Obj} {od : Option Obj}
theorem find_data {C : Addr} {name : Str} {a g : Value} (hc : (PySem.W.clsIn K C).isSome = true) (ha : PySem.W.findIn K (.ref C) name = some (some a)) (hg : PySem.W.specialIn K a "__get__" = some (some g)) (ht : PySem.W.takesIn K a = some true) : PySem.W.findObj K C od name = some (.bind g a) := by
  obtain ⟨cd, hc⟩ := Option.isSome_iff_exists.mp hc
  simp [PySem.W.findObj, hc, ha, hg, ht]
open PySem.W in
/-- x.__class__ of an exception with a dict or without -/
theorem exc_class {Q : Option Value → Shared → Prop} (T : ExcC K D) (X : K.In s.heap) (I : InstAt s.heap x ox D od) (h : Q (some (.ref D)) { s with toks := s.toks + 1 }) : wpAny (model prog w) A (getAttr? (.ref x) "__class__") Q E s := by
  have f0 : findObj K D od "__class__" = some (.bind (.builtin "getset_descriptor.__get__") (.builtin "object.__class__")) := find_data (by obtain ⟨cd, hc, _⟩ := any_some T.hd; rw [hc]; rfl) T.ha T.hn T.ht
  obtain ⟨hp, g, d, t, os⟩ := s
  have L0 := I.type (M := model prog w)
  have LG := looks_findIn (M := model prog w) X T.hg
  have LT := looks_findIn (M := model prog w) X T.hk
  have LF := looks_find (M := model prog w) X I f0
  have sub : Looks (model prog w) hp (isInstance (.ref x) (.type "BaseException")) true := L0.andThen (looks_subIn X T.hs)
  have ne : (Value.builtin "BaseException.__getattribute__" == Value.builtin "object.__getattribute__") = false := by decide +kernel
  have e1 : (onTheHeap (Value.ref D) && Value.builtin "BaseException.__getattribute__" == Value.builtin "object.__getattribute__") = false := by rw [ne]; rfl
  unfold getAttr? getAttrBy? getAttrBy
  refine wpAny_bind (wpAny_mkText (wpAny_bind (wpAny_attempt (wpAny_holding (wpAny_bind (L0.at (wpAny_bind (LG.at ?_))))))))
  dsimp only
  rw [e1, if_neg Bool.false_ne_true]
  unfold getAttrByItsOwn hookBefore
  refine wpAny_bind ?_
  rw [if_pos (show onTheHeap (Value.ref D) = true from rfl)]
  refine LT.at ?_
  refine wpAny_bind (wpAny_attempt (wpAny_holding ?_))
  unfold callGetattribute
  rw [if_neg (show ¬ ((false && onTheHeap (Value.builtin "BaseException.__getattribute__")) = true) from by decide)]
  unfold boundAndCalled
  rw [PySem.F.excAttr_ValueError.ga.bind (.ref x)]
  refine wpAny_bind (wpAny_pure ?_)
  refine wpAny_call (codeAny_call_builtin PySem.F.excAttr_ValueError.ga.plain PySem.F.entry_bexc_ga ?_)
  refine @check_slot (model prog w) _ _ ⟨hp, g, d, t + 1, os⟩ "BaseException.__getattribute__" "BaseException" "__getattribute__" (.ref x) [.str "__class__" t] [] _ (by decide +kernel) (by decide +kernel) sub (PySem.F.args_bexc_ga (.ref x) (.str "__class__" t)) ?_
  unfold Builtin.«object.__getattribute__»
  refine wpAny_bind (wpAny_of_eq (a := ((Value.ref x : Value), [Value.str "__class__" t])) (by first | rfl | (simp only [slotArgs]; rfl)) ?_)
  refine wpAny_bind (wpAny_pure (wpAny_bind (L0.at (wpAny_bind (LF.at ?_)))))
  refine wpAny_bind (wpAny_holding (wpAny_call (class_get (s := ⟨hp, g, d, t + 1, os⟩) (ox := ox) (od := od) X I T.hm ?_)))
  refine wpAny_pure ?_
  show wpAny _ _ (handedOut (.ref D)) _ _ _
  rw [handedOut_of (v := .ref D) rfl]
  first
    | exact wpAny_pure (wpAny_pure h)
    | exact wpAny_pure h
    | exact wpAny_pure (wpAny_bind (wpAny_pure (wpAny_pure h)))
theorem exc_kit (T : ExcC K D) : PySem.W.KitX K (.ref x) (.ref D) (fun h => PySem.W.InstAt h x ox D od) where
  ty := fun _ _ _ I => I.type
  it := fun _ _ X _ => by
    obtain ⟨cd, hc, _⟩ := PySem.W.any_some T.hd
    unfold PySem.W.clsIn at hc
    split at hc
    · rename_i c d c2 sl ho
      intro A' Q' E' s' k q
      unfold isType loadHead
      exact wpAny_bind (wpAny_loadPart (k _ _ (X _ _ ho)) (wpAny_pure q))
    · cases hc
  ne := fun h tp dd its n sl X htp => (PySem.W.handS_kitx_exc (x := x) (ox := ox) T.hg T.hk T.hs T.hd T.ha T.hn T.ht T.hm).ne h tp dd its n sl X htp
  ca := fun X I k => exc_class T X I k
end
section
variable {X : Cx} {pins : List (Addr × Obj)} {σ : L2.St} {H : Hp} {s : Shared}
/-- a kept exception in the heap -/
theorem exk_inst {a D : Addr} {d : Option Addr} (I : Inv X pins σ H s) (ha : H a = some (exk a (.ref D) d)) {od : Option Obj} (hod : match d with | none => od = none | some dd => ∃ o, od = some o ∧ s.heap.get? dd = some o) : ∃ ox, PySem.W.InstAt s.heap a ox D od := by
  obtain ⟨⟨oe, vs, e1, hz, e3⟩, _, _⟩ := (show ObjOk X.prog X.w H s.heap a (exk a (.ref D) d) from I.hok a _ ha)
  refine ⟨oe, e1, hz.1, by unfold PySem.W.notCls; rw [e3] <;> rfl, ?_⟩
  rw [hz.2]
  cases d with
  | none =>
    obtain rfl : od = none := hod
    trivial
  | some dd =>
    obtain ⟨o, rfl, ho⟩ := hod
    exact ho
/-- isinstance(e, c), e kept -/
def rIsK (K : PySem.W.Frag) : List V → Hp → VK → Prop := fun xs H Q => ∃ (a D dd : Addr) (fs : List (Str × V)) (c : V) (cv : Value) (b : Bool), xs = [.ref a, c] ∧ ExcC K D ∧ H a = some (exk a (.ref D) (some dd)) ∧ H dd = some (.xd fs) ∧ ClsV c cv ∧ PySem.W.kitOne K (.ref D) cv = some b ∧ Q (.bl b) H
theorem call_isKept : CallR X (.builtin "isinstance") (rIsK X.K) := by
  intro pins s σ H xs us Q I r h
  obtain ⟨a, D, dd, fs, c, cv, b, rfl, T, ha, hdd, k, e, q⟩ := h
  obtain ⟨u1, u2, rfl, r1, r2⟩ := vals2 r
  have e2 := k.eq r2
  subst e2
  obtain rfl : u1 = Value.ref a := r1
  obtain ⟨mA, hns, _⟩ := (show ObjOk X.prog X.w H s.heap dd (.xd fs) from I.hok dd _ hdd)
  obtain ⟨od, ho, _⟩ := lookIn_ns hns
  obtain ⟨ox, J⟩ := exk_inst I ha (od := some od) ⟨od, rfl, ho⟩
  exact PySem.W.kia_one (exc_kit (ox := ox) (od := some od) T) I.kIn J e (fun z => nomatch z) fun tk => ⟨.bl b, H, I.tok tk, rfl, q⟩
/-- e.f, e kept -/
def tXk (K : PySem.W.Frag) (f : Str) (te : TE) : TE := fun σ H Q => te σ H fun x H1 => ∃ (a D dd : Addr) (fs : List (Str × V)) (v : V), x = .ref a ∧ XfC K D ∧ PySem.W.findIn K (.ref D) f = some none ∧ H1 a = some (exk a (.ref D) (some dd)) ∧ H1 dd = some (.xd fs) ∧ fs.lookup f = some v ∧ Q v H1
theorem pe_xk {e : Expr} {te : TE} {pos : Pos} {n : Str} (he : PE X e te) (hb : attributeBase e n X.env (eval e X.env) = eval e X.env := by rfl) : PE X (.Attribute e n pos) (tXk X.K n te) := by
  refine ⟨fun pins s σ H Q I h => ?_⟩
  refine attr_of hb (thn (he.run pins s σ H _ I h) fun u s1 hh => ?_)
  obtain ⟨x, H1, I1, rx, a, D, dd, fs, v, ex, T, hno, ha, hdd, l, q⟩ := hh
  subst ex
  obtain rfl : u = Value.ref a := rx
  obtain ⟨mA, hns, hr⟩ := (show ObjOk X.prog X.w H1 s1.heap dd (.xd fs) from I1.hok dd _ hdd)
  obtain ⟨od, ho, hl⟩ := lookIn_ns hns
  obtain ⟨u, hu, ru⟩ := RelO.some_of (v := v) (o := mA n) (by rw [← l]; exact hr n)
  obtain ⟨ox, J⟩ := exk_inst I1 ha (od := some od) ⟨od, rfl, ho⟩
  exact HandSPX.exc_get I1.kIn J T.ga T.gg T.exC (PySem.W.findObj_own T.hdC hno rfl (by rw [hl, hu])) (handed_of ru) ⟨v, H1, I1.tok _, ru, q⟩
end
end OG


set_option Elab.async false
set_option linter.all false
set_option maxRecDepth 100000
set_option maxHeartbeats 2000000
/-! GG: enumerate of a tuple; methods and class methods by keywords; a class in a variable called. -/
namespace OG
open PySem PySem.Spec PyProof.Rows L2 ClX
/-! ### enumerate(t), t a tuple -/
theorem meets_enum_tup (t : Addr) (items : Array Value) :
    Meets (Builtin.«enumerate.__new__» ⟨[.type "enumerate", .ref t], []⟩) (fun _ R s => s.heap.IsTuple t items ∧
      R (.ok (.ret (.ref (s.heap.push { cls := .type "tuple_iterator", data := .fields #[.ref t, .int 0 0] }).objs.size)))
        { s with heap := (s.heap.push { cls := .type "tuple_iterator", data := .fields #[.ref t, .int 0 0] }).push { cls := .type "enumerate", data := .fields #[.none, .bool false, .ref s.heap.objs.size, rawInt 0, .none, .none] } }) :=
  .of_wp fun prog w A R s h => by
    obtain ⟨hp, g, d, tk, os⟩ := s; obtain ⟨hl, h⟩ := h
    obtain ⟨⟨oc, od, dt, sl⟩, ho, hc, n, hd⟩ := id hl
    replace hc : oc = .type "tuple" := hc
    replace hd : dt = .seq items n := hd
    subst hc hd
    have hsub := PySem.sub_enumerate
    have hL : Heap.IsTuple (Shared.heap ⟨hp, g, d, tk, os⟩) t items := hl
    wp_walk using PySem.AutoSeq1.wpAny_loadPart' ho
    refine wpAny_stack_any fun st => wpAny_pure ?_
    split
    · rename_i c _ _ _ _ _
      cases (c == Value.type "enumerate")
      · wp_walk using PySem.AutoSeq1.wpAny_loadPart' ho, wpAny_pyIter_tuple hL
        exact ⟨_, rfl, h⟩
      · wp_walk using PySem.AutoSeq1.wpAny_loadPart' ho, wpAny_pyIter_tuple hL
        exact ⟨_, rfl, h⟩
    · wp_walk using PySem.AutoSeq1.wpAny_loadPart' ho, wpAny_pyIter_tuple hL
      exact ⟨_, rfl, h⟩
section
variable {prog : Program} {w : World} {A : Around} {E : Value → Shared → Prop} {s : Shared}
theorem call_enum_tup {t : Addr} {items : Array Value} {Q : Value → Shared → Prop} (hL : s.heap.IsTuple t items)
    (h : ∀ h', IsEnum h' (s.heap.objs.size + 1) s.heap.objs.size 0 .none → h'.IsTupleIter s.heap.objs.size t 0 → h'.objs.size = s.heap.objs.size + 2 →
      (∀ b o, s.heap.get? b = some o → h'.get? b = some o) → Q (.ref (s.heap.objs.size + 1)) { s with heap := h' }) :
    wpAny (model prog w) A (call (.type "enumerate") [.ref t]) Q E s := by
  refine callType_new PySem.F.called_enumerate (by decide) (PySem.F.typeCall_enumerate_1 _) (PySem.F.newCall_enumerate_1 _) (fun obj => PySem.F.args_object_init_2 obj _) PySem.F.entry_enumerate_new (meets_enum_tup t items) ⟨hL, ?_⟩
  have hz : (s.heap.push { cls := .type "tuple_iterator", data := .fields #[.ref t, .int 0 0] }).objs.size = s.heap.objs.size + 1 := Heap.size_push ..
  show _ ∧ _
  rw [hz]
  have he : IsEnum ((s.heap.push { cls := .type "tuple_iterator", data := .fields #[.ref t, .int 0 0] }).push
      { cls := .type "enumerate", data := .fields #[.none, .bool false, .ref s.heap.objs.size, rawInt 0, .none, .none] }) (s.heap.objs.size + 1) s.heap.objs.size 0 .none := by
    have := Heap.get?_push_size (s.heap.push { cls := .type "tuple_iterator", data := .fields #[.ref t, .int 0 0] })
      (o := { cls := .type "enumerate", data := .fields #[.none, .bool false, .ref s.heap.objs.size, rawInt 0, .none, .none] }) rfl
    rw [hz] at this; exact this
  exact ⟨⟨_, he, rfl⟩, h _ he ⟨_, Heap.get?_push_of_some _ (Heap.get?_push_size _ rfl), rfl, rfl⟩ (by rw [Heap.size_push, hz]) fun b o x => Heap.get?_push_of_some _ (Heap.get?_push_of_some _ x)⟩
end
/-- the tuple at a, each item in a new pair -/
def IteT (K : PySem.W.Frag) (a : Addr) : It :=
  ⟨fun i H => ∃ (xs : List V) (x : V), SqT K H a xs ∧ xs[i]? = some x, fun i H v H' => ∃ T x, v = .ref T ∧ H T = none ∧ H' = upd H T (.tup [.int (i : Nat), x]) ∧ ∀ xs, SqT K H a xs → xs[i]? = some x, fun i H => ∃ xs : List V, SqT K H a xs ∧ xs.length = i⟩
theorem turn_enumT {P : Program} {w : World} {K : PySem.W.Frag} {elts : List Expr} {kk : Nat} {tpos : Pos} (a e it : Addr) :
    Turn P w K (.Tuple elts kk tpos) (IteT K a) [e, it] e (fun i h => (∃ old, IsEnum h e it ((i : Nat) : Int) old) ∧ h.IsTupleIter it a i ∧ e ≠ it ∧ a ≠ it ∧ a ≠ e) where
  mem := by simp
  obj := fun i h st b hb => by
    obtain ⟨⟨old, he⟩, ⟨o, ho, hc, hd⟩, _⟩ := st
    have e' : b = e ∨ b = it := by simpa using hb
    rcases e' with z | z
    · rw [z]; exact ⟨_, he, fun v q => nomatch q⟩
    · rw [z]; exact ⟨o, ho, fun v q => by rw [hd] at q; cases q⟩
  keep := fun i h h' st k => let ⟨⟨old, he⟩, hi, hne⟩ := st; ⟨⟨old, k e (by simp) _ he⟩, hi.at fun o q => k it (by simp) o q, hne⟩
  item := by
    intro X hP hw hK hc i pins s σ H E I hf st hg
    subst hP hw hK
    obtain ⟨⟨old, he⟩, hit, hne, nai, nae⟩ := st
    obtain ⟨xs, x, hq, hx⟩ := hg
    obtain ⟨its, rv, p, hz⟩ := I.tuple hq
    obtain ⟨u, hu, ru⟩ := rv.get hx
    have hel : e < s.heap.objs.size := Heap.lt_size he
    have hil : it < s.heap.objs.size := by obtain ⟨_, q, _⟩ := hit; exact Heap.lt_size q
    have hp : s.heap.IsTuple a its.toArray := p
    have hlt : i < its.toArray.size := by
      have := (List.getElem?_eq_some_iff.mp hu).1
      simpa using this
    refine wpAny_pyNext_enum_itemD (Draws.tuple (prog := X.prog) (w := X.w) (A := X.A.in1) (I.ok.hd hc) it a nai its.toArray) he ⟨hit, hp⟩ hlt hne (by simp [hne, Ne.symm nae]) fun x' h' tk px ho hst' hT hsz hk => ?_
    have ex : x' = u := by
      have e1 : its[i]? = some x' := by simpa using px
      rw [hu] at e1
      exact (Option.some.inj e1).symm
    subst ex
    refine ⟨_, rfl, wpAny_letOwnedTupleGo_enum (s := { s with heap := h', toks := tk + 1 }) ho fun h'' he' sb => ?_⟩
    have hT2 : h''.get? s.heap.objs.size = some { cls := .type "tuple", data := .seq #[.int i tk, x'] } := (sb.2 _ (Nat.ne_of_gt hel)).trans hT
    have new : ObjOk X.prog X.w (upd H s.heap.objs.size (.tup [.int (i : Nat), x])) h'' s.heap.objs.size (.tup [.int (i : Nat), x]) :=
      ⟨by show 2 ≤ sizeLine; decide, [.int i tk, x'], .cons ⟨_, rfl⟩ (.cons ru .nil), ⟨_, hT2, rfl, _, rfl⟩⟩
    have I1 : Inv X pins σ (upd H s.heap.objs.size (.tup [.int (i : Nat), x])) { s with heap := h'', toks := tk + 1 } :=
      I.turnedNew (ch := [e, it]) (fun b ob hb q => (sb.2 b (fun z => hb (by simp [z]))).trans (hk b ob (fun z => hb (by simp [z])) (fun z => hb (by simp [z])) q)) hf (Nat.le_refl _) new
    refine ⟨.ref s.heap.objs.size, _, I1, rfl, ⟨_, x, rfl, I.hok.fresh (Nat.le_refl _), rfl, fun ys hy => by rw [I.tuple_inj hy hq]; exact hx⟩, ⟨⟨x', ?_⟩, hst'.1.at fun o q => (sb.2 it (Ne.symm hne)).trans q, hne, nai, nae⟩, fun b hb => ?_⟩
    · have e1 : ((i + 1 : Nat) : Int) = (i : Int) + 1 := by omega
      rw [e1]; exact he'
    · have hb' : b < s.heap.objs.size := by
        have e' : b = e ∨ b = it := by simpa using hb
        rcases e' with z | z
        · rw [z]; exact hel
        · rw [z]; exact hil
      rw [upd_ne (Nat.ne_of_lt hb')]
      exact (hf b hb).1
  done := by
    intro X hP hw hK hc i pins s σ H E I hf st hg
    subst hP hw hK
    obtain ⟨⟨old, he⟩, hit, hne, nai, nae⟩ := st
    obtain ⟨xs, hq, hx⟩ := hg
    obtain ⟨its, rv, p, hz⟩ := I.tuple hq
    obtain ⟨f0, f1, f2, f3, f4, f5⟩ := hf it (by simp)
    have hl := rv.length
    have hi : i = its.toArray.size := by rw [List.size_toArray, ← hl, hx]
    subst hi
    exact wpAny_pyNext_enum_endD (Draws.tuple (prog := X.prog) (w := X.w) (A := X.A.in1) (I.ok.hd hc) it a nai its.toArray) he ⟨hit, (show s.heap.IsTuple a its.toArray from p)⟩ fun h' eb => ⟨rfl, I.turned (t' := s.toks) (fun b o hb q => eb b o hb q) f0 f1 f3 f4 f5⟩
  self := fun A i s Q E st h => let ⟨⟨_, he⟩, _⟩ := st; wpAny_pyIter_enum he h
def iEnumT (K : PySem.W.Frag) (ta : TA) : TI := fun σ H R => ta σ H fun vs H1 => ∃ a xs, vs = [.ref a] ∧ SqT K H1 a xs ∧ R (IteT K a) H1
theorem pi_enumT {X : Cx} {e : Expr} {ta : TA} {p pos tpos : Pos} {elts : List Expr} {kk : Nat} (hg : Gl X "enumerate") (hm : X.mg "enumerate" = none) (ha : PA X [e] ta) (hs : starEach [e] X.env = [(false, eval e X.env)] := by rfl) :
    PI X (.Tuple elts kk tpos) (.Call (.Name "enumerate" p) [e] [] pos) (iEnumT X.K ta) := by
  refine ⟨fun pins s σ H R I h => ?_⟩
  refine Call_ (ld_blt I hg hm boot_enumerate (PyProof.Rows.callWith_type1 (thn (ha.run pos pins s σ H _ I h) fun us s1 ⟨vs, H1, I1, r1, q1⟩ => ?_) hs rfl))
  obtain ⟨a, xs, ex, hq, q⟩ := q1
  subst ex
  cases r1 with
  | cons r rr =>
    cases rr
    cases r
    obtain ⟨its, rv, p', hz⟩ := I1.tuple hq
    have hp : s1.heap.IsTuple a its.toArray := p'
    have hal : a < s1.heap.objs.size := by obtain ⟨_, q, _⟩ := hp; exact Heap.lt_size q
    refine call_enum_tup hp fun h' he hit hsz hk => wpAny_pyIter_enum he ?_
    have I2 : Inv X pins σ H1 { s1 with heap := h' } := I1.kept (t' := s1.toks) hk
    refine ⟨s1.heap.objs.size + 1, [s1.heap.objs.size + 1, s1.heap.objs.size], _, _, H1, rfl, I2, turn_enumT a (s1.heap.objs.size + 1) s1.heap.objs.size, ⟨⟨.none, he⟩, hit, Nat.succ_ne_self _, Nat.ne_of_lt hal, Nat.ne_of_lt (Nat.lt_succ_of_lt hal)⟩, fun b hb => ?_, q⟩
    have e' : b = s1.heap.objs.size + 1 ∨ b = s1.heap.objs.size := by simpa using hb
    have hle : s1.heap.objs.size ≤ b := by
      rcases e' with z | z
      · rw [z]; exact Nat.le_add_right _ _
      · rw [z]; exact Nat.le_refl _
    exact I1.fpOk hle (I1.hok.fresh hle)
/-- such a walk, by what stands before each turn -/
theorem for_enumT {K : PySem.W.Frag} {a : Addr} {xs : List V} {g : TG} {tb : TS} {D : Ends} {σ : L2.St} {H : Hp} (Pv : Nat → L2.St → Hp → Prop) (h0 : Pv 0 σ H) (hl : ∀ i σ H, i ≤ xs.length → Pv i σ H → SqT K H a xs)
    (hs : ∀ i x σ H T, xs[i]? = some x → Pv i σ H → H T = none → g (.ref T) σ (upd H T (.tup [.int (i : Nat), x])) fun σ2 H2 => tb { D with nx := Pv (i + 1), ct := Pv (i + 1), bk := D.nx } σ2 H2) (hd : ∀ σ H, Pv xs.length σ H → D.nx σ H) :
    ∃ W : Nat → Nat → L2.St → Hp → Prop, (∃ m, W 0 m σ H) ∧ ∀ i m σ H, W i m σ H →
      ((IteT K a).stop i H ∧ D.nx σ H) ∨ ((IteT K a).go i H ∧ ∃ N : L2.St → Hp → Prop, (∀ σ' H', N σ' H' → ∃ m', m' < m ∧ W (i + 1) m' σ' H') ∧ ∀ x H', (IteT K a).yld i H x H' → g x σ H' fun σ2 H2 => tb { D with nx := N, ct := N, bk := D.nx } σ2 H2) := by
  refine ⟨fun i m σ H => m = xs.length - i ∧ i ≤ xs.length ∧ Pv i σ H, ⟨xs.length, by simp, Nat.zero_le _, h0⟩, ?_⟩
  rintro i m σ H ⟨rfl, hi, p⟩
  have q := hl i σ H hi p
  by_cases hlt : i < xs.length
  · refine .inr ⟨⟨xs, xs[i], q, List.getElem?_eq_getElem hlt⟩, Pv (i + 1), fun σ' H' p' => ⟨xs.length - (i + 1), by omega, rfl, hlt, p'⟩, fun x H' y => ?_⟩
    obtain ⟨T, x', rfl, hT, rfl, hx⟩ := y
    exact hs i x' σ H T (hx xs q) p hT
  · have e : i = xs.length := by omega
    subst e
    exact .inl ⟨⟨xs, q, rfl⟩, hd σ H p⟩
/-! ### methods by keywords alone -/
section
variable {X : Cx} {CX : CXT} {k : Nat} {C f p g : Addr} {fd : FuncData} {ps ks : List Str} {sp : Sp} {E : XK} {o : Expr} {m : Str} {pos apos : Pos} {kws : List Keyword} {ta : TE} {tk : TA} {gg : List Value → List Value → List Value} {gV : List V → List V → List V} {mc : Value} {pl : Sem Bool}
/-- o.m(k = v, ..) -/
def tMethK (C : Addr) (m : Str) (sp : Sp) (gV : List V → List V → List V) (E : XK) (ta : TE) (tk : TA) : TE := fun σ H Q => ta σ H fun x H1 => ∃ a dx fs, x = .ref a ∧ H1 a = some (.ins C dx fs) ∧ fs.lookup m = none ∧ tk σ H1 fun zs H2 => sp (gV [x] zs) H2 Q E
theorem pe_methK0 (he : PE X o ta) (c : L2.Cls X.K C) (hm : L2.Meth X.K C m f) (F : FnOk X.prog X.w X.K X.mg X.base CX k f fd ps sp) (hr : Room k X.A) (hb : KBinds X.K fd ps ks gg gV) (hx : Passes CX X E) (hkw : PK X kws tk)
    (hall : (backToKw pos (keywordEach kws X.env)).all (·.1.isSome) = true := by rfl) (hks : (backToKw pos (keywordEach kws X.env)).filterMap (·.1) = ks := by rfl)
    (hpl : ((backTo pos (starEach [] X.env)).any (·.1) || (backToKw pos (keywordEach kws X.env)).any (·.1.isNone)) = false := by rfl)
    (ht : eval (.Call (.Attribute o m apos) [] kws pos) X.env = (do
      let ov ← eval o X.env
      standAt apos.atName
      let (f, first) ← holding [ov] (getMethod ov m pl)
      callWith pos f first (backTo pos (starEach [] X.env)) (backToKw pos (keywordEach kws X.env))) := by rfl) :
    PE X (.Call (.Attribute o m apos) [] kws pos) (tMethK C m sp gV E ta tk) := by
  refine ⟨fun pins s σ H Q I h => ?_⟩
  refine PySem.W.methodCall_KW (pl := pl) (thn (he.run pins s σ H _ I h) fun u s1 ⟨x, H1, I1, rx, a, dx, fs, ex, ea, l, q⟩ => ?_) ht
  subst ex
  obtain rfl : u = Value.ref a := rx
  refine getmeth_ok I1 ea c hm l ?_
  refine PySem.W.callWith_KW0 (first := [.ref a]) (h₀ := X.base) I.ok.mod.kin hm.kp hall (thn (hkw.run pos pins s1 σ H1 _ I1 q) fun ws s2 ⟨zs, H2, I2, rz, q2⟩ => ⟨I2.kIn, ?_⟩) hpl
  rw [hks]
  exact run_fnk (us := [.ref a]) (vs := [.ref a]) F hr hb hx I2 (.cons rfl .nil) rz q2
/-- C.m(k = v, ..), m a classmethod -/
def tCMethK (C : Addr) (sp : Sp) (gV : List V → List V → List V) (E : XK) (ta : TE) (tk : TA) : TE := fun σ H Q => ta σ H fun x H1 => x = .ref C ∧ tk σ H1 fun zs H2 => sp (gV [.ref C] zs) H2 Q E
theorem pe_cmethK0 (he : PE X o ta) (r : CRead X.K C mc) (c : CMet X.K C mc m p g) (F : FnOk X.prog X.w X.K X.mg X.base CX k g fd ps sp) (hr : Room k X.A) (hb : KBinds X.K fd ps ks gg gV) (hx : Passes CX X E) (hkw : PK X kws tk)
    (hall : (backToKw pos (keywordEach kws X.env)).all (·.1.isSome) = true := by rfl) (hks : (backToKw pos (keywordEach kws X.env)).filterMap (·.1) = ks := by rfl)
    (hpl : ((backTo pos (starEach [] X.env)).any (·.1) || (backToKw pos (keywordEach kws X.env)).any (·.1.isNone)) = false := by rfl)
    (ht : eval (.Call (.Attribute o m apos) [] kws pos) X.env = (do
      let ov ← eval o X.env
      standAt apos.atName
      let (f, first) ← holding [ov] (getMethod ov m pl)
      callWith pos f first (backTo pos (starEach [] X.env)) (backToKw pos (keywordEach kws X.env))) := by rfl) :
    PE X (.Call (.Attribute o m apos) [] kws pos) (tCMethK C sp gV E ta tk) := by
  refine ⟨fun pins s σ H Q I h => ?_⟩
  refine PySem.W.methodCall_KW (pl := pl) (thn (he.run pins s σ H _ I h) fun u s1 ⟨x, H1, I1, rx, ex, q⟩ => ?_) ht
  subst ex
  obtain rfl : u = Value.ref C := rx
  refine getmethcm_ok I1 r c fun s2 I2 => ?_
  refine PySem.W.callWith_of hpl (PySem.W.keeps_M c.fi) (evalArgs_kw2_nil hall (thn (hkw.run pos _ s2 σ H1 _ I2 q) fun ws s3 ⟨zs, H2, I3, rz, q2⟩ => ⟨⟨pin_at I3, I3.kIn⟩, ?_⟩))
  rw [hks]
  have r2 := hb.rel (vs := [.ref C]) (us := [.ref C]) (.cons (show L2.RelV (.ref C) (.ref C) from rfl) .nil) rz
  have hl : (gg [.ref C] ws).length = ps.length := by rw [← r2.length]; exact F.len _ _ _ _ q2
  have z : wpAny (model X.prog X.w) X.A (call (.ref s1.heap.objs.size) [] (ks.zip ws)) (EP X ((s1.heap.objs.size, PySem.W.methodObj (.ref g) (.ref C)) :: pins) σ Q) X.xe s3 :=
    wpAny_call (PySem.W.method_call (pin_at I3) (codeAny_mono (F.run X.A X.stack s3 H2 ⟨[.ref C], ks.zip ws⟩ (gg [.ref C] ws) (gV [.ref C] zs) Q E hr I3.env0 (hb.to s3 [.ref C] ws I3.kIn hl) r2 q2) fun r s' hq => by
      cases r with
      | error e => exact hx _ σ H2 s3 e s' I3 hq
      | ok fl =>
        cases fl with
        | ret u => exact I3.after hq
        | next => exact False.elim hq
        | brk => exact False.elim hq
        | cont => exact False.elim hq))
  exact thn z fun _ _ y => unpinE y
/-! ### x(e, ..), x a variable that holds a class -/
def tMakeL (i : Nat) (C : Addr) (sp : Sp) (E : XK) (t : TA) : TE := fun σ H Q => σ[i]? = some (some (.ref C)) ∧ t σ H fun vs H1 => ∀ x dx, H1 x = none → H1 dx = none → dx ≠ x →
  sp (.ref x :: (vs ++ [])) (upd (upd H1 dx (.own x)) x (.ins C dx [])) (fun v H2 => v = .non ∧ Q (.ref x) H2) E
theorem pe_makeL {i : Nat} {x : Str} {p pos : Pos} {e : Expr} {es : List Expr} {t : TA} (M : Mk X.K C f) (F : FnOk X.prog X.w X.K X.mg X.base CX k f fd ps sp) (hr : Room (k + 1) X.A) (hN : X.N[i]? = some x) (hv : Vis X.env.scope x) (hb : L2.Binds X.K fd ps []) (hx : Passes CX X E)
    (ha : PA X (e :: es) t) (hdb : (x == ("__debug__" : Str)) = false := by decide) (hcd : (x == ("__classdict__" : Str)) = false := by decide) (he : starEach (e :: es) X.env = (false, eval e X.env) :: starEach es X.env := by rfl) (hpl : (backTo pos (starEach es X.env)).any (·.1) = false := by rfl) :
    PE X (.Call (.Name x p) (e :: es) [] pos) (tMakeL i C sp E t) := by
  refine ⟨fun pins s σ H Q I h => ?_⟩
  obtain ⟨hs, ht⟩ := h
  refine wpAny_Call_Name_kw (thn ((pe_var (pos := p) hN hv hdb hcd).run pins s σ H (fun v H1 => v = .ref C ∧ H1 = H) I ⟨.ref C, hs, rfl, rfl⟩) fun u s1 ⟨v, H1, I1, r1, q1⟩ => ?_)
  obtain ⟨rfl, rfl⟩ := q1
  cases r1
  refine PySem.W.callWith_K (h₀ := X.base) I.ok.mod.kin M.kp (thn (ha.run pos pins s1 σ _ _ I1 ht) fun us s2 ⟨vs, H2, I2, r, q⟩ => ⟨I2.kIn, ?_⟩) he hpl
  exact run_make M F hr hb .nil hx I2 r q
end
end OG


set_option Elab.async false
set_option linter.all false
set_option maxRecDepth 100000
set_option maxHeartbeats 4000000
/-! GH: kinds of values, own instances among them; ends of promises; errors that hold one part. -/
namespace OG
open PySem PySem.Spec PyProof.Rows L2
/-- what the top tells of an own class whose instances are looked at -/
structure InsC (K : PySem.W.Frag) (C : Addr) : Prop where
  cl : Cls K C
  ha : PySem.W.findIn K (.ref C) "__class__" = some (some (.builtin "object.__class__"))
  hn : PySem.W.specialIn K (.builtin "object.__class__") "__get__" = some (some (.builtin "getset_descriptor.__get__"))
  tk : PySem.W.takesIn K (.builtin "object.__class__") = some true
  mr : PySem.W.mroIn K C (.type "object") = some true
  kI : PySem.W.kitOne K (.ref C) (.type "int") = some false
  kB : PySem.W.kitOne K (.ref C) (.type "bool") = some false
  kL : PySem.W.kitOne K (.ref C) (.type "list") = some false
  kT : PySem.W.kitOne K (.ref C) (.type "tuple") = some false
  kC : ∀ n ∈ ["NoneType", "bool", "int", "str", "list", "tuple", "dict"], PySem.W.kitOne K (.type n) (.ref C) = some false
inductive Knd (K : PySem.W.Frag) (H : Hp) : V → Prop
  | non : Knd K H .non
  | bl (b : Bool) : Knd K H (.bl b)
  | int (i : Int) : Knd K H (.int i)
  | str (x : Str) : Knd K H (.str x)
  | lst {a : Addr} {xs : List V} (h : SqL K H a xs) : Knd K H (.ref a)
  | tup {a : Addr} {xs : List V} (h : SqT K H a xs) : Knd K H (.ref a)
  | dct {a : Addr} {kvs : List (Key × V)} (h : H a = some (.dK kvs)) : Knd K H (.ref a)
  | ins {a C dx : Addr} {fs : List (Str × V)} (h : H a = some (.ins C dx fs)) (c : InsC K C) : Knd K H (.ref a)
def isI : V → Bool
  | .int _ => true
  | _ => false
def isB : V → Bool
  | .bl _ => true
  | _ => false
section
variable {K : PySem.W.Frag} {mg : Str → Option Value} {H H' : Hp} {a : Addr} {xs : List V} {x : V}
theorem same_t (e : Same H H') (h : SqT K H a xs) : SqT K H' a xs := by
  rcases h with (h | ⟨o, h⟩) | h
  · exact .inl (.inl (e _ _ h))
  · exact .inl (.inr ⟨o, e _ _ h⟩)
  · exact .inr h
theorem same_s (e : Same H H') (h : SqS K H a xs) : SqS K H' a xs := h.elim (fun h => .inl (e.seq h)) fun h => .inr (same_t e h)
theorem tyL (h : SqL K H a xs) : TyX K H (.ref a) (.type "list") := by
  rcases h with (h | ⟨o, h⟩) | ⟨o, its, n, h, c, _⟩
  · exact .base (.lst h)
  · exact .base (.frz h)
  · exact .kList h c
theorem tyT (h : SqT K H a xs) : TyX K H (.ref a) (.type "tuple") := by
  rcases h with (h | ⟨o, h⟩) | ⟨o, its, n, h, c, _⟩
  · exact .base (.tup h)
  · exact .fTuple h
  · exact .kTuple h c
theorem InsC.ty {C dx : Addr} {fs : List (Str × V)} (c : InsC K C) (h : H a = some (.ins C dx fs)) : TyX K H (.ref a) (.ref C) := .base (.ins h c.cl c.ha c.hn c.tk c.mr)
theorem Knd.mono (e : Same H H') (k : Knd K H x) : Knd K H' x := by
  cases k with
  | non => exact .non
  | bl b => exact .bl b
  | int i => exact .int i
  | str s => exact .str s
  | lst h => exact .lst (e.seq h)
  | tup h => exact .tup (same_t e h)
  | dct h => exact .dct (e _ _ h)
  | ins h c => exact .ins (e _ _ h) c
theorem Knd.isint (k : Knd K H x) : ∃ t, TyX K H x t ∧ PySem.W.kitOne K t (.type "int") = some (isI x || isB x) ∧ PySem.W.kitOne K t (.type "bool") = some (isB x) := by
  cases k with
  | non => exact ⟨_, .base .non, kit_ty (a := "NoneType") (r := false) (by decide +kernel), kit_ty (a := "NoneType") (r := false) (by decide +kernel)⟩
  | bl b => exact ⟨_, .base (.bl b), kit_ty (a := "bool") (r := true) (by decide +kernel), kit_ty (a := "bool") (r := true) (by decide +kernel)⟩
  | int i => exact ⟨_, .base (.int i), kit_ty (a := "int") (r := true) (by decide +kernel), kit_ty (a := "int") (r := false) (by decide +kernel)⟩
  | str s => exact ⟨_, .base (.str s), kit_ty (a := "str") (r := false) (by decide +kernel), kit_ty (a := "str") (r := false) (by decide +kernel)⟩
  | lst h => exact ⟨_, tyL h, kit_ty (a := "list") (r := false) (by decide +kernel), kit_ty (a := "list") (r := false) (by decide +kernel)⟩
  | tup h => exact ⟨_, tyT h, kit_ty (a := "tuple") (r := false) (by decide +kernel), kit_ty (a := "tuple") (r := false) (by decide +kernel)⟩
  | dct h => exact ⟨_, .base (.dK h), kit_ty (a := "dict") (r := false) (by decide +kernel), kit_ty (a := "dict") (r := false) (by decide +kernel)⟩
  | ins h c => exact ⟨_, c.ty h, c.kI, c.kB⟩
theorem kit2 {t : String} {b c r : Bool} (h1 : kitB t "list" = some b) (h2 : kitB t "tuple" = some c) (hr : (b || c) = r) : PySem.W.kitAny K (.type t) [.type "list", .type "tuple"] = some r := by
  subst hr
  refine kitAny_cons (kit_ty h1) (fun hb => ?_) (fun hb => by rw [hb]; rfl)
  refine kitAny_cons (kit_ty h2) (fun hc => ?_) (fun hc => by rw [hb, hc]; rfl)
  rw [hb, hc]
  exact kitAny_nil
/-- a list or a tuple, or none of both -/
theorem Knd.seq (k : Knd K H x) : (∃ a xs t, x = .ref a ∧ SqS K H a xs ∧ TyX K H x t ∧ PySem.W.kitAny K t [.type "list", .type "tuple"] = some true) ∨
    ∃ t, TyX K H x t ∧ PySem.W.kitAny K t [.type "list", .type "tuple"] = some false := by
  cases k with
  | non => exact .inr ⟨_, .base .non, kit2 (b := false) (c := false) (by decide +kernel) (by decide +kernel) rfl⟩
  | bl b => exact .inr ⟨_, .base (.bl b), kit2 (b := false) (c := false) (by decide +kernel) (by decide +kernel) rfl⟩
  | int i => exact .inr ⟨_, .base (.int i), kit2 (b := false) (c := false) (by decide +kernel) (by decide +kernel) rfl⟩
  | str s => exact .inr ⟨_, .base (.str s), kit2 (b := false) (c := false) (by decide +kernel) (by decide +kernel) rfl⟩
  | lst h => exact .inl ⟨_, _, _, rfl, .inl h, tyL h, kit2 (b := true) (c := false) (by decide +kernel) (by decide +kernel) rfl⟩
  | tup h => exact .inl ⟨_, _, _, rfl, .inr h, tyT h, kit2 (b := false) (c := true) (by decide +kernel) (by decide +kernel) rfl⟩
  | dct h => exact .inr ⟨_, .base (.dK h), kit2 (b := false) (c := false) (by decide +kernel) (by decide +kernel) rfl⟩
  | ins h c => exact .inr ⟨_, c.ty h, kitAny_cons c.kL (fun _ => kitAny_cons c.kT (fun _ => kitAny_nil) fun z => nomatch z) fun z => nomatch z⟩
theorem seq_kit (h : SqS K H a xs) : ∃ t, TyX K H (.ref a) t ∧ PySem.W.kitAny K t [.type "list", .type "tuple"] = some true := by
  rcases h with h | h
  · exact ⟨_, tyL h, kit2 (b := true) (c := false) (by decide +kernel) (by decide +kernel) rfl⟩
  · exact ⟨_, tyT h, kit2 (b := false) (c := true) (by decide +kernel) (by decide +kernel) rfl⟩
end
/-! ### the ends of promises -/
/-- as before but for what stands at p -/
def SameBut (p : Addr) (H H' : Hp) : Prop := ∀ b u, b ≠ p → H b = some u → H' b = some u
theorem same_new {H : Hp} {p : Addr} {o : HO} (h : H p = none) : Same H (upd H p o) := fun b u e => by
  rw [upd_ne (ne_of_none e h)]
  exact e
theorem sameBut_upd {H : Hp} {p : Addr} {o : HO} : SameBut p H (upd H p o) := fun b u n e => by
  rw [upd_ne n]
  exact e
theorem SameBut.trans {p : Addr} {H H1 H2 : Hp} (h : SameBut p H H1) (k : SameBut p H1 H2) : SameBut p H H2 := fun b u n e => k b u n (h b u n e)
theorem _root_.L2.Same.but {p : Addr} {H H' : Hp} (h : Same H H') : SameBut p H H' := fun b u _ e => h b u e
/-- a new instance was filled: all that stood before stands -/
theorem SameBut.made {p dx : Addr} {H H' : Hp} {o u : HO} (hp : H p = none) (hd : H dx = none) (h : SameBut p (upd (upd H dx o) p u) H') : Same H H' := fun b v e => by
  have n1 := ne_of_none e hp
  have n2 := ne_of_none e hd
  exact h b v n1 (by rw [upd_ne n1, upd_ne n2]; exact e)
/-- an exception that holds the one part w -/
def BadE (C : Addr) (w : Str) (H : Hp) (E : XK) : Prop := ∀ d H', Same H H' → H' d = some (.xd [("part", .str w)]) → E (.ref C) (some d) H'
theorem BadE.mono {C : Addr} {w : Str} {H H' : Hp} {E : XK} (e : Same H H') (h : BadE C w H E) : BadE C w H' E := fun d H2 s h2 => h d H2 (e.trans s) h2
/-- the __init__ of an error with one part -/
def spInit (C : Addr) : Sp := fun vs H Q _ => ∃ (a : Addr) (v : V), vs = [.ref a, v] ∧ H a = some (exo a C none) ∧ ∀ dx, H dx = none → dx ≠ a → Q .non (upd (upd H dx (exd dx [("part", v)])) a (exo a C (some dx)))
/-- the reading of raise C(..): what is wished of it -/
theorem raise_go {C : Addr} {v : V} {H : Hp} {Q : XK} (h : ∀ d H', Same H H' → H' d = some (.xd [("part", v)]) → Q (.ref C) (some d) H') :
    [v].length ≤ 1000 ∧ ∀ a, H a = none → spInit C (.ref a :: ([v] ++ [])) (upd H a (exo a C none))
      (fun u H2 => u = .non ∧ ∃ (d : Addr) (fs : List (Str × V)), H2 a = some (exo a C (some d)) ∧ H2 d = some (exd d fs) ∧ H d = none ∧ Q (.ref C) (some d) (upd (del H2 a) d (.xd fs))) (fun _ _ _ => False) := by
  refine ⟨by show 1 ≤ 1000; decide, fun a ha => ⟨a, v, rfl, upd_same, fun dx hdx nda => ?_⟩⟩
  have hd0 : H dx = none := by
    rw [upd_ne nda] at hdx
    exact hdx
  refine ⟨rfl, dx, _, upd_same, by rw [upd_ne nda]; exact upd_same, hd0, h dx _ (fun b o e => ?_) upd_same⟩
  have n1 := ne_of_none e ha
  have n2 := ne_of_none e hd0
  rw [upd_ne n2, del_ne n1, upd_ne n1, upd_ne n2, upd_ne n1]
  exact e
end OG


set_option Elab.async false
set_option linter.all false
set_option maxRecDepth 100000
set_option maxHeartbeats 4000000
/-! GI: comprehensions in one lemma; small readings. -/
namespace OG
open PySem PySem.Spec PyProof.Rows L2
section
variable {K : PySem.W.Frag} {H H1 : Hp} {a p : Addr} {xs : List V}
theorem rix_s {Q : VK} {i : Int} {v : V} (h : SqS K H p xs) (ha : atI xs i = some v) (q : Q v H) : rIx K (.ref p) (.int i) H Q := by
  rcases h with h | h
  · exact .inl ⟨p, xs, i, v, rfl, rfl, h, ha, q⟩
  · exact .inr (.inl ⟨p, xs, i, v, rfl, rfl, h, ha, q⟩)
theorem len_s (h : SqS K H p xs) : LenV K (.ref p) H xs.length := h.elim (fun h => .inl ⟨xs, h, rfl⟩) fun h => .inr ⟨xs, h, rfl⟩
theorem take_next {α β : Type} {xs : List α} {f : α → β} {i : Nat} {x : α} (h : xs[i]? = some x) : (xs.take (i + 1)).map f = (xs.take i).map f ++ [f x] := by
  rw [List.take_succ, h]
  simp
theorem tyes {σ : L2.St} {A B : Hp → Prop} (h : A H) : tYes σ H (fun b H3 => if b = true then A H3 else B H3) := by
  show if true = true then A H else B H
  exact iteT h
theorem not_all {te : TE} {σ : L2.St} {Q : Bool → Hp → Prop} (h : te σ H fun x H1 => rAll K [x] H1 fun y H2 => ∃ c, y = .bl c ∧ Q (!c) H2) : tNot (tB (tCB (rAll K) (tCons te tNil))) σ H Q := h
/-- what an iteration yields while all that stood stands -/
structure Walks (J : It) (H1 : Hp) (n : Nat) (Y : Nat → V → Hp → Prop) : Prop where
  go : ∀ i H', Same H1 H' → i < n → J.go i H'
  stop : ∀ H', Same H1 H' → J.stop n H'
  yld : ∀ i x H' H2, Same H1 H' → i < n → J.yld i H' x H2 → Same H' H2 ∧ Y i x H2
theorem walks_list (hq : SqL K H1 a xs) : Walks (Itl K a) H1 xs.length (fun i x _ => xs[i]? = some x) where
  go := fun i H' s h => ⟨xs, xs[i], s.seq hq, List.getElem?_eq_getElem h⟩
  stop := fun H' s => ⟨xs, s.seq hq, Nat.le_refl _⟩
  yld := fun i x H' H2 s h y => by
    obtain ⟨e, q⟩ := y
    subst e
    exact ⟨Same.refl _, q xs (s.seq hq)⟩
theorem walks_tup (hq : SqT K H1 a xs) : Walks (Itt K a) H1 xs.length (fun i x _ => xs[i]? = some x) where
  go := fun i H' s h => ⟨xs, xs[i], same_t s hq, List.getElem?_eq_getElem h⟩
  stop := fun H' s => ⟨xs, same_t s hq, Nat.le_refl _⟩
  yld := fun i x H' H2 s h y => by
    obtain ⟨e, q⟩ := y
    subst e
    exact ⟨Same.refl _, q xs (same_t s hq)⟩
theorem walks_range {lo : Int} {n : Nat} : Walks (Itr lo n) H1 n (fun i x _ => x = .int (lo + i)) where
  go := fun i H' s h => h
  stop := fun H' s => Nat.le_refl _
  yld := fun i x H' H2 s h y => by
    obtain ⟨e, q⟩ := y
    first
      | (subst e; exact ⟨Same.refl _, q⟩)
      | (subst q; exact ⟨Same.refl _, e⟩)
/-- a list or a tuple walked; the walk goes by what stands at a alone -/
def iSeqW (K : PySem.W.Frag) (tl : TE) : TI := fun σ H R => tl σ H fun x H1 => ∃ a xs, x = .ref a ∧ SqS K H1 a xs ∧ ∀ J, (∀ H0, H0 a = H1 a → Walks J H0 xs.length (fun i x _ => xs[i]? = some x)) → R J H1
theorem sql_at {H0 : Hp} (e : H0 a = H a) (h : SqL K H a xs) : SqL K H0 a xs := by
  rcases h with (h | ⟨o, h⟩) | h
  · exact .inl (.inl (e.trans h))
  · exact .inl (.inr ⟨o, e.trans h⟩)
  · exact .inr h
theorem sqt_at {H0 : Hp} (e : H0 a = H a) (h : SqT K H a xs) : SqT K H0 a xs := by
  rcases h with (h | ⟨o, h⟩) | h
  · exact .inl (.inl (e.trans h))
  · exact .inl (.inr ⟨o, e.trans h⟩)
  · exact .inr h
theorem sqs_at {H0 : Hp} (e : H0 a = H a) (h : SqS K H a xs) : SqS K H0 a xs := h.elim (fun h => .inl (sql_at e h)) fun h => .inr (sqt_at e h)
theorem pi_seqW {X : Cx} {tg l : Expr} {tl : TE} (hl : PE X l tl) : PI X tg l (iSeqW X.K tl) := by
  refine ⟨fun pins s σ H R I h => ?_⟩
  refine thn (hl.run pins s σ H _ I h) fun v s1 ⟨x, H1, I1, r1, q1⟩ => ?_
  obtain ⟨a, xs, e, hq, q⟩ := q1
  subst e
  cases r1
  have hfp : ∀ b ∈ [s1.heap.objs.size], FpOk X pins H1 b := fun b hb => by
    have e : b = s1.heap.objs.size := by simpa using hb
    subst e
    exact I1.fpOk (Nat.le_refl _) (I1.hok.fresh (Nat.le_refl _))
  rcases hq with hq | hq
  · obtain ⟨its, rv, p, hz⟩ := I1.list hq
    refine wpAny_pyIter_list p.isList ?_
    exact ⟨s1.heap.objs.size, [s1.heap.objs.size], _, _, H1, rfl, I1.kept (t' := s1.toks) fun b o e => Heap.get?_push_of_some _ e, turn_list a _, ⟨_, Heap.get?_push_size _ rfl, rfl, rfl⟩, hfp, q _ fun H0 e0 => walks_list (sql_at e0 hq)⟩
  · obtain ⟨its, rv, p, hz⟩ := I1.tuple hq
    refine wpAny_pyIter_tuple (show s1.heap.IsTuple a its.toArray from p) ?_
    exact ⟨s1.heap.objs.size, [s1.heap.objs.size], _, _, H1, rfl, I1.kept (t' := s1.toks) fun b o e => Heap.get?_push_of_some _ e, turn_tuple a _, ⟨_, Heap.get?_push_size _ rfl, rfl, rfl⟩, hfp, q _ fun H0 e0 => walks_tup (sqt_at e0 hq)⟩
theorem walks_enumT (hq : SqT K H1 a xs) : Walks (IteT K a) H1 xs.length (fun i x H2 => ∃ T y, x = .ref T ∧ H2 T = some (.tup [.int (i : Nat), y]) ∧ xs[i]? = some y) where
  go := fun i H' s h => ⟨xs, xs[i], same_t s hq, List.getElem?_eq_getElem h⟩
  stop := fun H' s => ⟨xs, same_t s hq, rfl⟩
  yld := fun i x H' H2 s h y => by
    obtain ⟨T, y, rfl, hT, rfl, e⟩ := y
    exact ⟨same_new hT, T, y, rfl, upd_same, e xs (same_t s hq)⟩
/-- enumerate of a tuple, read by what stands at it -/
def iEnumW (K : PySem.W.Frag) (ta : TA) : TI := fun σ H R => ta σ H fun vs H1 => ∃ a xs, vs = [.ref a] ∧ SqT K H1 a xs ∧ ∀ J, (∀ H0, H0 a = H1 a → Walks J H0 xs.length (fun i x H2 => ∃ T y, x = .ref T ∧ H2 T = some (.tup [.int (i : Nat), y]) ∧ xs[i]? = some y)) → R J H1
theorem pi_enumW {X : Cx} {e : Expr} {ta : TA} {p pos tpos : Pos} {elts : List Expr} {kk : Nat} (hg : Gl X "enumerate") (hm : X.mg "enumerate" = none) (ha : PA X [e] ta) (hs : starEach [e] X.env = [(false, eval e X.env)] := by rfl) :
    PI X (.Tuple elts kk tpos) (.Call (.Name "enumerate" p) [e] [] pos) (iEnumW X.K ta) := by
  refine ⟨fun pins s σ H R I h => ?_⟩
  refine Call_ (ld_blt I hg hm boot_enumerate (PyProof.Rows.callWith_type1 (thn (ha.run pos pins s σ H _ I h) fun us s1 ⟨vs, H1, I1, r1, q1⟩ => ?_) hs rfl))
  obtain ⟨a, xs, ex, hq, q⟩ := q1
  subst ex
  cases r1 with
  | cons r rr =>
    cases rr
    cases r
    obtain ⟨its, rv, p', hz⟩ := I1.tuple hq
    have hp : s1.heap.IsTuple a its.toArray := p'
    have hal : a < s1.heap.objs.size := by obtain ⟨_, q, _⟩ := hp; exact Heap.lt_size q
    refine call_enum_tup hp fun h' he hit hsz hk => wpAny_pyIter_enum he ?_
    have I2 : Inv X pins σ H1 { s1 with heap := h' } := I1.kept (t' := s1.toks) hk
    refine ⟨s1.heap.objs.size + 1, [s1.heap.objs.size + 1, s1.heap.objs.size], _, _, H1, rfl, I2, turn_enumT a (s1.heap.objs.size + 1) s1.heap.objs.size, ⟨⟨.none, he⟩, hit, Nat.succ_ne_self _, Nat.ne_of_lt hal, Nat.ne_of_lt (Nat.lt_succ_of_lt hal)⟩, fun b hb => ?_, q _ fun H0 e0 => walks_enumT (sqt_at e0 hq)⟩
    have e' : b = s1.heap.objs.size + 1 ∨ b = s1.heap.objs.size := by simpa using hb
    have hle : s1.heap.objs.size ≤ b := by
      rcases e' with z | z
      · rw [z]; exact Nat.le_add_right _ _
      · rw [z]; exact Nat.le_refl _
    exact I1.fpOk hle (I1.hok.fresh hle)
/-- a loop over such a walk; H0 is what no turn changes -/
theorem for_core {J : It} {n : Nat} {H0 : Hp} {Y : Nat → V → Hp → Prop} (w : Walks J H0 n Y) {g : TG} {tb : TS} {D : Ends} {σ : L2.St} (Pv : Nat → L2.St → Hp → Prop) (h0 : Pv 0 σ H) (hl : ∀ i σ H, Pv i σ H → Same H0 H)
    (hs : ∀ i x σ H H2, i < n → Pv i σ H → Same H H2 → Y i x H2 → g x σ H2 fun σ2 H3 => tb { D with nx := Pv (i + 1), ct := Pv (i + 1), bk := D.nx } σ2 H3) (hd : ∀ σ H, Pv n σ H → D.nx σ H) :
    ∃ W : Nat → Nat → L2.St → Hp → Prop, (∃ m, W 0 m σ H) ∧ ∀ i m σ H, W i m σ H →
      (J.stop i H ∧ D.nx σ H) ∨ (J.go i H ∧ ∃ N : L2.St → Hp → Prop, (∀ σ' H', N σ' H' → ∃ m', m' < m ∧ W (i + 1) m' σ' H') ∧ ∀ x H', J.yld i H x H' → g x σ H' fun σ2 H2 => tb { D with nx := N, ct := N, bk := D.nx } σ2 H2) := by
  refine ⟨fun i m σ H => m = n - i ∧ i ≤ n ∧ Pv i σ H, ⟨n, by simp, Nat.zero_le _, h0⟩, ?_⟩
  rintro i m σ H ⟨rfl, hi, p⟩
  have q := hl i σ H p
  by_cases hlt : i < n
  · refine .inr ⟨w.go i H q hlt, Pv (i + 1), fun σ' H' p' => ⟨n - (i + 1), by omega, rfl, hlt, p'⟩, fun x H' y => ?_⟩
    obtain ⟨s1, yy⟩ := w.yld i x H H' q hlt y
    exact hs i x σ H H' hlt p s1 yy
  · have e : i = n := by omega
    subst e
    exact .inl ⟨w.stop H q, hd σ H p⟩
theorem inV_ints {x : Int} {ns : List Int} : inV (.int x) (ns.map V.int) = decide (x ∈ ns) := by
  unfold inV
  induction ns with
  | nil => rfl
  | cons n ns ih =>
    rw [List.map_cons, List.any_cons, ih]
    have e : eqV (.int n) (.int x) = decide (n = x) := by
      first
        | rfl
        | (unfold eqV; by_cases h : n = x <;> simp [h])
    rw [e]
    by_cases h : n = x
    · simp [h]
    · have h2 : ¬ x = n := fun z => h z.symm
      simp [h, h2]
theorem map_range {α β : Type} (xs : List α) (f : α → β) (d : α) : (List.range xs.length).map (fun i => f (xs.getD i d)) = xs.map f := by
  refine List.ext_getElem? fun i => ?_
  by_cases h : i < xs.length
  · simp [h]
  · rw [List.getElem?_eq_none (by simp; omega), List.getElem?_eq_none (by simp; omega)]
theorem wipe_set {σ : L2.St} {j : Nat} {x : V} : wipe ((wipe σ [j]).set j (some x)) [j] = wipe σ [j] := by
  show (((σ.set j none).set j (some x)).set j none) = σ.set j none
  rw [List.set_set, List.set_set]
/-- such an iteration, each turn's element made by te -/
theorem comp_core {J : It} {n : Nat} {Y : Nat → V → Hp → Prop} (w : Walks J H1 n Y) {te : TE} {σ : L2.St} {j : Nat} {Qd : Addr → Hp → Prop} (R : Nat → V → Hp → Prop) (hR : ∀ i y H H', Same H H' → R i y H → R i y H') (hn : n < sizeLine)
    (step : ∀ (D : Addr) i x H2 (N : VK), H1 D = none → i < n → Same H1 H2 → (∃ acc, H2 D = some (.lst acc)) → Y i x H2 → (∀ y H3 Hs, Same H2 H3 → Hs D = none → Same Hs H3 → R i y Hs → N y H3) → te ((wipe σ [j]).set j (some x)) H2 N)
    (kont : ∀ D ys H', H1 D = none → Same H1 H' → H' D = some (.lst ys) → ys.length = n → (∀ i y, ys[i]? = some y → R i y H') → Qd D H') :
    ∀ D, H1 D = none → ∃ W : Nat → Nat → Hp → Prop, (∃ m, W 0 m (upd H1 D (.lst []))) ∧ ∀ i m H, W i m H →
      (J.stop i H ∧ Qd D H) ∨ (J.go i H ∧ ∃ Nx : Hp → Prop, (∀ H', Nx H' → ∃ m', m' < m ∧ W (i + 1) m' H') ∧ ∀ x H', J.yld i H x H' → gName j x (wipe σ [j]) H' fun σ2 H2 => wipe σ2 [j] = wipe σ [j] ∧ tYes σ2 H2 fun b H3 =>
        if b = true then te σ2 H3 fun y H4 => ∃ acc, H4 D = some (.lst acc) ∧ acc.length < sizeLine ∧ Nx (upd H4 D (.lst (acc ++ [y]))) else Nx H3) := by
  intro D hD
  let Pv : Nat → Hp → Prop := fun i H => Same H1 H ∧ ∃ ys, H D = some (.lst ys) ∧ ys.length = i ∧ ∀ k y, ys[k]? = some y → ∃ Hs, Hs D = none ∧ Same Hs H ∧ R k y Hs
  refine ⟨fun i m H => m = n - i ∧ i ≤ n ∧ Pv i H, ⟨n, by simp, Nat.zero_le _, same_new hD, [], upd_same, rfl, fun k y e => by cases e⟩, ?_⟩
  rintro i m H ⟨rfl, hi, s, ys, hy, hl, hr⟩
  by_cases hlt : i < n
  · refine .inr ⟨w.go i H s hlt, Pv (i + 1), fun H' p' => ⟨n - (i + 1), by omega, rfl, hlt, p'⟩, fun x H' y => ?_⟩
    obtain ⟨s1, yy⟩ := w.yld i x H H' s hlt y
    refine ⟨wipe_set, tyes (A := fun H3 => te _ H3 _) (step D i x H' _ hD hlt (s.trans s1) ⟨ys, s1 _ _ hy⟩ yy fun v H3 Hs s3 hs0 hs1 rv => ?_)⟩
    have hy3 := s3 _ _ (s1 _ _ hy)
    refine ⟨ys, hy3, by omega, fun b u e => ?_, ys ++ [v], upd_same, by simp [hl], fun k z e => ?_⟩
    · rw [upd_ne (ne_of_none e hD)]
      exact s3 _ _ (s1 _ _ (s _ _ e))
    · by_cases hk : k < ys.length
      · rw [List.getElem?_append_left hk] at e
        obtain ⟨Hz, z0, z1, z2⟩ := hr k z e
        exact ⟨Hz, z0, fun b u q => by rw [upd_ne (ne_of_none q z0)]; exact s3 _ _ (s1 _ _ (z1 _ _ q)), z2⟩
      · rw [List.getElem?_append_right (by omega)] at e
        have hk0 : k - ys.length = 0 := by
          cases hkk : k - ys.length with
          | zero => rfl
          | succ _ => rw [hkk] at e; cases e
        rw [hk0] at e
        have e2 : v = z := Option.some.inj e
        subst e2
        have hki : k = i := by omega
        subst hki
        exact ⟨Hs, hs0, fun b u q => by rw [upd_ne (ne_of_none q hs0)]; exact hs1 _ _ q, rv⟩
  · have hi2 : i = n := by omega
    subst hi2
    exact .inl ⟨w.stop H s, kont D ys H hD s hy hl fun k y e => by
      obtain ⟨Hs, _, z1, z2⟩ := hr k y e
      exact hR _ _ _ _ z1 z2⟩
/-- .. elements that are plain values -/
theorem comp_val {J : It} {n : Nat} {Y : Nat → V → Hp → Prop} (w : Walks J H1 n Y) {te : TE} {σ : L2.St} {j : Nat} {Qd : Addr → Hp → Prop} (f : Nat → V) (hn : n < sizeLine)
    (step : ∀ i x H2 (N : VK), i < n → Same H1 H2 → Y i x H2 → (∀ H3, Same H2 H3 → N (f i) H3) → te ((wipe σ [j]).set j (some x)) H2 N)
    (kont : ∀ D H', H1 D = none → Same H1 H' → H' D = some (.lst ((List.range n).map f)) → Qd D H') :
    ∀ D, H1 D = none → ∃ W : Nat → Nat → Hp → Prop, (∃ m, W 0 m (upd H1 D (.lst []))) ∧ ∀ i m H, W i m H →
      (J.stop i H ∧ Qd D H) ∨ (J.go i H ∧ ∃ Nx : Hp → Prop, (∀ H', Nx H' → ∃ m', m' < m ∧ W (i + 1) m' H') ∧ ∀ x H', J.yld i H x H' → gName j x (wipe σ [j]) H' fun σ2 H2 => wipe σ2 [j] = wipe σ [j] ∧ tYes σ2 H2 fun b H3 =>
        if b = true then te σ2 H3 fun y H4 => ∃ acc, H4 D = some (.lst acc) ∧ acc.length < sizeLine ∧ Nx (upd H4 D (.lst (acc ++ [y]))) else Nx H3) := by
  refine comp_core w (fun i y _ => y = f i) (fun _ _ _ _ _ h => h) hn (fun D i x H2 N _ hi s _ y h => step i x H2 N hi s y fun H3 s3 => h _ H3 (fun _ => none) s3 rfl (fun _ _ z => nomatch z) rfl) fun D ys H' hD s hy hl hr => ?_
  refine kont D H' hD s ?_
  have e : ys = (List.range n).map f := by
    refine List.ext_getElem? fun i => ?_
    by_cases h : i < n
    · have h2 : i < ys.length := by omega
      have := hr i ys[i] (List.getElem?_eq_getElem h2)
      rw [List.getElem?_eq_getElem h2, this]
      simp [h]
    · rw [List.getElem?_eq_none (by omega), List.getElem?_eq_none (by simp; omega)]
  rw [← e]
  exact hy
/-- .. elements that are new tuples of plain values -/
theorem comp_tups {J : It} {n : Nat} {Y : Nat → V → Hp → Prop} (w : Walks J H1 n Y) {te : TE} {σ : L2.St} {j : Nat} {Qd : Addr → Hp → Prop} (f : Nat → List V) (hn : n < sizeLine)
    (step : ∀ i x H2 (N : VK), i < n → Same H1 H2 → Y i x H2 → (∀ t H3, H2 t = none → Same H2 H3 → H3 t = some (.tup (f i)) → N (.ref t) H3) → te ((wipe σ [j]).set j (some x)) H2 N)
    (kont : ∀ D (ts : List Addr) H', H1 D = none → Same H1 H' → H' D = some (.lst (ts.map V.ref)) → ts.length = n → (∀ i t, ts[i]? = some t → H' t = some (.tup (f i))) → Qd D H') :
    ∀ D, H1 D = none → ∃ W : Nat → Nat → Hp → Prop, (∃ m, W 0 m (upd H1 D (.lst []))) ∧ ∀ i m H, W i m H →
      (J.stop i H ∧ Qd D H) ∨ (J.go i H ∧ ∃ Nx : Hp → Prop, (∀ H', Nx H' → ∃ m', m' < m ∧ W (i + 1) m' H') ∧ ∀ x H', J.yld i H x H' → gName j x (wipe σ [j]) H' fun σ2 H2 => wipe σ2 [j] = wipe σ [j] ∧ tYes σ2 H2 fun b H3 =>
        if b = true then te σ2 H3 fun y H4 => ∃ acc, H4 D = some (.lst acc) ∧ acc.length < sizeLine ∧ Nx (upd H4 D (.lst (acc ++ [y]))) else Nx H3) := by
  refine comp_core w (fun i y H => ∃ t, y = .ref t ∧ H t = some (.tup (f i))) (fun _ _ _ _ s ⟨t, e, h⟩ => ⟨t, e, s _ _ h⟩) hn (fun D i x H2 N _ hi s hacc y h => step i x H2 N hi s y fun t H3 ht s3 h3 => ?_) fun D ys H' hD s hy hl hr => ?_
  · obtain ⟨acc, hacc⟩ := hacc
    have ne : D ≠ t := fun z => by rw [z, ht] at hacc; cases hacc
    refine h _ H3 (upd (fun _ => none) t (.tup (f i))) s3 (by rw [upd_ne ne]) (fun b u e => ?_) ⟨t, rfl, upd_same⟩
    by_cases hb : b = t
    · subst hb
      rw [upd_same] at e
      cases e
      exact h3
    · rw [upd_ne hb] at e
      cases e
  · have : ∀ m (ys : List V) , (∀ i y, ys[i]? = some y → ∃ t, y = .ref t ∧ H' t = some (.tup (f (m + i)))) → ∃ ts : List Addr, ys = ts.map V.ref ∧ ∀ i t, ts[i]? = some t → H' t = some (.tup (f (m + i))) := by
      intro m ys
      induction ys generalizing m with
      | nil => exact fun _ => ⟨[], rfl, fun i t e => by cases e⟩
      | cons y ys ih =>
        intro h
        obtain ⟨t, e1, e2⟩ := h 0 y rfl
        obtain ⟨ts, e3, e4⟩ := ih (m + 1) fun i z e => by
          have := h (i + 1) z (by simpa using e)
          rwa [show m + 1 + i = m + (i + 1) by omega]
        refine ⟨t :: ts, by rw [e1, e3]; rfl, fun i u e => ?_⟩
        cases i with
        | zero =>
          have : t = u := by simpa using e
          rw [← this]
          exact e2
        | succ i =>
          have := e4 i u (by simpa using e)
          rwa [show m + 1 + i = m + (i + 1) by omega] at this
    obtain ⟨ts, e1, e2⟩ := this 0 ys fun i y e => by rw [Nat.zero_add]; exact hr i y e
    subst e1
    exact kont D ts H' hD s hy (by simpa using hl) fun i t e => by
      have := e2 i t e
      rwa [Nat.zero_add] at this
/-- what a list at F has been given so far; H0 is what stood before it -/
def Acc (H0 : Hp) (F : Addr) (R : Nat → V → Hp → Prop) (n : Nat) (H : Hp) : Prop := Same H0 H ∧ ∃ ys, H F = some (.lst ys) ∧ ys.length = n ∧ ∀ k y, ys[k]? = some y → ∃ Hs, Hs F = none ∧ Same Hs H ∧ R k y Hs
theorem Acc.same {H0 H H' : Hp} {F : Addr} {R : Nat → V → Hp → Prop} {n : Nat} (h : Acc H0 F R n H) (s : Same H H') : Acc H0 F R n H' := by
  obtain ⟨h1, ys, h2, h3, h4⟩ := h
  exact ⟨h1.trans s, ys, s _ _ h2, h3, fun k y e => let ⟨Hs, a, b, c⟩ := h4 k y e; ⟨Hs, a, b.trans s, c⟩⟩
theorem Acc.nil {H : Hp} {F : Addr} {R : Nat → V → Hp → Prop} (h : H F = none) : Acc H F R 0 (upd H F (.lst [])) := ⟨same_new h, [], upd_same, rfl, fun _ _ e => by cases e⟩
theorem Acc.push {H0 H Hs : Hp} {F : Addr} {R : Nat → V → Hp → Prop} {n : Nat} {y : V} (h : Acc H0 F R n H) (h0 : H0 F = none) (hs0 : Hs F = none) (hs1 : Same Hs H) (r : R n y Hs) :
    ∃ ys, H F = some (.lst ys) ∧ ys.length = n ∧ Acc H0 F R (n + 1) (upd H F (.lst (ys ++ [y]))) := by
  obtain ⟨h1, ys, h2, h3, h4⟩ := h
  refine ⟨ys, h2, h3, fun b u e => ?_, ys ++ [y], upd_same, by simp [h3], fun k z e => ?_⟩
  · rw [upd_ne (ne_of_none e h0)]
    exact h1 _ _ e
  · by_cases hk : k < ys.length
    · rw [List.getElem?_append_left hk] at e
      obtain ⟨Hz, z0, z1, z2⟩ := h4 k z e
      exact ⟨Hz, z0, fun b u q => by rw [upd_ne (ne_of_none q z0)]; exact z1 _ _ q, z2⟩
    · rw [List.getElem?_append_right (by omega)] at e
      have hk0 : k - ys.length = 0 := by
        cases hkk : k - ys.length with
        | zero => rfl
        | succ _ => rw [hkk] at e; cases e
      rw [hk0] at e
      have e2 : y = z := Option.some.inj e
      subst e2
      have hkn : k = n := by omega
      subst hkn
      exact ⟨Hs, hs0, fun b u q => by rw [upd_ne (ne_of_none q hs0)]; exact hs1 _ _ q, r⟩
/-- elements that are tuples of plain values -/
def TupR (f : Nat → List V) (i : Nat) (y : V) (H : Hp) : Prop := ∃ t, y = .ref t ∧ H t = some (.tup (f i))
theorem Acc.tup {H0 H : Hp} {F t : Addr} {f : Nat → List V} {n : Nat} (h : Acc H0 F (TupR f) n H) (h0 : H0 F = none) (ht : H t = none) :
    ∃ ys, upd H t (.tup (f n)) F = some (.lst ys) ∧ ys.length = n ∧ Acc H0 F (TupR f) (n + 1) (upd (upd H t (.tup (f n))) F (.lst (ys ++ [.ref t]))) := by
  have h2 := h.same (same_new (o := .tup (f n)) ht)
  have nF : F ≠ t := fun z => by
    obtain ⟨_, ys, e, _⟩ := h
    rw [z, ht] at e
    cases e
  refine h2.push h0 (Hs := upd (fun _ => none) t (.tup (f n))) (by rw [upd_ne nF]) (fun b u e => ?_) ⟨t, rfl, upd_same⟩
  by_cases hb : b = t
  · subst hb
    rw [upd_same] at e ⊢
    exact e
  · rw [upd_ne hb] at e
    cases e
theorem Acc.tups {H0 H : Hp} {F : Addr} {f : Nat → List V} {n : Nat} (h : Acc H0 F (TupR f) n H) : ∃ ts : List Addr, H F = some (.lst (ts.map V.ref)) ∧ ts.length = n ∧ ∀ i t, ts[i]? = some t → H t = some (.tup (f i)) := by
  obtain ⟨_, ys, hy, hl, hr⟩ := h
  have : ∀ m (ys : List V) , (∀ i y, ys[i]? = some y → ∃ t, y = .ref t ∧ H t = some (.tup (f (m + i)))) → ∃ ts : List Addr, ys = ts.map V.ref ∧ ∀ i t, ts[i]? = some t → H t = some (.tup (f (m + i))) := by
    intro m ys
    induction ys generalizing m with
    | nil => exact fun _ => ⟨[], rfl, fun i t e => by cases e⟩
    | cons y ys ih =>
      intro h
      obtain ⟨t, e1, e2⟩ := h 0 y rfl
      obtain ⟨ts, e3, e4⟩ := ih (m + 1) fun i z e => by
        have := h (i + 1) z (by simpa using e)
        rwa [show m + 1 + i = m + (i + 1) by omega]
      refine ⟨t :: ts, by rw [e1, e3]; rfl, fun i u e => ?_⟩
      cases i with
      | zero =>
        have : t = u := by simpa using e
        rw [← this]
        exact e2
      | succ i =>
        have := e4 i u (by simpa using e)
        rwa [show m + 1 + i = m + (i + 1) by omega] at this
  obtain ⟨ts, e1, e2⟩ := this 0 ys fun i y e => by
    obtain ⟨Hs, _, z1, t, z2, z3⟩ := hr i y e
    rw [Nat.zero_add]
    exact ⟨t, z2, z1 _ _ z3⟩
  subst e1
  exact ⟨ts, hy, by simpa using hl, fun i t e => by
    have := e2 i t e
    rwa [Nat.zero_add] at this⟩
end
end OG


set_option Elab.async false
set_option linter.all false
set_option maxRecDepth 100000
set_option maxHeartbeats 4000000
/-! GJ: rows of integers as data; calls by keywords alone. -/
namespace OG
open PySem PySem.Spec PyProof.Rows L2
theorem sqt_but {K : PySem.W.Frag} {H H' : Hp} {p C dx t : Addr} {fs : List (Str × V)} {xs : List V} (b : SameBut p H H') (hp : H p = some (.ins C dx fs)) (h : SqT K H t xs) : SqT K H' t xs := by
  rcases h with (h | ⟨o, h⟩) | h
  · exact .inl (.inl (b _ _ (fun z => by rw [z, hp] at h; cases h) h))
  · exact .inl (.inr ⟨o, b _ _ (fun z => by rw [z, hp] at h; cases h) h⟩)
  · exact .inr h
/-- tuple(x): the tuple itself, or a new one of the list's items -/
def rTupOf (K : PySem.W.Frag) : List V → Hp → VK → Prop := fun xs H Q => ∃ p ys, xs = [.ref p] ∧ ((SqL K H p ys ∧ ∀ l, H l = none → Q (.ref l) (upd H l (.tup ys))) ∨ (SqT K H p ys ∧ Q (.ref p) H))
def rListOf (K : PySem.W.Frag) : List V → Hp → VK → Prop := fun xs H Q => ∃ p ys, xs = [.ref p] ∧ (SqL K H p ys ∨ SqT K H p ys) ∧ ∀ l, H l = none → Q (.ref l) (upd H l (.lst ys))
theorem lay_ints (zs : List Int) : PyData.canLayAll0 (zs.map PyData.int) = true := by
  induction zs with
  | nil => rfl
  | cons z zs ih =>
    show (PyData.canLay0 (.int z) && PyData.canLayAll0 (zs.map PyData.int)) = true
    rw [ih]
    rfl
theorem depth_ints (zs : List Int) : PyData.depthAll (zs.map PyData.int) = 0 := by
  induction zs with
  | nil => rfl
  | cons z zs ih =>
    show Nat.max (PyData.depth (.int z)) (PyData.depthAll (zs.map PyData.int)) = 0
    rw [ih]
    rfl
theorem shaped_ints (zs : List Int) : SeqAt.shaped (.list (zs.map PyData.int)) = true := by
  refine Bool.and_eq_true_iff.mpr ⟨lay_ints zs, decide_eq_true ?_⟩
  show PyData.depthAll (zs.map PyData.int) + 1 ≤ 64
  rw [depth_ints]
  decide
theorem eqvAll_ints (xs ys : List Int) : PyData.eqvAll (xs.map PyData.int) (ys.map PyData.int) = decide (xs = ys) := by
  induction xs generalizing ys with
  | nil => cases ys <;> rfl
  | cons x xs ih =>
    cases ys with
    | nil => rfl
    | cons y ys =>
      show ((x == y) && PyData.eqvAll (xs.map PyData.int) (ys.map PyData.int)) = _
      rw [ih]
      by_cases h : x = y <;> by_cases h2 : xs = ys <;> simp [h, h2]
theorem eqv_ints (xs ys : List Int) : PyData.eqv (.list (xs.map PyData.int)) (.list (ys.map PyData.int)) = decide (xs = ys) := eqvAll_ints xs ys
theorem dpa_ints {K : PySem.W.Frag} {H : Hp} (ns : List Int) : DpAll K H (ns.map V.int) (ns.map PyData.int) := by
  induction ns with
  | nil => exact .nil
  | cons n ns ih => exact .cons (.int n) ih
theorem rgV_ints (n : Nat) : rgV 0 (n : Nat) = ((List.range n).map fun i : Nat => (i : Int)).map V.int := by
  unfold rgV
  rw [List.map_map]
  have e : ((n : Int) - 0).toNat = n := by omega
  rw [e]
  refine List.map_congr_left fun i _ => ?_
  show V.int (0 + (i : Int)) = V.int (i : Int)
  rw [Int.zero_add]
/-- f(k = v, ..): keywords alone -/
theorem pe_callK0 {X : Cx} {CX : CXT} {k : Nat} {f : Addr} {fd : FuncData} {ps ks : List Str} {sp : Sp} {E : XK} {x : Str} {p pos : Pos} {kws : List Keyword} {tk : TA} {g : List Value → List Value → List Value} {gV : List V → List V → List V}
    (F : FnOk X.prog X.w X.K X.mg X.base CX k f fd ps sp) (hr : Room k X.A) (hg : Gl X x) (hm : X.mg x = some (.ref f)) (hk : PySem.W.keepIn X.K (.ref f) = true) (hb : KBinds X.K fd ps ks g gV) (hx : Passes CX X E)
    (hkw : PK X kws tk) (hall : (backToKw pos (keywordEach kws X.env)).all (·.1.isSome) = true := by rfl) (hks : (backToKw pos (keywordEach kws X.env)).filterMap (·.1) = ks := by rfl)
    (hdb : (x == ("__debug__" : Str)) = false := by decide) (hpl : ((backTo pos (starEach [] X.env)).any (·.1) || (backToKw pos (keywordEach kws X.env)).any (·.1.isNone)) = false := by rfl) :
    PE X (.Call (.Name x p) [] kws pos) (tCallK sp gV E tNil tk) := by
  refine ⟨fun pins s σ H Q I h => ?_⟩
  refine wpAny_Call_Name_kw (ld_glob I hg hm ?_ hdb)
  refine PySem.W.callWith_KW0 (h₀ := X.base) I.ok.mod.kin hk hall (thn (hkw.run pos pins s σ H _ I h) fun ws s2 ⟨zs, H2, I2, rz, q2⟩ => ⟨I2.kIn, ?_⟩) hpl
  rw [hks]
  exact run_fnk (us := []) (vs := []) F hr hb hx I2 .nil rz q2
/-- one argument by place, one by name -/
def gOneOne {α : Type} : List α → List α → List α
  | [s], [c] => [s, c]
  | _, _ => []
theorem rel_oneOne {vs : List V} {us : List Value} {zs : List V} {ws : List Value} (r : Vals vs us) (rz : Vals zs ws) : Vals (gOneOne vs zs) (gOneOne us ws) := by
  cases r with
  | nil => exact .nil
  | cons r1 r =>
    cases r with
    | cons _ _ => exact .nil
    | nil =>
      cases rz with
      | nil => exact .nil
      | cons r2 rz =>
        cases rz with
        | nil => exact .cons r1 (.cons r2 .nil)
        | cons _ _ => exact .nil
end OG


set_option Elab.async false
set_option linter.all false
set_option maxRecDepth 100000
set_option maxHeartbeats 4000000
set_option exponentiation.threshold 10000
/-! GK: the laws' pen; what stays but for it; what stays but for it and the tables. -/
namespace OG
open PySem PySem.Spec PyProof.Rows L2
def HeadIs (c : Addr) (H : Hp) (p : Addr) : Prop := ∃ r, H p = some (.lst (.ref c :: r))
def But (p : Addr) (H H' : Hp) : Prop := (∃ xs, H p = some (.lst xs)) ∧ (∃ xs, H' p = some (.lst xs)) ∧ (∀ b u, b ≠ p → H b = some u → H' b = some u) ∧ ∀ c, HeadIs c H p → HeadIs c H' p
section
variable {K : PySem.W.Frag} {H H' H'' : Hp} {p a : Addr} {xs : List V} {v : V}
theorem But.trans (e : But p H H') (k : But p H' H'') : But p H H'' := ⟨e.1, k.2.1, fun b u n h => k.2.2.1 b u n (e.2.2.1 b u n h), fun c h => k.2.2.2 c (e.2.2.2 c h)⟩
theorem But.same (e : But p H H') (k : Same H' H'') : But p H H'' := ⟨e.1, let ⟨xs, h⟩ := e.2.1; ⟨xs, k _ _ h⟩, fun b u n h => k b u (e.2.2.1 b u n h), fun c h => let ⟨r, h⟩ := e.2.2.2 c h; ⟨r, k _ _ h⟩⟩
theorem same_but (k : Same H H') (e : But p H' H'') (h : ∃ xs, H p = some (.lst xs)) : But p H H'' := ⟨h, e.2.1, fun b u n hb => e.2.2.1 b u n (k b u hb), fun c ⟨r, hr⟩ => e.2.2.2 c ⟨r, k _ _ hr⟩⟩
theorem but_same (k : Same H H') (h : ∃ xs, H p = some (.lst xs)) : But p H H' := ⟨h, let ⟨xs, h⟩ := h; ⟨xs, k _ _ h⟩, fun b u _ hb => k b u hb, fun c ⟨r, hr⟩ => ⟨r, k _ _ hr⟩⟩
theorem But.t (e : But p H H') (h : SqT K H a xs) : SqT K H' a xs := by
  obtain ⟨ys, hp⟩ := e.1
  rcases h with (h | ⟨o, h⟩) | h
  · exact .inl (.inl (e.2.2.1 _ _ (fun z => by rw [z, hp] at h; cases h) h))
  · exact .inl (.inr ⟨o, e.2.2.1 _ _ (fun z => by rw [z, hp] at h; cases h) h⟩)
  · exact .inr h
theorem But.l (e : But p H H') (n : a ≠ p) (h : SqL K H a xs) : SqL K H' a xs := by
  rcases h with (h | ⟨o, h⟩) | h
  · exact .inl (.inl (e.2.2.1 _ _ n h))
  · exact .inl (.inr ⟨o, e.2.2.1 _ _ n h⟩)
  · exact .inr h
/-- the pen: its cells, how many are read, the rest -/
def PenK (H : Hp) (p : Addr) (n : Nat) : Prop := ∃ (c : Addr) (zs : List Int) (at_ rest : Int), H p = some (.lst [.ref c, .int at_, .int rest]) ∧ c ≠ p ∧ H c = some (.lst (zs.map .int)) ∧ 0 ≤ at_ ∧ at_ ≤ (n : Int) ∧ 0 ≤ rest
theorem PenK.lst {n : Nat} (k : PenK H p n) : ∃ xs, H p = some (.lst xs) := let ⟨_, _, _, _, h, _⟩ := k; ⟨_, h⟩
theorem PenK.same {n : Nat} (k : PenK H p n) (e : Same H H') : PenK H' p n := by
  obtain ⟨c, zs, at_, rest, h1, h2, h3, h4⟩ := k
  exact ⟨c, zs, at_, rest, e _ _ h1, h2, e _ _ h3, h4⟩
theorem PenK.mono {n m : Nat} (k : PenK H p n) (e : n ≤ m) : PenK H p m := by
  obtain ⟨c, zs, at_, rest, h1, h2, h3, h4, h5, h6⟩ := k
  exact ⟨c, zs, at_, rest, h1, h2, h3, h4, by omega, h6⟩
/-- the pen's own change -/
theorem pen_set {n : Nat} {c : Addr} {zs : List Int} {a0 r0 at_ rest : Int} (h1 : H p = some (.lst [.ref c, .int a0, .int r0])) (h2 : c ≠ p) (h3 : H c = some (.lst (zs.map .int))) (ha : 0 ≤ at_) (hb : at_ ≤ (n : Int)) (hc : 0 ≤ rest) :
    But p H (upd H p (.lst [.ref c, .int at_, .int rest])) ∧ PenK (upd H p (.lst [.ref c, .int at_, .int rest])) p n :=
  ⟨⟨⟨_, h1⟩, ⟨_, upd_same⟩, fun b u nb hb => by rw [upd_ne nb]; exact hb, fun c' ⟨r, hr⟩ => by rw [h1] at hr; cases hr; exact ⟨_, upd_same⟩⟩, c, zs, at_, rest, upd_same, h2, by rw [upd_ne h2]; exact h3, ha, hb, hc⟩
theorem dp_ints (zs : List Int) : DpAll K H (zs.map V.int) (zs.map PyData.int) := by
  induction zs with
  | nil => exact .nil
  | cons z zs ih => exact .cons (.int z) ih
theorem eqv_nil (zs : List Int) : PyData.eqv (.list (zs.map PyData.int)) (.list []) = decide (zs = []) := by
  cases zs <;> rfl
end
def cutI (ns : List Int) : List Int := (ns.drop (HT.sIx (ns.map V.int).length 0 none)).take (HT.sIx (ns.map V.int).length (ns.map V.int).length (some 63) - HT.sIx (ns.map V.int).length 0 none)
theorem cutI_is (ns : List Int) : cutV (ns.map V.int) none (some 63) = (cutI ns).map V.int := by
  unfold cutV cutI
  rw [List.map_take, List.map_drop]
section
variable {K : PySem.W.Frag} {H H' H'' : Hp} {p a : Addr} {xs : List V} {v : V}
theorem fmod_in (i : Int) {j : Int} (h : 0 < j) : 0 ≤ i.fmod j ∧ i.fmod j < j := by
  rw [Int.fmod_eq_emod_of_nonneg i (by omega)]
  exact ⟨Int.emod_nonneg i (by omega), Int.emod_lt_of_pos i h⟩
def SzI (n : Nat) (i : Int) : Prop := i.natAbs < 2 ^ n
theorem SzI.mono {a b : Nat} {i : Int} (h : SzI a i) (e : a ≤ b) : SzI b i := Nat.lt_of_lt_of_le h (Nat.pow_le_pow_right (by decide) e)
theorem divW {n : Nat} {i j : Int} (h : 0 < j) (z : SzI n j) (h0 : 0 < n) (h9 : n ≤ 9000) : CDivW i j := wide_div (b := n) h z h0 h9
theorem szI_nat {n k : Nat} (h : n < 2 ^ k) : SzI k (n : Int) := by
  show (n : Int).natAbs < 2 ^ k
  rw [Int.natAbs_natCast]
  exact h
theorem lst_new {p l : Addr} {H : Hp} (h : ∃ xs, H p = some (.lst xs)) (hl : H l = none) : l ≠ p := fun z => by
  obtain ⟨xs, h⟩ := h
  rw [← z, hl] at h
  cases h
/-! ### what stays: all but the pen and the tables -/
def core (p : Addr) (H : Hp) : Hp := fun b => if b = p then none else match H b with
  | some (.tbl _) => none
  | o => o
theorem core_some {b : Addr} {u : HO} (h : core p H b = some u) : b ≠ p ∧ H b = some u ∧ ∀ ps, u ≠ .tbl ps := by
  unfold core at h
  by_cases c : b = p
  · rw [if_pos c] at h
    cases h
  · rw [if_neg c] at h
    cases e : H b with
    | none =>
      rw [e] at h
      cases h
    | some o =>
      rw [e] at h
      cases o with
      | tbl ps => cases h
      | _ => (cases h; exact ⟨c, rfl, fun ps z => by cases z⟩)
theorem core_get {b : Addr} {u : HO} (n : b ≠ p) (h : H b = some u) (nt : ∀ ps, u ≠ .tbl ps) : core p H b = some u := by
  unfold core
  rw [if_neg n, h]
  cases u with
  | tbl ps => exact absurd rfl (nt ps)
  | _ => rfl
theorem core_le : Same (core p H) H := fun b u h => (core_some h).2.1
theorem same_core (e : Same H H') : Same (core p H) (core p H') := fun b u h => by
  obtain ⟨h1, h2, h3⟩ := core_some h
  exact core_get h1 (e b u h2) h3
theorem But.core (e : But p H H') : Same (core p H) (core p H') := fun b u h => by
  obtain ⟨h1, h2, h3⟩ := core_some h
  exact core_get h1 (e.2.2.1 b u h1 h2) h3
theorem ext_core (e : LamX.ExtN H H') : Same (core p H) (core p H') := fun b u h => by
  obtain ⟨h1, h2, h3⟩ := core_some h
  exact core_get h1 (e b u h2 h3) h3
theorem core_tup (n : a ≠ p) (h : H a = some (.tup xs)) : SqT K (core p H) a xs := SqT.of (core_get n h (fun _ z => by cases z))
theorem core_lst (n : a ≠ p) (h : H a = some (.lst xs)) : SqL K (core p H) a xs := SqL.of (core_get n h (fun _ z => by cases z))
theorem core_t (h : ∃ ys, H p = some (.lst ys)) (q : SqT K H a xs) : SqT K (core p H) a xs := by
  obtain ⟨ys, hp⟩ := h
  rcases q with (q | ⟨o, q⟩) | q
  · exact .inl (.inl (core_get (fun z => by rw [z, hp] at q; cases q) q (fun _ z => by cases z)))
  · exact .inl (.inr ⟨o, core_get (fun z => by rw [z, hp] at q; cases q) q (fun _ z => by cases z)⟩)
  · exact .inr q
theorem PenK.core {n : Nat} (k : PenK H p n) (e : LamX.ExtN H H') : PenK H' p n := by
  obtain ⟨c, zs, at_, rest, h1, h2, h3, h4⟩ := k
  exact ⟨c, zs, at_, rest, e _ _ h1 (fun _ z => by cases z), h2, e _ _ h3 (fun _ z => by cases z), h4⟩
theorem But.tabs {T : List (Addr × Str)} (e : But p H H') (t : LamX.Tabs T H) : LamX.Tabs T H' := fun q hq => by
  obtain ⟨ps, h1, h2, h3⟩ := t q hq
  obtain ⟨xs, hp⟩ := e.1
  refine ⟨ps, e.2.2.1 _ _ (fun z => by rw [z, hp] at h1; cases h1) h1, h2, fun pos cv hc => ?_⟩
  obtain ⟨c, e1, e2⟩ := h3 pos cv hc
  exact ⟨c, e1, e.2.2.1 _ _ (fun z => by rw [z, hp] at e2; unfold LamX.CodeO at e2; cases e2) e2⟩
theorem fm_nil {α : Type} {P : α → Prop} : ∀ x ∈ ([] : List α), P x := fun _ h => by cases h
theorem fm_cons {α : Type} {P : α → Prop} {a : α} {l : List α} (h : P a) (k : ∀ x ∈ l, P x) : ∀ x ∈ a :: l, P x := fun x hx => by
  rcases List.mem_cons.mp hx with rfl | hx
  · exact h
  · exact k x hx
end
end OG


set_option Elab.async false
set_option linter.all false
set_option maxRecDepth 100000
set_option maxHeartbeats 4000000
/-! GL: how much room the text of small data takes. -/
namespace OG
open PySem PySem.Spec PyProof.Rows L2
theorem un65 {k : Nat} {A : Around} (r : Room k A) : A.units + 65 < cLine := by have := r.un; omega
theorem log_lt {n : Nat} {i : Int} (h : SzI n i) (h0 : 0 < n) : i.natAbs.log2 < n := by
  by_cases c : i.natAbs = 0
  · rw [c]
    exact h0
  · exact (Nat.log2_lt c).mpr h
theorem int_show {n : Nat} {i : Int} (h : SzI n i) (h0 : 0 < n) (h1 : n ≤ 999) : (PyData.shown (.int i)).length ≤ 1000 := by
  have e := int_text_length_le h0 (log_lt h h0)
  have e2 : (PyData.shown (.int i)).length = (toString i).length := by
    show (Str.ofString (toString i)).length = _
    exact PySem.ofString_length _
  omega
theorem int_able {n : Nat} {i : Int} (h : SzI n i) (h0 : 0 < n) (h1 : n ≤ 1920) : PyData.showable (.int i) = true := decide_eq_true (Nat.lt_of_lt_of_le (log_lt h h0) h1)
theorem int_weight {n : Nat} {i : Int} (h : SzI n i) (h0 : 0 < n) : PyData.weight (.int i) ≤ n := by
  have := log_lt h h0
  show (if i == 0 then 0 else i.natAbs.log2 + 1) ≤ n
  split <;> omega
/-- what repr asks -/
structure Shw (d : PyData) : Prop where
  a : d.showable = true
  n : d.hasDict = false
  p : d.depth ≤ 64
  l : d.shown.length ≤ sizeLine
/-- bounds of data: its depth, its weight -/
structure ShwB (p w : Nat) (d : PyData) : Prop where
  a : d.showable = true
  n : d.hasDict = false
  p : d.depth ≤ p
  s : d.leavesShort 1000 = true
  w : d.weight ≤ w
theorem ShwB.mono {p q w v : Nat} {d : PyData} (h : ShwB p w d) (e1 : p ≤ q) (e2 : w ≤ v) : ShwB q v d := ⟨h.a, h.n, Nat.le_trans h.p e1, h.s, Nat.le_trans h.w e2⟩
theorem ShwB.int {n : Nat} {i : Int} (h : SzI n i) (h0 : 0 < n) (h1 : n ≤ 999) : ShwB 0 n (.int i) := ⟨int_able h h0 (by omega), rfl, Nat.le_refl 0, decide_eq_true (int_show h h0 h1), int_weight h h0⟩
structure ShwA (p w : Nat) (ds : List PyData) : Prop where
  a : PyData.showableAll ds = true
  n : PyData.hasDictAll ds = false
  p : PyData.depthAll ds ≤ p
  s : PyData.leavesShortAll 1000 ds = true
  w : PyData.weightAll ds ≤ w
theorem ShwA.nil {p w : Nat} : ShwA p w [] := ⟨rfl, rfl, Nat.zero_le _, rfl, Nat.zero_le _⟩
theorem ShwA.cons {p w v : Nat} {d : PyData} {ds : List PyData} (h : ShwB p w d) (k : ShwA p v ds) : ShwA p (w + 1 + v) (d :: ds) where
  a := by show (d.showable && PyData.showableAll ds) = true; rw [h.a, k.a]; rfl
  n := by show (d.hasDict || PyData.hasDictAll ds) = false; rw [h.n, k.n]; rfl
  p := Nat.max_le.mpr ⟨h.p, k.p⟩
  s := by show (d.leavesShort 1000 && PyData.leavesShortAll 1000 ds) = true; rw [h.s, k.s]; rfl
  w := by
    show d.weight + 1 + PyData.weightAll ds ≤ _
    have := h.w
    have := k.w
    omega
theorem ShwA.all {p w : Nat} {ds : List PyData} (h : ∀ d ∈ ds, ShwB p w d) : ShwA p (ds.length * (w + 1)) ds := by
  induction ds with
  | nil => exact .nil
  | cons d ds ih =>
    have k := ShwA.cons (h d List.mem_cons_self) (ih fun x hx => h x (List.mem_cons_of_mem _ hx))
    rw [show (d :: ds).length * (w + 1) = w + 1 + ds.length * (w + 1) by rw [List.length_cons, Nat.succ_mul, Nat.add_comm]]
    exact k
theorem ShwA.list {p w : Nat} {ds : List PyData} (h : ShwA p w ds) : ShwB (p + 1) w (.list ds) := ⟨h.a, h.n, Nat.succ_le_succ h.p, h.s, h.w⟩
theorem ShwA.tup {p w : Nat} {ds : List PyData} (h : ShwA p w ds) : ShwB (p + 1) w (.tuple ds) := ⟨h.a, h.n, Nat.succ_le_succ h.p, h.s, h.w⟩
theorem ShwB.shw {p w : Nat} {d : PyData} (h : ShwB p w d) (h1 : p ≤ 64) (h2 : w ≤ 10000) : Shw d := by
  refine ⟨h.a, h.n, Nat.le_trans h.p h1, ?_⟩
  have k := PyData.shown_le 1000 (by decide) d h.s
  have w := h.w
  have : (1000 + 2) * d.weight ≤ (1000 + 2) * 10000 := Nat.mul_le_mul_left _ (Nat.le_trans w h2)
  rw [sizeLine_eq]
  omega
def dInts (zs : List Int) : PyData := .list (zs.map PyData.int)
theorem shw_ints {n : Nat} {zs : List Int} (h : ∀ z ∈ zs, SzI n z) (h0 : 0 < n) (h1 : n ≤ 999) (hw : zs.length * (n + 1) ≤ 10000) : Shw (dInts zs) := by
  have k : ShwA 0 ((zs.map PyData.int).length * (n + 1)) (zs.map PyData.int) := .all fun d hd => by
    obtain ⟨z, hz, rfl⟩ := List.mem_map.mp hd
    exact .int (h z hz) h0 h1
  exact k.list.shw (by decide) (by rw [List.length_map]; exact hw)
theorem sz_of {n : Nat} {i : Int} (h0 : 0 ≤ i) (h : i < 2 ^ n) : SzI n i := by
  show i.natAbs < 2 ^ n
  have : ((2 ^ n : Nat) : Int) = 2 ^ n := by rw [Int.natCast_pow]; rfl
  omega
section
variable {K : PySem.W.Frag} {H H1 : Hp} {a p : Addr} {xs : List V}
/-- comprehensions whose elements are new objects -/
theorem comp_news {J : It} {n : Nat} {Y : Nat → V → Hp → Prop} (w : Walks J H1 n Y) {te : TE} {σ : L2.St} {j : Nat} {Qd : Addr → Hp → Prop} (f : Nat → HO) (hn : n < sizeLine)
    (step : ∀ i x H2 (N : VK), i < n → Same H1 H2 → Y i x H2 → (∀ t H3, H2 t = none → Same H2 H3 → H3 t = some (f i) → N (.ref t) H3) → te ((wipe σ [j]).set j (some x)) H2 N)
    (kont : ∀ D (ts : List Addr) H', H1 D = none → Same H1 H' → H' D = some (.lst (ts.map V.ref)) → ts.length = n → (∀ i t, ts[i]? = some t → H' t = some (f i)) → Qd D H') :
    ∀ D, H1 D = none → ∃ W : Nat → Nat → Hp → Prop, (∃ m, W 0 m (upd H1 D (.lst []))) ∧ ∀ i m H, W i m H →
      (J.stop i H ∧ Qd D H) ∨ (J.go i H ∧ ∃ Nx : Hp → Prop, (∀ H', Nx H' → ∃ m', m' < m ∧ W (i + 1) m' H') ∧ ∀ x H', J.yld i H x H' → gName j x (wipe σ [j]) H' fun σ2 H2 => wipe σ2 [j] = wipe σ [j] ∧ tYes σ2 H2 fun b H3 =>
        if b = true then te σ2 H3 fun y H4 => ∃ acc, H4 D = some (.lst acc) ∧ acc.length < sizeLine ∧ Nx (upd H4 D (.lst (acc ++ [y]))) else Nx H3) := by
  refine comp_core w (fun i y H => ∃ t, y = .ref t ∧ H t = some (f i)) (fun _ _ _ _ s ⟨t, e, h⟩ => ⟨t, e, s _ _ h⟩) hn (fun D i x H2 N _ hi s hacc y h => step i x H2 N hi s y fun t H3 ht s3 h3 => ?_) fun D ys H' hD s hy hl hr => ?_
  · obtain ⟨acc, hacc⟩ := hacc
    have ne : D ≠ t := fun z => by rw [z, ht] at hacc; cases hacc
    refine h _ H3 (upd (fun _ => none) t (f i)) s3 (by rw [upd_ne ne]) (fun b u e => ?_) ⟨t, rfl, upd_same⟩
    by_cases hb : b = t
    · subst hb
      rw [upd_same] at e
      cases e
      exact h3
    · rw [upd_ne hb] at e
      cases e
  · have : ∀ m (ys : List V) , (∀ i y, ys[i]? = some y → ∃ t, y = .ref t ∧ H' t = some (f (m + i))) → ∃ ts : List Addr, ys = ts.map V.ref ∧ ∀ i t, ts[i]? = some t → H' t = some (f (m + i)) := by
      intro m ys
      induction ys generalizing m with
      | nil => exact fun _ => ⟨[], rfl, fun i t e => by cases e⟩
      | cons y ys ih =>
        intro h
        obtain ⟨t, e1, e2⟩ := h 0 y rfl
        obtain ⟨ts, e3, e4⟩ := ih (m + 1) fun i z e => by
          have := h (i + 1) z (by simpa using e)
          rwa [show m + 1 + i = m + (i + 1) by omega]
        refine ⟨t :: ts, by rw [e1, e3]; rfl, fun i u e => ?_⟩
        cases i with
        | zero =>
          have : t = u := by simpa using e
          rw [← this]
          exact e2
        | succ i =>
          have := e4 i u (by simpa using e)
          rwa [show m + 1 + i = m + (i + 1) by omega] at this
    obtain ⟨ts, e1, e2⟩ := this 0 ys fun i y e => by rw [Nat.zero_add]; exact hr i y e
    subst e1
    exact kont D ts H' hD s hy (by simpa using hl) fun i t e => by
      have := e2 i t e
      rwa [Nat.zero_add] at this
end
end OG


set_option Elab.async false
set_option linter.all false
set_option maxRecDepth 100000
set_option maxHeartbeats 4000000
namespace K5
open PySem PySem.Spec PyProof.Rows L2 ClX OG
def top (i : Nat) : Stmt := PySem.Challenge.pw_otherdiagonal_k05_maps_and_what_they_do.main.body.getD i (.Pass ⟨0, 0, 0, 0⟩)
abbrev s_BadValue_init : Stmt := inClass (top 2) 0
abbrev N_BadValue_init : List Str := ["self", "part"]
theorem sc_BadValue_init : FnScope ["self", "part"] ["self", "part"] (defScope s_BadValue_init) := ⟨rfl, rfl, rfl, by decide +kernel, rfl, by decide +kernel, by decide +kernel⟩
abbrev s_Misfit_init : Stmt := inClass (top 8) 0
abbrev N_Misfit_init : List Str := ["self", "part"]
theorem sc_Misfit_init : FnScope ["self", "part"] ["self", "part"] (defScope s_Misfit_init) := ⟨rfl, rfl, rfl, by decide +kernel, rfl, by decide +kernel, by decide +kernel⟩
abbrev s_is_image : Stmt := top 13
abbrev N_is_image : List Str := ["value", "one"]
theorem sc_is_image : FnScope ["value", "one"] ["value"] (defScope s_is_image) := ⟨rfl, rfl, rfl, by decide +kernel, rfl, by decide +kernel, by decide +kernel⟩
abbrev s_Map_init : Stmt := inClass (top 14) 0
abbrev N_Map_init : List Str := ["self", "images", "one"]
theorem sc_Map_init : FnScope ["self", "images", "one"] ["self", "images"] (defScope s_Map_init) := ⟨rfl, rfl, rfl, by decide +kernel, rfl, by decide +kernel, by decide +kernel⟩
abbrev s_Map_same : Stmt := inClass (top 14) 1
abbrev N_Map_same : List Str := ["cls", "size", "triangle"]
theorem sc_Map_same : FnScope ["cls", "size", "triangle"] ["cls", "size"] (defScope s_Map_same) := ⟨rfl, rfl, rfl, by decide +kernel, rfl, by decide +kernel, by decide +kernel⟩
abbrev s_Map_place : Stmt := inClass (top 14) 2
abbrev N_Map_place : List Str := ["self", "place", "image", "shift", "face", "side"]
theorem sc_Map_place : FnScope ["self", "place", "image", "shift", "face", "side"] ["self", "place"] (defScope s_Map_place) := ⟨rfl, rfl, rfl, by decide +kernel, rfl, by decide +kernel, by decide +kernel⟩
abbrev s_Map_corner : Stmt := inClass (top 14) 3
abbrev N_Map_corner : List Str := ["self", "corner", "image", "shift", "face", "side"]
theorem sc_Map_corner : FnScope ["self", "corner", "image", "shift", "face", "side"] ["self", "corner"] (defScope s_Map_corner) := ⟨rfl, rfl, rfl, by decide +kernel, rfl, by decide +kernel, by decide +kernel⟩
abbrev s_Map_face : Stmt := inClass (top 14) 4
abbrev N_Map_face : List Str := ["self", "triangle"]
theorem sc_Map_face : FnScope ["self", "triangle"] ["self", "triangle"] (defScope s_Map_face) := ⟨rfl, rfl, rfl, by decide +kernel, rfl, by decide +kernel, by decide +kernel⟩
abbrev s_Map_then : Stmt := inClass (top 14) 5
abbrev N_Map_then : List Str := ["self", "other", "found", "triangle", "image", "shift", "face", "place"]
theorem sc_Map_then : FnScope ["self", "other", "found", "triangle", "image", "shift", "face", "place"] ["self", "other"] (defScope s_Map_then) := ⟨rfl, rfl, rfl, by decide +kernel, rfl, by decide +kernel, by decide +kernel⟩
abbrev s_Map_back : Stmt := inClass (top 14) 6
abbrev N_Map_back : List Str := ["self", "found", "triangle", "image", "shift", "face"]
theorem sc_Map_back : FnScope ["self", "found", "triangle", "image", "shift", "face"] ["self"] (defScope s_Map_back) := ⟨rfl, rfl, rfl, by decide +kernel, rfl, by decide +kernel, by decide +kernel⟩
abbrev s_Map_len : Stmt := inClass (top 14) 7
abbrev N_Map_len : List Str := ["self"]
theorem sc_Map_len : FnScope ["self"] ["self"] (defScope s_Map_len) := ⟨rfl, rfl, rfl, by decide +kernel, rfl, by decide +kernel, by decide +kernel⟩
abbrev s_Map_eq : Stmt := inClass (top 14) 8
abbrev N_Map_eq : List Str := ["self", "other"]
theorem sc_Map_eq : FnScope ["self", "other"] ["self", "other"] (defScope s_Map_eq) := ⟨rfl, rfl, rfl, by decide +kernel, rfl, by decide +kernel, by decide +kernel⟩

/-! ### where the defs stand -/
structure Ad where
  f_BadValue_init : Addr
  d_BadValue_init : FuncData
  f_Misfit_init : Addr
  d_Misfit_init : FuncData
  f_is_image : Addr
  d_is_image : FuncData
  f_Map_init : Addr
  d_Map_init : FuncData
  f_Map_same : Addr
  d_Map_same : FuncData
  f_Map_place : Addr
  d_Map_place : FuncData
  f_Map_corner : Addr
  d_Map_corner : FuncData
  f_Map_face : Addr
  d_Map_face : FuncData
  f_Map_then : Addr
  d_Map_then : FuncData
  f_Map_back : Addr
  d_Map_back : FuncData
  f_Map_len : Addr
  d_Map_len : FuncData
  f_Map_eq : Addr
  d_Map_eq : FuncData
  f_law_pen : Addr
  d_law_pen : FuncData
  f_law_draw : Addr
  d_law_draw : FuncData
  f_law_pick : Addr
  d_law_pick : FuncData
  f_law_next : Addr
  d_law_next : FuncData
  f_law_heard : Addr
  d_law_heard : FuncData
  f_law_images : Addr
  d_law_images : FuncData
  f_law_end : Addr
  d_law_end : FuncData
  f_law_right : Addr
  d_law_right : FuncData
  f_law : Addr
  d_law : FuncData
  c_PlanError : Addr
  c_BadValue : Addr
  c_BadNumber : Addr
  c_BadPlan : Addr
  c_BadPaper : Addr
  c_BadText : Addr
  c_BadCommand : Addr
  c_Misfit : Addr
  c_NoTurn : Addr
  c_Nothing : Addr
  c_TooMany : Addr
  c_Map : Addr
  cd_law : Addr
  tb_law : Addr
  m_PE : Value
  m_Map : Value
  p_same : Addr

structure Txt (K : PySem.W.Frag) (mg : Str → Option Value) (A : Ad) : Prop where
  F_BadValue_init : Fun K "__init__" "BadValue.__init__" s_BadValue_init A.f_BadValue_init A.d_BadValue_init
  F_Misfit_init : Fun K "__init__" "Misfit.__init__" s_Misfit_init A.f_Misfit_init A.d_Misfit_init
  F_is_image : Fun K "is_image" "is_image" s_is_image A.f_is_image A.d_is_image
  F_Map_init : Fun K "__init__" "Map.__init__" s_Map_init A.f_Map_init A.d_Map_init
  F_Map_same : Fun K "same" "Map.same" s_Map_same A.f_Map_same A.d_Map_same
  F_Map_place : Fun K "place" "Map.place" s_Map_place A.f_Map_place A.d_Map_place
  F_Map_corner : Fun K "corner" "Map.corner" s_Map_corner A.f_Map_corner A.d_Map_corner
  F_Map_face : Fun K "face" "Map.face" s_Map_face A.f_Map_face A.d_Map_face
  F_Map_then : Fun K "then" "Map.then" s_Map_then A.f_Map_then A.d_Map_then
  F_Map_back : Fun K "back" "Map.back" s_Map_back A.f_Map_back A.d_Map_back
  F_Map_len : Fun K "__len__" "Map.__len__" s_Map_len A.f_Map_len A.d_Map_len
  F_Map_eq : Fun K "__eq__" "Map.__eq__" s_Map_eq A.f_Map_eq A.d_Map_eq
  g_is_image : mg "is_image" = some (.ref A.f_is_image)
  n_isinstance : mg "isinstance" = none
  n_int : mg "int" = none
  n_bool : mg "bool" = none
  n_list : mg "list" = none
  n_tuple : mg "tuple" = none
  n_len : mg "len" = none
  n_all : mg "all" = none
  n_range : mg "range" = none
  n_sorted : mg "sorted" = none
  n_enumerate : mg "enumerate" = none
  m_place : Meth K A.c_Map "place" A.f_Map_place
  m_corner : Meth K A.c_Map "corner" A.f_Map_corner
  m_face : Meth K A.c_Map "face" A.f_Map_face
  m_then : Meth K A.c_Map "then" A.f_Map_then
  m_back : Meth K A.c_Map "back" A.f_Map_back
  g_Map : mg "Map" = some (.ref A.c_Map)
  i_Map : InsC K A.c_Map
  mk_Map : Mk K A.c_Map A.f_Map_init
  na_Map : NoAttr K A.c_Map "images"
  cr_Map : CRead K A.c_Map A.m_Map
  cm_same : CMet K A.c_Map A.m_Map "same" A.p_same A.f_Map_same
  l_Map : PySem.W.findIn K (.ref A.c_Map) "__len__" = some (some (.ref A.f_Map_len))
  fn_Map_len : PySem.W.isFn K (.ref A.f_Map_len) = true
  e_Map : PySem.W.findIn K (.ref A.c_Map) "__eq__" = some (some (.ref A.f_Map_eq))
  fn_Map_eq : PySem.W.isFn K (.ref A.f_Map_eq) = true
  ne_Map : NeC K A.c_Map A.f_Map_eq
  g_PlanError : mg "PlanError" = some (.ref A.c_PlanError)
  base : BaseC K A.c_PlanError A.m_PE
  g_BadValue : mg "BadValue" = some (.ref A.c_BadValue)
  o_BadValue : OexC K A.c_BadValue
  n_BadValue : PySem.W.findIn K (.ref A.c_BadValue) "part" = some none
  i_BadValue : PySem.W.findIn K (.ref A.c_BadValue) "__init__" = some (some (.ref A.f_BadValue_init))
  t_BadValue : PySem.W.typeIn K (.ref A.f_BadValue_init) = some (.type "function")
  g_Misfit : mg "Misfit" = some (.ref A.c_Misfit)
  o_Misfit : OexC K A.c_Misfit
  n_Misfit : PySem.W.findIn K (.ref A.c_Misfit) "part" = some none
  i_Misfit : PySem.W.findIn K (.ref A.c_Misfit) "__init__" = some (some (.ref A.f_Misfit_init))
  t_Misfit : PySem.W.typeIn K (.ref A.f_Misfit_init) = some (.type "function")

section
variable {P : Program} {w : World} {K : PySem.W.Frag} {mg : Str → Option Value} {base : Heap} {A : Ad}
theorem b_BadValue_init {f : Addr} {fd : FuncData} (F : Fun K "__init__" "BadValue.__init__" s_BadValue_init f fd) : L2.Binds K fd ["self", "part"] [] := F.binds (ps := ["self", "part"]) fun _ _ _ _ _ _ us hl => match us, hl with | [_, _], _ => rfl
theorem b_Misfit_init {f : Addr} {fd : FuncData} (F : Fun K "__init__" "Misfit.__init__" s_Misfit_init f fd) : L2.Binds K fd ["self", "part"] [] := F.binds (ps := ["self", "part"]) fun _ _ _ _ _ _ us hl => match us, hl with | [_, _], _ => rfl
theorem b_is_image {f : Addr} {fd : FuncData} (F : Fun K "is_image" "is_image" s_is_image f fd) : L2.Binds K fd ["value"] [] := F.binds (ps := ["value"]) fun _ _ _ _ _ _ us hl => match us, hl with | [_], _ => rfl
theorem b_Map_init {f : Addr} {fd : FuncData} (F : Fun K "__init__" "Map.__init__" s_Map_init f fd) : L2.Binds K fd ["self", "images"] [] := F.binds (ps := ["self", "images"]) fun _ _ _ _ _ _ us hl => match us, hl with | [_, _], _ => rfl
theorem b_Map_same {f : Addr} {fd : FuncData} (F : Fun K "same" "Map.same" s_Map_same f fd) : L2.Binds K fd ["cls", "size"] [] := F.binds (ps := ["cls", "size"]) fun _ _ _ _ _ _ us hl => match us, hl with | [_, _], _ => rfl
theorem b_Map_place {f : Addr} {fd : FuncData} (F : Fun K "place" "Map.place" s_Map_place f fd) : L2.Binds K fd ["self", "place"] [] := F.binds (ps := ["self", "place"]) fun _ _ _ _ _ _ us hl => match us, hl with | [_, _], _ => rfl
theorem b_Map_corner {f : Addr} {fd : FuncData} (F : Fun K "corner" "Map.corner" s_Map_corner f fd) : L2.Binds K fd ["self", "corner"] [] := F.binds (ps := ["self", "corner"]) fun _ _ _ _ _ _ us hl => match us, hl with | [_, _], _ => rfl
theorem b_Map_face {f : Addr} {fd : FuncData} (F : Fun K "face" "Map.face" s_Map_face f fd) : L2.Binds K fd ["self", "triangle"] [] := F.binds (ps := ["self", "triangle"]) fun _ _ _ _ _ _ us hl => match us, hl with | [_, _], _ => rfl
theorem b_Map_then {f : Addr} {fd : FuncData} (F : Fun K "then" "Map.then" s_Map_then f fd) : L2.Binds K fd ["self", "other"] [] := F.binds (ps := ["self", "other"]) fun _ _ _ _ _ _ us hl => match us, hl with | [_, _], _ => rfl
theorem b_Map_back {f : Addr} {fd : FuncData} (F : Fun K "back" "Map.back" s_Map_back f fd) : L2.Binds K fd ["self"] [] := F.binds (ps := ["self"]) fun _ _ _ _ _ _ us hl => match us, hl with | [_], _ => rfl
theorem b_Map_len {f : Addr} {fd : FuncData} (F : Fun K "__len__" "Map.__len__" s_Map_len f fd) : L2.Binds K fd ["self"] [] := F.binds (ps := ["self"]) fun _ _ _ _ _ _ us hl => match us, hl with | [_], _ => rfl
theorem b_Map_eq {f : Addr} {fd : FuncData} (F : Fun K "__eq__" "Map.__eq__" s_Map_eq f fd) : L2.Binds K fd ["self", "other"] [] := F.binds (ps := ["self", "other"]) fun _ _ _ _ _ _ us hl => match us, hl with | [_, _], _ => rfl
theorem un64 {k : Nat} {A : Around} (r : Room k A) : A.units + 64 < cLine := by have := r.un; omega
/-! ### the errors' __init__ -/
theorem ok_BadValue_init (T : Txt K mg A) : FnOk P w K mg base CX0 1 A.f_BadValue_init A.d_BadValue_init ["self", "part"] (spInit A.c_BadValue) := by
  refine T.F_BadValue_init.ok sc_BadValue_init (fun vs H Q E h => ?_) (fun cdv Ar outer s H vs Q E hr h => ?_)
  · obtain ⟨a, v, rfl, _⟩ := h
    rfl
  · obtain ⟨a, v, rfl, ha, k⟩ := h
    refine ⟨_, (pss_cons (ps_expr (pe_binit T.base rfl T.g_PlanError (pa_cons (pv 0) (pa_cons (pv 1) pa_nil))))
      (pss_one (ps_ost (pv 0) (pv 1)))), ?_⟩
    exact ⟨_, rfl, _, rfl, a, A.c_BadValue, [v], rfl, by show 1 ≤ 1000; decide, T.o_BadValue, ha, _, rfl, _, rfl, a, A.c_BadValue, rfl, T.o_BadValue, T.n_BadValue, .inl ⟨ha, k⟩⟩
theorem ok_Misfit_init (T : Txt K mg A) : FnOk P w K mg base CX0 1 A.f_Misfit_init A.d_Misfit_init ["self", "part"] (spInit A.c_Misfit) := by
  refine T.F_Misfit_init.ok sc_Misfit_init (fun vs H Q E h => ?_) (fun cdv Ar outer s H vs Q E hr h => ?_)
  · obtain ⟨a, v, rfl, _⟩ := h
    rfl
  · obtain ⟨a, v, rfl, ha, k⟩ := h
    refine ⟨_, (pss_cons (ps_expr (pe_binit T.base rfl T.g_PlanError (pa_cons (pv 0) (pa_cons (pv 1) pa_nil))))
      (pss_one (ps_ost (pv 0) (pv 1)))), ?_⟩
    exact ⟨_, rfl, _, rfl, a, A.c_Misfit, [v], rfl, by show 1 ≤ 1000; decide, T.o_Misfit, ha, _, rfl, _, rfl, a, A.c_Misfit, rfl, T.o_Misfit, T.n_Misfit, .inl ⟨ha, k⟩⟩
end
end K5


set_option Elab.async false
set_option linter.all false
set_option maxRecDepth 100000
set_option maxHeartbeats 4000000
namespace K5
open PySem PySem.Spec PyProof.Rows L2 ClX OG
theorem two_line : (2 : Nat) ≤ sizeLine := by decide
theorem three_line : (3 : Nat) ≤ sizeLine := by decide
/-! ### images -/
abbrev Im := Int × Int × Int
def imV (x : Im) : List V := [.int x.1, .int x.2.1, .int x.2.2]
def seqIm : List V → Option Im
  | [.int i, .int s, .int f] => if 0 ≤ i ∧ (s = 0 ∨ s = 1 ∨ s = 2) ∧ (f = 0 ∨ f = 1) then some (i, s, f) else none
  | _ => none
/-- neither a list nor a tuple -/
def Oth (K : PySem.W.Frag) (H : Hp) (x : V) : Prop := ∀ H', Same H H' → ∃ t, TyX K H' x t ∧ PySem.W.kitAny K t [.type "list", .type "tuple"] = some false
/-- v told as an image -/
inductive ImV (K : PySem.W.Frag) (H : Hp) : V → Option Im → Prop
  | oth {x : V} (h : Oth K H x) : ImV K H x none
  | seq {a : Addr} {xs : List V} (h : SqS K H a xs) (hk : ∀ x ∈ xs, Knd K H x) (hl : xs.length ≤ 1000) : ImV K H (.ref a) (seqIm xs)
section
variable {P : Program} {w : World} {K : PySem.W.Frag} {mg : Str → Option Value} {base : Heap} {A : Ad} {H H' : Hp} {x : V} {r : Option Im}
theorem Oth.mono (e : Same H H') (h : Oth K H x) : Oth K H' x := fun H2 s => h H2 (e.trans s)
theorem ImV.mono (e : Same H H') (h : ImV K H x r) : ImV K H' x r := by
  cases h with
  | oth h => exact .oth (h.mono e)
  | seq h hk hl => exact .seq (same_s e h) (fun y hy => (hk y hy).mono e) hl
theorem pcl2 : Paired ClsV [.ty "list", .ty "tuple"] [.type "list", .type "tuple"] := .cons (.ty _) (.cons (.ty _) .nil)
theorem seqIm_bad {xs : List V} (h : xs.length = 3 → (xs.map isI).all id = false) : seqIm xs = none := by
  unfold seqIm
  split
  · rename_i i s f
    have := h rfl
    cases this
  · rfl
theorem seqIm_ok {i s f : Int} : seqIm [.int i, .int s, .int f] = if 0 ≤ i ∧ (s = 0 ∨ s = 1 ∨ s = 2) ∧ (f = 0 ∨ f = 1) then some (i, s, f) else none := rfl
def spIsImage (K : PySem.W.Frag) : Sp := fun vs H Q _ => ∃ x r, vs = [x] ∧ ImV K H x r ∧ ∀ H', Same H H' → Q (.bl r.isSome) H'
theorem ok_is_image (T : Txt K mg A) : FnOk P w K mg base CX0 1 A.f_is_image A.d_is_image ["value"] (spIsImage K) := by
  refine T.F_is_image.ok sc_is_image (fun vs H Q E h => ?_) (fun cdv Ar outer s H vs Q E hr h => ?_)
  · obtain ⟨_, _, rfl, _⟩ := h
    rfl
  · obtain ⟨x, r, rfl, hx, q⟩ := h
    refine ⟨_, (pss_cons (ps_if (PW.pt (pw_or (pt_not (pt_val (pe_callB (id := "isinstance") (r := rIsiT K) call_isiT (by rfl) T.n_isinstance (by decide +kernel) (pa_cons (pv 0) (pa_cons (pe_tup (pa_cons (pe_bltn (v := .ty "list") (by rfl) T.n_list (by decide +kernel) rfl) (pa_cons (pe_bltn (v := .ty "tuple") (by rfl) T.n_tuple (by decide +kernel) rfl) pa_nil))) pa_nil))))) (pw_or1 (pt_cmpR op_ne (pe_callB call_len (by rfl) T.n_len (by decide +kernel) (pa_cons (pv 0) pa_nil)) pe_int (nomark _))))) (pss_one (ps_ret pe_bl)) pss_nil)
      (pss_cons (ps_if (pt_not (pt_val (pe_callB (cr_all rfl) (by rfl) T.n_all (by decide +kernel) (pa_cons (pe_lc (own := [("one", 1)]) (g := gName 1) (by rfl) sc_is_image.nd (pi_seqW (pv 0)) (blkOk_by (own := [("one", 1)]) (N := N_is_image) (sc := defScope s_is_image) (by decide +kernel)) (fun _ _ _ _ _ => pg_name (i := 1) sc_is_image.nd rfl (Or.inl rfl)) (fun _ _ _ _ _ => pts_nil) (fun _ _ _ _ _ => (pe_and (pe_callB (id := "isinstance") (r := rIsi K) call_isi (by rfl) T.n_isinstance (by decide +kernel) (pa_cons (pv 1) (pa_cons (pe_bltn (v := .ty "int") (by rfl) T.n_int (by decide +kernel) rfl) pa_nil))) (pe_one (pe_not (pe_callB (id := "isinstance") (r := rIsi K) call_isi (by rfl) T.n_isinstance (by decide +kernel) (pa_cons (pv 1) (pa_cons (pe_bltn (v := .ty "bool") (by rfl) T.n_bool (by decide +kernel) rfl) pa_nil)))))))) pa_nil)))) (pss_one (ps_ret pe_bl)) pss_nil)
      (pss_one (ps_ret (pe_and (pe_cmpR op_ge (pe_ix ix_seq (pv 0) pe_int (fun _ _ => rfl)) pe_int (nomark _)) (pe_and (pe_cmpR op_in_seq (pe_ix ix_seq (pv 0) pe_int (fun _ _ => rfl)) (pe_tup (pa_cons pe_int (pa_cons pe_int (pa_cons pe_int pa_nil)))) (by with_unfolding_all rfl)) (pe_one (pe_cmpR op_in_seq (pe_ix ix_seq (pv 0) pe_int (fun _ _ => rfl)) (pe_tup (pa_cons pe_int (pa_cons pe_int pa_nil))) (by with_unfolding_all rfl))))))))), ?_⟩
    refine ⟨_, rfl, two_line, fun tp htp => ?_⟩
    have s1 : Same H (upd H tp (.tup [.ty "list", .ty "tuple"])) := same_new htp
    generalize hH1 : upd H tp (.tup [.ty "list", .ty "tuple"]) = H1 at s1
    have htp1 : H1 tp = some (.tup [.ty "list", .ty "tuple"]) := by rw [← hH1]; exact upd_same
    cases hx with
    | oth h =>
      obtain ⟨t, ty, ka⟩ := h H1 s1
      exact ⟨_, tp, _, t, _, _, rfl, htp1, pcl2, ty, ka, _, rfl, iteT (iteT (q _ s1))⟩
    | @seq a xs hq hk hl =>
      have hq1 := same_s s1 hq
      obtain ⟨t, ty, ka⟩ := seq_kit hq1
      refine ⟨_, tp, _, t, _, _, rfl, htp1, pcl2, ty, ka, _, rfl, iteF ?_⟩
      refine ⟨_, rfl, _, xs.length, rfl, len_s hq1, rfl, _, rfl, ?_⟩
      by_cases h3 : xs.length = 3
      · have e2 : decide (V.int ((xs.length : Nat) : Int) = V.int 3) = true := decide_eq_true (by rw [h3] <;> rfl)
        rw [e2]
        refine iteF ?_
        refine ⟨_, rfl, a, xs, rfl, hq1, fun J w => comp_val (w H1 rfl) (fun i => .bl (isI (xs.getD i .non))) (Nat.lt_of_le_of_lt hl (by decide)) (fun i x H2 N hi s2 hx k => ?_) (fun D H2 _ s2 hD => ?_)⟩
        · obtain ⟨t, ht, h1, h2⟩ := ((hk x (List.mem_of_getElem? hx)).mono (s1.trans s2)).isint
          have ex : xs.getD i .non = x := by rw [List.getD_eq_getElem?_getD, hx]; rfl
          rw [ex] at k
          refine ⟨_, rfl, x, .ty "int", t, .type "int", _, rfl, .ty _, ht, h1, _, rfl, ?_⟩
          cases x with
          | int i => exact iteT ⟨_, rfl, _, .ty "bool", t, .type "bool", _, rfl, .ty _, ht, h2, _, rfl, k _ (Same.refl _)⟩
          | bl b => exact iteT ⟨_, rfl, _, .ty "bool", t, .type "bool", _, rfl, .ty _, ht, h2, _, rfl, k _ (Same.refl _)⟩
          | _ => exact iteF (k _ (Same.refl _))
        · rw [map_range xs (fun x => V.bl (isI x)) .non] at hD
          have s3 := s1.trans s2
          have hq2 := same_s s3 hq
          refine ⟨D, xs.map isI, rfl, SqL.of (by rw [List.map_map]; exact hD), _, rfl, ?_⟩
          by_cases hb : (xs.map isI).all id = true
          · rw [hb]
            obtain ⟨i, s', f, rfl⟩ : ∃ i s f, xs = [V.int i, V.int s, V.int f] := by
              match xs, h3, hb with
              | [.int i, .int s, .int f], _, _ => exact ⟨i, s, f, rfl⟩
            rw [seqIm_ok] at q
            refine iteF ⟨_, rfl, rix_s hq2 (atI_nat (j := 0) rfl) ⟨_, _, rfl, rfl, _, rfl, ?_⟩⟩
            by_cases c1 : 0 ≤ i
            · rw [decide_eq_true c1]
              refine iteT ⟨_, rfl, rix_s hq2 (atI_nat (j := 1) rfl) ⟨three_line, fun t1 ht1 => ⟨t1, _, rfl, .inr (.inl (.inl upd_same)), rfl, rfl, _, rfl, ?_⟩⟩⟩
              have s4 := s3.trans (same_new (o := .tup [.int 0, .int 1, .int 2]) ht1)
              have hq3 := same_s s4 hq
              by_cases c2 : s' = 0 ∨ s' = 1 ∨ s' = 2
              · have e : (if false = true then !inV (V.int s') [V.int 0, V.int 1, V.int 2] else inV (V.int s') [V.int 0, V.int 1, V.int 2]) = true := by
                  rcases c2 with rfl | rfl | rfl <;> rfl
                rw [e]
                refine iteT ⟨_, rfl, rix_s hq3 (atI_nat (j := 2) rfl) ⟨two_line, fun t2 ht2 => ⟨t2, _, rfl, .inr (.inl (.inl upd_same)), rfl, rfl, ?_⟩⟩⟩
                have s5 := s4.trans (same_new (o := .tup [.int 0, .int 1]) ht2)
                have e2 : (if false = true then !inV (V.int f) [V.int 0, V.int 1] else inV (V.int f) [V.int 0, V.int 1]) = decide (f = 0 ∨ f = 1) := by
                  rw [if_neg Bool.false_ne_true, show [V.int 0, V.int 1] = [(0 : Int), 1].map V.int from rfl, inV_ints]
                  simp
                rw [e2]
                have z := q _ s5
                by_cases c3 : f = 0 ∨ f = 1
                · rw [if_pos ⟨c1, c2, c3⟩] at z
                  rw [decide_eq_true c3]
                  exact z
                · rw [if_neg (fun z => c3 z.2.2)] at z
                  rw [decide_eq_false c3]
                  exact z
              · have e : (if false = true then !inV (V.int s') [V.int 0, V.int 1, V.int 2] else inV (V.int s') [V.int 0, V.int 1, V.int 2]) = false := by
                  rw [if_neg Bool.false_ne_true, show [V.int 0, V.int 1, V.int 2] = [(0 : Int), 1, 2].map V.int from rfl, inV_ints]
                  simpa using c2
                rw [e]
                rw [if_neg (fun z => c2 z.2.1)] at q
                exact iteF (q _ s4)
            · rw [decide_eq_false c1]
              rw [if_neg (fun z => c1 z.1)] at q
              exact iteF (q _ s3)
          · rw [Bool.eq_false_iff.mpr hb]
            rw [seqIm_bad (fun _ => Bool.eq_false_iff.mpr hb)] at q
            exact iteT (q _ s3)
      · have e2 : decide (V.int ((xs.length : Nat) : Int) = V.int 3) = false := decide_eq_false fun z => h3 (by injection z with z; omega)
        rw [e2]
        rw [seqIm_bad (fun z => absurd z h3)] at q
        exact iteT (q _ s1)
end
end K5


set_option Elab.async false
set_option linter.all false
set_option maxRecDepth 100000
set_option maxHeartbeats 4000000
namespace K5
open PySem PySem.Spec PyProof.Rows L2 ClX OG
/-! ### rows of images; maps made -/
/-- each number once -/
def Whole (ims : List Im) : Prop := ims ≠ [] ∧ (ims.map (·.1)).Perm ((List.range ims.length).map fun i : Nat => (i : Int))
instance (ims : List Im) : Decidable (Whole ims) := by unfold Whole; infer_instance
def OkIm (m : Im) : Prop := 0 ≤ m.1 ∧ (m.2.1 = 0 ∨ m.2.1 = 1 ∨ m.2.1 = 2) ∧ (m.2.2 = 0 ∨ m.2.2 = 1)
def Good (ims : List Im) : Prop := Whole ims ∧ ∀ m ∈ ims, OkIm m
/-- what rows of images are worth -/
def rowsOf (rs : List (Option Im)) : Option (List Im) := if (rs.map Option.isSome).all id = true ∧ Whole (rs.filterMap id) then some (rs.filterMap id) else none
/-- v told as rows of images -/
inductive RowsV (K : PySem.W.Frag) (H : Hp) : V → Option (List Im) → Prop
  | oth {x : V} (h : Oth K H x) : RowsV K H x none
  | seq {a : Addr} {xs : List V} (rs : List (Option Im)) (h : SqS K H a xs) (hl : xs.length < 64) (e : rs.length = xs.length) (hk : ∀ (i : Nat) x r, xs[i]? = some x → rs[i]? = some r → ImV K H x r) : RowsV K H (.ref a) (rowsOf rs)
/-- images as they are kept -/
def ImsT (K : PySem.W.Frag) (H : Hp) (xs : List V) (ims : List Im) : Prop := xs.length = ims.length ∧ ∀ (i : Nat) x m, xs[i]? = some x → ims[i]? = some m → ∃ t, x = .ref t ∧ SqT K H t (imV m)
/-- a made map -/
def MapA (K : PySem.W.Frag) (C : Addr) (H : Hp) (a : Addr) (ims : List Im) : Prop := ∃ dx t xs, H a = some (.ins C dx [("images", .ref t)]) ∧ H t = some (.tup xs) ∧ ImsT K H xs ims ∧ Good ims ∧ ims.length < 64
section
variable {P : Program} {w : World} {K : PySem.W.Frag} {mg : Str → Option Value} {base : Heap} {A : Ad} {H H' : Hp} {x : V}
theorem RowsV.mono {r : Option (List Im)} (e : Same H H') (h : RowsV K H x r) : RowsV K H' x r := by
  cases h with
  | oth h => exact .oth (h.mono e)
  | seq rs h hl q hk => exact .seq rs (same_s e h) hl q fun i y r h1 h2 => (hk i y r h1 h2).mono e
theorem ImsT.mono {xs : List V} {ims : List Im} (e : Same H H') (h : ImsT K H xs ims) : ImsT K H' xs ims := ⟨h.1, fun i x m h1 h2 => let ⟨t, h3, h4⟩ := h.2 i x m h1 h2; ⟨t, h3, same_t e h4⟩⟩
theorem MapA.mono {C a : Addr} {ims : List Im} (e : Same H H') (h : MapA K C H a ims) : MapA K C H' a ims := by
  obtain ⟨dx, t, xs, h1, h2, h3, h4⟩ := h
  exact ⟨dx, t, xs, e _ _ h1, e _ _ h2, h3.mono e, h4⟩
/-- BadValue, out of an __init__ of the instance at p -/
def BadB (C p : Addr) (w : Str) (H : Hp) (E : XK) : Prop := ∀ d H', SameBut p H H' → H' d = some (.xd [("part", .str w)]) → E (.ref C) (some d) H'
def spMapInit (K : PySem.W.Frag) (A : Ad) : Sp := fun vs H Q E => ∃ (p dx : Addr) (x : V) (r : Option (List Im)) (H0 : Hp), vs = [.ref p, x] ∧ H p = some (.ins A.c_Map dx []) ∧ H0 p = none ∧ Same H0 H ∧ RowsV K H0 x r ∧
  (r = none → BadB A.c_BadValue p "images" H E) ∧ ∀ ims, r = some ims → ∀ t xs H', SameBut p H H' → H' p = some (.ins A.c_Map dx [("images", .ref t)]) → H' t = some (.tup xs) → ImsT K H' xs ims → Q .non H'
theorem all_some {rs : List (Option Im)} (h : (rs.map Option.isSome).all id = true) : rs = (rs.filterMap id).map some := by
  induction rs with
  | nil => rfl
  | cons r rs ih =>
    rw [List.map_cons, List.all_cons, Bool.and_eq_true] at h
    cases r with
    | none => cases h.1
    | some m =>
      show some m :: rs = some m :: (rs.filterMap id).map some
      rw [← ih h.2]
theorem ImV.tup {m : Im} (h : ImV K H x (some m)) : ∃ b zs, x = .ref b ∧ SqS K H b zs ∧ zs = imV m := by
  generalize hr : some m = r at h
  cases h with
  | oth h => cases hr
  | @seq a xs hq hk hl =>
    refine ⟨a, xs, rfl, hq, ?_⟩
    unfold seqIm at hr
    split at hr
    · split at hr
      · cases hr
        rfl
      · cases hr
    · cases hr
theorem ok_Map_init (T : Txt K mg A) : FnOk P w K mg base (L2.CX P w) 3 A.f_Map_init A.d_Map_init ["self", "images"] (spMapInit K A) := by
  refine T.F_Map_init.okX sc_Map_init (fun vs H Q E h => ?_) (fun cdv Ar outer s H vs Q E hr h => ?_)
  · obtain ⟨_, _, _, _, _, rfl, _⟩ := h
    rfl
  · obtain ⟨p, dx, x, r, H0, rfl, hp, hp0, s0, hx, qb, qg⟩ := h
    refine ⟨_, (pss_cons (ps_if (PW.pt (pw_or (pt_not (pt_val (pe_callB (id := "isinstance") (r := rIsiT K) call_isiT (by rfl) T.n_isinstance (by decide +kernel) (pa_cons (pv 1) (pa_cons (pe_tup (pa_cons (pe_bltn (v := .ty "list") (by rfl) T.n_list (by decide +kernel) rfl) (pa_cons (pe_bltn (v := .ty "tuple") (by rfl) T.n_tuple (by decide +kernel) rfl) pa_nil))) pa_nil))))) (pw_or1 (pt_not (pt_val (pe_callB (cr_all rfl) (by rfl) T.n_all (by decide +kernel) (pa_cons (pe_lc (own := [("one", 2)]) (g := gName 2) (by rfl) sc_Map_init.nd (pi_seqW (pv 1)) (blkOk_by (own := [("one", 2)]) (N := N_Map_init) (sc := defScope s_Map_init) (by decide +kernel)) (fun _ _ _ _ _ => pg_name (i := 2) sc_Map_init.nd rfl (Or.inl rfl)) (fun _ _ _ _ _ => pts_nil) (fun _ _ _ _ _ => (pe_call (ok_is_image T) (hr.mono (by decide)) rfl T.g_is_image T.F_is_image.kp (b_is_image T.F_is_image) .nil pass0 (pa_cons (pv 2) pa_nil)))) pa_nil))))))) (pss_one (ps_raise rfl (takes_of rfl rfl rfl rfl) (pmk_oex T.o_BadValue T.i_BadValue T.t_BadValue (ok_BadValue_init T) (hr.mono (by decide)) (b_BadValue_init T.F_BadValue_init) .nil pass0 rfl T.g_BadValue (pa_cons pe_str pa_nil)))) pss_nil)
      (pss_cons (ps_fld (pv 0) (pe_callTy call_tuple_of (by rfl) T.n_tuple (by decide +kernel) (pa_cons (pe_lc (own := [("one", 2)]) (g := gName 2) (by rfl) sc_Map_init.nd (pi_seqW (pv 1)) (blkOk_by (own := [("one", 2)]) (N := N_Map_init) (sc := defScope s_Map_init) (by decide +kernel)) (fun _ _ _ _ _ => pg_name (i := 2) sc_Map_init.nd rfl (Or.inl rfl)) (fun _ _ _ _ _ => pts_nil) (fun _ _ _ _ _ => (pe_callTy (T := "tuple") (r := rTupOf K) call_tuple_of (by rfl) T.n_tuple (by decide +kernel) (pa_cons (pv 2) pa_nil)))) pa_nil)) rfl)
      (pss_one (ps_if (PW.pt (pw_or (pt_cmpR op_eq (pe_callB call_len (by rfl) T.n_len (by decide +kernel) (pa_cons (pv 1) pa_nil)) pe_int (nomark _)) (pw_or1 (pt_cmpR (op_neD (un64 hr)) (pe_callB cr_sorted (by rfl) T.n_sorted (by decide +kernel) (pa_cons (pe_lc (own := [("one", 2)]) (g := gName 2) (by rfl) sc_Map_init.nd (pi_seqW (pe_fld (pv 0) rfl)) (blkOk_by (own := [("one", 2)]) (N := N_Map_init) (sc := defScope s_Map_init) (by decide +kernel)) (fun _ _ _ _ _ => pg_name (i := 2) sc_Map_init.nd rfl (Or.inl rfl)) (fun _ _ _ _ _ => pts_nil) (fun _ _ _ _ _ => (pe_ix (r := rIxT K) ix_tup (pv 2) pe_int (fun _ _ => rfl)))) pa_nil)) (pe_listRg (by rfl) (by rfl) T.n_list (prg_1 (by rfl) T.n_range (pe_callB call_len (by rfl) T.n_len (by decide +kernel) (pa_cons (pv 1) pa_nil)))) (nomark _))))) (pss_one (ps_raise rfl (takes_of rfl rfl rfl rfl) (pmk_oex T.o_BadValue T.i_BadValue T.t_BadValue (ok_BadValue_init T) (hr.mono (by decide)) (b_BadValue_init T.F_BadValue_init) .nil pass0 rfl T.g_BadValue (pa_cons pe_str pa_nil)))) pss_nil)))), ?_⟩
    refine ⟨_, rfl, two_line, fun tp htp => ?_⟩
    have s1 : Same H (upd H tp (.tup [.ty "list", .ty "tuple"])) := same_new htp
    generalize hH1 : upd H tp (.tup [.ty "list", .ty "tuple"]) = H1 at s1
    have htp1 : H1 tp = some (.tup [.ty "list", .ty "tuple"]) := by rw [← hH1]; exact upd_same
    have bad : ∀ H', SameBut p H H' → r = none → [V.str "images"].length ≤ 1000 ∧ ∀ a, H' a = none → spInit A.c_BadValue (.ref a :: ([.str "images"] ++ [])) (upd H' a (exo a A.c_BadValue none))
        (fun u H2 => u = .non ∧ ∃ (d : Addr) (fs : List (Str × V)), H2 a = some (exo a A.c_BadValue (some d)) ∧ H2 d = some (exd d fs) ∧ H' d = none ∧ E (.ref A.c_BadValue) (some d) (upd (del H2 a) d (.xd fs))) (fun _ _ _ => False) := fun H' sH hn => raise_go fun d H2 s2 h2 => qb hn d H2 (sH.trans s2.but) h2
    cases hx with
    | oth h =>
      obtain ⟨t, ty, ka⟩ := h H1 (s0.trans s1)
      exact ⟨_, tp, _, t, _, _, rfl, htp1, pcl2, ty, ka, _, rfl, iteT (iteT (bad _ s1.but rfl))⟩
    | @seq a xs rs hq hl he hk =>
      have hq1 := same_s (s0.trans s1) hq
      obtain ⟨t, ty, ka⟩ := seq_kit hq1
      refine ⟨_, tp, _, t, _, _, rfl, htp1, pcl2, ty, ka, _, rfl, iteF ?_⟩
      refine ⟨_, rfl, a, xs, rfl, hq1, fun J wk => comp_val (wk H1 rfl) (fun i => .bl (rs.getD i none).isSome) (Nat.lt_of_lt_of_le hl (by decide)) (fun i x H2 N hi s2 hx k => ?_) (fun D H2 hD0 s2 hD => ?_)⟩
      · obtain ⟨r, hr⟩ : ∃ r, rs[i]? = some r := ⟨_, List.getElem?_eq_getElem (by omega)⟩
        have ex : rs.getD i none = r := by rw [List.getD_eq_getElem?_getD, hr]; rfl
        rw [ex] at k
        exact ⟨_, rfl, x, r, rfl, (hk i x r hx hr).mono (s0.trans (s1.trans s2)), fun H' s' => k H' s'⟩
      · have hm := map_range rs (fun r => V.bl r.isSome) none
        rw [he] at hm
        rw [hm] at hD
        have s3 := s1.trans s2
        refine ⟨D, rs.map Option.isSome, rfl, SqL.of (by rw [List.map_map]; exact hD), _, rfl, ?_⟩
        by_cases hb : (rs.map Option.isSome).all id = true
        · rw [hb]
          refine iteF ?_
          have hq3 := same_s (s0.trans s3) hq
          refine ⟨_, rfl, a, xs, rfl, hq3, fun J wk => comp_core (wk H2 rfl) (fun i y H => ∃ t m, y = .ref t ∧ (rs.filterMap id)[i]? = some m ∧ SqT K H t (imV m)) (fun i y H H' s ⟨t, m, h1, h2, h3⟩ => ⟨t, m, h1, h2, same_t s h3⟩) (Nat.lt_of_lt_of_le hl (by decide)) (fun D3 i x H4 N hD3 hi s4 hacc hx k => ?_) (fun D3 ys H4 hD03 s4 hD3 hly hys => ?_)⟩
          · have hrs := all_some hb
            obtain ⟨m, hm1, hm2⟩ : ∃ m, rs[i]? = some (some m) ∧ (rs.filterMap id)[i]? = some m := by
              generalize rs.filterMap id = ims at hrs
              subst hrs
              rw [List.length_map] at he
              have hi2 : i < ims.length := by omega
              exact ⟨ims[i], by rw [List.getElem?_map, List.getElem?_eq_getElem hi2]; rfl, List.getElem?_eq_getElem hi2⟩
            obtain ⟨b, zs, rfl, hz, rfl⟩ := (hk i x _ hx hm1).tup
            have hz2 := same_s (s0.trans s3) hz
            rcases hz2 with hz2 | hz2
            · refine ⟨_, rfl, b, _, rfl, .inl ⟨s4.seq hz2, fun l hl0 => ?_⟩⟩
              obtain ⟨acc, hacc⟩ := hacc
              have ne : D3 ≠ l := fun z => by rw [z, hl0] at hacc; cases hacc
              exact k _ _ (upd (fun _ => none) l (.tup (imV m))) (same_new hl0) (by rw [upd_ne ne]) (fun b u e => by
                by_cases hb : b = l
                · subst hb
                  rw [upd_same] at e ⊢
                  exact e
                · rw [upd_ne hb] at e
                  cases e) ⟨l, m, rfl, hm2, .inl (.inl upd_same)⟩
            · exact ⟨_, rfl, b, _, rfl, .inr ⟨same_t s4 hz2, k _ _ H2 (Same.refl _) hD3 s4 ⟨b, m, rfl, hm2, hz2⟩⟩⟩
          · have s14 := s1.trans (s2.trans s4)
            have hl4 : (rs.filterMap id).length = xs.length := by
              have := congrArg List.length (all_some hb)
              rw [List.length_map] at this
              omega
            refine ⟨D3, ys, rfl, .inl ⟨SqL.of hD3, fun l hl0 => ?_⟩⟩
            refine ⟨_, rfl, p, A.c_Map, dx, [], rfl, (same_new hl0) _ _ (s14 _ _ hp), T.i_Map.cl, T.na_Map, by show 0 < 1000; decide, ?_⟩
            have hpl : p ≠ l := fun z => by rw [← z, s14 _ _ hp] at hl0; cases hl0
            have b5 : SameBut p H (upd (upd H4 l (.tup ys)) p (.ins A.c_Map dx (putF "images" (.ref l) []))) := (s14.trans (same_new hl0)).but.trans sameBut_upd
            have s5 : Same H0 (upd (upd H4 l (.tup ys)) p (.ins A.c_Map dx (putF "images" (.ref l) []))) := fun b u e => b5 b u (ne_of_none e hp0) (s0 _ _ e)
            have hp5 : (upd (upd H4 l (.tup ys)) p (.ins A.c_Map dx (putF "images" (.ref l) []))) p = some (.ins A.c_Map dx [("images", .ref l)]) := upd_same
            have hl5 : (upd (upd H4 l (.tup ys)) p (.ins A.c_Map dx (putF "images" (.ref l) []))) l = some (.tup ys) := by rw [upd_ne hpl.symm, upd_same]
            have hi5 : ImsT K (upd (upd H4 l (.tup ys)) p (.ins A.c_Map dx (putF "images" (.ref l) []))) ys (rs.filterMap id) := by
              refine ⟨by omega, fun i y m h1 h2 => ?_⟩
              obtain ⟨t, m', e1, e2, e3⟩ := hys i y h1
              rw [h2] at e2
              cases e2
              exact ⟨t, e1, sqt_but (sameBut_upd (p := p)) ((same_new hl0) _ _ (s14 _ _ hp)) (same_t (same_new hl0) e3)⟩
            generalize (upd (upd H4 l (.tup ys)) p (.ins A.c_Map dx (putF "images" (.ref l) []))) = H5 at b5 s5 hp5 hl5 hi5
            refine ⟨_, rfl, _, xs.length, rfl, len_s (same_s s5 hq), rfl, _, rfl, ?_⟩
            generalize hims : rs.filterMap id = ims at hi5 hl4
            have hrow : rowsOf rs = if Whole ims then some ims else none := by
              unfold rowsOf
              rw [hims]
              by_cases hw : Whole ims
              · rw [if_pos ⟨hb, hw⟩, if_pos hw]
              · rw [if_neg (fun z => hw z.2), if_neg hw]
            by_cases h0 : xs.length = 0
            · have e : decide (V.int ((xs.length : Nat) : Int) = V.int 0) = true := decide_eq_true (by rw [h0] <;> rfl)
              rw [e]
              refine iteT (bad _ b5 ?_)
              rw [hrow, if_neg (fun z => z.1 (List.eq_nil_of_length_eq_zero (by omega)))]
            · have e : decide (V.int ((xs.length : Nat) : Int) = V.int 0) = false := decide_eq_false fun z => h0 (by injection z with z; omega)
              rw [e]
              refine iteF ⟨_, rfl, p, A.c_Map, dx, _, _, rfl, hp5, T.i_Map.cl, T.na_Map, rfl, l, ys, rfl, .inr (.inl (.inl hl5)), fun J wk => comp_val (wk H5 rfl) (fun i => .int (ims.getD i (0, 0, 0)).1) (by rw [hly]; exact Nat.lt_of_lt_of_le hl (by decide)) (fun i x H6 N hi s6 hx k => ?_) (fun D6 H6 hD06 s6 hD6 => ?_)⟩
              · obtain ⟨m, hm⟩ : ∃ m, ims[i]? = some m := ⟨_, List.getElem?_eq_getElem (by omega)⟩
                obtain ⟨t, rfl, e3⟩ := hi5.2 i x m hx hm
                have ex : ims.getD i (0, 0, 0) = m := by rw [List.getD_eq_getElem?_getD, hm]; rfl
                rw [ex] at k
                exact ⟨_, rfl, t, imV m, 0, _, rfl, rfl, same_t s6 e3, atI_nat (j := 0) rfl, k _ (Same.refl _)⟩
              · have hm := map_range ims (fun m => V.int m.1) (0, 0, 0)
                rw [hl4.trans hly.symm] at hm
                rw [hm] at hD6
                have e6 : ims.map (fun m => V.int m.1) = (ims.map (·.1)).map V.int := by rw [List.map_map]; rfl
                rw [e6] at hD6
                refine ⟨D6, ims.map (·.1), rfl, SqL.of hD6, by rw [List.length_map]; omega, fun ns' q hperm hpw hq0 => ?_⟩
                have s7 := same_new (o := .lst (ns'.map V.int)) hq0
                have b7 : SameBut p H (upd H6 q (.lst (ns'.map V.int))) := b5.trans (s6.trans s7).but
                have hq7 := same_s (s5.trans (s6.trans s7)) hq
                refine ⟨_, rfl, _, xs.length, rfl, len_s hq7, _, rfl, RgOk.of_le (by omega) (by omega) (by omega) (by omega), fun q2 hq2 => ?_⟩
                have s8 := same_new (o := .lst (rgV 0 ((xs.length : Nat) : Int))) hq2
                refine ⟨_, _, .lst (s8.seq (SqL.of upd_same)) (dpa_ints ns'), .lst (SqL.of (by rw [upd_same, rgV_ints])) (dpa_ints _), shaped_ints _, shaped_ints _, _, rfl, ?_⟩
                rw [eqv_ints]
                by_cases hw : Whole ims
                · have hns : ns' = (List.range xs.length).map fun i : Nat => (i : Int) := by
                    refine List.Perm.eq_of_pairwise (fun _ _ _ _ a b => Int.le_antisymm a b) hpw ?_ (hperm.trans (by rw [← hl4]; exact hw.2))
                    rw [List.pairwise_map]
                    exact List.Pairwise.imp (fun h => by omega) List.pairwise_lt_range
                  rw [decide_eq_true hns]
                  refine iteF (qg ims (by rw [hrow, if_pos hw]) l ys _ (b7.trans s8.but) ((s6.trans (s7.trans s8)) _ _ hp5) ((s6.trans (s7.trans s8)) _ _ hl5) (hi5.mono (s6.trans (s7.trans s8))))
                · have hns : ns' ≠ (List.range xs.length).map fun i : Nat => (i : Int) := fun z => hw ⟨fun z2 => h0 (by rw [← hl4, z2]; rfl), by rw [hl4, ← z]; exact hperm.symm⟩
                  rw [decide_eq_false hns]
                  exact iteT (bad _ (b7.trans s8.but) (by rw [hrow, if_neg hw]))
        · rw [Bool.eq_false_iff.mpr hb]
          have hn : rowsOf rs = none := if_neg fun z => hb z.1
          exact iteT (bad _ s3.but hn)
theorem ImV.ok {m : Im} (h : ImV K H x (some m)) : OkIm m := by
  generalize hr : some m = r at h
  cases h with
  | oth h => cases hr
  | @seq a xs hq hk hl =>
    unfold seqIm at hr
    split at hr
    · split at hr
      · rename_i hc
        cases hr
        exact hc
      · cases hr
    · cases hr
theorem RowsV.good {ims : List Im} (h : RowsV K H x (some ims)) : Good ims ∧ ims.length < 64 := by
  generalize hr : some ims = r at h
  cases h with
  | oth h => cases hr
  | seq rs hq hl he hk =>
    unfold rowsOf at hr
    split at hr
    · rename_i hc
      have hrs := all_some hc.1
      have hw := hc.2
      have e : rs.filterMap id = ims := by injection hr with hr; exact hr.symm
      rw [e] at hrs hw
      have hlen := congrArg List.length hrs
      rw [List.length_map] at hlen
      refine ⟨⟨hw, fun m hm => ?_⟩, by omega⟩
      obtain ⟨i, hi⟩ := List.mem_iff_getElem?.mp hm
      have hir : rs[i]? = some (some m) := by
        rw [hrs, List.getElem?_map, hi]
        rfl
      have hlt : i < ims.length := (List.getElem?_eq_some_iff.mp hi).1
      exact (hk i _ _ (List.getElem?_eq_getElem (by omega)) hir).ok
    · cases hr
/-- Map(y): what is wished of it -/
theorem make_ok {Q : VK} {E : XK} {r : Option (List Im)} (hx : RowsV K H x r) (qb : r = none → BadE A.c_BadValue "images" H E) (qg : ∀ ims, r = some ims → ∀ a H', Same H H' → H a = none → MapA K A.c_Map H' a ims → Q (.ref a) H') :
    ∀ a dx, H a = none → H dx = none → dx ≠ a → spMapInit K A (.ref a :: ([x] ++ [])) (upd (upd H dx (.own a)) a (.ins A.c_Map dx [])) (fun v H2 => v = .non ∧ Q (.ref a) H2) E := by
  intro a dx ha hd hn
  refine ⟨a, dx, x, r, H, rfl, upd_same, ha, fun b u e => ?_, hx, fun hr d H' sb h => qb hr d H' (sb.made ha hd) h, fun ims hr t xs H' sb h1 h2 h3 => ⟨rfl, ?_⟩⟩
  · rw [upd_ne (ne_of_none e ha), upd_ne (ne_of_none e hd)]
    exact e
  · subst hr
    exact qg ims rfl a H' (sb.made ha hd) ha ⟨dx, t, xs, h1, h2, h3, hx.good⟩
end
end K5


set_option Elab.async false
set_option linter.all false
set_option maxRecDepth 100000
set_option maxHeartbeats 4000000
namespace K5
open PySem PySem.Spec PyProof.Rows L2 ClX OG
/-! ### where places, corners and faces go -/
abbrev i0 : Im := (0, 0, 0)
def imAt (ims : List Im) (k : Int) : Im := ims.getD k.toNat i0
def pl (ims : List Im) (p : Int) : Int := 3 * (imAt ims (p / 3)).1 + (if (imAt ims (p / 3)).2.2 = 0 then ((imAt ims (p / 3)).2.1 + p % 3) % 3 else ((imAt ims (p / 3)).2.1 - p % 3) % 3)
def co (ims : List Im) (p : Int) : Int := 3 * (imAt ims (p / 3)).1 + (if (imAt ims (p / 3)).2.2 = 0 then ((imAt ims (p / 3)).2.1 + p % 3) % 3 else ((imAt ims (p / 3)).2.1 - p % 3 + 1) % 3)
section
variable {P : Program} {w : World} {K : PySem.W.Frag} {mg : Str → Option Value} {base : Heap} {A : Ad} {H H' : Hp} {x : V}
theorem cdiv3 {p : Int} : CDiv p 3 := ⟨by decide, by decide⟩
theorem MapA.row {C a : Addr} {ims : List Im} {k : Int} (h : MapA K C H a ims) (h0 : 0 ≤ k) (h1 : k < (ims.length : Int)) : ∃ dx t xs b, H a = some (.ins C dx [("images", .ref t)]) ∧ H t = some (.tup xs) ∧ atI xs k = some (.ref b) ∧ SqT K H b (imV (imAt ims k)) := by
  obtain ⟨dx, t, xs, e1, e2, e3, e4, e5⟩ := h
  have hk : k = ((k.toNat : Nat) : Int) := by omega
  have hm : ims[k.toNat]? = some (imAt ims k) := by
    unfold imAt
    rw [List.getD_eq_getElem?_getD, List.getElem?_eq_getElem (by omega)]
    rfl
  obtain ⟨x, hx⟩ : ∃ x, xs[k.toNat]? = some x := ⟨_, List.getElem?_eq_getElem (by have := e3.1; omega)⟩
  obtain ⟨b, e6, e7⟩ := e3.2 _ _ _ hx hm
  refine ⟨dx, t, xs, b, e1, e2, ?_, e7⟩
  rw [hk]
  refine atI_nat (j := k.toNat) ?_
  rw [← e6]
  exact hx
theorem im_small {ims : List Im} {k : Int} (hw : Whole ims) (hl : ims.length < 64) (h0 : 0 ≤ k) (h1 : k < (ims.length : Int)) : 0 ≤ (imAt ims k).1 ∧ (imAt ims k).1 < (ims.length : Int) := by
  have hm : imAt ims k ∈ ims := by
    unfold imAt
    rw [List.getD_eq_getElem?_getD, List.getElem?_eq_getElem (by omega)]
    exact List.getElem_mem _
  have := (hw.2.mem_iff).mp (List.mem_map_of_mem (f := (·.1)) hm)
  obtain ⟨i, h2, h3⟩ := List.mem_map.mp this
  have := List.mem_range.mp h2
  omega
def spPlace (K : PySem.W.Frag) (A : Ad) (f : List Im → Int → Int) : Sp := fun vs H Q _ => ∃ (a : Addr) (ims : List Im) (p : Int), vs = [.ref a, .int p] ∧ MapA K A.c_Map H a ims ∧ 0 ≤ p ∧ p < 3 * (ims.length : Int) ∧ Q (.int (f ims p)) H
theorem ok_Map_place (T : Txt K mg A) : FnOk P w K mg base CX0 1 A.f_Map_place A.d_Map_place ["self", "place"] (spPlace K A pl) := by
  refine T.F_Map_place.ok sc_Map_place (fun vs H Q E h => ?_) (fun cdv Ar outer s H vs Q E hr h => ?_)
  · obtain ⟨_, _, _, rfl, _⟩ := h
    rfl
  · obtain ⟨a, ims, p, rfl, hm, h0, h1, q⟩ := h
    refine ⟨_, (pss_cons (ps_asg (pe_ix ix_tup (pe_fld (pv 0) rfl) (pe_op op_fdiv (pv 1) pe_int) (fun _ _ => rfl)) (pg_tup rfl (pgs_cons (pg_name (i := 2) sc_Map_place.nd rfl (Or.inl rfl)) (pgs_cons (pg_name (i := 3) sc_Map_place.nd rfl (Or.inl rfl)) (pgs_cons (pg_name (i := 4) sc_Map_place.nd rfl (Or.inl rfl)) pgs_nil)))))
      (pss_cons (ps_set (i := 5) sc_Map_place.nd rfl (Or.inl rfl) (pe_op op_mod (pv 1) pe_int))
      (pss_one (ps_ret (pe_op op_add (pe_op op_mul pe_int (pv 2)) (pe_ifExp (pt_cmpR op_eq (pv 4) pe_int (nomark _)) (pe_op op_mod (pe_op op_add (pv 3) (pv 5)) pe_int) (pe_op op_mod (pe_op op_sub (pv 3) (pv 5)) pe_int))))))), ?_⟩
    have k0 : 0 ≤ p / 3 := by omega
    have k1 : p / 3 < (ims.length : Int) := by omega
    obtain ⟨dx, t, xs, b, e1, e2, e3, e4⟩ := hm.row k0 k1
    obtain ⟨_, _, _, _, _, _, hw, hl⟩ := hm
    refine ⟨_, rfl, a, A.c_Map, dx, _, _, rfl, e1, T.i_Map.cl, T.na_Map, rfl, ?_⟩
    refine ⟨_, rfl, _, _, rfl, rfl, cdiv3, _, _, _, _, rfl, rfl, .inl (.inl e2), e3, ?_⟩
    generalize hmm : imAt ims (p / 3) = m at e4
    have hs := im_small hw.1 hl k0 k1
    rw [hmm] at hs
    have hpl : pl ims p = 3 * m.1 + (if m.2.2 = 0 then (m.2.1 + p % 3) % 3 else (m.2.1 - p % 3) % 3) := by unfold pl; rw [hmm]
    rw [hpl] at q
    obtain ⟨mi, ms, mf⟩ := m
    dsimp only at hs q
    refine ⟨b, _, rfl, e4, rfl, _, _, rfl, _, _, rfl, _, _, rfl, rfl, ?_⟩
    refine ⟨_, rfl, _, _, rfl, rfl, (by show (0 : Int) < 3; decide), ?_⟩
    refine ⟨_, rfl, _, _, rfl, rfl, .inl ⟨by decide, by decide⟩, ?_⟩
    refine ⟨_, rfl, rfl, _, rfl, ?_⟩
    by_cases hf : mf = 0
    · rw [if_pos hf] at q
      rw [show decide (V.int mf = V.int 0) = true from decide_eq_true (by rw [hf])]
      exact iteT ⟨_, rfl, _, rfl, _, _, rfl, rfl, _, _, rfl, rfl, (by show (0 : Int) < 3; decide), _, _, rfl, rfl, q⟩
    · rw [if_neg hf] at q
      rw [show decide (V.int mf = V.int 0) = false from decide_eq_false fun z => hf (by injection z)]
      exact iteF ⟨_, rfl, _, rfl, _, _, rfl, rfl, _, _, rfl, rfl, (by show (0 : Int) < 3; decide), _, _, rfl, rfl, q⟩
end
end K5


set_option Elab.async false
set_option linter.all false
set_option maxRecDepth 100000
set_option maxHeartbeats 4000000
namespace K5
open PySem PySem.Spec PyProof.Rows L2 ClX OG
section
variable {P : Program} {w : World} {K : PySem.W.Frag} {mg : Str → Option Value} {base : Heap} {A : Ad} {H H' : Hp} {x : V}
theorem ok_Map_corner (T : Txt K mg A) : FnOk P w K mg base CX0 1 A.f_Map_corner A.d_Map_corner ["self", "corner"] (spPlace K A co) := by
  refine T.F_Map_corner.ok sc_Map_corner (fun vs H Q E h => ?_) (fun cdv Ar outer s H vs Q E hr h => ?_)
  · obtain ⟨_, _, _, rfl, _⟩ := h
    rfl
  · obtain ⟨a, ims, p, rfl, hm, h0, h1, q⟩ := h
    refine ⟨_, (pss_cons (ps_asg (pe_ix ix_tup (pe_fld (pv 0) rfl) (pe_op op_fdiv (pv 1) pe_int) (fun _ _ => rfl)) (pg_tup rfl (pgs_cons (pg_name (i := 2) sc_Map_corner.nd rfl (Or.inl rfl)) (pgs_cons (pg_name (i := 3) sc_Map_corner.nd rfl (Or.inl rfl)) (pgs_cons (pg_name (i := 4) sc_Map_corner.nd rfl (Or.inl rfl)) pgs_nil)))))
      (pss_cons (ps_set (i := 5) sc_Map_corner.nd rfl (Or.inl rfl) (pe_op op_mod (pv 1) pe_int))
      (pss_one (ps_ret (pe_op op_add (pe_op op_mul pe_int (pv 2)) (pe_ifExp (pt_cmpR op_eq (pv 4) pe_int (nomark _)) (pe_op op_mod (pe_op op_add (pv 3) (pv 5)) pe_int) (pe_op op_mod (pe_op op_add (pe_op op_sub (pv 3) (pv 5)) pe_int) pe_int))))))), ?_⟩
    have k0 : 0 ≤ p / 3 := by omega
    have k1 : p / 3 < (ims.length : Int) := by omega
    obtain ⟨dx, t, xs, b, e1, e2, e3, e4⟩ := hm.row k0 k1
    obtain ⟨_, _, _, _, _, _, hw, hl⟩ := hm
    refine ⟨_, rfl, a, A.c_Map, dx, _, _, rfl, e1, T.i_Map.cl, T.na_Map, rfl, ?_⟩
    refine ⟨_, rfl, _, _, rfl, rfl, cdiv3, _, _, _, _, rfl, rfl, .inl (.inl e2), e3, ?_⟩
    generalize hmm : imAt ims (p / 3) = m at e4
    have hs := im_small hw.1 hl k0 k1
    rw [hmm] at hs
    have hco : co ims p = 3 * m.1 + (if m.2.2 = 0 then (m.2.1 + p % 3) % 3 else (m.2.1 - p % 3 + 1) % 3) := by unfold co; rw [hmm]
    rw [hco] at q
    obtain ⟨mi, ms, mf⟩ := m
    dsimp only at hs q
    refine ⟨b, _, rfl, e4, rfl, _, _, rfl, _, _, rfl, _, _, rfl, rfl, ?_⟩
    refine ⟨_, rfl, _, _, rfl, rfl, (by show (0 : Int) < 3; decide), ?_⟩
    refine ⟨_, rfl, _, _, rfl, rfl, .inl ⟨by decide, by decide⟩, ?_⟩
    refine ⟨_, rfl, rfl, _, rfl, ?_⟩
    by_cases hf : mf = 0
    · rw [if_pos hf] at q
      rw [show decide (V.int mf = V.int 0) = true from decide_eq_true (by rw [hf])]
      exact iteT ⟨_, rfl, _, rfl, _, _, rfl, rfl, _, _, rfl, rfl, (by show (0 : Int) < 3; decide), _, _, rfl, rfl, q⟩
    · rw [if_neg hf] at q
      rw [show decide (V.int mf = V.int 0) = false from decide_eq_false fun z => hf (by injection z)]
      exact iteF ⟨_, rfl, _, rfl, _, _, rfl, rfl, _, _, rfl, rfl, _, _, rfl, rfl, (by show (0 : Int) < 3; decide), _, _, rfl, rfl, q⟩
def spFace (K : PySem.W.Frag) (A : Ad) : Sp := fun vs H Q _ => ∃ (a : Addr) (ims : List Im) (k : Int), vs = [.ref a, .int k] ∧ MapA K A.c_Map H a ims ∧ 0 ≤ k ∧ k < (ims.length : Int) ∧ Q (.int (imAt ims k).2.2) H
theorem ok_Map_face (T : Txt K mg A) : FnOk P w K mg base CX0 1 A.f_Map_face A.d_Map_face ["self", "triangle"] (spFace K A) := by
  refine T.F_Map_face.ok sc_Map_face (fun vs H Q E h => ?_) (fun cdv Ar outer s H vs Q E hr h => ?_)
  · obtain ⟨_, _, _, rfl, _⟩ := h
    rfl
  · obtain ⟨a, ims, k, rfl, hm, k0, k1, q⟩ := h
    refine ⟨_, (pss_one (ps_ret (pe_ix ix_tup (pe_ix ix_tup (pe_fld (pv 0) rfl) (pv 1) (fun _ _ => rfl)) pe_int (fun _ _ => rfl)))), ?_⟩
    obtain ⟨dx, t, xs, b, e1, e2, e3, e4⟩ := hm.row k0 k1
    exact ⟨_, rfl, a, A.c_Map, dx, _, _, rfl, e1, T.i_Map.cl, T.na_Map, rfl, _, rfl, _, _, _, _, rfl, rfl, .inl (.inl e2), e3, _, _, _, _, rfl, rfl, e4, atI_nat (j := 2) rfl, q⟩
def spLen (K : PySem.W.Frag) (A : Ad) : Sp := fun vs H Q _ => ∃ (a : Addr) (ims : List Im), vs = [.ref a] ∧ MapA K A.c_Map H a ims ∧ Q (.int (ims.length : Nat)) H
theorem ok_Map_len (T : Txt K mg A) : FnOk P w K mg base CX0 1 A.f_Map_len A.d_Map_len ["self"] (spLen K A) := by
  refine T.F_Map_len.ok sc_Map_len (fun vs H Q E h => ?_) (fun cdv Ar outer s H vs Q E hr h => ?_)
  · obtain ⟨_, _, rfl, _⟩ := h
    rfl
  · obtain ⟨a, ims, rfl, hm, q⟩ := h
    refine ⟨_, (pss_one (ps_ret (pe_callB call_len (by rfl) T.n_len (by decide +kernel) (pa_cons (pe_fld (pv 0) rfl) pa_nil)))), ?_⟩
    obtain ⟨dx, t, xs, e1, e2, e3, e4, e5⟩ := hm
    rw [← e3.1] at q
    exact ⟨_, rfl, a, A.c_Map, dx, _, _, rfl, e1, T.i_Map.cl, T.na_Map, rfl, _, xs.length, rfl, .inr ⟨xs, .inl (.inl e2), rfl⟩, q⟩
end
end K5


set_option Elab.async false
set_option linter.all false
set_option maxRecDepth 100000
set_option maxHeartbeats 4000000
namespace K5
open PySem PySem.Spec PyProof.Rows L2 ClX OG
/-! ### maps compared -/
/-- is v a made map -/
inductive IsMap (K : PySem.W.Frag) (A : Ad) (H : Hp) : V → Option (List Im) → Prop
  | map {a : Addr} {ims : List Im} (h : MapA K A.c_Map H a ims) : IsMap K A H (.ref a) (some ims)
  | no {x : V} {t : Value} (h : TyX K H x t) (k : PySem.W.kitOne K t (.ref A.c_Map) = some false) : IsMap K A H x none
def dIm (m : Im) : PyData := .tuple [.int m.1, .int m.2.1, .int m.2.2]
def dIms (ims : List Im) : PyData := .tuple (ims.map dIm)
theorem eqv_im (m n : Im) : PyData.eqv (dIm m) (dIm n) = decide (m = n) := by
  obtain ⟨a, b, c⟩ := m
  obtain ⟨d, e, f⟩ := n
  show ((a == d) && ((b == e) && ((c == f) && true))) = _
  rw [Bool.eq_iff_iff, decide_eq_true_iff]
  simp
theorem eqv_ims (ims jms : List Im) : PyData.eqv (dIms ims) (dIms jms) = decide (ims = jms) := by
  show PyData.eqvAll (ims.map dIm) (jms.map dIm) = _
  induction ims generalizing jms with
  | nil => cases jms <;> rfl
  | cons m ims ih =>
    cases jms with
    | nil => rfl
    | cons n jms =>
      show (PyData.eqv (dIm m) (dIm n) && PyData.eqvAll (ims.map dIm) (jms.map dIm)) = _
      rw [ih, eqv_im]
      by_cases h : m = n <;> by_cases h2 : ims = jms <;> simp [h, h2]
theorem lay_ims (ims : List Im) : PyData.canLayAll0 (ims.map dIm) = true := by
  induction ims with
  | nil => rfl
  | cons m ims ih =>
    show (PyData.canLay0 (dIm m) && PyData.canLayAll0 (ims.map dIm)) = true
    rw [ih]
    rfl
theorem depth_ims (ims : List Im) : PyData.depthAll (ims.map dIm) ≤ 1 := by
  induction ims with
  | nil => decide
  | cons m ims ih =>
    show Nat.max (PyData.depth (dIm m)) (PyData.depthAll (ims.map dIm)) ≤ 1
    exact Nat.max_le.mpr ⟨Nat.le_of_eq rfl, ih⟩
theorem shaped_ims (ims : List Im) : SeqAt.shaped (dIms ims) = true := by
  refine Bool.and_eq_true_iff.mpr ⟨lay_ims ims, decide_eq_true ?_⟩
  show PyData.depthAll (ims.map dIm) + 1 ≤ 64
  have := depth_ims ims
  omega
section
variable {P : Program} {w : World} {K : PySem.W.Frag} {mg : Str → Option Value} {base : Heap} {A : Ad} {H H' : Hp} {x : V}
theorem dp_im {t : Addr} {m : Im} (h : SqT K H t (imV m)) : Dp K H (.ref t) (dIm m) := .tup h (.cons (.int _) (.cons (.int _) (.cons (.int _) .nil)))
theorem dpa_ims {xs : List V} {ims : List Im} (h : ImsT K H xs ims) : DpAll K H xs (ims.map dIm) := by
  induction ims generalizing xs with
  | nil =>
    obtain rfl : xs = [] := List.eq_nil_of_length_eq_zero h.1
    exact .nil
  | cons m ims ih =>
    cases xs with
    | nil => cases h.1
    | cons x xs =>
      obtain ⟨t, rfl, e⟩ := h.2 0 x m rfl rfl
      exact .cons (dp_im e) (ih ⟨by have := h.1; simpa using this, fun i y n h1 h2 => h.2 (i + 1) y n (by simpa using h1) (by simpa using h2)⟩)
def spEq (K : PySem.W.Frag) (A : Ad) : Sp := fun vs H Q _ => ∃ (a : Addr) (ims : List Im) (y : V) (r : Option (List Im)), vs = [.ref a, y] ∧ MapA K A.c_Map H a ims ∧ IsMap K A H y r ∧ Q (.bl (decide (some ims = r))) H
theorem ok_Map_eq (T : Txt K mg A) : FnOk P w K mg base CX0 1 A.f_Map_eq A.d_Map_eq ["self", "other"] (spEq K A) := by
  refine T.F_Map_eq.ok sc_Map_eq (fun vs H Q E h => ?_) (fun cdv Ar outer s H vs Q E hr h => ?_)
  · obtain ⟨_, _, _, _, rfl, _⟩ := h
    rfl
  · obtain ⟨a, ims, y, r, rfl, hm, hy, q⟩ := h
    refine ⟨_, (pss_one (ps_ret (pe_and (pe_callB (id := "isinstance") (r := rIsi K) call_isi (by rfl) T.n_isinstance (by decide +kernel) (pa_cons (pv 1) (pa_cons (pe_glob (v := .ref A.c_Map) rfl T.g_Map rfl) pa_nil))) (pe_one (pe_cmpR (op_eqD (un64 hr)) (pe_fld (pv 0) rfl) (pe_fld (pv 1) rfl) (nomark _)))))), ?_⟩
    cases hy with
    | no h k =>
      rw [decide_eq_false (fun z => nomatch z)] at q
      exact ⟨_, rfl, _, .ref A.c_Map, _, .ref A.c_Map, _, rfl, .own _, h, k, _, rfl, iteF q⟩
    | @map b jms hb =>
      obtain ⟨dx, t, xs, e1, e2, e3, e4, e5⟩ := hm
      obtain ⟨dy, u, ys, f1, f2, f3, f4, f5⟩ := hb
      refine ⟨_, rfl, _, .ref A.c_Map, _, .ref A.c_Map, true, rfl, .own _, T.i_Map.ty f1, ?_, _, rfl, iteT ?_⟩
      · unfold PySem.W.kitOne
        rw [if_pos (by simp)]
      · refine ⟨_, rfl, a, A.c_Map, dx, _, _, rfl, e1, T.i_Map.cl, T.na_Map, rfl, _, rfl, b, A.c_Map, dy, _, _, rfl, f1, T.i_Map.cl, T.na_Map, rfl, dIms ims, dIms jms, .tup (.inl (.inl e2)) (dpa_ims e3), .tup (.inl (.inl f2)) (dpa_ims f3), shaped_ims _, shaped_ims _, ?_⟩
        rw [eqv_ims]
        have e : decide (some ims = some jms) = decide (ims = jms) := by
          rw [Bool.eq_iff_iff, decide_eq_true_iff, decide_eq_true_iff]
          exact ⟨fun h => Option.some.inj h, fun h => congrArg some h⟩
        rw [← e]
        exact q
end
end K5


set_option Elab.async false
set_option linter.all false
set_option maxRecDepth 100000
set_option maxHeartbeats 4000000
namespace K5
open PySem PySem.Spec PyProof.Rows L2 ClX OG
/-! ### Map.same -/
def sameI (n : Nat) : List Im := (List.range n).map fun i : Nat => ((i : Int), 0, 0)
theorem same_good {n : Nat} (h : 0 < n) : Good (sameI n) := by
  refine ⟨⟨fun z => ?_, ?_⟩, fun m hm => ?_⟩
  · have := congrArg List.length z
    unfold sameI at this
    rw [List.length_map, List.length_range] at this
    simp at this
    omega
  · unfold sameI
    rw [List.map_map, List.length_map, List.length_range]
    exact List.Perm.refl _
  · unfold sameI at hm
    obtain ⟨i, _, rfl⟩ := List.mem_map.mp hm
    exact ⟨Int.natCast_nonneg _, .inl rfl, .inl rfl⟩
section
variable {P : Program} {w : World} {K : PySem.W.Frag} {mg : Str → Option Value} {base : Heap} {A : Ad} {H H' : Hp} {x : V}
/-- rows that were just made -/
theorem rows_made {a : Addr} {ts : List Addr} {ims : List Im} (h : SqS K H a (ts.map V.ref)) (hl : ims.length < 64) (e : ts.length = ims.length) (hk : ∀ (i : Nat) t m, ts[i]? = some t → ims[i]? = some m → SqS K H t (imV m)) (hg : Good ims) : RowsV K H (.ref a) (some ims) := by
  have e1 : rowsOf (ims.map some) = some ims := by
    have e2 : (ims.map some).filterMap id = ims := by
      induction ims with
      | nil => rfl
      | cons m ims ih => simp
    unfold rowsOf
    rw [e2, if_pos]
    refine ⟨?_, hg.1⟩
    rw [List.map_map, List.all_map]
    exact List.all_eq_true.mpr fun m _ => rfl
  rw [← e1]
  refine .seq (ims.map some) h (by rw [List.length_map]; omega) (by rw [List.length_map, List.length_map]; omega) fun i x r h1 h2 => ?_
  rw [List.getElem?_map] at h1 h2
  obtain ⟨t, ht, rfl⟩ := Option.map_eq_some_iff.mp h1
  obtain ⟨m, hm, rfl⟩ := Option.map_eq_some_iff.mp h2
  have hs : seqIm (imV m) = some m := by
    obtain ⟨i0, s0, f0⟩ := m
    have := hg.2 _ (List.mem_of_getElem? hm)
    exact if_pos this
  rw [← hs]
  exact .seq (hk i t m ht hm) (fun y hy => by
    rcases List.mem_cons.mp hy with rfl | hy
    · exact .int _
    · rcases List.mem_cons.mp hy with rfl | hy
      · exact .int _
      · rcases List.mem_cons.mp hy with rfl | hy
        · exact .int _
        · cases hy) (by show 3 ≤ 1000; decide)
def spSame (K : PySem.W.Frag) (A : Ad) : Sp := fun vs H Q _ => ∃ n : Nat, vs = [.ref A.c_Map, .int n] ∧ 0 < n ∧ n < 64 ∧ ∀ a H', Same H H' → MapA K A.c_Map H' a (sameI n) → Q (.ref a) H'
theorem ok_Map_same (T : Txt K mg A) : FnOk P w K mg base (L2.CX P w) 5 A.f_Map_same A.d_Map_same ["cls", "size"] (spSame K A) := by
  refine T.F_Map_same.okX sc_Map_same (fun vs H Q E h => ?_) (fun cdv Ar outer s H vs Q E hr h => ?_)
  · obtain ⟨_, rfl, _⟩ := h
    rfl
  · obtain ⟨n, rfl, h0, h1, q⟩ := h
    refine ⟨_, (pss_one (ps_ret (pe_makeL (i := 0) T.mk_Map (ok_Map_init T) (hr.mono (by decide)) rfl (Or.inl rfl) (b_Map_init T.F_Map_init) (passes_call (takes_of rfl rfl rfl rfl) fun _ _ _ _ h => h) (pa_cons (pe_lc (own := [("triangle", 2)]) (g := gName 2) (by rfl) sc_Map_same.nd (pi_range1 (by rfl) T.n_range (pa_cons (pv 1) pa_nil)) (blkOk_by (own := [("triangle", 2)]) (N := N_Map_same) (sc := defScope s_Map_same) (by decide +kernel)) (fun _ _ _ _ _ => pg_name (i := 2) sc_Map_same.nd rfl (Or.inl rfl)) (fun _ _ _ _ _ => pts_nil) (fun _ _ _ _ _ => (pe_tup (pa_cons (pv 2) (pa_cons pe_int (pa_cons pe_int pa_nil)))))) pa_nil)))), ?_⟩
    refine ⟨rfl, _, rfl, n, rfl, by omega, by omega, ?_⟩
    refine comp_tups walks_range (fun i => imV ((i : Nat), 0, 0)) (by have : sizeLine = sizeLine := rfl; exact Nat.lt_of_lt_of_le (by omega : ((n : Int)).toNat < 64) (by decide)) (fun i x H2 N hi s2 hx k => ?_) (fun D ts H2 hD0 s2 hD hl hts => ?_)
    · subst hx
      refine ⟨_, rfl, three_line, fun t ht => k t _ ht (same_new ht) ?_⟩
      rw [upd_same, Int.zero_add]
      rfl
    · have hn : ((n : Int)).toNat = n := by omega
      have hlen : (sameI n).length = n := by unfold sameI; rw [List.length_map, List.length_range]
      exact make_ok (r := some (sameI n)) (rows_made (.inl (SqL.of hD)) (by omega) (by omega) (fun i t m h1 h2 => by
        have e := hts i t h1
        unfold sameI at h2
        rw [List.getElem?_map] at h2
        obtain ⟨j, hj, rfl⟩ := Option.map_eq_some_iff.mp h2
        have hlt : i < n := by
          have := (List.getElem?_eq_some_iff.mp hj).1
          rwa [List.length_range] at this
        rw [List.getElem?_range hlt] at hj
        cases hj
        exact .inr (.inl (.inl e))) (same_good h0)) (fun z => nomatch z) fun ims e a H' s3 _ hm => by
          cases e
          exact q a H' (s2.trans s3) hm
end
end K5


set_option Elab.async false
set_option linter.all false
set_option maxRecDepth 100000
set_option maxHeartbeats 4000000
namespace K5
open PySem PySem.Spec PyProof.Rows L2 ClX OG
/-! ### one map behind another: the plain part -/
def thenAt (ims jms : List Im) (i : Int) : Im :=
  (pl jms (pl ims (3 * i)) / 3, pl jms (pl ims (3 * i)) % 3, if (imAt jms (imAt ims i).1).2.2 = 0 then (imAt ims i).2.2 else 1 - (imAt ims i).2.2)
def thenI (ims jms : List Im) : List Im := (List.range ims.length).map fun i : Nat => thenAt ims jms i
theorem imAt_ok {ims : List Im} {k : Int} (hg : Good ims) (h0 : 0 ≤ k) (h1 : k < (ims.length : Int)) : OkIm (imAt ims k) := by
  refine hg.2 _ ?_
  unfold imAt
  rw [List.getD_eq_getElem?_getD, List.getElem?_eq_getElem (by omega)]
  exact List.getElem_mem _
theorem imAt_lt {ims : List Im} {k : Int} (hw : Whole ims) (h0 : 0 ≤ k) (h1 : k < (ims.length : Int)) : 0 ≤ (imAt ims k).1 ∧ (imAt ims k).1 < (ims.length : Int) := by
  have hm : imAt ims k ∈ ims := by
    unfold imAt
    rw [List.getD_eq_getElem?_getD, List.getElem?_eq_getElem (by omega)]
    exact List.getElem_mem _
  have := (hw.2.mem_iff).mp (List.mem_map_of_mem (f := (·.1)) hm)
  obtain ⟨i, h2, h3⟩ := List.mem_map.mp this
  have := List.mem_range.mp h2
  omega
/-- the side within the image -/
def sd (m : Im) (s : Int) : Int := if m.2.2 = 0 then (m.2.1 + s) % 3 else (m.2.1 - s) % 3
theorem sd_lt (m : Im) (s : Int) : 0 ≤ sd m s ∧ sd m s < 3 := by
  unfold sd
  split <;> omega
theorem pl_eq (ims : List Im) (p : Int) : pl ims p = 3 * (imAt ims (p / 3)).1 + sd (imAt ims (p / 3)) (p % 3) := rfl
theorem pl_div (ims : List Im) (p : Int) : pl ims p / 3 = (imAt ims (p / 3)).1 := by
  have := sd_lt (imAt ims (p / 3)) (p % 3)
  rw [pl_eq]
  omega
theorem pl_mod (ims : List Im) (p : Int) : pl ims p % 3 = sd (imAt ims (p / 3)) (p % 3) := by
  have := sd_lt (imAt ims (p / 3)) (p % 3)
  rw [pl_eq]
  omega
theorem pl_range {ims : List Im} {p : Int} (hw : Whole ims) (h0 : 0 ≤ p) (h1 : p < 3 * (ims.length : Int)) : 0 ≤ pl ims p ∧ pl ims p < 3 * (ims.length : Int) := by
  have h2 := imAt_lt hw (k := p / 3) (by omega) (by omega)
  have := sd_lt (imAt ims (p / 3)) (p % 3)
  rw [pl_eq]
  omega
theorem thenAt_fst (ims jms : List Im) (i : Int) : (thenAt ims jms i).1 = (imAt jms (imAt ims i).1).1 := by
  show pl jms (pl ims (3 * i)) / 3 = _
  rw [pl_div, pl_div]
  have : 3 * i / 3 = i := by omega
  rw [this]
theorem imAt_nat (ims : List Im) (i : Nat) : imAt ims i = ims.getD i i0 := by
  unfold imAt
  rw [show ((i : Int)).toNat = i by omega]
theorem map_imAt {α : Type} (ims : List Im) (f : Im → α) : (List.range ims.length).map (fun i : Nat => f (imAt ims i)) = ims.map f := by
  rw [← map_range ims f i0]
  exact List.map_congr_left fun i _ => by rw [imAt_nat]
theorem then_good {ims jms : List Im} (hi : Good ims) (hj : Good jms) (e : jms.length = ims.length) : Good (thenI ims jms) := by
  have hlen : (thenI ims jms).length = ims.length := by unfold thenI; rw [List.length_map, List.length_range]
  refine ⟨⟨fun z => ?_, ?_⟩, fun m hm => ?_⟩
  · refine hi.1.1 (List.eq_nil_of_length_eq_zero ?_)
    rw [← hlen, z]
    rfl
  · have e1 : (thenI ims jms).map (·.1) = (ims.map (·.1)).map fun k => (imAt jms k).1 := by
      unfold thenI
      rw [List.map_map, ← map_imAt ims (·.1), List.map_map]
      exact List.map_congr_left fun i _ => thenAt_fst ims jms i
    rw [e1, hlen]
    refine (hi.1.2.map _).trans ?_
    rw [List.map_map]
    have e2 : (List.range ims.length).map ((fun k => (imAt jms k).1) ∘ fun i : Nat => (i : Int)) = jms.map (·.1) := by
      rw [← e, ← map_imAt jms (·.1)]
      rfl
    rw [e2, ← e]
    exact hj.1.2
  · unfold thenI at hm
    obtain ⟨i, h1, rfl⟩ := List.mem_map.mp hm
    have h1 := List.mem_range.mp h1
    have h2 := imAt_lt hi.1 (k := (i : Int)) (by omega) (by omega)
    have h3 := imAt_lt hj.1 h2.1 (by omega)
    have h4 := imAt_ok hi (k := (i : Int)) (by omega) (by omega)
    refine ⟨by rw [thenAt_fst]; exact h3.1, ?_, ?_⟩
    · show pl jms (pl ims (3 * i)) % 3 = 0 ∨ pl jms (pl ims (3 * i)) % 3 = 1 ∨ pl jms (pl ims (3 * i)) % 3 = 2
      omega
    · have h5 := h4.2.2
      show (if (imAt jms (imAt ims i).1).2.2 = 0 then (imAt ims i).2.2 else 1 - (imAt ims i).2.2) = 0 ∨ (if (imAt jms (imAt ims i).1).2.2 = 0 then (imAt ims i).2.2 else 1 - (imAt ims i).2.2) = 1
      by_cases c : (imAt jms (imAt ims i).1).2.2 = 0
      · rw [if_pos c]
        exact h5
      · rw [if_neg c]
        omega
end K5


set_option Elab.async false
set_option linter.all false
set_option maxRecDepth 100000
set_option maxHeartbeats 4000000
namespace K5
open PySem PySem.Spec PyProof.Rows L2 ClX OG
/-! ### maps, in plain -/
def sc (m : Im) (s : Int) : Int := if m.2.2 = 0 then (m.2.1 + s) % 3 else (m.2.1 - s + 1) % 3
theorem sc_lt (m : Im) (s : Int) : 0 ≤ sc m s ∧ sc m s < 3 := by
  unfold sc
  split <;> omega
theorem co_eq (ims : List Im) (p : Int) : co ims p = 3 * (imAt ims (p / 3)).1 + sc (imAt ims (p / 3)) (p % 3) := rfl
theorem co_range {ims : List Im} {p : Int} (hw : Whole ims) (h0 : 0 ≤ p) (h1 : p < 3 * (ims.length : Int)) : 0 ≤ co ims p ∧ co ims p < 3 * (ims.length : Int) := by
  have h2 := imAt_lt hw (k := p / 3) (by omega) (by omega)
  have := sc_lt (imAt ims (p / 3)) (p % 3)
  rw [co_eq]
  omega
/-- one image behind another -/
def cmp (m n : Im) : Im := (n.1, sd n (sd m 0), if n.2.2 = 0 then m.2.2 else 1 - m.2.2)
theorem thenAt_eq (ims jms : List Im) (i : Int) : thenAt ims jms i = cmp (imAt ims i) (imAt jms (imAt ims i).1) := by
  have e1 : pl ims (3 * i) / 3 = (imAt ims i).1 := by rw [pl_div]; rw [show 3 * i / 3 = i by omega]
  have e2 : pl ims (3 * i) % 3 = sd (imAt ims i) 0 := by rw [pl_mod]; rw [show 3 * i / 3 = i by omega, show 3 * i % 3 = 0 by omega]
  unfold thenAt cmp
  rw [pl_div, pl_mod, e1, e2]
theorem len_then (ims jms : List Im) : (thenI ims jms).length = ims.length := by unfold thenI; rw [List.length_map, List.length_range]
theorem imAt_mk {n : Nat} (f : Nat → Im) {k : Nat} (h : k < n) : imAt ((List.range n).map f) (k : Int) = f k := by
  unfold imAt
  rw [Int.toNat_natCast, List.getD_eq_getElem?_getD, List.getElem?_map, List.getElem?_range h]
  rfl
theorem imAt_then {ims jms : List Im} {k : Int} (h0 : 0 ≤ k) (h1 : k < (ims.length : Int)) : imAt (thenI ims jms) k = cmp (imAt ims k) (imAt jms (imAt ims k).1) := by
  obtain ⟨j, rfl⟩ : ∃ j : Nat, k = (j : Int) := ⟨k.toNat, by omega⟩
  unfold thenI
  rw [imAt_mk (fun i : Nat => thenAt ims jms i) (by omega), thenAt_eq]
theorem imAt_same {n : Nat} {k : Int} (h0 : 0 ≤ k) (h1 : k < (n : Int)) : imAt (sameI n) k = (k, 0, 0) := by
  obtain ⟨j, rfl⟩ : ∃ j : Nat, k = (j : Int) := ⟨k.toNat, by omega⟩
  unfold sameI
  rw [imAt_mk (fun i : Nat => ((i : Int), 0, 0)) (by omega)]
theorem len_same (n : Nat) : (sameI n).length = n := by unfold sameI; rw [List.length_map, List.length_range]
theorem im_ext {ims jms : List Im} (e : ims.length = jms.length) (h : ∀ k : Int, 0 ≤ k → k < (ims.length : Int) → imAt ims k = imAt jms k) : ims = jms := by
  refine List.ext_getElem e fun i h1 h2 => ?_
  have := h (i : Int) (by omega) (by omega)
  unfold imAt at this
  rw [Int.toNat_natCast, List.getD_eq_getElem?_getD, List.getD_eq_getElem?_getD, List.getElem?_eq_getElem h1, List.getElem?_eq_getElem h2] at this
  exact this
theorem sd_cmp {m n : Im} (hm : OkIm m) (hn : OkIm n) (s : Int) : sd (cmp m n) s = sd n (sd m s) := by
  obtain ⟨a, b, c⟩ := m
  obtain ⟨d, e, f⟩ := n
  have h1 := hm.2.2
  have h2 := hn.2.2
  unfold cmp sd
  dsimp only at h1 h2 ⊢
  rcases h1 with rfl | rfl <;> rcases h2 with rfl | rfl <;> simp <;> omega
theorem sc_cmp {m n : Im} (hm : OkIm m) (hn : OkIm n) (s : Int) : sc (cmp m n) s = sc n (sc m s) := by
  obtain ⟨a, b, c⟩ := m
  obtain ⟨d, e, f⟩ := n
  have h1 := hm.2.2
  have h2 := hn.2.2
  unfold cmp sc sd
  dsimp only at h1 h2 ⊢
  rcases h1 with rfl | rfl <;> rcases h2 with rfl | rfl <;> simp <;> omega
theorem pl_then {ims jms : List Im} (hi : Good ims) (hj : Good jms) (e : jms.length = ims.length) {p : Int} (h0 : 0 ≤ p) (h1 : p < 3 * (ims.length : Int)) : pl (thenI ims jms) p = pl jms (pl ims p) := by
  have k0 : 0 ≤ p / 3 := by omega
  have k1 : p / 3 < (ims.length : Int) := by omega
  have r := imAt_lt hi.1 k0 k1
  rw [pl_eq (thenI ims jms), pl_eq jms, pl_div, pl_mod, imAt_then k0 k1, sd_cmp (imAt_ok hi k0 k1) (imAt_ok hj r.1 (by omega))]
  rfl
theorem co_div (ims : List Im) (p : Int) : co ims p / 3 = (imAt ims (p / 3)).1 := by
  have := sc_lt (imAt ims (p / 3)) (p % 3)
  rw [co_eq]
  omega
theorem co_mod (ims : List Im) (p : Int) : co ims p % 3 = sc (imAt ims (p / 3)) (p % 3) := by
  have := sc_lt (imAt ims (p / 3)) (p % 3)
  rw [co_eq]
  omega
theorem co_then {ims jms : List Im} (hi : Good ims) (hj : Good jms) (e : jms.length = ims.length) {p : Int} (h0 : 0 ≤ p) (h1 : p < 3 * (ims.length : Int)) : co (thenI ims jms) p = co jms (co ims p) := by
  have k0 : 0 ≤ p / 3 := by omega
  have k1 : p / 3 < (ims.length : Int) := by omega
  have r := imAt_lt hi.1 k0 k1
  rw [co_eq (thenI ims jms), co_eq jms, co_div, co_mod, imAt_then k0 k1, sc_cmp (imAt_ok hi k0 k1) (imAt_ok hj r.1 (by omega))]
  rfl
theorem face_then {ims jms : List Im} (hi : Good ims) (hj : Good jms) (e : jms.length = ims.length) {k : Int} (h0 : 0 ≤ k) (h1 : k < (ims.length : Int)) :
    (imAt (thenI ims jms) k).2.2 = if (imAt ims k).2.2 = (imAt jms (pl ims (3 * k) / 3)).2.2 then 0 else 1 := by
  have r := imAt_lt hi.1 h0 h1
  have f1 := (imAt_ok hi h0 h1).2.2
  have f2 := (imAt_ok hj r.1 (by omega)).2.2
  rw [imAt_then h0 h1, pl_div, show 3 * k / 3 = k by omega]
  show (if (imAt jms (imAt ims k).1).2.2 = 0 then (imAt ims k).2.2 else 1 - (imAt ims k).2.2) = _
  rcases f1 with f1 | f1 <;> rcases f2 with f2 | f2 <;> rw [f1, f2] <;> decide
theorem then_assoc {a b c : List Im} (ha : Good a) (hb : Good b) (hc : Good c) (e1 : b.length = a.length) (e2 : c.length = a.length) : thenI (thenI a b) c = thenI a (thenI b c) := by
  refine im_ext (by simp [len_then]) fun k h0 h1 => ?_
  rw [len_then, len_then] at h1
  have r := imAt_lt ha.1 h0 h1
  have r2 := imAt_lt hb.1 r.1 (by omega)
  rw [imAt_then h0 (by rw [len_then]; exact h1), imAt_then h0 h1, imAt_then h0 h1, imAt_then r.1 (by omega)]
  have o1 := imAt_ok ha h0 h1
  have o2 := imAt_ok hb r.1 (by omega)
  have o3 := imAt_ok hc r2.1 (by omega)
  have e3 := sd_cmp o1 o2 0
  have e4 := sd_cmp o2 o3 (sd (imAt a k) 0)
  show (_, _, _) = (_, _, _)
  refine Prod.ext rfl (Prod.ext ?_ ?_)
  · show sd (imAt c (imAt b (imAt a k).1).1) (sd (cmp (imAt a k) (imAt b (imAt a k).1)) 0) = _
    rw [e3]
    exact e4.symm
  · show (if (imAt c (imAt b (imAt a k).1).1).2.2 = 0 then (cmp (imAt a k) (imAt b (imAt a k).1)).2.2 else 1 - (cmp (imAt a k) (imAt b (imAt a k).1)).2.2) = (if (cmp (imAt b (imAt a k).1) (imAt c (imAt b (imAt a k).1).1)).2.2 = 0 then (imAt a k).2.2 else 1 - (imAt a k).2.2)
    unfold cmp
    dsimp only
    rcases o1.2.2 with f1 | f1 <;> rcases o2.2.2 with f2 | f2 <;> rcases o3.2.2 with f3 | f3 <;> simp [f1, f2, f3]
theorem same_then {ims : List Im} (hi : Good ims) : thenI (sameI ims.length) ims = ims := by
  refine im_ext (by rw [len_then, len_same]) fun k h0 h1 => ?_
  rw [len_then, len_same] at h1
  rw [imAt_then h0 (by rw [len_same]; exact h1), imAt_same h0 h1]
  have o := imAt_ok hi h0 h1
  show cmp (k, 0, 0) (imAt ims k) = imAt ims k
  generalize imAt ims k = m at o
  obtain ⟨a, b, c⟩ := m
  obtain ⟨_, h2, h3⟩ := o
  dsimp only at h2 h3
  unfold cmp sd
  rcases h2 with rfl | rfl | rfl <;> rcases h3 with rfl | rfl <;> rfl
theorem inj {ims : List Im} (hw : Whole ims) {j k : Int} (j0 : 0 ≤ j) (j1 : j < (ims.length : Int)) (k0 : 0 ≤ k) (k1 : k < (ims.length : Int)) (e : (imAt ims j).1 = (imAt ims k).1) : j = k := by
  obtain ⟨a, rfl⟩ : ∃ a : Nat, j = (a : Int) := ⟨j.toNat, by omega⟩
  obtain ⟨b, rfl⟩ : ∃ b : Nat, k = (b : Int) := ⟨k.toNat, by omega⟩
  have nd : (ims.map (·.1)).Nodup := by
    rw [hw.2.nodup_iff]
    exact List.Pairwise.map _ (fun a b (h : a ≠ b) z => h (by omega)) List.nodup_range
  have ha : a < (ims.map (·.1)).length := by rw [List.length_map]; omega
  have hb : b < (ims.map (·.1)).length := by rw [List.length_map]; omega
  have g : ∀ i (h : i < (ims.map (·.1)).length), (ims.map (·.1))[i] = (imAt ims i).1 := fun i h => by
    rw [imAt_nat, List.getD_eq_getElem?_getD, List.getElem?_eq_getElem (by rw [List.length_map] at h; exact h), List.getElem_map]
    rfl
  have := (List.getElem_inj (h₀ := ha) (h₁ := hb) nd).mp (by rw [g a ha, g b hb]; exact e)
  rw [this]
/-! ### a map undone -/
def inv (k : Int) (m : Im) : Im := (k, if m.2.2 = 0 then (0 - m.2.1) % 3 else m.2.1, m.2.2)
def IsBack (ims b : List Im) : Prop := b.length = ims.length ∧ ∀ k : Int, 0 ≤ k → k < (ims.length : Int) → imAt b (imAt ims k).1 = inv k (imAt ims k)
theorem surj {ims : List Im} (hw : Whole ims) {j : Int} (h0 : 0 ≤ j) (h1 : j < (ims.length : Int)) : ∃ k : Int, 0 ≤ k ∧ k < (ims.length : Int) ∧ (imAt ims k).1 = j := by
  have hm : j ∈ (List.range ims.length).map fun i : Nat => (i : Int) := List.mem_map.mpr ⟨j.toNat, List.mem_range.mpr (by omega), by omega⟩
  have := hw.2.mem_iff.mpr hm
  obtain ⟨m, h2, h3⟩ := List.mem_map.mp this
  obtain ⟨i, h4, h5⟩ := List.getElem_of_mem h2
  refine ⟨(i : Int), by omega, by omega, ?_⟩
  rw [imAt_nat, List.getD_eq_getElem?_getD, List.getElem?_eq_getElem h4, h5]
  exact h3
theorem cmp_inv {m : Im} {k : Int} (h : OkIm m) : cmp m (inv k m) = (k, 0, 0) := by
  obtain ⟨a, b, c⟩ := m
  obtain ⟨_, h2, h3⟩ := h
  dsimp only at h2 h3
  unfold cmp sd inv
  rcases h2 with rfl | rfl | rfl <;> rcases h3 with rfl | rfl <;> rfl
theorem inv_cmp {m : Im} {k : Int} (h : OkIm m) : cmp (inv k m) m = (m.1, 0, 0) := by
  obtain ⟨a, b, c⟩ := m
  obtain ⟨_, h2, h3⟩ := h
  dsimp only at h2 h3
  unfold cmp sd inv
  rcases h2 with rfl | rfl | rfl <;> rcases h3 with rfl | rfl <;> rfl
theorem inv_inv {m : Im} {k : Int} (h : OkIm m) : inv m.1 (inv k m) = m := by
  obtain ⟨a, b, c⟩ := m
  obtain ⟨_, h2, h3⟩ := h
  dsimp only at h2 h3
  unfold inv
  rcases h2 with rfl | rfl | rfl <;> rcases h3 with rfl | rfl <;> rfl
theorem inv_ok {m : Im} {k : Int} (h : OkIm m) (h0 : 0 ≤ k) : OkIm (inv k m) := by
  obtain ⟨a, b, c⟩ := m
  obtain ⟨_, h2, h3⟩ := h
  dsimp only at h2 h3
  unfold inv
  refine ⟨h0, ?_, h3⟩
  show (if c = 0 then (0 - b) % 3 else b) = 0 ∨ (if c = 0 then (0 - b) % 3 else b) = 1 ∨ (if c = 0 then (0 - b) % 3 else b) = 2
  split <;> omega
section
variable {ims b c : List Im}
theorem then_back (hi : Good ims) (hb : IsBack ims b) : thenI ims b = sameI ims.length := by
  refine im_ext (by rw [len_then, len_same]) fun k h0 h1 => ?_
  rw [len_then] at h1
  rw [imAt_then h0 h1, imAt_same h0 h1, hb.2 k h0 h1, cmp_inv (imAt_ok hi h0 h1)]
theorem back_then (hi : Good ims) (hb : IsBack ims b) : thenI b ims = sameI ims.length := by
  refine im_ext (by rw [len_then, len_same, hb.1]) fun j h0 h1 => ?_
  rw [len_then, hb.1] at h1
  obtain ⟨k, k0, k1, rfl⟩ := surj hi.1 h0 h1
  rw [imAt_then h0 (by rw [hb.1]; exact h1), imAt_same h0 h1, hb.2 k k0 k1]
  exact inv_cmp (imAt_ok hi k0 k1)
theorem back_back (hi : Good ims) (hb : IsBack ims b) (hc : IsBack b c) : c = ims := by
  refine im_ext (by rw [hc.1, hb.1]) fun k h0 h1 => ?_
  rw [hc.1, hb.1] at h1
  have r := imAt_lt hi.1 h0 h1
  have e1 := hb.2 k h0 h1
  have e2 := hc.2 _ r.1 (by rw [hb.1]; exact r.2)
  rw [e1] at e2
  have e3 : imAt c k = inv (imAt ims k).1 (inv k (imAt ims k)) := e2
  rw [e3, inv_inv (imAt_ok hi h0 h1)]
theorem back_good (hi : Good ims) (hb : IsBack ims b) : Good b := by
  have ne := hi.1.1
  have hl : 0 < ims.length := List.length_pos_iff.mpr ne
  refine ⟨⟨fun z => ?_, ?_⟩, fun m hm => ?_⟩
  · have := hb.1
    rw [z] at this
    simp at this
    omega
  · have p := hi.1.2.map fun j => (imAt b j).1
    rw [List.map_map] at p
    have e1 : ims.map ((fun j => (imAt b j).1) ∘ (·.1)) = (List.range ims.length).map fun i : Nat => (i : Int) := by
      rw [← map_imAt ims ((fun j => (imAt b j).1) ∘ (·.1))]
      refine List.map_congr_left fun i h => ?_
      have h := List.mem_range.mp h
      show (imAt b (imAt ims i).1).1 = (i : Int)
      rw [hb.2 (i : Int) (by omega) (by omega)]
      rfl
    have e2 : ((List.range ims.length).map fun i : Nat => (i : Int)).map (fun j => (imAt b j).1) = b.map (·.1) := by
      rw [List.map_map, ← hb.1, ← map_imAt b (·.1)]
      rfl
    rw [e1, e2] at p
    rw [hb.1]
    exact p.symm
  · obtain ⟨j, h1, h2⟩ := List.getElem_of_mem hm
    rw [hb.1] at h1
    obtain ⟨k, k0, k1, e⟩ := surj hi.1 (j := (j : Int)) (by omega) (by omega)
    have e1 : imAt b (j : Int) = m := by
      rw [imAt_nat, List.getD_eq_getElem?_getD, List.getElem?_eq_getElem (by rw [hb.1]; exact h1), h2]
      rfl
    rw [← e1, ← e, hb.2 k k0 k1]
    exact inv_ok (imAt_ok hi k0 k1) k0
end
end K5


set_option Elab.async false
set_option linter.all false
set_option maxRecDepth 100000
set_option maxHeartbeats 4000000
namespace K5
open PySem PySem.Spec PyProof.Rows L2 ClX OG
section
variable {P : Program} {w : World} {K : PySem.W.Frag} {mg : Str → Option Value} {base : Heap} {A : Ad} {H H' : Hp} {x : V}
theorem IsMap.looks (T : Txt K mg A) {r : Option (List Im)} (h : IsMap K A H x r) : ∃ t b, TyX K H x t ∧ PySem.W.kitOne K t (.ref A.c_Map) = some b ∧ (b = r.isSome) := by
  cases h with
  | no h k => exact ⟨_, _, h, k, rfl⟩
  | map h =>
    obtain ⟨dx, t, xs, h1, _⟩ := h
    refine ⟨_, true, T.i_Map.ty h1, ?_, rfl⟩
    unfold PySem.W.kitOne
    rw [if_pos (by simp)]
def spThen (K : PySem.W.Frag) (A : Ad) : Sp := fun vs H Q E => ∃ (a : Addr) (ims : List Im) (y : V) (r : Option (List Im)), vs = [.ref a, y] ∧ MapA K A.c_Map H a ims ∧ IsMap K A H y r ∧
  ((∀ jms, r = some jms → jms.length ≠ ims.length) → BadE A.c_Misfit "other" H E) ∧ ∀ jms, r = some jms → jms.length = ims.length → ∀ c H', Same H H' → MapA K A.c_Map H' c (thenI ims jms) → Q (.ref c) H'
theorem ok_Map_then (T : Txt K mg A) : FnOk P w K mg base (L2.CX P w) 5 A.f_Map_then A.d_Map_then ["self", "other"] (spThen K A) := by
  refine T.F_Map_then.okX sc_Map_then (fun vs H Q E h => ?_) (fun cdv Ar outer s H vs Q E hr h => ?_)
  · obtain ⟨_, _, _, _, rfl, _⟩ := h
    rfl
  · obtain ⟨a, ims, y, r, rfl, hm, hy, qb, qg⟩ := h
    refine ⟨_, (pss_cons (ps_if (PW.pt (pw_or (pt_not (pt_val (pe_callB (id := "isinstance") (r := rIsi K) call_isi (by rfl) T.n_isinstance (by decide +kernel) (pa_cons (pv 1) (pa_cons (pe_glob (v := .ref A.c_Map) rfl T.g_Map rfl) pa_nil))))) (pw_or1 (pt_cmpR op_ne (pe_callB (call_lenO (C := A.c_Map) (E := E0) (ok_Map_len T) (hr.mono (by decide)) T.l_Map T.fn_Map_len (b_Map_len T.F_Map_len) pass0) (by rfl) T.n_len (by decide +kernel) (pa_cons (pv 1) pa_nil)) (pe_callB (call_lenO (C := A.c_Map) (E := E0) (ok_Map_len T) (hr.mono (by decide)) T.l_Map T.fn_Map_len (b_Map_len T.F_Map_len) pass0) (by rfl) T.n_len (by decide +kernel) (pa_cons (pv 0) pa_nil)) (nomark _))))) (pss_one (ps_raise rfl (takes_of rfl rfl rfl rfl) (pmk_oex T.o_Misfit T.i_Misfit T.t_Misfit (ok_Misfit_init T) (hr.mono (by decide)) (b_Misfit_init T.F_Misfit_init) .nil pass0 rfl T.g_Misfit (pa_cons pe_str pa_nil)))) pss_nil)
      (pss_cons (ps_set (i := 2) sc_Map_then.nd rfl (Or.inl rfl) (pe_lst pa_nil))
      (pss_cons (ps_for (passes_of rfl) rfl (pi_enumW (by rfl) T.n_enumerate (pa_cons (pe_fld (pv 0) rfl) pa_nil)) (pg_tup rfl (pgs_cons (pg_name (i := 3) sc_Map_then.nd rfl (Or.inl rfl)) (pgs_cons (pg_tup rfl (pgs_cons (pg_name (i := 4) sc_Map_then.nd rfl (Or.inl rfl)) (pgs_cons (pg_name (i := 5) sc_Map_then.nd rfl (Or.inl rfl)) (pgs_cons (pg_name (i := 6) sc_Map_then.nd rfl (Or.inl rfl)) pgs_nil)))) pgs_nil))) (pss_cons (ps_set (i := 7) sc_Map_then.nd rfl (Or.inl rfl) (pe_meth (pv 1) T.i_Map.cl T.m_place (ok_Map_place T) (hr.mono (by decide)) (b_Map_place T.F_Map_place) .nil pass0 (pa_cons (pe_meth (pv 0) T.i_Map.cl T.m_place (ok_Map_place T) (hr.mono (by decide)) (b_Map_place T.F_Map_place) .nil pass0 (pa_cons (pe_op op_mul pe_int (pv 3)) pa_nil)) pa_nil)))
      (pss_one (ps_expr (pe_bm PySem.F.plainAttrs_list PySem.F.slot_list_append PySem.F.type_list_append mt_append (pv 2) (pa_cons (pe_tup (pa_cons (pe_op op_fdiv (pv 7) pe_int) (pa_cons (pe_op op_mod (pv 7) pe_int) (pa_cons (pe_ifExp (pt_cmpR op_eq (pe_meth (pv 1) T.i_Map.cl T.m_face (ok_Map_face T) (hr.mono (by decide)) (b_Map_face T.F_Map_face) .nil pass0 (pa_cons (pv 4) pa_nil)) pe_int (nomark _)) (pv 6) (pe_op op_sub pe_int (pv 6))) pa_nil)))) pa_nil))))))
      (pss_one (ps_ret (pe_make T.mk_Map (ok_Map_init T) (hr.mono (by decide)) rfl T.g_Map (b_Map_init T.F_Map_init) .nil (passes_call (takes_of rfl rfl rfl rfl) fun _ _ _ _ h => h) (pa_cons (pv 2) pa_nil))))))), ?_⟩
    obtain ⟨t, b, ty, ka, eb⟩ := hy.looks T
    refine ⟨_, rfl, y, .ref A.c_Map, t, .ref A.c_Map, b, rfl, .own _, ty, ka, _, rfl, ?_⟩
    have bad : ∀ H', Same H H' → (∀ jms, r = some jms → jms.length ≠ ims.length) → [V.str "other"].length ≤ 1000 ∧ ∀ a, H' a = none → spInit A.c_Misfit (.ref a :: ([.str "other"] ++ [])) (upd H' a (exo a A.c_Misfit none))
        (fun u H2 => u = .non ∧ ∃ (d : Addr) (fs : List (Str × V)), H2 a = some (exo a A.c_Misfit (some d)) ∧ H2 d = some (exd d fs) ∧ H' d = none ∧ E (.ref A.c_Misfit) (some d) (upd (del H2 a) d (.xd fs))) (fun _ _ _ => False) := fun H' sH hn => raise_go ((qb hn).mono sH)
    cases hy with
    | no h k =>
      subst eb
      exact iteT (iteT (bad H (Same.refl _) fun _ z => nomatch z))
    | @map c jms hc =>
      subst eb
      refine iteF ?_
      obtain ⟨dxc, tc, xsc, f1, f2, f3, f4, f5⟩ := id hc
      obtain ⟨dxa, ta, xsa, e1, e2, e3, e4, e5⟩ := id hm
      refine ⟨_, rfl, c, dxc, _, rfl, f1, c, jms, rfl, hc, _, rfl, by omega, by omega, _, rfl, a, dxa, _, rfl, e1, a, ims, rfl, hm, _, rfl, by omega, by omega, rfl, _, rfl, ?_⟩
      by_cases hl : jms.length = ims.length
      · rw [show decide (V.int ((jms.length : Nat) : Int) = V.int ((ims.length : Nat) : Int)) = true from decide_eq_true (by rw [hl])]
        refine iteF ⟨by show 0 ≤ sizeLine; decide, fun F hF => ?_⟩
        have sF := same_new (o := .lst []) hF
        refine ⟨_, rfl, a, A.c_Map, dxa, _, _, rfl, sF _ _ e1, T.i_Map.cl, T.na_Map, rfl, ta, xsa, rfl, .inl (.inl (sF _ _ e2)), fun J wk => for_core (wk H ?_) (fun i σ H2 => Acc H F (TupR fun k => imV (thenAt ims jms (k : Nat))) i H2 ∧ ∃ w3 w4 w5 w6 w7, σ = [some (V.ref a), some (V.ref c), some (V.ref F), w3, w4, w5, w6, w7]) ⟨Acc.nil hF, _, _, _, _, _, rfl⟩ (fun _ _ _ h => h.1.1) ?_ ?_⟩
        · rw [upd_ne (ne_of_none e2 hF)]
        · rintro i x σ H2 H3 hi ⟨acc, w3, w4, w5, w6, w7, rfl⟩ s3 ⟨T', y, rfl, hT, hy⟩
          have s2 := acc.1
          obtain ⟨m, hmm⟩ : ∃ m, ims[i]? = some m := ⟨_, List.getElem?_eq_getElem (by have := e3.1; omega)⟩
          obtain ⟨tt, rfl, htt⟩ := e3.2 i y m hy hmm
          refine ⟨T', _, rfl, .inl (.inl hT), rfl, _, _, rfl, _, _, rfl, ⟨tt, _, rfl, same_t (s2.trans s3) htt, rfl, _, _, rfl, _, _, rfl, _, _, rfl, rfl, ?_⟩⟩
          have e8 := hm.mono (s2.trans s3)
          have f8 := hc.mono (s2.trans s3)
          have himA : imAt ims (i : Nat) = m := by rw [imAt_nat, List.getD_eq_getElem?_getD, hmm]; rfl
          have hin : i < ims.length := (List.getElem?_eq_some_iff.mp hmm).1
          have hpr := pl_range e4.1 (p := 3 * (i : Int)) (by omega) (by omega)
          have hpr2 := pl_range f4.1 (p := pl ims (3 * (i : Int))) hpr.1 (by omega)
          refine ⟨rfl, _, rfl, c, dxc, _, rfl, (s2.trans s3) _ _ f1, rfl, _, rfl, a, dxa, _, rfl, (s2.trans s3) _ _ e1, rfl, _, rfl, _, _, rfl, rfl, .inl ⟨by decide, by decide⟩, a, ims, 3 * (i : Int), rfl, e8, by omega, by omega, c, jms, pl ims (3 * (i : Int)), rfl, f8, hpr.1, by omega, ?_⟩
          have acc3 := acc.same s3
          obtain ⟨ys3, hF3, hl3⟩ : ∃ ys, H3 F = some (.lst ys) ∧ ys.length = i := let ⟨_, ys, q1, q2, _⟩ := acc3; ⟨ys, q1, q2⟩
          refine ⟨_, rfl, .inl ⟨rfl, _, SqL.of hF3⟩, _, rfl, _, _, rfl, rfl, cdiv3, _, rfl, _, _, rfl, rfl, (by show (0 : Int) < 3; decide), ?_⟩
          have hm1 := imAt_lt e4.1 (k := (i : Int)) (by omega) (by omega)
          rw [himA] at hm1
          refine ⟨_, rfl, c, dxc, _, rfl, (s2.trans s3) _ _ f1, rfl, _, rfl, c, jms, m.1, rfl, f8, hm1.1, by omega, rfl, _, rfl, ?_⟩
          have hth : thenAt ims jms i = (pl jms (pl ims (3 * (i : Int))) / 3, pl jms (pl ims (3 * (i : Int))) % 3, if (imAt jms m.1).2.2 = 0 then m.2.2 else 1 - m.2.2) := by
            show (_, _, _) = _
            rw [himA]
          have push : ∀ z : List V, z = imV (thenAt ims jms i) → ∀ t, H3 t = none → ∃ ys, upd H3 t (.tup z) F = some (.lst ys) ∧ ys.length = i ∧ Acc H F (TupR fun k => imV (thenAt ims jms (k : Nat))) (i + 1) (upd (upd H3 t (.tup z)) F (.lst (ys ++ [.ref t]))) := fun z e t ht => by
            subst e
            exact acc3.tup hF ht
          by_cases hf : (imAt jms m.1).2.2 = 0
          · rw [show decide (V.int (imAt jms m.1).2.2 = V.int 0) = true from decide_eq_true (by rw [hf])]
            rw [if_pos hf] at hth
            refine iteT ⟨_, rfl, three_line, fun t ht => ?_⟩
            obtain ⟨ys, q1, q2, q3⟩ := push _ (by rw [hth]) t ht
            exact ⟨F, ys, _, rfl, rfl, q1, by rw [q2]; exact Nat.lt_of_lt_of_le (show i < 64 by omega) (by decide), q3, _, _, _, _, _, rfl⟩
          · rw [show decide (V.int (imAt jms m.1).2.2 = V.int 0) = false from decide_eq_false fun z => hf (by injection z)]
            rw [if_neg hf] at hth
            refine iteF ⟨_, rfl, _, _, rfl, rfl, three_line, fun t ht => ?_⟩
            obtain ⟨ys, q1, q2, q3⟩ := push _ (by rw [hth]) t ht
            exact ⟨F, ys, _, rfl, rfl, q1, by rw [q2]; exact Nat.lt_of_lt_of_le (show i < 64 by omega) (by decide), q3, _, _, _, _, _, rfl⟩
        · rintro σ H2 ⟨acc, w3, w4, w5, w6, w7, rfl⟩
          obtain ⟨ts, hF2, hl2, hts⟩ := acc.tups
          have hlen : (thenI ims jms).length = ims.length := by unfold thenI; rw [List.length_map, List.length_range]
          refine ⟨_, rfl, ?_⟩
          exact make_ok (r := some (thenI ims jms)) (rows_made (.inl (SqL.of hF2)) (by omega) (by have := e3.1; omega) (fun i t m h1 h2 => by
            have e := hts i t h1
            unfold thenI at h2
            rw [List.getElem?_map] at h2
            obtain ⟨j, hj, rfl⟩ := Option.map_eq_some_iff.mp h2
            have hlt : i < ims.length := by
              have := (List.getElem?_eq_some_iff.mp hj).1
              rwa [List.length_range] at this
            rw [List.getElem?_range hlt] at hj
            cases hj
            exact .inr (.inl (.inl e))) (then_good e4 f4 hl)) (fun z => nomatch z) fun ims' e b H' s3 _ hm' => by
              cases e
              exact qg jms rfl hl b H' (acc.1.trans s3) hm'
      · rw [show decide (V.int ((jms.length : Nat) : Int) = V.int ((ims.length : Nat) : Int)) = false from decide_eq_false fun z => hl (by injection z with z; omega)]
        exact iteT (bad H (Same.refl _) fun kms e => by cases e; exact hl)
end
end K5


set_option Elab.async false
set_option linter.all false
set_option maxRecDepth 100000
set_option maxHeartbeats 4000000
namespace K5
open PySem PySem.Spec PyProof.Rows L2 ClX OG
/-! ### Map.back -/
/-- rows in a list at F, each a tuple of an image -/
def RowsAt (H : Hp) (F : Addr) (bs : List Im) : Prop := ∃ ts : List Addr, H F = some (.lst (ts.map V.ref)) ∧ ts.length = bs.length ∧ ∀ (i : Nat) t m, ts[i]? = some t → bs[i]? = some m → H t = some (.tup (imV m))
theorem RowsAt.same {H H' : Hp} {F : Addr} {bs : List Im} (h : RowsAt H F bs) (s : Same H H') : RowsAt H' F bs := by
  obtain ⟨ts, h1, h2, h3⟩ := h
  exact ⟨ts, s _ _ h1, h2, fun i t m a b => s _ _ (h3 i t m a b)⟩
theorem RowsAt.set {H : Hp} {F t : Addr} {bs : List Im} (h : RowsAt H F bs) {j : Nat} {m : Im} (ht : H t = some (.tup (imV m))) :
    ∃ xs, H F = some (.lst xs) ∧ xs.length = bs.length ∧ RowsAt (upd H F (.lst (xs.set j (.ref t)))) F (bs.set j m) := by
  obtain ⟨ts, h1, h2, h3⟩ := h
  refine ⟨_, h1, by rw [List.length_map, h2], ts.set j t, ?_, by rw [List.length_set, List.length_set, h2], fun i u n a b => ?_⟩
  · rw [upd_same, List.map_set]
  · have tup : H u = some (.tup (imV n)) := by
      by_cases c : j = i
      · subst c
        have hl : j < ts.length := by
          have := (List.getElem?_eq_some_iff.mp a).1
          rwa [List.length_set] at this
        rw [List.getElem?_set_self hl] at a
        rw [List.getElem?_set_self (by omega)] at b
        cases a
        cases b
        exact ht
      · rw [List.getElem?_set_ne c] at a b
        exact h3 i u n a b
    rw [upd_ne (fun z => by rw [z, h1] at tup; cases tup)]
    exact tup
section
variable {P : Program} {w : World} {K : PySem.W.Frag} {mg : Str → Option Value} {base : Heap} {A : Ad} {H H' : Hp} {x : V}
def spBack (K : PySem.W.Frag) (A : Ad) : Sp := fun vs H Q _ => ∃ (a : Addr) (ims : List Im), vs = [.ref a] ∧ MapA K A.c_Map H a ims ∧ ∀ b c H', Same H H' → IsBack ims b → MapA K A.c_Map H' c b → Q (.ref c) H'
theorem ok_Map_back (T : Txt K mg A) : FnOk P w K mg base (L2.CX P w) 5 A.f_Map_back A.d_Map_back ["self"] (spBack K A) := by
  refine T.F_Map_back.okX sc_Map_back (fun vs H Q E h => ?_) (fun cdv Ar outer s H vs Q E hr h => ?_)
  · obtain ⟨_, _, rfl, _⟩ := h
    rfl
  · obtain ⟨a, ims, rfl, hm, q⟩ := h
    refine ⟨_, (pss_cons (ps_set (i := 1) sc_Map_back.nd rfl (Or.inl rfl) (pe_op op_rep (pe_lst (pa_cons (pe_tup (pa_cons pe_int (pa_cons pe_int (pa_cons pe_int pa_nil)))) pa_nil)) (pe_callB (call_lenO (C := A.c_Map) (E := E0) (ok_Map_len T) (hr.mono (by decide)) T.l_Map T.fn_Map_len (b_Map_len T.F_Map_len) pass0) (by rfl) T.n_len (by decide +kernel) (pa_cons (pv 0) pa_nil))))
      (pss_cons (ps_for (passes_of rfl) rfl (pi_enumW (by rfl) T.n_enumerate (pa_cons (pe_fld (pv 0) rfl) pa_nil)) (pg_tup rfl (pgs_cons (pg_name (i := 2) sc_Map_back.nd rfl (Or.inl rfl)) (pgs_cons (pg_tup rfl (pgs_cons (pg_name (i := 3) sc_Map_back.nd rfl (Or.inl rfl)) (pgs_cons (pg_name (i := 4) sc_Map_back.nd rfl (Or.inl rfl)) (pgs_cons (pg_name (i := 5) sc_Map_back.nd rfl (Or.inl rfl)) pgs_nil)))) pgs_nil))) (pss_one (ps_asg (pe_tup (pa_cons (pv 2) (pa_cons (pe_ifExp (pt_cmpR op_eq (pv 5) pe_int (nomark _)) (pe_op op_mod (pe_op op_sub pe_int (pv 4)) pe_int) (pv 4)) (pa_cons (pv 5) pa_nil)))) (pg_sub (pv 1) (pv 3) set_list))))
      (pss_one (ps_ret (pe_make T.mk_Map (ok_Map_init T) (hr.mono (by decide)) rfl T.g_Map (b_Map_init T.F_Map_init) .nil (passes_call (takes_of rfl rfl rfl rfl) fun _ _ _ _ h => h) (pa_cons (pv 1) pa_nil)))))), ?_⟩
    obtain ⟨dxa, ta, xsa, e1, e2, e3, e4, e5⟩ := id hm
    refine ⟨three_line, fun z hz => ⟨by show 1 ≤ sizeLine; decide, fun l hl => ?_⟩⟩
    have sz := same_new (o := .tup [.int 0, .int 0, .int 0]) hz
    have sl := same_new (o := .lst [.ref z]) hl
    have s2 := sz.trans sl
    refine ⟨_, rfl, a, dxa, _, rfl, s2 _ _ e1, a, ims, rfl, hm.mono s2, _, rfl, by omega, by omega, ?_⟩
    have en : ((ims.length : Nat) : Int).toNat = ims.length := by omega
    refine ⟨l, ims.length, [V.ref z], rfl, rfl, upd_same, by omega, by omega, ?_, fun F hF => ?_⟩
    · rw [en]
      show 1 * ims.length ≤ sizeLine
      exact Nat.le_trans (by omega : 1 * ims.length ≤ 64) (by decide)
    rw [en]
    have sF := same_new (o := .lst (List.replicate ims.length [V.ref z]).flatten) hF
    have s3 := s2.trans sF
    have hF0 : H F = none := by
      cases q : H F with
      | none => rfl
      | some u => rw [s2 _ _ q] at hF; cases hF
    have zz := sF _ _ (sl _ _ (upd_same (H := H) (a := z) (o := .tup [.int 0, .int 0, .int 0])))
    have r0 : RowsAt (upd (upd (upd H z (.tup [.int 0, .int 0, .int 0])) l (.lst [.ref z])) F (.lst (List.replicate ims.length [V.ref z]).flatten)) F (List.replicate ims.length ((0, 0, 0) : Im)) := by
      refine ⟨List.replicate ims.length z, ?_, by rw [List.length_replicate, List.length_replicate], fun i t m h1 h2 => ?_⟩
      · rw [upd_same, List.map_replicate]
        have : ∀ n, (List.replicate n [V.ref z]).flatten = List.replicate n (V.ref z) := fun n => by
          induction n with
          | zero => rfl
          | succ n ih => rw [List.replicate_succ, List.flatten_cons, ih]; rfl
        rw [this]
      · have e9 := List.eq_of_mem_replicate (List.mem_of_getElem? h1)
        have e8 := List.eq_of_mem_replicate (List.mem_of_getElem? h2)
        subst e9 e8
        exact zz
    generalize upd (upd (upd H z (.tup [.int 0, .int 0, .int 0])) l (.lst [.ref z])) F (.lst (List.replicate ims.length [V.ref z]).flatten) = H1 at *
    refine ⟨_, rfl, a, A.c_Map, dxa, _, _, rfl, s3 _ _ e1, T.i_Map.cl, T.na_Map, rfl, ta, xsa, rfl, .inl (.inl (s3 _ _ e2)), fun J wk => for_core (wk H ?_)
      (fun i σ H2 => Same H H2 ∧ ∃ bs : List Im, RowsAt H2 F bs ∧ bs.length = ims.length ∧ (∀ k : Int, 0 ≤ k → k < (i : Int) → imAt bs (imAt ims k).1 = inv k (imAt ims k)) ∧ ∃ w2 w3 w4 w5, σ = [some (V.ref a), some (V.ref F), w2, w3, w4, w5])
      ⟨s3, _, r0, List.length_replicate, fun k k0 k1 => by omega, _, _, _, _, rfl⟩ (fun _ _ _ h => h.1) ?_ ?_⟩
    · rw [e2]
      exact (s3 _ _ e2).symm
    · rintro i x σ H2 H3 hi ⟨s4, bs, rb, lb, kb, w2, w3, w4, w5, rfl⟩ s5 ⟨T', y, rfl, hT, hy⟩
      obtain ⟨m, hmm⟩ : ∃ m, ims[i]? = some m := ⟨_, List.getElem?_eq_getElem (by have := e3.1; omega)⟩
      obtain ⟨tt, rfl, htt⟩ := e3.2 i y m hy hmm
      have s45 := s4.trans s5
      refine ⟨T', _, rfl, .inl (.inl hT), rfl, _, _, rfl, _, _, rfl, ⟨tt, _, rfl, same_t s45 htt, rfl, _, _, rfl, _, _, rfl, _, _, rfl, rfl, ?_⟩⟩
      have himA : imAt ims (i : Nat) = m := by rw [imAt_nat, List.getD_eq_getElem?_getD, hmm]; rfl
      have hin : i < ims.length := (List.getElem?_eq_some_iff.mp hmm).1
      have hm1 := imAt_lt e4.1 (k := (i : Int)) (by omega) (by omega)
      rw [himA] at hm1
      have next : ∀ zs : List V, zs = imV (inv i m) → ∀ t, H3 t = none → ∃ xs, upd H3 t (.tup zs) F = some (.lst xs) ∧ xs.length = ims.length ∧ (Same H (upd (upd H3 t (.tup zs)) F (.lst (xs.set m.1.toNat (.ref t)))) ∧
          ∃ bs : List Im, RowsAt (upd (upd H3 t (.tup zs)) F (.lst (xs.set m.1.toNat (.ref t)))) F bs ∧ bs.length = ims.length ∧ (∀ k : Int, 0 ≤ k → k < ((i + 1 : Nat) : Int) → imAt bs (imAt ims k).1 = inv k (imAt ims k))) := fun zs ez t ht => by
        have st := same_new (o := .tup zs) ht
        obtain ⟨xs, q1, q2, q3⟩ := ((rb.same s5).same st).set (j := m.1.toNat) (m := inv i m) (t := t) (by rw [upd_same, ez])
        refine ⟨xs, q1, by omega, fun b u e => ?_, _, q3, by rw [List.length_set, lb], fun k k0 k1 => ?_⟩
        · rw [upd_ne (ne_of_none e hF0)]
          exact st _ _ (s45 _ _ e)
        · by_cases c : k = (i : Int)
          · subst c
            rw [himA]
            unfold imAt
            rw [List.getD_eq_getElem?_getD, List.getElem?_set_self (by omega)]
            rfl
          · have r := imAt_lt e4.1 k0 (by omega)
            have ne : (imAt ims k).1 ≠ m.1 := fun e => c (inj e4.1 k0 (by omega) (by omega) (by omega) (by rw [himA]; exact e))
            rw [← kb k k0 (by omega)]
            show (bs.set m.1.toNat (inv (i : Int) m)).getD (imAt ims k).1.toNat i0 = bs.getD (imAt ims k).1.toNat i0
            rw [List.getD_eq_getElem?_getD, List.getD_eq_getElem?_getD, List.getElem?_set_ne (show m.1.toNat ≠ (imAt ims k).1.toNat by omega)]
      have hix : ixN ims.length m.1 = some m.1.toNat := by
        unfold ixN
        rw [if_pos hm1.1, if_pos hm1.2]
      refine ⟨rfl, _, rfl, _, rfl, rfl, _, rfl, ?_⟩
      by_cases hf : m.2.2 = 0
      · rw [show decide (V.int m.2.2 = V.int 0) = true from decide_eq_true (by rw [hf])]
        refine iteT ⟨_, rfl, _, _, rfl, rfl, _, _, rfl, rfl, (by show (0 : Int) < 3; decide), _, rfl, three_line, fun t ht => ?_⟩
        obtain ⟨xs, q1, q2, q3, q4⟩ := next _ (by unfold inv imV; rw [if_pos hf]) t ht
        exact ⟨_, rfl, _, rfl, F, xs, m.1, m.1.toNat, rfl, rfl, q1, by rw [q2]; exact hix, q3, let ⟨bs', a1, a2, a3⟩ := q4; ⟨bs', a1, a2, a3, _, _, _, _, rfl⟩⟩
      · rw [show decide (V.int m.2.2 = V.int 0) = false from decide_eq_false fun z => hf (by injection z)]
        refine iteF ⟨_, rfl, _, rfl, three_line, fun t ht => ?_⟩
        obtain ⟨xs, q1, q2, q3, q4⟩ := next _ (by unfold inv imV; rw [if_neg hf]) t ht
        exact ⟨_, rfl, _, rfl, F, xs, m.1, m.1.toNat, rfl, rfl, q1, by rw [q2]; exact hix, q3, let ⟨bs', a1, a2, a3⟩ := q4; ⟨bs', a1, a2, a3, _, _, _, _, rfl⟩⟩
    · rintro σ H2 ⟨s4, bs, rb, lb, kb, w2, w3, w4, w5, rfl⟩
      obtain ⟨ts, hF2, hl2, hts⟩ := rb
      have isb : IsBack ims bs := ⟨lb, by rw [← e3.1]; exact kb⟩
      refine ⟨_, rfl, ?_⟩
      exact make_ok (r := some bs) (rows_made (.inl (SqL.of hF2)) (by omega) hl2 (fun i t m h1 h2 => .inr (.inl (.inl (hts i t m h1 h2)))) (back_good e4 isb)) (fun z => nomatch z) fun ims' e b H' s5 _ hm' => by
          cases e
          exact q bs b H' (s4.trans s5) isb hm'
end
end K5


set_option Elab.async false
set_option linter.all false
set_option maxRecDepth 100000
set_option maxHeartbeats 4000000
set_option exponentiation.threshold 10000
namespace K5
open PySem PySem.Spec PyProof.Rows L2 ClX OG
/-! ### the law's own defs: the pen -/
abbrev s_law_pen : Stmt := top 16
abbrev N_law_pen : List Str := ["script", "cell"]
theorem sc_law_pen : FnScope ["script", "cell"] ["script"] (defScope s_law_pen) := ⟨rfl, rfl, rfl, by decide +kernel, rfl, by decide +kernel, by decide +kernel⟩
abbrev s_law_draw : Stmt := top 17
abbrev N_law_draw : List Str := ["pen", "many", "rest", "at", "cell", "mixed"]
theorem sc_law_draw : FnScope ["pen", "many", "rest", "at", "cell", "mixed"] ["pen", "many"] (defScope s_law_draw) := ⟨rfl, rfl, rfl, by decide +kernel, rfl, by decide +kernel, by decide +kernel⟩
abbrev s_law_pick : Stmt := top 18
abbrev N_law_pick : List Str := ["pen", "some"]
theorem sc_law_pick : FnScope ["pen", "some"] ["pen", "some"] (defScope s_law_pick) := ⟨rfl, rfl, rfl, by decide +kernel, rfl, by decide +kernel, by decide +kernel⟩
abbrev s_law_next : Stmt := top 19
abbrev N_law_next : List Str := ["spot"]
theorem sc_law_next : FnScope ["spot"] ["spot"] (defScope s_law_next) := ⟨rfl, rfl, rfl, by decide +kernel, rfl, by decide +kernel, by decide +kernel⟩
abbrev s_law_heard : Stmt := top 20
abbrev N_law_heard : List Str := ["ask_it", "found", "caught", "error"]
theorem sc_law_heard : FnScope ["ask_it", "found", "caught", "error"] ["ask_it"] (defScope s_law_heard) := ⟨rfl, rfl, rfl, by decide +kernel, rfl, by decide +kernel, by decide +kernel⟩
abbrev s_law_images : Stmt := top 21
abbrev N_law_images : List Str := ["pen", "many", "left", "found", "turn"]
theorem sc_law_images : FnScope ["pen", "many", "left", "found", "turn"] ["pen", "many"] (defScope s_law_images) := ⟨rfl, rfl, rfl, by decide +kernel, rfl, by decide +kernel, by decide +kernel⟩
abbrev s_law_end : Stmt := top 22
abbrev N_law_end : List Str := ["images", "spot", "tip", "image", "shift", "face", "side"]
theorem sc_law_end : FnScope ["images", "spot", "tip", "image", "shift", "face", "side"] ["images", "spot", "tip"] (defScope s_law_end) := ⟨rfl, rfl, rfl, by decide +kernel, rfl, by decide +kernel, by decide +kernel⟩
abbrev s_law_right : Stmt := top 23
abbrev N_law_right : List Str := ["images", "way", "many", "spot", "due", "corner", "one"]
theorem sc_law_right : FnScope ["images", "way", "many", "spot", "due", "corner", "one"] ["images"] (defScope s_law_right) := ⟨rfl, rfl, rfl, by decide +kernel, rfl, by decide +kernel, by decide +kernel⟩
abbrev s_law : Stmt := top 24
abbrev N_law : List Str := ["script", "pen", "turn", "many", "rows", "two", "three", "both", "still", "spot", "bad", "odd", "one", "lap", "value", "piece"]
theorem sc_law : FnScope ["script", "pen", "turn", "many", "rows", "two", "three", "both", "still", "spot", "bad", "odd", "one", "lap", "value", "piece"] ["script"] (defScope s_law) := ⟨rfl, rfl, rfl, by decide +kernel, rfl, by decide +kernel, by decide +kernel⟩

structure LawT (K : PySem.W.Frag) (mg : Str → Option Value) (A : Ad) : Prop extends Txt K mg A where
  F_law_pen : Fun K "_law_pen" "_law_pen" s_law_pen A.f_law_pen A.d_law_pen
  g_law_pen : mg "_law_pen" = some (.ref A.f_law_pen)
  F_law_draw : Fun K "_law_draw" "_law_draw" s_law_draw A.f_law_draw A.d_law_draw
  g_law_draw : mg "_law_draw" = some (.ref A.f_law_draw)
  F_law_pick : Fun K "_law_pick" "_law_pick" s_law_pick A.f_law_pick A.d_law_pick
  g_law_pick : mg "_law_pick" = some (.ref A.f_law_pick)
  F_law_next : Fun K "_law_next" "_law_next" s_law_next A.f_law_next A.d_law_next
  g_law_next : mg "_law_next" = some (.ref A.f_law_next)
  F_law_heard : Fun K "_law_heard" "_law_heard" s_law_heard A.f_law_heard A.d_law_heard
  g_law_heard : mg "_law_heard" = some (.ref A.f_law_heard)
  F_law_images : Fun K "_law_images" "_law_images" s_law_images A.f_law_images A.d_law_images
  g_law_images : mg "_law_images" = some (.ref A.f_law_images)
  F_law_end : Fun K "_law_end" "_law_end" s_law_end A.f_law_end A.d_law_end
  g_law_end : mg "_law_end" = some (.ref A.f_law_end)
  F_law_right : Fun K "_law_right" "_law_right" s_law_right A.f_law_right A.d_law_right
  g_law_right : mg "_law_right" = some (.ref A.f_law_right)
  nf_Map : PySem.W.notFirst K A.c_Map (.ref A.c_Map) = true
  nf_list : PySem.W.notFirst K A.c_Map (.type "list") = true
  n_abs : mg "abs" = none
  n_repr : mg "repr" = none

section
variable {P : Program} {w : World} {K : PySem.W.Frag} {mg : Str → Option Value} {base : Heap} {A : Ad}
theorem b_law_pen {f : Addr} {fd : FuncData} (F : Fun K "_law_pen" "_law_pen" s_law_pen f fd) : L2.Binds K fd ["script"] [] := F.binds (ps := ["script"]) fun _ _ _ _ _ _ us hl => match us, hl with | [_], _ => rfl
theorem b_law_draw {f : Addr} {fd : FuncData} (F : Fun K "_law_draw" "_law_draw" s_law_draw f fd) : L2.Binds K fd ["pen", "many"] [] := F.binds (ps := ["pen", "many"]) fun _ _ _ _ _ _ us hl => match us, hl with | [_, _], _ => rfl
theorem b_law_pick {f : Addr} {fd : FuncData} (F : Fun K "_law_pick" "_law_pick" s_law_pick f fd) : L2.Binds K fd ["pen", "some"] [] := F.binds (ps := ["pen", "some"]) fun _ _ _ _ _ _ us hl => match us, hl with | [_, _], _ => rfl
theorem b_law_next {f : Addr} {fd : FuncData} (F : Fun K "_law_next" "_law_next" s_law_next f fd) : L2.Binds K fd ["spot"] [] := F.binds (ps := ["spot"]) fun _ _ _ _ _ _ us hl => match us, hl with | [_], _ => rfl
theorem b_law_heard {f : Addr} {fd : FuncData} (F : Fun K "_law_heard" "_law_heard" s_law_heard f fd) : L2.Binds K fd ["ask_it"] [] := F.binds (ps := ["ask_it"]) fun _ _ _ _ _ _ us hl => match us, hl with | [_], _ => rfl
theorem b_law_images {f : Addr} {fd : FuncData} (F : Fun K "_law_images" "_law_images" s_law_images f fd) : L2.Binds K fd ["pen", "many"] [] := F.binds (ps := ["pen", "many"]) fun _ _ _ _ _ _ us hl => match us, hl with | [_, _], _ => rfl
theorem b_law_end {f : Addr} {fd : FuncData} (F : Fun K "_law_end" "_law_end" s_law_end f fd) : L2.Binds K fd ["images", "spot", "tip"] [] := F.binds (ps := ["images", "spot", "tip"]) fun _ _ _ _ _ _ us hl => match us, hl with | [_, _, _], _ => rfl
theorem b_law_right {f : Addr} {fd : FuncData} (F : Fun K "_law_right" "_law_right" s_law_right f fd) : L2.Binds K fd ["images"] [] := F.binds (ps := ["images"]) fun _ _ _ _ _ _ us hl => match us, hl with | [_], _ => rfl
def spPen (K : PySem.W.Frag) : Sp := fun vs H Q _ => ∃ (a : Addr) (ns : List Int), vs = [.ref a] ∧ SqL K H a (ns.map V.int) ∧ ∀ p H', Same H H' → H p = none → PenK H' p 0 → Q (.ref p) H'
theorem ok_law_pen (T : LawT K mg A) : FnOk P w K mg base CX0 1 A.f_law_pen A.d_law_pen ["script"] (spPen K) := by
  refine T.F_law_pen.ok sc_law_pen (fun vs H Q E h => ?_) (fun cdv Ar outer s H vs Q E hr h => ?_)
  · obtain ⟨_, _, rfl, _⟩ := h
    rfl
  · obtain ⟨a, ns, rfl, hq, q⟩ := h
    refine ⟨_, (pss_one (ps_ret (pe_lst (pa_cons (pe_lc (own := [("cell", 1)]) (g := gName 1) (by rfl) sc_law_pen.nd (pi_seqW (pe_slice sl_list (pv 0) po_none (po_some pe_int))) (blkOk_by (own := [("cell", 1)]) (N := N_law_pen) (sc := defScope s_law_pen) (by decide +kernel)) (fun _ _ _ _ _ => pg_name (i := 1) sc_law_pen.nd rfl (Or.inl rfl)) (fun _ _ _ _ _ => pts_nil) (fun _ _ _ _ _ => (pe_callTy (T := "int") call_int1 (by rfl) T.n_int (by decide +kernel) (pa_cons (pv 1) pa_nil)))) (pa_cons pe_int (pa_cons pe_int pa_nil)))))), ?_⟩
    refine ⟨_, rfl, _, rfl, a, _, rfl, hq, fun p1 h1 => ⟨p1, _, rfl, .inl (SqL.of upd_same), fun J wk => ?_⟩⟩
    have e1 := same_new (o := .lst (cutV (ns.map V.int) none (some 63))) h1
    have hz : (cutV (ns.map V.int) none (some 63)).length ≤ 63 := by
      rw [cutI_is, List.length_map]
      unfold cutI
      rw [List.length_take]
      have : HT.sIx (ns.map V.int).length (ns.map V.int).length (some 63) ≤ 63 := by
        have e : HT.sIx (ns.map V.int).length (ns.map V.int).length (some ((63 : Nat) : Int)) = min 63 (ns.map V.int).length := HT.sIx_nat _ _ 63
        exact Nat.le_trans (Nat.le_of_eq e) (Nat.min_le_left _ _)
      omega
    refine comp_val (wk _ rfl) (fun i => V.int ((cutI ns).getD i 0)) (Nat.lt_of_le_of_lt hz (by decide)) (fun i x H2 N hi s2 hx k => ?_) (fun D H2 hD s2 hD2 => ?_)
    · rw [cutI_is, List.getElem?_map] at hx
      obtain ⟨z, hz, rfl⟩ := Option.map_eq_some_iff.mp hx
      refine ⟨_, rfl, .inl ⟨_, rfl, ?_⟩⟩
      have e : (cutI ns).getD i 0 = z := by rw [List.getD_eq_getElem?_getD, hz]; rfl
      have := k H2 (Same.refl _)
      rw [e] at this
      exact this
    · rw [cutI_is, List.length_map, map_range (cutI ns) V.int 0] at hD2
      refine ⟨by show 3 ≤ sizeLine; decide, fun p3 h3 => ?_⟩
      have e3 := same_new (o := .lst [.ref D, .int 0, .int 0]) h3
      have h03 : H p3 = none := by
        cases z : H p3 with
        | none => rfl
        | some u =>
          have := s2 _ _ (e1 _ _ z)
          rw [h3] at this
          cases this
      refine q p3 _ (e1.trans (s2.trans e3)) h03 ⟨D, cutI ns, 0, 0, upd_same, fun z => ?_, e3 _ _ hD2, Int.le_refl 0, Int.le_refl 0, Int.le_refl 0⟩
      rw [z, h3] at hD2
      cases hD2
end
end K5


set_option Elab.async false
set_option linter.all false
set_option maxRecDepth 100000
set_option maxHeartbeats 4000000
set_option exponentiation.threshold 10000
namespace K5
open PySem PySem.Spec PyProof.Rows L2 ClX OG
section
variable {P : Program} {w : World} {K : PySem.W.Frag} {mg : Str → Option Value} {base : Heap} {A : Ad}
def spDraw (K : PySem.W.Frag) : Sp := fun vs H Q _ => ∃ (p : Addr) (many : Int) (n : Nat), vs = [.ref p, .int many] ∧ PenK H p n ∧ n ≤ 100000 ∧ 0 < many ∧ SzI 100 many ∧
  ∀ r H', 0 ≤ r → r < many → But p H H' → PenK H' p (n + 1) → Q (.int r) H'
theorem ok_law_draw (T : LawT K mg A) : FnOk P w K mg base CX0 1 A.f_law_draw A.d_law_draw ["pen", "many"] (spDraw K) := by
  refine T.F_law_draw.ok sc_law_draw (fun vs H Q E h => ?_) (fun cdv Ar outer s H vs Q E hr h => ?_)
  · obtain ⟨_, _, _, rfl, _⟩ := h
    rfl
  · obtain ⟨p, many, n, rfl, ⟨c, zs, at_, rest, hp, ncp, hc, a0, an, r0⟩, hn, m0, mz, q⟩ := h
    refine ⟨_, (pss_cons (ps_if (pt_cmpR op_gt (pe_ix ix_list (pv 0) pe_int (fun _ _ => rfl)) pe_int (nomark _)) (pss_cons (ps_set (i := 2) sc_law_draw.nd rfl (Or.inl rfl) (pe_callTy call_int1 (by rfl) T.n_int (by decide +kernel) (pa_cons (pe_ix ix_list (pv 0) pe_int (fun _ _ => rfl)) pa_nil)))
      (pss_cons (ps_asg (pe_op op_fdivW (pv 2) (pv 1)) (pg_sub (pv 0) pe_int set_list))
      (pss_one (ps_ret (pe_op op_modN (pe_callTy call_int1 (by rfl) T.n_int (by decide +kernel) (pa_cons (pv 2) pa_nil)) (pv 1)))))) pss_nil)
      (pss_cons (ps_set (i := 3) sc_law_draw.nd rfl (Or.inl rfl) (pe_ix ix_list (pv 0) pe_int (fun _ _ => rfl)))
      (pss_cons (ps_asg (pe_op op_add (pv 3) pe_int) (pg_sub (pv 0) pe_int set_list))
      (pss_cons (ps_set (i := 4) sc_law_draw.nd rfl (Or.inl rfl) (pe_op op_add (pe_op op_mul pe_int (pv 3)) pe_int))
      (pss_cons (ps_if (pt_cmpR (op_neD (un64 hr)) (pe_ix ix_list (pv 0) pe_int (fun _ _ => rfl)) (pe_lst pa_nil) (nomark _)) (pss_one (ps_set (i := 4) sc_law_draw.nd rfl (Or.inl rfl) (pe_ix ix_list (pe_ix ix_list (pv 0) pe_int (fun _ _ => rfl)) (pe_op op_modN (pe_callTy call_int1 (by rfl) T.n_int (by decide +kernel) (pa_cons (pv 3) pa_nil)) (pe_callB call_len (by rfl) T.n_len (by decide +kernel) (pa_cons (pe_ix ix_list (pv 0) pe_int (fun _ _ => rfl)) pa_nil))) (fun _ _ => rfl)))) pss_nil)
      (pss_cons (ps_if (PW.pt (pw_and (pt_cmpR op_lt (pv 3) (pe_callB call_len (by rfl) T.n_len (by decide +kernel) (pa_cons (pe_ix ix_list (pv 0) pe_int (fun _ _ => rfl)) pa_nil)) (nomark _)) (pw_and1 (pt_cmpR op_ge (pe_callB call_abs (by rfl) T.n_abs (by decide +kernel) (pa_cons (pv 4) pa_nil)) (pe_op op_pow pe_int pe_int) (nomark _))))) (pss_cons (ps_set (i := 2) sc_law_draw.nd rfl (Or.inl rfl) (pe_op op_add (pe_op op_mul pe_int (pe_op op_sub (pe_callB call_abs (by rfl) T.n_abs (by decide +kernel) (pa_cons (pv 4) pa_nil)) (pe_op op_pow pe_int pe_int))) (pe_callTy call_int1 (by rfl) T.n_int (by decide +kernel) (pa_cons (pe_cmpR op_lt (pv 4) pe_int (nomark _)) pa_nil))))
      (pss_cons (ps_asg (pe_op op_fdivW (pe_callTy call_int1 (by rfl) T.n_int (by decide +kernel) (pa_cons (pv 2) pa_nil)) (pv 1)) (pg_sub (pv 0) pe_int set_list))
      (pss_one (ps_ret (pe_op op_modN (pe_callTy call_int1 (by rfl) T.n_int (by decide +kernel) (pa_cons (pv 2) pa_nil)) (pv 1)))))) pss_nil)
      (pss_cons (ps_set (i := 5) sc_law_draw.nd rfl (Or.inl rfl) (pe_op op_modN (pe_callTy call_int1 (by rfl) T.n_int (by decide +kernel) (pa_cons (pe_op op_pow (pe_op op_add (pe_op op_add (pe_op op_modN (pe_callTy call_int1 (by rfl) T.n_int (by decide +kernel) (pa_cons (pv 4) pa_nil)) pe_int) (pe_op op_mul pe_int (pv 3))) pe_int) pe_int) pa_nil)) pe_int))
      (pss_cons (ps_set (i := 5) sc_law_draw.nd rfl (Or.inl rfl) (pe_op op_modN (pe_callTy call_int1 (by rfl) T.n_int (by decide +kernel) (pa_cons (pe_op op_pow (pe_op op_add (pe_op op_add (pe_op op_mul (pv 5) (pe_op op_add (pe_op op_mul pe_int (pv 3)) pe_int)) (pe_op op_mul (pe_op op_mul pe_int (pv 3)) (pv 3))) pe_int) pe_int) pa_nil)) pe_int))
      (pss_one (ps_ret (pe_op op_modN (pe_callTy call_int1 (by rfl) T.n_int (by decide +kernel) (pa_cons (pe_op op_fdivW (pv 5) pe_int) pa_nil)) (pv 1)))))))))))), ?_⟩
    have qp : SqL K H p [.ref c, .int at_, .int rest] := SqL.of hp
    have hd : ∀ i, CDivW i many := fun i => divW m0 mz (by decide) (by decide)
    refine ⟨_, rfl, _, _, _, _, rfl, rfl, qp, rfl, _, _, rfl, rfl, _, rfl, ?_⟩
    by_cases c1 : 0 < rest
    · rw [decide_eq_true c1]
      have hm := fmod_in rest m0
      obtain ⟨e1, k1⟩ := pen_set (n := n + 1) (at_ := at_) (rest := rest / many) hp ncp hc a0 (by omega) (Int.ediv_nonneg r0 (by omega))
      exact iteT ⟨_, rfl, _, _, _, _, rfl, rfl, qp, rfl, .inl ⟨_, rfl, _, rfl, _, rfl, _, _, rfl, rfl, hd _, _, rfl, p, _, 2, 2, rfl, rfl, hp, rfl, _, rfl, .inl ⟨_, rfl, _, rfl, _, _, rfl, rfl, by omega, q _ _ hm.1 hm.2 e1 k1⟩⟩⟩
    · rw [decide_eq_false c1]
      refine iteF ?_
      refine ⟨_, rfl, _, _, _, _, rfl, rfl, qp, rfl, ?_⟩
      refine ⟨_, rfl, _, _, rfl, rfl, _, rfl, p, _, 1, 1, rfl, rfl, hp, rfl, ?_⟩
      obtain ⟨e1, k1⟩ := pen_set (n := n + 1) (at_ := at_ + 1) (rest := rest) hp ncp hc (by omega) (by omega) r0
      have hp1 : upd H p (.lst [.ref c, .int (at_ + 1), .int rest]) p = some (.lst [.ref c, .int (at_ + 1), .int rest]) := upd_same
      have hc1 : upd H p (.lst [.ref c, .int (at_ + 1), .int rest]) c = some (.lst (zs.map V.int)) := by
        rw [upd_ne ncp]
        exact hc
      show tSeq _ _ _ _ (upd H p (.lst [.ref c, .int (at_ + 1), .int rest]))
      generalize upd H p (.lst [.ref c, .int (at_ + 1), .int rest]) = H1 at *
      have qp1 : SqL K H1 p [.ref c, .int (at_ + 1), .int rest] := SqL.of hp1
      have qc1 : SqL K H1 c (zs.map V.int) := SqL.of hc1
      refine ⟨_, rfl, _, _, rfl, rfl, .inl ⟨by decide, by decide⟩, _, _, rfl, rfl, ?_⟩
      show tSeq _ _ _ (List.set _ 4 (some (V.int (52361 * at_ + 1907)))) _
      generalize 52361 * at_ + 1907 = cell0
      refine ⟨_, rfl, _, _, _, _, rfl, rfl, qp1, rfl, by show 0 ≤ sizeLine; decide, fun t ht => ?_⟩
      have e2 := same_new (o := .lst []) ht
      refine ⟨.list (zs.map PyData.int), .list [], .lst ((e2.seq qc1)) (dp_ints zs), .lst (SqL.of upd_same) .nil, shaped_ints zs, rfl, _, rfl, ?_⟩
      rw [eqv_nil]
      have hp2 := e2 _ _ hp1
      have qp2 := e2.seq qp1
      have qc2 := (e2.seq qc1)
      have e12 : But p H (upd H1 t (.lst [])) := e1.same e2
      have k2 : PenK (upd H1 t (.lst [])) p (n + 1) := k1.same e2
      have hc2 := e2 _ _ hc1
      generalize upd H1 t (.lst []) = H2 at hp2 qp2 qc2 e12 k2 hc2 ⊢
      have hle : (zs.map V.int).length = zs.length := List.length_map ..
      by_cases h0 : zs = []
      rw [show (!decide (zs = [])) = false from by rw [decide_eq_true h0]; rfl]
      refine iteF ?_
      obtain ⟨cell, rfl⟩ : ∃ c, c = cell0 := ⟨_, rfl⟩
      rotate_left
      rw [show (!decide (zs = [])) = true from by rw [decide_eq_false h0]; rfl]
      have hz : 0 < (zs.length : Int) := by
        cases zs with
        | nil => exact absurd rfl h0
        | cons z zs => show (0 : Int) < ((zs.length + 1 : Nat) : Int); omega
      have hm := fmod_in at_ hz
      obtain ⟨j, hj⟩ : ∃ j : Nat, at_.fmod (zs.length : Int) = (j : Int) := ⟨(at_.fmod (zs.length : Int)).toNat, by omega⟩
      have hj2 : j < zs.length := by omega
      have hget : (zs.map V.int)[j]? = some (.int zs[j]) := by rw [List.getElem?_map, List.getElem?_eq_getElem hj2]; rfl
      refine iteT ⟨_, rfl, _, _, _, _, rfl, rfl, qp2, rfl, _, rfl, .inl ⟨_, rfl, _, rfl, _, _, _, _, rfl, rfl, qp2, rfl, _, (zs.map V.int).length, rfl, len_s (.inl qc2), _, _, rfl, rfl, by rw [hle]; omega, c, zs.map V.int, _, .int zs[j], rfl, rfl, qc2, by rw [hle, hj]; exact atI_nat hget, ?_⟩⟩
      generalize zs[j] = cell
      all_goals
        refine ⟨_, rfl, _, rfl, _, _, _, _, rfl, rfl, qp2, rfl, _, (zs.map V.int).length, rfl, len_s (.inl qc2), _, _, rfl, rfl, _, rfl, ?_⟩
        by_cases c2 : at_ < ((zs.map V.int).length : Int)
        rw [decide_eq_true c2]
        refine iteT ⟨_, rfl, cell, rfl, _, _, rfl, rfl, ⟨by decide, by decide, by decide⟩, _, _, rfl, rfl, _, rfl, ?_⟩
        by_cases hb2 : (10 : Int) ^ (18 : Int).toNat ≤ (if cell < 0 then -cell else cell)
        · rw [decide_eq_true hb2]
          refine iteT ?_
          refine ⟨_, rfl, cell, rfl, _, _, rfl, rfl, ⟨by decide, by decide, by decide⟩, _, _, rfl, rfl, _, _, rfl, rfl, .inl ⟨by decide, by decide⟩, _, rfl, _, _, rfl, rfl, .inr ⟨_, rfl, _, _, rfl, rfl, ?_⟩⟩
          have hG : 0 ≤ 2 * ((if cell < 0 then -cell else cell) - 10 ^ (18 : Int).toNat) + (if decide (cell < 0) = true then (1 : Int) else 0) := by
            generalize (10 : Int) ^ (18 : Int).toNat = PP at *
            have : (0 : Int) ≤ if decide (cell < 0) = true then 1 else 0 := by split <;> decide
            omega
          have pk := fun (G : Int) (hG : 0 ≤ G) => pen_set (n := n + 1) (at_ := at_ + 1) (rest := G / many) hp2 ncp hc2 (by omega) (by omega) (Int.ediv_nonneg hG (by omega))
          exact ⟨_, rfl, .inl ⟨_, rfl, _, rfl, _, _, rfl, rfl, hd _, _, rfl, p, _, 2, 2, rfl, rfl, hp2, rfl, _, rfl, .inl ⟨_, rfl, _, rfl, _, _, rfl, rfl, by omega, q _ _ (fmod_in _ m0).1 (fmod_in _ m0).2 (e12.trans (pk _ hG).1) (pk _ hG).2⟩⟩⟩
        rw [decide_eq_false hb2]
        refine iteF ?_
        rotate_left
        rw [decide_eq_false c2]
        refine iteF (iteF ?_)
        all_goals
          have b1 : 0 ≤ cell.fmod 2147483563 ∧ cell.fmod 2147483563 < 2147483563 := fmod_in cell (by decide)
          have key1 : ∀ m : Int, 0 ≤ m ∧ m < 2147483549 → -(2 ^ 64) < m ∧ m < 2 ^ 64 := fun m hm => by omega
          have key2 : ∀ m : Int, 0 ≤ m ∧ m < 2147483549 → (m * (2 * at_ + 1907) + 52361 * at_ * at_ + 60521).natAbs < 2 ^ 64 := fun m hm => by
            have g1 : 0 ≤ m * (2 * at_ + 1907) := Int.mul_nonneg hm.1 (by omega)
            have g2 : m * (2 * at_ + 1907) ≤ 2147483549 * 201907 := Int.mul_le_mul (by omega) (by omega) (by omega) (by decide)
            have g3 : 0 ≤ 52361 * at_ * at_ := Int.mul_nonneg (by omega) a0
            have g4 : 52361 * at_ * at_ ≤ 5236100000 * 100000 := Int.mul_le_mul (by omega) (by omega) a0 (by decide)
            omega
          have m32 : ∀ i : Int, CDivW i 64 := fun i => divW (n := 7) (by decide) (by show (64 : Int).natAbs < 2 ^ 7; decide) (by decide) (by decide)
          refine ⟨_, rfl, .inl ⟨_, rfl, _, _, rfl, rfl, (by decide : (2147483563 : Int) ≠ 0), _, rfl, _, _, rfl, rfl, .inl ⟨by decide, by decide⟩, _, _, rfl, rfl, _, _, rfl, rfl, _, _, rfl, rfl, ⟨by decide, by decide, by omega⟩, .inl ⟨_, rfl, _, _, rfl, rfl, (by decide : (2147483549 : Int) ≠ 0), ?_⟩⟩⟩
          refine ⟨_, rfl, _, rfl, _, _, rfl, rfl, .inl ⟨by decide, by decide⟩, _, _, rfl, rfl, _, _, rfl, rfl, .inl (key1 _ (fmod_in _ (by decide))), _, rfl, _, _, rfl, rfl, .inl ⟨by decide, by decide⟩, _, rfl, _, _, rfl, rfl, .inl ⟨by omega, by omega⟩, _, _, rfl, rfl, _, _, rfl, rfl, _, _, rfl, rfl, ⟨by decide, by decide, key2 _ (fmod_in _ (by decide))⟩, .inl ⟨_, rfl, _, _, rfl, rfl, (by decide : (2147483579 : Int) ≠ 0), ?_⟩⟩
          exact ⟨_, rfl, _, _, rfl, rfl, m32 _, .inl ⟨_, rfl, _, rfl, _, _, rfl, rfl, by omega, q _ _ (fmod_in _ m0).1 (fmod_in _ m0).2 e12 k2⟩⟩
end
end K5


set_option Elab.async false
set_option linter.all false
set_option maxRecDepth 100000
set_option maxHeartbeats 4000000
set_option exponentiation.threshold 10000
namespace K5
open PySem PySem.Spec PyProof.Rows L2 ClX OG
section
variable {P : Program} {w : World} {K : PySem.W.Frag} {mg : Str → Option Value} {base : Heap} {A : Ad}
def spPick (K : PySem.W.Frag) : Sp := fun vs H Q _ => ∃ (p a : Addr) (xs : List V) (n : Nat), vs = [.ref p, .ref a] ∧ PenK H p n ∧ n ≤ 99999 ∧ SqL K H a xs ∧ a ≠ p ∧ 0 < xs.length ∧ xs.length ≤ 1000 ∧
  ∀ x H', x ∈ xs → But p H H' → PenK H' p (n + 1) → Q x H'
theorem ok_law_pick (T : LawT K mg A) : FnOk P w K mg base CX0 2 A.f_law_pick A.d_law_pick ["pen", "some"] (spPick K) := by
  refine T.F_law_pick.ok sc_law_pick (fun vs H Q E h => ?_) (fun cdv Ar outer s H vs Q E hr h => ?_)
  · obtain ⟨_, _, _, _, rfl, _⟩ := h
    rfl
  · obtain ⟨p, a, xs, n, rfl, k, hn, qx, nap, h0, h1, q⟩ := h
    refine ⟨_, (pss_one (ps_ret (pe_ix ix_list (pv 1) (pe_call (ok_law_draw T) (hr.mono (by decide)) rfl T.g_law_draw T.F_law_draw.kp (b_law_draw T.F_law_draw) .nil pass0 (pa_cons (pv 0) (pa_cons (pe_callB call_len (by rfl) T.n_len (by decide +kernel) (pa_cons (pv 1) pa_nil)) pa_nil))) (fun _ _ => rfl)))), ?_⟩
    refine ⟨_, rfl, _, rfl, _, rfl, _, xs.length, rfl, len_s (.inl qx), p, (xs.length : Int), n, rfl, k, by omega, by omega, (szI_nat (k := 10) (by omega)).mono (by decide), fun r H' r0 r1 e k' => ?_⟩
    obtain ⟨j, rfl⟩ : ∃ j : Nat, r = (j : Int) := ⟨r.toNat, by omega⟩
    have hj : j < xs.length := by omega
    exact ⟨a, xs, _, xs[j], rfl, rfl, e.l nap qx, atI_nat (List.getElem?_eq_getElem hj), q _ _ (List.getElem_mem hj) e k'⟩
/-! ### sides of drawn maps -/
def nx3 (p : Int) : Int := 3 * (p / 3) + (p + 1) % 3
def spNext : Sp := fun vs H Q _ => ∃ p : Int, vs = [.int p] ∧ Q (.int (nx3 p)) H
theorem ok_law_next (T : LawT K mg A) : FnOk P w K mg base CX0 1 A.f_law_next A.d_law_next ["spot"] spNext := by
  refine T.F_law_next.ok sc_law_next (fun vs H Q E h => ?_) (fun cdv Ar outer s H vs Q E hr h => ?_)
  · obtain ⟨_, rfl, _⟩ := h
    rfl
  · obtain ⟨p, rfl, q⟩ := h
    refine ⟨_, (pss_one (ps_ret (pe_op op_add (pe_op op_mul pe_int (pe_op op_fdiv (pv 0) pe_int)) (pe_op op_mod (pe_callTy call_int1 (by rfl) T.n_int (by decide +kernel) (pa_cons (pe_op op_add (pv 0) pe_int) pa_nil)) pe_int)))), ?_⟩
    refine ⟨_, rfl, _, _, rfl, rfl, cdiv3, _, _, rfl, rfl, .inl ⟨by decide, by decide⟩, _, rfl, _, _, rfl, rfl, .inl ⟨_, rfl, _, _, rfl, rfl, (by show (0 : Int) < 3; decide), _, _, rfl, rfl, q⟩⟩
/-- images told in a list -/
def RowsL (K : PySem.W.Frag) (H : Hp) (a : Addr) (ims : List Im) : Prop := ∃ xs, SqL K H a xs ∧ ImsT K H xs ims
theorem RowsL.row {H : Hp} {a : Addr} {ims : List Im} {k : Int} (h : RowsL K H a ims) (h0 : 0 ≤ k) (h1 : k < (ims.length : Int)) : ∃ xs b, SqL K H a xs ∧ atI xs k = some (.ref b) ∧ SqT K H b (imV (imAt ims k)) := by
  obtain ⟨xs, hq, hx⟩ := h
  have hm : ims[k.toNat]? = some (imAt ims k) := by
    unfold imAt
    rw [List.getD_eq_getElem?_getD, List.getElem?_eq_getElem (by omega)]
    rfl
  obtain ⟨x, hxx⟩ : ∃ x, xs[k.toNat]? = some x := ⟨_, List.getElem?_eq_getElem (by have := hx.1; omega)⟩
  obtain ⟨b, rfl, e⟩ := hx.2 _ _ _ hxx hm
  refine ⟨xs, b, hq, ?_, e⟩
  rw [show k = ((k.toNat : Nat) : Int) by omega]
  exact atI_nat hxx
def tipAt (ims : List Im) (p tip : Int) : Int := if (imAt ims (p / 3)).2.2 = 0 then tip else 1 - tip
def spEnd (K : PySem.W.Frag) : Sp := fun vs H Q _ => ∃ (a : Addr) (ims : List Im) (p tip : Int), vs = [.ref a, .int p, .int tip] ∧ RowsL K H a ims ∧ 0 ≤ p ∧ p < 3 * (ims.length : Int) ∧ ∀ t, H t = none → Q (.ref t) (upd H t (.tup [.int (pl ims p), .int (tipAt ims p tip)]))
theorem ok_law_end (T : LawT K mg A) : FnOk P w K mg base CX0 1 A.f_law_end A.d_law_end ["images", "spot", "tip"] (spEnd K) := by
  refine T.F_law_end.ok sc_law_end (fun vs H Q E h => ?_) (fun cdv Ar outer s H vs Q E hr h => ?_)
  · obtain ⟨_, _, _, _, rfl, _⟩ := h
    rfl
  · obtain ⟨a, ims, p, tip, rfl, ⟨xs, hq, hx⟩, p0, p1, q⟩ := h
    refine ⟨_, (pss_cons (ps_asg (pe_ix ix_list (pv 0) (pe_op op_fdiv (pv 1) pe_int) (fun _ _ => rfl)) (pg_tup rfl (pgs_cons (pg_name (i := 3) sc_law_end.nd rfl (Or.inl rfl)) (pgs_cons (pg_name (i := 4) sc_law_end.nd rfl (Or.inl rfl)) (pgs_cons (pg_name (i := 5) sc_law_end.nd rfl (Or.inl rfl)) pgs_nil)))))
      (pss_cons (ps_set (i := 6) sc_law_end.nd rfl (Or.inl rfl) (pe_op op_mod (pe_callTy call_int1 (by rfl) T.n_int (by decide +kernel) (pa_cons (pv 1) pa_nil)) pe_int))
      (pss_cons (ps_if (pt_cmpR op_eq (pv 5) pe_int (nomark _)) (pss_one (ps_ret (pe_tup (pa_cons (pe_op op_add (pe_op op_mul pe_int (pv 3)) (pe_op op_mod (pe_callTy call_int1 (by rfl) T.n_int (by decide +kernel) (pa_cons (pe_op op_add (pv 4) (pv 6)) pa_nil)) pe_int)) (pa_cons (pv 2) pa_nil))))) pss_nil)
      (pss_one (ps_ret (pe_tup (pa_cons (pe_op op_add (pe_op op_mul pe_int (pv 3)) (pe_op op_mod (pe_callTy call_int1 (by rfl) T.n_int (by decide +kernel) (pa_cons (pe_op op_sub (pv 4) (pv 6)) pa_nil)) pe_int)) (pa_cons (pe_op op_sub pe_int (pv 2)) pa_nil)))))))), ?_⟩
    have k0 : 0 ≤ p / 3 := by omega
    have k1 : p / 3 < (ims.length : Int) := by omega
    obtain ⟨xs, b, hq, hat, hb⟩ := RowsL.row ⟨xs, hq, hx⟩ k0 k1
    have hpl : pl ims p = 3 * (imAt ims (p / 3)).1 + sd (imAt ims (p / 3)) (p % 3) := pl_eq ims p
    unfold tipAt at q
    rw [hpl] at q
    generalize imAt ims (p / 3) = m at hb q
    obtain ⟨mi, ms, mf⟩ := m
    unfold sd at q
    dsimp only at q
    refine ⟨_, rfl, _, rfl, _, _, rfl, rfl, cdiv3, a, xs, _, .ref b, rfl, rfl, hq, hat, b, _, rfl, hb, rfl, _, _, rfl, _, _, rfl, _, _, rfl, rfl, ?_⟩
    refine ⟨_, rfl, .inl ⟨_, rfl, _, _, rfl, rfl, (by show (0 : Int) < 3; decide), ?_⟩⟩
    refine ⟨_, rfl, rfl, _, rfl, ?_⟩
    by_cases hf : mf = 0
    · rw [if_pos hf, if_pos hf] at q
      rw [show decide (V.int mf = V.int 0) = true from decide_eq_true (by rw [hf])]
      exact iteT ⟨_, rfl, _, _, rfl, rfl, .inl ⟨by decide, by decide⟩, _, rfl, _, rfl, _, _, rfl, rfl, .inl ⟨_, rfl, _, _, rfl, rfl, (by show (0 : Int) < 3; decide), _, _, rfl, rfl, _, rfl, two_line, q⟩⟩
    · rw [if_neg hf, if_neg hf] at q
      rw [show decide (V.int mf = V.int 0) = false from decide_eq_false fun z => hf (by injection z)]
      exact iteF ⟨_, rfl, _, _, rfl, rfl, .inl ⟨by decide, by decide⟩, _, rfl, _, rfl, _, _, rfl, rfl, .inl ⟨_, rfl, _, _, rfl, rfl, (by show (0 : Int) < 3; decide), _, _, rfl, rfl, _, rfl, _, _, rfl, rfl, two_line, q⟩⟩
end
end K5


set_option Elab.async false
set_option linter.all false
set_option maxRecDepth 100000
set_option maxHeartbeats 4000000
set_option exponentiation.threshold 10000
namespace K5
open PySem PySem.Spec PyProof.Rows L2 ClX OG
/-! ### drawn images -/
section
variable {P : Program} {w : World} {K : PySem.W.Frag} {mg : Str → Option Value} {base : Heap} {A : Ad}
theorem but_put {p l : Addr} {H H' : Hp} {o : HO} (h : But p H H') (hl : H l = none) : But p H (upd H' l o) := by
  have np := lst_new h.1 hl
  obtain ⟨h1, h2, h3, h4⟩ := h
  refine ⟨h1, by rw [upd_ne np.symm]; exact h2, fun b u n e => by rw [upd_ne (ne_of_none e hl)]; exact h3 b u n e, fun c e => ?_⟩
  unfold HeadIs
  rw [upd_ne np.symm]
  exact h4 c e
theorem pen_put {p l : Addr} {H H' : Hp} {o : HO} {m n : Nat} (k : PenK H' p m) (e : But p H H') (k0 : PenK H p n) (hl : H l = none) : PenK (upd H' l o) p m := by
  obtain ⟨c0, z0, a0, r0, h1, h2, h3, _⟩ := k0
  obtain ⟨c, zs, at_, rest, g1, g2, g3, g4⟩ := k
  obtain ⟨r, hr⟩ := e.2.2.2 c0 ⟨_, h1⟩
  rw [g1] at hr
  cases hr
  have n1 : c0 ≠ l := ne_of_none h3 hl
  have n2 : p ≠ l := ne_of_none h1 hl
  exact ⟨c0, zs, at_, rest, by rw [upd_ne n2]; exact g1, g2, by rw [upd_ne n1]; exact g3, g4⟩
theorem RowsAt.but {p F : Addr} {H H' : Hp} {bs : List Im} (h : RowsAt H F bs) (e : But p H H') (n : F ≠ p) : RowsAt H' F bs := by
  obtain ⟨ts, h1, h2, h3⟩ := h
  obtain ⟨xs, hp⟩ := e.1
  exact ⟨ts, e.2.2.1 _ _ n h1, h2, fun i t m a b => e.2.2.1 _ _ (fun z => by have := h3 i t m a b; rw [z, hp] at this; cases this) (h3 i t m a b)⟩
theorem RowsAt.put {l F : Addr} {H : Hp} {bs : List Im} {xs ys : List V} (h : RowsAt H F bs) (hl : H l = some (.lst xs)) (n : F ≠ l) : RowsAt (upd H l (.lst ys)) F bs := by
  obtain ⟨ts, h1, h2, h3⟩ := h
  exact ⟨ts, by rw [upd_ne n]; exact h1, h2, fun i t m a b => by
    have := h3 i t m a b
    rw [upd_ne (fun z => by rw [z, hl] at this; cases this)]
    exact this⟩
theorem RowsAt.push {t F : Addr} {H : Hp} {bs : List Im} {m : Im} (h : RowsAt H F bs) (ht : H t = some (.tup (imV m))) : ∃ ys, H F = some (.lst ys) ∧ ys.length = bs.length ∧ RowsAt (upd H F (.lst (ys ++ [.ref t]))) F (bs ++ [m]) := by
  obtain ⟨ts, h1, h2, h3⟩ := h
  refine ⟨_, h1, by rw [List.length_map, h2], ts ++ [t], by rw [upd_same, List.map_append]; rfl, by rw [List.length_append, List.length_append, h2]; rfl, fun i u n a b => ?_⟩
  have tup : H u = some (.tup (imV n)) := by
    by_cases hi : i < ts.length
    · rw [List.getElem?_append_left hi] at a
      rw [List.getElem?_append_left (by omega)] at b
      exact h3 i u n a b
    · rw [List.getElem?_append_right (by omega)] at a b
      have e0 : i - ts.length = 0 := by
        cases hkk : i - ts.length with
        | zero => rfl
        | succ _ => rw [hkk] at a; cases a
      rw [e0] at a
      rw [show i - bs.length = 0 by omega] at b
      cases a
      cases b
      exact ht
  rw [upd_ne (fun z => by rw [z, h1] at tup; cases tup)]
  exact tup
theorem erase_perm : ∀ (ls : List Int) (j : Nat) (h : j < ls.length), (ls[j] :: ls.eraseIdx j).Perm ls
  | x :: ls, 0, _ => List.Perm.refl _
  | x :: ls, j + 1, h => (List.Perm.swap _ _ _).trans ((erase_perm ls j (Nat.lt_of_succ_lt_succ h)).cons x)
def spImages (K : PySem.W.Frag) : Sp := fun vs H Q _ => ∃ (p : Addr) (n m : Nat), vs = [.ref p, .int n] ∧ PenK H p m ∧ m ≤ 90000 ∧ 1 ≤ n ∧ n ≤ 12 ∧
  ∀ F ims H', But p H H' → PenK H' p (m + 3 * n) → H F = none → RowsAt H' F ims → Good ims → ims.length = n → Q (.ref F) H'
theorem ok_law_images (T : LawT K mg A) : FnOk P w K mg base CX0 2 A.f_law_images A.d_law_images ["pen", "many"] (spImages K) := by
  refine T.F_law_images.ok sc_law_images (fun vs H Q E h => ?_) (fun cdv Ar outer s H vs Q E hr h => ?_)
  · obtain ⟨_, _, _, rfl, _⟩ := h
    rfl
  · obtain ⟨p, n, m, rfl, k0, hm, n1, n12, q⟩ := h
    refine ⟨_, (pss_cons (ps_par (i := 2) (j := 3) (by rfl) sc_law_images.nd rfl rfl (by decide) rfl rfl (pa_cons (pe_listRg (by rfl) (by rfl) T.n_list (prg_1 (by rfl) T.n_range (pv 1))) (pa_cons (pe_lst pa_nil) pa_nil)) (by rfl))
      (pss_cons (ps_for PassesOwn.never rfl (pi_range1 (by rfl) T.n_range (pa_cons (pv 1) pa_nil)) (pg_name (i := 4) sc_law_images.nd rfl (Or.inl rfl)) (pss_one (ps_expr (pe_bm PySem.F.plainAttrs_list PySem.F.slot_list_append PySem.F.type_list_append mt_append (pv 3) (pa_cons (pe_tup (pa_cons (pe_bm PySem.F.plainAttrs_list PySem.F.slot_list_pop PySem.F.type_list_pop mt_popAt (pv 2) (pa_cons (pe_call (ok_law_draw T) (hr.mono (by decide)) rfl T.g_law_draw T.F_law_draw.kp (b_law_draw T.F_law_draw) .nil pass0 (pa_cons (pv 0) (pa_cons (pe_callB call_len (by rfl) T.n_len (by decide +kernel) (pa_cons (pv 2) pa_nil)) pa_nil))) pa_nil)) (pa_cons (pe_call (ok_law_draw T) (hr.mono (by decide)) rfl T.g_law_draw T.F_law_draw.kp (b_law_draw T.F_law_draw) .nil pass0 (pa_cons (pv 0) (pa_cons pe_int pa_nil))) (pa_cons (pe_call (ok_law_draw T) (hr.mono (by decide)) rfl T.g_law_draw T.F_law_draw.kp (b_law_draw T.F_law_draw) .nil pass0 (pa_cons (pv 0) (pa_cons pe_int pa_nil))) pa_nil)))) pa_nil)))))
      (pss_one (ps_ret (pv 3))))), ?_⟩
    refine ⟨_, rfl, _, rfl, RgOk.of_le (by omega) (by omega) (by omega) (by omega), fun L hL => ⟨by show 0 ≤ sizeLine; decide, fun F hF => ⟨_, _, rfl, ?_⟩⟩⟩
    have sL := same_new (o := .lst (rgV 0 (n : Nat))) hL
    have sF := same_new (o := .lst []) hF
    have nFL : F ≠ L := fun z => by rw [z, upd_same] at hF; cases hF
    have hF0 : H F = none := by
      cases q : H F with
      | none => rfl
      | some u => rw [sL _ _ q] at hF; cases hF
    have nLp := lst_new k0.lst hL
    have nFp := lst_new k0.lst hF0
    have szi : ∀ k : Nat, k < 1000 → SzI 100 (k : Int) := fun k h => (szI_nat (k := 10) (by omega)).mono (by decide)
    refine ⟨_, rfl, n, rfl, by omega, by omega, ?_⟩
    rw [show ((n : Nat) : Int).toNat = n by omega]
    refine for_range (lo := 0) (n := n) (fun i σ H' => But p H H' ∧ PenK H' p (m + 3 * i) ∧ ∃ (ls : List Int) (bs : List Im) (w4 : Option V), σ = [some (.ref p), some (.int n), some (.ref L), some (.ref F), w4] ∧ H' L = some (.lst (ls.map V.int)) ∧ RowsAt H' F bs ∧ bs.length = i ∧
        (bs.map (·.1) ++ ls).Perm ((List.range n).map fun i : Nat => (i : Int)) ∧ ∀ b ∈ bs, OkIm b)
      ⟨but_same (sL.trans sF) k0.lst, k0.same (sL.trans sF), _, [], _, rfl, (by rw [← rgV_ints]; exact sF _ _ upd_same), ⟨[], upd_same, rfl, fun i t m a _ => by cases a⟩, rfl, List.Perm.refl _, fun b hb => by cases hb⟩ (fun i σ H1 hi k => ?_) (fun σ H1 k => ?_)
    · obtain ⟨e1, k1, ls, bs, w4, rfl, hL1, rb, lb, pm, ok⟩ := k
      have hll : ls.length = n - i := by
        have := pm.length_eq
        rw [List.length_append, List.length_map, List.length_map, List.length_range] at this
        omega
      obtain ⟨ys1, hF1⟩ : ∃ ys, H1 F = some (.lst ys) := let ⟨ts, h, _⟩ := rb; ⟨_, h⟩
      refine ⟨_, rfl, .inl ⟨rfl, _, SqL.of hF1⟩, _, rfl, .inl ⟨rfl, _, SqL.of hL1⟩, _, rfl, _, rfl, _, (ls.map V.int).length, rfl, len_s (.inl (SqL.of hL1)), ?_⟩
      rw [List.length_map]
      refine ⟨p, ls.length, m + 3 * i, rfl, k1, by omega, by omega, szi _ (by omega), fun r H2 r0 r1 e2 k2 => ?_⟩
      obtain ⟨j, rfl⟩ : ∃ j : Nat, r = (j : Int) := ⟨r.toNat, by omega⟩
      have hj : j < ls.length := by omega
      have hL2 : H2 L = some (.lst (ls.map V.int)) := e2.2.2.1 _ _ nLp hL1
      have hix : ixN (ls.map V.int).length (j : Int) = some j := by
        unfold ixN
        rw [List.length_map, if_pos (by omega), if_pos (by omega)]
        rfl
      refine ⟨L, ls.map V.int, (j : Int), j, .int ls[j], rfl, rfl, hL2, by omega, by omega, (ixN_seq hix).1, by rw [List.getElem?_map, List.getElem?_eq_getElem hj]; rfl, ?_⟩
      have e12 := e1.trans e2
      have rb2 := (rb.but e2 nFp).put (ys := (ls.map V.int).eraseIdx j) hL2 nFL
      have e3 := but_put (o := .lst ((ls.map V.int).eraseIdx j)) e12 hL
      have k3 := pen_put (o := .lst ((ls.map V.int).eraseIdx j)) k2 e12 k0 hL
      have hL3 : upd H2 L (.lst ((ls.map V.int).eraseIdx j)) L = some (.lst ((ls.eraseIdx j).map V.int)) := by
        rw [upd_same]
        have : ∀ (ls : List Int) j, (ls.map V.int).eraseIdx j = (ls.eraseIdx j).map V.int := by
          intro ls
          induction ls with
          | nil => intro j; rfl
          | cons x ls ih =>
            intro j
            cases j with
            | zero => rfl
            | succ j => show _ :: (ls.map V.int).eraseIdx j = _; rw [ih]; rfl
        rw [this]
      generalize upd H2 L (.lst ((ls.map V.int).eraseIdx j)) = H3 at *
      refine ⟨_, rfl, p, 3, m + 3 * i + 1, rfl, k3, by omega, by decide, szi 3 (by decide), fun r2 H4 a2 b2 e4 k4 => ?_⟩
      refine ⟨_, rfl, p, 2, m + 3 * i + 2, rfl, k4, by omega, by decide, szi 2 (by decide), fun r3 H5 a3 b3 e5 k5 => ⟨three_line, fun t ht => ?_⟩⟩
      have e345 := e3.trans (e4.trans e5)
      have e45 := e4.trans e5
      have st := same_new (o := .tup [.int ls[j], .int r2, .int r3]) ht
      have rb5 := (rb2.but e45 nFp).same st
      have hL5 := st _ _ (e45.2.2.1 _ _ nLp hL3)
      obtain ⟨ys, g1, g2, g3⟩ := rb5.push (m := (ls[j], r2, r3)) (t := t) upd_same
      refine ⟨F, ys, _, rfl, rfl, g1, by rw [g2]; exact Nat.lt_of_lt_of_le (show bs.length < 64 by omega) (by decide), ?_⟩
      refine ⟨but_put (e345.same st) hF0, pen_put ((k5.same st).mono (by omega)) (e345.same st) k0 hF0, ls.eraseIdx j, bs ++ [(ls[j], r2, r3)], _, rfl, by rw [upd_ne nFL.symm]; exact hL5, g3, by rw [List.length_append, lb]; rfl, ?_, fun b hb => ?_⟩
      · rw [List.map_append, List.append_assoc]
        exact ((erase_perm ls j hj).append_left _).trans pm
      · rcases List.mem_append.mp hb with hb | hb
        · exact ok b hb
        · rcases List.mem_singleton.mp hb with rfl
          refine ⟨?_, by show r2 = 0 ∨ r2 = 1 ∨ r2 = 2; omega, by show r3 = 0 ∨ r3 = 1; omega⟩
          have : ls[j] ∈ (List.range n).map fun i : Nat => (i : Int) := pm.mem_iff.mp (List.mem_append_right _ (List.getElem_mem hj))
          obtain ⟨q, _, hq⟩ := List.mem_map.mp this
          show 0 ≤ ls[j]
          omega
    · obtain ⟨e1, k1, ls, bs, w4, rfl, hL1, rb, lb, pm, ok⟩ := k
      have hll : ls = [] := by
        have := pm.length_eq
        rw [List.length_append, List.length_map, List.length_map, List.length_range] at this
        exact List.eq_nil_of_length_eq_zero (by omega)
      subst hll
      rw [List.append_nil] at pm
      refine ⟨_, rfl, q F bs H1 e1 k1 hF0 rb ⟨⟨fun z => by rw [z] at lb; simp at lb; omega, by rw [lb]; exact pm⟩, ok⟩ lb⟩
end
end K5


set_option Elab.async false
set_option linter.all false
set_option maxRecDepth 100000
set_option maxHeartbeats 4000000
set_option exponentiation.threshold 10000
namespace K5
open PySem PySem.Spec PyProof.Rows L2 ClX OG
section
variable {P : Program} {w : World} {K : PySem.W.Frag} {mg : Str → Option Value} {base : Heap} {A : Ad}
theorem kb_Map_corner_corner {f : Addr} {fd : FuncData} (F : Fun K "corner" "Map.corner" s_Map_corner f fd) : KBinds K fd ["self", "corner"] ["corner"] gOneOne gOneOne := by
  obtain ⟨oc, od, kV, doc, pm, an, cdv, ct, osl, rfl, lk, hcd⟩ := F.ex
  refine ⟨fun s us ws hK hl => ?_, fun {vs us zs ws} r rz => rel_oneOne r rz⟩
  match us, ws, hl with
  | [o], [a], _ => exact .of_eq rfl
  | [], _, hl => exact absurd hl (by simp [gOneOne])
  | _ :: _ :: _, _, hl => exact absurd hl (by simp [gOneOne])
  | [_], [], hl => exact absurd hl (by simp [gOneOne])
  | [_], _ :: _ :: _, hl => exact absurd hl (by simp [gOneOne])
theorem kb_Map_then_other {f : Addr} {fd : FuncData} (F : Fun K "then" "Map.then" s_Map_then f fd) : KBinds K fd ["self", "other"] ["other"] gOneOne gOneOne := by
  obtain ⟨oc, od, kV, doc, pm, an, cdv, ct, osl, rfl, lk, hcd⟩ := F.ex
  refine ⟨fun s us ws hK hl => ?_, fun {vs us zs ws} r rz => rel_oneOne r rz⟩
  match us, ws, hl with
  | [o], [a], _ => exact .of_eq rfl
  | [], _, hl => exact absurd hl (by simp [gOneOne])
  | _ :: _ :: _, _, hl => exact absurd hl (by simp [gOneOne])
  | [_], [], hl => exact absurd hl (by simp [gOneOne])
  | [_], _ :: _ :: _, hl => exact absurd hl (by simp [gOneOne])
theorem kb_Map_same_size {f : Addr} {fd : FuncData} (F : Fun K "same" "Map.same" s_Map_same f fd) : KBinds K fd ["cls", "size"] ["size"] gOneOne gOneOne := by
  obtain ⟨oc, od, kV, doc, pm, an, cdv, ct, osl, rfl, lk, hcd⟩ := F.ex
  refine ⟨fun s us ws hK hl => ?_, fun {vs us zs ws} r rz => rel_oneOne r rz⟩
  match us, ws, hl with
  | [o], [a], _ => exact .of_eq rfl
  | [], _, hl => exact absurd hl (by simp [gOneOne])
  | _ :: _ :: _, _, hl => exact absurd hl (by simp [gOneOne])
  | [_], [], hl => exact absurd hl (by simp [gOneOne])
  | [_], _ :: _ :: _, hl => exact absurd hl (by simp [gOneOne])
theorem _root_.K5.ImsT.same {H H' : Hp} {xs : List V} {ims : List Im} (h : ImsT K H xs ims) (s : Same H H') : ImsT K H' xs ims := ⟨h.1, fun i x m a b => let ⟨t, e, q⟩ := h.2 i x m a b; ⟨t, e, same_t s q⟩⟩
theorem RowsL.same {H H' : Hp} {a : Addr} {ims : List Im} (h : RowsL K H a ims) (s : Same H H') : RowsL K H' a ims := by
  obtain ⟨xs, h1, h2, h3⟩ := h
  exact ⟨xs, s.seq h1, h2, fun i x m a b => let ⟨t, e, q⟩ := h3 i x m a b; ⟨t, e, same_t s q⟩⟩
theorem RowsAt.l {H : Hp} {a : Addr} {ims : List Im} (h : RowsAt H a ims) : RowsL K H a ims := by
  obtain ⟨ts, h1, h2, h3⟩ := h
  refine ⟨_, SqL.of h1, by rw [List.length_map, h2], fun i x m a b => ?_⟩
  rw [List.getElem?_map] at a
  obtain ⟨t, ht, rfl⟩ := Option.map_eq_some_iff.mp a
  exact ⟨t, rfl, SqT.of (h3 i t m ht b)⟩
theorem imsT_refs {H : Hp} {xs : List V} {ims : List Im} (h : ImsT K H xs ims) : ∃ ts : List Addr, xs = ts.map V.ref ∧ ts.length = ims.length ∧ ∀ (i : Nat) t m, ts[i]? = some t → ims[i]? = some m → SqT K H t (imV m) := by
  induction ims generalizing xs with
  | nil =>
    obtain rfl : xs = [] := List.eq_nil_of_length_eq_zero h.1
    exact ⟨[], rfl, rfl, fun i t m a _ => by cases a⟩
  | cons m ims ih =>
    cases xs with
    | nil => cases h.1
    | cons x xs =>
      obtain ⟨t, rfl, e⟩ := h.2 0 x m rfl rfl
      obtain ⟨ts, rfl, e2, e3⟩ := ih (xs := xs) ⟨by have := h.1; simpa using this, fun i y n h1 h2 => h.2 (i + 1) y n (by simpa using h1) (by simpa using h2)⟩
      refine ⟨t :: ts, rfl, by rw [List.length_cons, List.length_cons, e2], fun i u n a b => ?_⟩
      cases i with
      | zero =>
        cases a
        cases b
        exact e
      | succ i => exact e3 i u n (by simpa using a) (by simpa using b)
theorem RowsL.v {H : Hp} {a : Addr} {ims : List Im} (h : RowsL K H a ims) (hl : ims.length < 64) (hg : Good ims) : RowsV K H (.ref a) (some ims) := by
  obtain ⟨xs, h1, h2⟩ := h
  obtain ⟨ts, rfl, e2, e3⟩ := imsT_refs h2
  exact rows_made (.inl h1) hl e2 (fun i t m a b => .inr (e3 i t m a b)) hg
theorem shw_ims {ims : List Im} (hg : Good ims) (hl : ims.length < 64) : Shw (dIms ims) := by
  have k : ShwA 1 ((ims.map dIm).length * (100 + 1)) (ims.map dIm) := .all fun d hd => by
    obtain ⟨m, hm, rfl⟩ := List.mem_map.mp hd
    obtain ⟨o1, o2, o3⟩ := hg.2 m hm
    have r1 : m.1 < (ims.length : Int) := by
      have := (hg.1.2.mem_iff).mp (List.mem_map_of_mem (f := (·.1)) hm)
      obtain ⟨i, h2, h3⟩ := List.mem_map.mp this
      have := List.mem_range.mp h2
      omega
    have z1 : SzI 7 m.1 := sz_of o1 (by omega)
    have z2 : SzI 7 m.2.1 := sz_of (by omega) (by omega)
    have z3 : SzI 7 m.2.2 := sz_of (by omega) (by omega)
    exact (ShwA.cons (.int z1 (by decide) (by decide)) (.cons (.int z2 (by decide) (by decide)) (.cons (.int z3 (by decide) (by decide)) (ShwA.nil (w := 0))))).tup.mono (by decide) (by decide)
  exact k.tup.shw (by decide) (by rw [List.length_map]; omega)
theorem co_pl (ims : List Im) (p : Int) : co ims p = if (imAt ims (p / 3)).2.2 = 0 then pl ims p else nx3 (pl ims p) := by
  have e1 := pl_div ims p
  have e2 := pl_mod ims p
  have e3 := pl_eq ims p
  rw [co_eq]
  unfold nx3 sc
  generalize pl ims p = q at *
  generalize imAt ims (p / 3) = m at *
  obtain ⟨mi, ms, mf⟩ := m
  unfold sd at e2 e3
  dsimp only at *
  by_cases hf : mf = 0
  · rw [if_pos hf] at *
    omega
  · rw [if_neg hf] at *
    omega
theorem make_go {Q : VK} {E : XK} {r : Option (List Im)} {H : Hp} {x : V} {a dx : Addr} (ha : H a = none) (hd : H dx = none) (hn : dx ≠ a) (hx : RowsV K H x r) (qb : r = none → BadE A.c_BadValue "images" H E)
    (qg : ∀ ims, r = some ims → ∀ H', Same H H' → MapA K A.c_Map H' a ims → Q .non H') : spMapInit K A (.ref a :: ([x] ++ [])) (upd (upd H dx (.own a)) a (.ins A.c_Map dx [])) Q E := by
  refine ⟨a, dx, x, r, H, rfl, upd_same, ha, fun b u e => ?_, hx, fun hr d H' sb h => qb hr d H' (sb.made ha hd) h, fun ims hr t xs H' sb h1 h2 h3 => ?_⟩
  · rw [upd_ne (ne_of_none e ha), upd_ne (ne_of_none e hd)]
    exact e
  · subst hr
    exact qg ims rfl H' (sb.made ha hd) ⟨dx, t, xs, h1, h2, h3, hx.good⟩
def spRight (K : PySem.W.Frag) (A : Ad) : Sp := fun vs H Q _ => ∃ (a : Addr) (ims : List Im), vs = [.ref a] ∧ RowsL K H a ims ∧ Good ims ∧ ims.length < 64 ∧ ∀ H', Same H H' → Q (.bl true) H'
theorem ok_law_right (T : LawT K mg A) : FnG P w K mg base CX0 7 A.f_law_right A.d_law_right ["images"] (spRight K A) := by
  refine Fun_okG T.F_law_right sc_law_right (fun vs H Q E h => ?_) (fun cdv Ar outer s H vs Q E hg _ _ h => ?_)
  · obtain ⟨_, _, rfl, _⟩ := h
    rfl
  · obtain ⟨a, ims, rfl, ha, hgd, hl, q⟩ := h
    have hr := hg.rm
    suffices z : ∃ t, PSs (cxOf CX0 P w K mg base N_law_right "_law_right" (defScope s_law_right) A.f_law_right cdv Ar outer s H E).nox (defBody s_law_right) t ∧ t { nx := fun _ H' => Q .non H', rt := Q } (L2.start N_law_right [.ref a]) H from by
      obtain ⟨t, h, q⟩ := z
      exact ⟨t, h.nox, q⟩
    refine ⟨_, (pss_cons (ps_par (i := 1) (j := 2) (by rfl) sc_law_right.nd rfl rfl (by decide) rfl rfl (pa_cons (pe_make T.mk_Map (ok_Map_init T.toTxt) (hr.mono (by decide)) rfl T.g_Map (b_Map_init T.F_Map_init) .nil passL (pa_cons (pv 0) pa_nil)) (pa_cons (pe_op op_mul pe_int (pe_callB call_len (by rfl) T.n_len (by decide +kernel) (pa_cons (pv 0) pa_nil))) pa_nil)) (by rfl))
      (pss_cons (ps_for PassesOwn.never rfl (pi_range1 (by rfl) T.n_range (pa_cons (pv 2) pa_nil)) (pg_name (i := 3) sc_law_right.nd rfl (Or.inl rfl)) (pss_cons (ps_set (i := 4) sc_law_right.nd rfl (Or.inl rfl) (pe_call (ok_law_end T) (hr.mono (by decide)) rfl T.g_law_end T.F_law_end.kp (b_law_end T.F_law_end) .nil pass0 (pa_cons (pv 0) (pa_cons (pv 3) (pa_cons pe_int pa_nil)))))
      (pss_cons (ps_set (i := 5) sc_law_right.nd rfl (Or.inl rfl) (pe_ifExp (pt_cmpR op_eq (pe_ix ix_tup (pv 4) pe_int (fun _ _ => rfl)) pe_int (nomark _)) (pe_ix ix_tup (pv 4) pe_int (fun _ _ => rfl)) (pe_call (ok_law_next T) (hr.mono (by decide)) rfl T.g_law_next T.F_law_next.kp (b_law_next T.F_law_next) .nil pass0 (pa_cons (pe_ix ix_tup (pv 4) pe_int (fun _ _ => rfl)) pa_nil))))
      (pss_one (ps_if (pt_cmpR op_ne (pe_callB (call_repr hg.gd (un65 hr)) (by rfl) T.n_repr (by decide +kernel) (pa_cons (pe_lst (pa_cons (pe_meth (pv 1) T.i_Map.cl T.m_place (ok_Map_place T.toTxt) (hr.mono (by decide)) (b_Map_place T.F_Map_place) .nil pass0 (pa_cons (pv 3) pa_nil)) (pa_cons (pe_methK0 (pv 1) T.i_Map.cl T.m_corner (ok_Map_corner T.toTxt) (hr.mono (by decide)) (kb_Map_corner_corner T.F_Map_corner) pass0 (pk_cons (pv 3) pk_nil)) (pa_cons (pe_meth (pv 1) T.i_Map.cl T.m_face (ok_Map_face T.toTxt) (hr.mono (by decide)) (b_Map_face T.F_Map_face) .nil pass0 (pa_cons (pe_op op_fdiv (pv 3) pe_int) pa_nil)) pa_nil)))) pa_nil)) (pe_callB (call_repr hg.gd (un65 hr)) (by rfl) T.n_repr (by decide +kernel) (pa_cons (pe_lst (pa_cons (pe_ix ix_tup (pv 4) pe_int (fun _ _ => rfl)) (pa_cons (pv 5) (pa_cons (pe_ix ix_tup (pe_ix ix_list (pv 0) (pe_op op_fdiv (pv 3) pe_int) (fun _ _ => rfl)) pe_int (fun _ _ => rfl)) pa_nil)))) pa_nil)) (nomark _)) (pss_one (ps_ret pe_bl)) pss_nil)))))
      (pss_one (ps_ret (pe_and (pe_cmpR op_eq (pe_callB (call_repr hg.gd (un65 hr)) (by rfl) T.n_repr (by decide +kernel) (pa_cons (pe_fld (pv 1) rfl) pa_nil)) (pe_callB (call_repr hg.gd (un65 hr)) (by rfl) T.n_repr (by decide +kernel) (pa_cons (pe_callTy call_tuple_of (by rfl) T.n_tuple (by decide +kernel) (pa_cons (pv 0) pa_nil)) pa_nil)) (nomark _)) (pe_and (pe_cmpR op_eq (pe_callB (call_lenO (C := A.c_Map) (E := E0) (ok_Map_len T.toTxt) (hr.mono (by decide)) T.l_Map T.fn_Map_len (b_Map_len T.F_Map_len) pass0) (by rfl) T.n_len (by decide +kernel) (pa_cons (pv 1) pa_nil)) (pe_callB call_len (by rfl) T.n_len (by decide +kernel) (pa_cons (pv 0) pa_nil)) (nomark _)) (pe_one (pe_cmpR (op_eqO (C := A.c_Map) (E := E0) (ok_Map_eq T.toTxt) (hr.mono (by decide)) T.e_Map T.fn_Map_eq (b_Map_eq T.F_Map_eq) pass0) (pv 1) (pe_make T.mk_Map (ok_Map_init T.toTxt) (hr.mono (by decide)) rfl T.g_Map (b_Map_init T.F_Map_init) .nil passL (pa_cons (pe_callTy call_tuple_of (by rfl) T.n_tuple (by decide +kernel) (pa_cons (pe_lc (own := [("one", 6)]) (g := gName 6) (by rfl) sc_law_right.nd (pi_seqW (pv 0)) (blkOk_by (own := [("one", 6)]) (N := N_law_right) (sc := defScope s_law_right) (by decide +kernel)) (fun _ _ _ _ _ => pg_name (i := 6) sc_law_right.nd rfl (Or.inl rfl)) (fun _ _ _ _ _ => pts_nil) (fun _ _ _ _ _ => (pe_callTy (T := "list") (r := rListOf K) call_list_of (by rfl) T.n_list (by decide +kernel) (pa_cons (pv 6) pa_nil)))) pa_nil)) pa_nil)) (nomark _))))))))), ?_⟩
    obtain ⟨xs, hq, hx⟩ := id ha
    refine ⟨_, rfl, fun w1 d1 hw hd hn => make_go (r := some ims) hw hd hn (ha.v hl hgd) (fun z => nomatch z) fun ims' e H1 s1 hm => ⟨rfl, ?_⟩⟩
    cases e
    obtain ⟨dx, ta, xa, e1, e2, e3, _, _⟩ := id hm
    have hxl := hx.1
    refine ⟨_, rfl, _, xs.length, rfl, len_s (.inl (s1.seq hq)), _, _, rfl, rfl, .inl ⟨by decide, by decide⟩, _, _, rfl, ?_⟩
    refine ⟨_, rfl, _, rfl, by omega, by omega, ?_⟩
    refine for_range (lo := 0) (n := (3 * (xs.length : Int)).toNat) (fun i σ H' => Same H1 H' ∧ ∃ w3 w4 w5 w6, σ = [some (.ref a), some (.ref w1), some (.int (3 * (xs.length : Int))), w3, w4, w5, w6]) ⟨Same.refl _, _, _, _, _, rfl⟩ (fun i σ H2 hi k => ?_) (fun σ H2 k => ?_)
    · obtain ⟨s2, w3, w4, w5, w6, rfl⟩ := k
      have p0 : 0 ≤ (0 : Int) + (i : Nat) := by omega
      have p1 : (0 : Int) + (i : Nat) < 3 * (ims.length : Int) := by omega
      generalize (0 : Int) + (i : Nat) = p at p0 p1
      have k0 : 0 ≤ p / 3 := by omega
      have k1 : p / 3 < (ims.length : Int) := by omega
      refine ⟨_, rfl, _, rfl, a, ims, p, 0, rfl, ha.same (s1.trans s2), p0, p1, fun t ht => ?_⟩
      have s3 := same_new (o := .tup [.int (pl ims p), .int (tipAt ims p 0)]) ht
      have gt : SqT K (upd H2 t (.tup [.int (pl ims p), .int (tipAt ims p 0)])) t [.int (pl ims p), .int (tipAt ims p 0)] := SqT.of upd_same
      have s23 := s2.trans s3
      generalize upd H2 t (.tup [.int (pl ims p), .int (tipAt ims p 0)]) = H3 at *
      refine ⟨_, rfl, _, _, _, _, rfl, rfl, gt, atI_nat (j := 1) rfl, rfl, _, rfl, ?_⟩
      have hpl2 := pl_range hgd.1 p0 p1
      have hco2 := co_range hgd.1 p0 p1
      have hco := co_pl ims p
      have fo := imAt_ok hgd k0 k1
      have shw3 : ∀ c f : Int, 0 ≤ c → c < 1000 → 0 ≤ f → f < 1000 → Shw (dInts [pl ims p, c, f]) := fun c f c0 c1 f0 f1 => shw_ints (n := 10) (fm_cons (sz_of hpl2.1 (by omega)) (fm_cons (sz_of c0 (by omega)) (fm_cons (sz_of f0 (by omega)) fm_nil))) (by decide) (by decide) (by show 3 * (10 + 1) ≤ 10000; decide)
      have sh := shw3 (co ims p) (imAt ims (p / 3)).2.2 hco2.1 (by omega) (by have := fo.2.2; omega) (by have := fo.2.2; omega)
      obtain ⟨xr, br, hq3, hat, hb⟩ := RowsL.row (ha.same (s1.trans s23)) k0 k1
      have hm3 := hm.mono s23
      by_cases hf : (imAt ims (p / 3)).2.2 = 0
      rw [show decide (V.int (tipAt ims p 0) = V.int 0) = true from decide_eq_true (by unfold tipAt; rw [if_pos hf])]
      refine iteT ⟨_, rfl, _, _, _, _, rfl, rfl, gt, atI_nat (j := 0) rfl, ?_⟩
      rw [if_pos hf] at hco
      rotate_left
      rw [show decide (V.int (tipAt ims p 0) = V.int 0) = false from decide_eq_false fun z => by injection z with z; unfold tipAt at z; rw [if_neg hf] at z; omega]
      refine iteF ⟨_, rfl, _, _, _, _, rfl, rfl, gt, atI_nat (j := 0) rfl, _, rfl, ?_⟩
      rw [if_neg hf] at hco
      all_goals
        rw [← hco]
        refine ⟨_, rfl, w1, dx, _, rfl, s23 _ _ e1, rfl, _, rfl, w1, ims, p, rfl, hm3, p0, p1, ?_⟩
        refine ⟨_, rfl, w1, dx, _, rfl, s23 _ _ e1, rfl, _, rfl, w1, ims, p, rfl, hm3, p0, p1, ?_⟩
        refine ⟨_, rfl, w1, dx, _, rfl, s23 _ _ e1, rfl, _, rfl, _, _, rfl, rfl, cdiv3, w1, ims, p / 3, rfl, hm3, k0, k1, by show 3 ≤ sizeLine; decide, fun l1 h1 => ?_⟩
        refine ⟨l1, dInts [pl ims p, co ims p, (imAt ims (p / 3)).2.2], rfl, .lst (SqL.of upd_same) (.cons (.int _) (.cons (.int _) (.cons (.int _) .nil))), sh.a, sh.n, sh.p, sh.l, ?_⟩
        have sl1 := same_new (o := .lst [.int (pl ims p), .int (co ims p), .int (imAt ims (p / 3)).2.2]) h1
        refine ⟨_, rfl, _, _, _, _, rfl, rfl, same_t sl1 gt, atI_nat (j := 0) rfl, _, rfl, _, rfl, _, rfl, _, _, rfl, rfl, cdiv3, a, xr, _, .ref br, rfl, rfl, sl1.seq hq3, hat, _, _, _, _, rfl, rfl, same_t sl1 hb, atI_nat (j := 2) rfl, by show 3 ≤ sizeLine; decide, fun l2 h2 => ?_⟩
        refine ⟨l2, dInts [pl ims p, co ims p, (imAt ims (p / 3)).2.2], rfl, .lst (SqL.of upd_same) (.cons (.int _) (.cons (.int _) (.cons (.int _) .nil))), sh.a, sh.n, sh.p, sh.l, ?_⟩
        have sl2 := same_new (o := .lst [.int (pl ims p), .int (co ims p), .int (imAt ims (p / 3)).2.2]) h2
        refine ⟨rfl, _, rfl, ?_⟩
        rw [decide_eq_true (rfl : V.str (dInts [pl ims p, co ims p, (imAt ims (p / 3)).2.2]).shown = V.str (dInts [pl ims p, co ims p, (imAt ims (p / 3)).2.2]).shown)]
        refine iteF ?_
        exact ⟨s23.trans (sl1.trans sl2), _, _, _, _, rfl⟩
    · obtain ⟨s2, w3, w4, w5, w6, rfl⟩ := k
      have sh := shw_ims hgd hl
      have e1' := s2 _ _ e1
      have hm2 := hm.mono s2
      have s12 := s1.trans s2
      have qx := s12.seq hq
      refine ⟨_, rfl, w1, A.c_Map, dx, _, _, rfl, e1', T.i_Map.cl, T.na_Map, rfl, ta, dIms ims, rfl, .tup (.inl (.inl (s2 _ _ e2))) (dpa_ims (e3.same s2)), sh.a, sh.n, sh.p, sh.l, ?_⟩
      refine ⟨_, rfl, a, xs, rfl, .inl ⟨qx, fun l hl' => ⟨l, dIms ims, rfl, .tup (SqT.of upd_same) (dpa_ims ((hx.same s12).same (same_new hl'))), sh.a, sh.n, sh.p, sh.l, rfl, _, rfl, ?_⟩⟩⟩
      rw [decide_eq_true (rfl : V.str (dIms ims).shown = V.str (dIms ims).shown)]
      refine iteT ?_
      have sl := same_new (o := .tup xs) hl'
      have s3 := s12.trans sl
      have hm3 := hm2.mono sl
      have e13 := sl _ _ e1'
      generalize upd H2 l (.tup xs) = H3 at *
      refine ⟨_, rfl, w1, dx, _, rfl, e13, w1, ims, rfl, hm3, _, rfl, by omega, by omega, _, rfl, _, xs.length, rfl, len_s (.inl (s3.seq hq)), rfl, _, rfl, ?_⟩
      rw [show decide (V.int ((ims.length : Nat) : Int) = V.int ((xs.length : Nat) : Int)) = true from decide_eq_true (by rw [hxl])]
      refine iteT ?_
      refine ⟨_, rfl, _, rfl, a, xs, rfl, .inl (s3.seq hq), fun J wk => ?_⟩
      refine comp_news (wk _ rfl) (fun i => .lst (imV (imAt ims (i : Nat)))) (Nat.lt_of_lt_of_le (show xs.length < 64 by omega) (by decide)) (fun i x H4 N hi s4 hxi k => ?_) (fun D ts H4 hD s4 hD4 hlen hts => ?_)
      · have hmi : ims[i]? = some (imAt ims (i : Nat)) := by
          rw [imAt_nat, List.getD_eq_getElem?_getD, List.getElem?_eq_getElem (by omega)]
          rfl
        obtain ⟨t, rfl, qt⟩ := (hx.same (s3.trans s4)).2 i x _ hxi hmi
        exact ⟨_, rfl, t, _, rfl, .inr qt, fun l hl => k l _ hl (same_new hl) upd_same⟩
      · refine ⟨D, ts.map V.ref, rfl, .inl ⟨SqL.of hD4, fun l5 h5 => fun w6 d6 hw6 hd6 hn6 => make_go (r := some ims) hw6 hd6 hn6 (rows_made (.inr (SqT.of upd_same)) hl (by omega) (fun i t m a b => ?_) hgd) (fun z => nomatch z) fun ims' e H6 s6 hm6 => ⟨rfl, ?_⟩⟩⟩
        · have g := hts i t a
          have em : imAt ims (i : Nat) = m := by rw [imAt_nat, List.getD_eq_getElem?_getD, b]; rfl
          rw [em] at g
          exact .inl (SqL.of (same_new h5 _ _ g))
        · cases e
          have s5 := same_new (o := .tup (ts.map V.ref)) h5
          have s46 := s4.trans (s5.trans s6)
          obtain ⟨dy, ty, ya, f1, _⟩ := id hm6
          have q' := q H6 (s3.trans s46)
          refine ⟨w1, dx, _, .ref A.c_Map, rfl, s46 _ _ e13, T.i_Map.ty f1, T.nf_Map, w1, ims, .ref w6, some ims, rfl, hm3.mono s46, .map hm6, true, ?_, ?_⟩
          · rw [decide_eq_true rfl]
          · exact q'
end
end K5


set_option Elab.async false
set_option linter.all false
set_option maxRecDepth 100000
set_option maxHeartbeats 4000000
set_option exponentiation.threshold 10000
namespace K5
open PySem PySem.Spec PyProof.Rows L2 ClX OG
/-! ### a refusal heard -/
def codeOf (o : Obj) : Value := match o.data with
  | .func fd => fd.code
  | _ => .none
structure LamT (K : PySem.W.Frag) (mg : Str → Option Value) (A : Ad) : Prop extends LawT K mg A where
  g_BadNumber : mg "BadNumber" = some (.ref A.c_BadNumber)
  g_BadPlan : mg "BadPlan" = some (.ref A.c_BadPlan)
  g_BadPaper : mg "BadPaper" = some (.ref A.c_BadPaper)
  g_BadText : mg "BadText" = some (.ref A.c_BadText)
  g_BadCommand : mg "BadCommand" = some (.ref A.c_BadCommand)
  g_NoTurn : mg "NoTurn" = some (.ref A.c_NoTurn)
  g_Nothing : mg "Nothing" = some (.ref A.c_Nothing)
  g_TooMany : mg "TooMany" = some (.ref A.c_TooMany)
  xf_BadValue : XfC K A.c_BadValue
  ec_BadValue : ExcC K A.c_BadValue
  ex_BadValue : PySem.W.exmAny K (.ref A.c_BadValue) [.ref A.c_PlanError, .ref A.c_NoTurn, .ref A.c_Nothing, .ref A.c_TooMany] = some true
  k_BadValue_BadPlan : PySem.W.kitOne K (.ref A.c_BadValue) (.ref A.c_BadPlan) = some false
  k_BadValue_BadText : PySem.W.kitOne K (.ref A.c_BadValue) (.ref A.c_BadText) = some false
  k_BadValue_BadCommand : PySem.W.kitOne K (.ref A.c_BadValue) (.ref A.c_BadCommand) = some false
  k_BadValue_NoTurn : PySem.W.kitOne K (.ref A.c_BadValue) (.ref A.c_NoTurn) = some false
  k_BadValue_TooMany : PySem.W.kitOne K (.ref A.c_BadValue) (.ref A.c_TooMany) = some false
  k_BadValue_BadValue : PySem.W.kitOne K (.ref A.c_BadValue) (.ref A.c_BadValue) = some true
  xf_Misfit : XfC K A.c_Misfit
  ec_Misfit : ExcC K A.c_Misfit
  ex_Misfit : PySem.W.exmAny K (.ref A.c_Misfit) [.ref A.c_PlanError, .ref A.c_NoTurn, .ref A.c_Nothing, .ref A.c_TooMany] = some true
  k_Misfit_BadPlan : PySem.W.kitOne K (.ref A.c_Misfit) (.ref A.c_BadPlan) = some false
  k_Misfit_BadText : PySem.W.kitOne K (.ref A.c_Misfit) (.ref A.c_BadText) = some false
  k_Misfit_BadCommand : PySem.W.kitOne K (.ref A.c_Misfit) (.ref A.c_BadCommand) = some false
  k_Misfit_NoTurn : PySem.W.kitOne K (.ref A.c_Misfit) (.ref A.c_NoTurn) = some false
  k_Misfit_TooMany : PySem.W.kitOne K (.ref A.c_Misfit) (.ref A.c_TooMany) = some false
  k_Misfit_BadValue : PySem.W.kitOne K (.ref A.c_Misfit) (.ref A.c_BadValue) = some false
  k_Misfit_BadNumber : PySem.W.kitOne K (.ref A.c_Misfit) (.ref A.c_BadNumber) = some false
  k_Misfit_BadPaper : PySem.W.kitOne K (.ref A.c_Misfit) (.ref A.c_BadPaper) = some false
  k_Misfit_Misfit : PySem.W.kitOne K (.ref A.c_Misfit) (.ref A.c_Misfit) = some true
  cdv_law : (K.lookup A.f_law).map codeOf = some (.ref A.cd_law)

/-- a variable, in a state of the right length -/
def tVarL (n i : Nat) : TE := fun σ H Q => σ.length = n → tVar i σ H Q
theorem pe_varL {X : Cx} {n i : Nat} {x : Str} {pos : Pos} (hn : X.N.length = n) (h : PE X (.Name x pos) (tVar i)) : PE X (.Name x pos) (tVarL n i) :=
  ⟨fun pins s σ H Q I hh => h.run pins s σ H Q I (hh (by rw [I.len, hn]))⟩
/-- what _law_heard makes of an error of the lambda's -/
def HeardX (A : Ad) (Q : VK) : XK := fun cls d H' => ∃ (C : Addr) (word : Str) (dd : Addr) (w : Str), cls = .ref C ∧ d = some dd ∧ H' dd = some (.xd [("part", .str w)]) ∧ (C = A.c_BadValue ∧ word = "value" ∨ C = A.c_Misfit ∧ word = "misfit") ∧
  ∀ a t, H' a = none → upd H' a (exk a cls d) t = none → Q (.ref t) (upd (upd H' a (exk a cls d)) t (.tup [.str word, .str w]))
def THeard (A : Ad) : (XK → Hp → VK → Prop) → Hp → VK → Prop := fun tl H Q => ∀ Q' H1, Same H H1 → tl (HeardX A Q) H1 Q'
section
variable {K : PySem.W.Frag} {mg : Str → Option Value} {A : Ad}
theorem heard_gives {X : Cx} {g : Addr} {cdg : Value} {q : Str} (T : LamT X.K X.mg A) : LamX.GivesTo X N_law_heard "_law_heard" (defScope s_law_heard) g cdg (defBody s_law_heard) "ask_it" q (THeard A) := by
  intro f c' s H Q tl act hc h
  refine ⟨_, pss_cons (ps_asg (pe_tup (pa_cons pe_non (pa_cons pe_non pa_nil))) (pg_tup rfl (pgs_cons (pg_name (i := 1) sc_law_heard.nd rfl (Or.inl rfl)) (pgs_cons (pg_name (i := 2) sc_law_heard.nd rfl (Or.inl rfl)) pgs_nil)))) (pss_cons (ps_try_keep (X := (cxOf C8.CX0 X.prog X.w X.K X.mg X.base N_law_heard "_law_heard" (defScope s_law_heard) g cdg X.A X.stack s H C8.E0).nox) (Wout := fun _ _ _ _ => False) (i := 3) (j := 2)
      (tb := fun W D σ H => ∃ Ech : XK, (∀ cls d σ' H', Ech cls d H' → W cls d σ' H') ∧ σ[0]? = some (some (.ref f)) ∧ H c' = some (LamX.CodeO c' q) ∧ tl Ech H (fun v H' => D.nx (σ.set 1 (some v)) H'))
      rfl rfl sc_law_heard.nd rfl LamX.takes0 (fun W pn xe tk _ => ?_) rfl rfl ⟨rfl, by decide, .inl T.g_PlanError⟩ ⟨rfl, by decide, .inl T.g_NoTurn⟩ ⟨rfl, by decide, .inl T.g_Nothing⟩ ⟨rfl, by decide, .inl T.g_TooMany⟩
      (fun a oe cls d pn hz hf => pss_one (ps_asg (pv 3) (pg_name (i := 2) sc_law_heard.nd rfl (Or.inl rfl)))))
    (pss_cons (ps_if (pt_cmpR op_isN (pe_varL rfl (pv 2)) pe_non (nomark _)) (pss_one (ps_ret (pe_lst (pa_cons (pv 1) pa_nil)))) pss_nil)
      (pss_cons (ps_if (pt_val (pe_callB (id := "isinstance") (r := rIsK X.K) call_isKept (by rfl) T.n_isinstance (by decide +kernel) (pa_cons (pe_varL rfl (pv 2)) (pa_cons (pe_glob (v := .ref A.c_BadPlan) rfl T.g_BadPlan rfl) pa_nil)))) (pss_one (ps_ret (pe_tup (pa_cons pe_str (pa_cons (pe_xk (pe_varL rfl (pv 2))) (pa_cons (pe_xk (pe_varL rfl (pv 2))) pa_nil)))))) pss_nil)
      (pss_cons (ps_if (pt_val (pe_callB (id := "isinstance") (r := rIsK X.K) call_isKept (by rfl) T.n_isinstance (by decide +kernel) (pa_cons (pe_varL rfl (pv 2)) (pa_cons (pe_glob (v := .ref A.c_BadText) rfl T.g_BadText rfl) pa_nil)))) (pss_one (ps_ret (pe_tup (pa_cons pe_str (pa_cons (pe_xk (pe_varL rfl (pv 2))) (pa_cons (pe_xk (pe_varL rfl (pv 2))) pa_nil)))))) pss_nil)
      (pss_cons (ps_if (pt_val (pe_callB (id := "isinstance") (r := rIsK X.K) call_isKept (by rfl) T.n_isinstance (by decide +kernel) (pa_cons (pe_varL rfl (pv 2)) (pa_cons (pe_glob (v := .ref A.c_BadCommand) rfl T.g_BadCommand rfl) pa_nil)))) (pss_one (ps_ret (pe_tup (pa_cons pe_str (pa_cons (pe_xk (pe_varL rfl (pv 2))) pa_nil))))) pss_nil)
      (pss_cons (ps_if (pt_val (pe_callB (id := "isinstance") (r := rIsK X.K) call_isKept (by rfl) T.n_isinstance (by decide +kernel) (pa_cons (pe_varL rfl (pv 2)) (pa_cons (pe_glob (v := .ref A.c_NoTurn) rfl T.g_NoTurn rfl) pa_nil)))) (pss_one (ps_ret (pe_tup (pa_cons pe_str (pa_cons (pe_xk (pe_varL rfl (pv 2))) pa_nil))))) pss_nil)
      (pss_cons (ps_if (pt_val (pe_callB (id := "isinstance") (r := rIsK X.K) call_isKept (by rfl) T.n_isinstance (by decide +kernel) (pa_cons (pe_varL rfl (pv 2)) (pa_cons (pe_glob (v := .ref A.c_TooMany) rfl T.g_TooMany rfl) pa_nil)))) (pss_one (ps_ret (pe_tup (pa_cons pe_str (pa_cons (pe_xk (pe_varL rfl (pv 2))) (pa_cons (pe_xk (pe_varL rfl (pv 2))) pa_nil)))))) pss_nil)
      (pss_cons (ps_if (pt_val (pe_callB (id := "isinstance") (r := rIsK X.K) call_isKept (by rfl) T.n_isinstance (by decide +kernel) (pa_cons (pe_varL rfl (pv 2)) (pa_cons (pe_glob (v := .ref A.c_BadValue) rfl T.g_BadValue rfl) pa_nil)))) (pss_one (ps_ret (pe_tup (pa_cons pe_str (pa_cons (pe_xk (pe_varL rfl (pv 2))) pa_nil))))) pss_nil)
      (pss_cons (ps_if (pt_val (pe_callB (id := "isinstance") (r := rIsK X.K) call_isKept (by rfl) T.n_isinstance (by decide +kernel) (pa_cons (pe_varL rfl (pv 2)) (pa_cons (pe_glob (v := .ref A.c_BadNumber) rfl T.g_BadNumber rfl) pa_nil)))) (pss_one (ps_ret (pe_tup (pa_cons pe_str (pa_cons (pe_xk (pe_varL rfl (pv 2))) pa_nil))))) pss_nil)
      (pss_cons (ps_if (pt_val (pe_callB (id := "isinstance") (r := rIsK X.K) call_isKept (by rfl) T.n_isinstance (by decide +kernel) (pa_cons (pe_varL rfl (pv 2)) (pa_cons (pe_glob (v := .ref A.c_BadPaper) rfl T.g_BadPaper rfl) pa_nil)))) (pss_one (ps_ret (pe_tup (pa_cons pe_str (pa_cons (pe_xk (pe_varL rfl (pv 2))) pa_nil))))) pss_nil)
      (pss_one (ps_ret (pe_ifExp (pt_val (pe_callB (id := "isinstance") (r := rIsK X.K) call_isKept (by rfl) T.n_isinstance (by decide +kernel) (pa_cons (pe_varL rfl (pv 2)) (pa_cons (pe_glob (v := .ref A.c_Misfit) rfl T.g_Misfit rfl) pa_nil)))) (pe_tup (pa_cons pe_str (pa_cons (pe_xk (pe_varL rfl (pv 2))) pa_nil))) (pe_tup (pa_cons pe_str pa_nil))))))))))))))), ?_⟩
  · refine ⟨fun pins s' σ H' D I h' => ?_⟩
    obtain ⟨Ech, hW, h1, h2, h3⟩ := h'
    exact (pss_one (ps_set (i := 1) sc_law_heard.nd rfl (Or.inl rfl) (act W pn xe Ech _ _ tk hW))).run pins s' σ H' D I ⟨h1, h2, h3⟩
  · refine ⟨two_line, fun t0 ht0 => ⟨t0, _, rfl, SqT.of upd_same, rfl, _, _, rfl, _, _, rfl, rfl, ?_⟩⟩
    have s0 := same_new (o := .tup [.non, .non]) ht0
    refine ⟨HeardX A Q, fun cls d σ' H' hh => ?_, rfl, s0 _ _ hc, h _ _ s0⟩
    obtain ⟨C, word, dd, w, rfl, rfl, hx, hC, k⟩ := hh
    have get : ∀ {a : Addr}, (((List.set σ' 3 (some (V.ref a))).set 2 (some (V.ref a))).set 3 none).length = 4 → (((List.set σ' 3 (some (V.ref a))).set 2 (some (V.ref a))).set 3 none)[2]? = some (some (V.ref a)) := fun {a} hl => by
      rw [List.length_set, List.length_set, List.length_set] at hl
      rw [List.getElem?_set_ne (by decide), List.getElem?_set_self (by rw [List.length_set]; omega)]
    have ifn : ∀ {a : Addr} {α : Prop} {β : Prop}, β → (if decide (V.ref a = V.non) = true then α else β) := fun {a α β} h => by
      rw [decide_eq_false (fun z => nomatch z)]
      exact iteF h
    rcases hC with ⟨rfl, rfl⟩ | ⟨rfl, rfl⟩
    · refine ⟨true, T.ex_BadValue, fun _ a ha => ?_, fun z => nomatch z⟩
      have hdd : upd H' a (exk a (.ref A.c_BadValue) (some dd)) dd = some (.xd [("part", .str w)]) := by
        rw [upd_ne (ne_of_none hx ha)]
        exact hx
      exact fun hl => ⟨_, get hl, rfl, _, rfl, ifn (fun hl => ⟨_, get hl, a, A.c_BadValue, dd, _, _, _, false, rfl, T.ec_BadValue, upd_same, hdd, .own _, T.k_BadValue_BadPlan, _, rfl, iteF (fun hl => ⟨_, get hl, a, A.c_BadValue, dd, _, _, _, false, rfl, T.ec_BadValue, upd_same, hdd, .own _, T.k_BadValue_BadText, _, rfl, iteF (fun hl => ⟨_, get hl, a, A.c_BadValue, dd, _, _, _, false, rfl, T.ec_BadValue, upd_same, hdd, .own _, T.k_BadValue_BadCommand, _, rfl, iteF (fun hl => ⟨_, get hl, a, A.c_BadValue, dd, _, _, _, false, rfl, T.ec_BadValue, upd_same, hdd, .own _, T.k_BadValue_NoTurn, _, rfl, iteF (fun hl => ⟨_, get hl, a, A.c_BadValue, dd, _, _, _, false, rfl, T.ec_BadValue, upd_same, hdd, .own _, T.k_BadValue_TooMany, _, rfl, iteF (fun hl => ⟨_, get hl, a, A.c_BadValue, dd, _, _, _, true, rfl, T.ec_BadValue, upd_same, hdd, .own _, T.k_BadValue_BadValue, _, rfl, iteT (fun hl => ⟨_, get hl, a, A.c_BadValue, dd, _, _, rfl, T.xf_BadValue, T.n_BadValue, upd_same, hdd, rfl, two_line, fun t ht => k a t ha ht⟩)⟩)⟩)⟩)⟩)⟩)⟩)⟩
    · refine ⟨true, T.ex_Misfit, fun _ a ha => ?_, fun z => nomatch z⟩
      have hdd : upd H' a (exk a (.ref A.c_Misfit) (some dd)) dd = some (.xd [("part", .str w)]) := by
        rw [upd_ne (ne_of_none hx ha)]
        exact hx
      exact fun hl => ⟨_, get hl, rfl, _, rfl, ifn (fun hl => ⟨_, get hl, a, A.c_Misfit, dd, _, _, _, false, rfl, T.ec_Misfit, upd_same, hdd, .own _, T.k_Misfit_BadPlan, _, rfl, iteF (fun hl => ⟨_, get hl, a, A.c_Misfit, dd, _, _, _, false, rfl, T.ec_Misfit, upd_same, hdd, .own _, T.k_Misfit_BadText, _, rfl, iteF (fun hl => ⟨_, get hl, a, A.c_Misfit, dd, _, _, _, false, rfl, T.ec_Misfit, upd_same, hdd, .own _, T.k_Misfit_BadCommand, _, rfl, iteF (fun hl => ⟨_, get hl, a, A.c_Misfit, dd, _, _, _, false, rfl, T.ec_Misfit, upd_same, hdd, .own _, T.k_Misfit_NoTurn, _, rfl, iteF (fun hl => ⟨_, get hl, a, A.c_Misfit, dd, _, _, _, false, rfl, T.ec_Misfit, upd_same, hdd, .own _, T.k_Misfit_TooMany, _, rfl, iteF (fun hl => ⟨_, get hl, a, A.c_Misfit, dd, _, _, _, false, rfl, T.ec_Misfit, upd_same, hdd, .own _, T.k_Misfit_BadValue, _, rfl, iteF (fun hl => ⟨_, get hl, a, A.c_Misfit, dd, _, _, _, false, rfl, T.ec_Misfit, upd_same, hdd, .own _, T.k_Misfit_BadNumber, _, rfl, iteF (fun hl => ⟨_, get hl, a, A.c_Misfit, dd, _, _, _, false, rfl, T.ec_Misfit, upd_same, hdd, .own _, T.k_Misfit_BadPaper, _, rfl, iteF (fun hl => ⟨_, get hl, a, A.c_Misfit, dd, _, _, _, true, rfl, T.ec_Misfit, upd_same, hdd, .own _, T.k_Misfit_Misfit, _, rfl, iteT (fun hl => ⟨_, get hl, a, A.c_Misfit, dd, _, _, rfl, T.xf_Misfit, T.n_Misfit, upd_same, hdd, rfl, two_line, fun t ht => k a t ha ht⟩)⟩)⟩)⟩)⟩)⟩)⟩)⟩)⟩)⟩)⟩
end
end K5


set_option Elab.async false
set_option linter.all false
set_option maxRecDepth 100000
set_option maxHeartbeats 8000000
set_option exponentiation.threshold 10000
namespace K5
open PySem PySem.Spec PyProof.Rows L2 ClX OG
section
variable {P : Program} {w : World} {K : PySem.W.Frag} {mg : Str → Option Value} {base : Heap} {A : Ad}
def lamQ : Str := (envOfC "law" (defScope s_law) 0 0 .none).qual ++ "<lambda>"
def tbs (A : Ad) : List (Addr × Str) := [(A.tb_law, lamQ)]
theorem pe_heard {X : Cx} (T : LamT X.K X.mg A) (B : LamX.TabB X.base X.mg A.cd_law A.tb_law) {k : Nat} (hr : Room (k + 2) X.A) (hgl : Gl X "_law_heard") (hcode : X.env.code = .ref A.cd_law) (hq : X.env.qual ++ "<lambda>" = lamQ)
    {params : Arguments} {body : Expr} {scope : Scope} {p lpos pos : Pos} {t : XK → TE}
    (L : LamX.LamS X.env.scope scope) (hdef : defaultsOf params X.env = ([], []))
    (hbind : ∀ (q : Str) (cl : List (Str × Addr)) (pm cv ctv : Value), bindArgs (PySem.W.kla_fn "<lambda>" q params body scope cl pm cv ctv) ⟨[], []⟩ = pure [])
    (hbody : ∀ (A2 : Around) (o2 : List Env) (s2 : Shared) (H2 : Hp) (E2 : XK) (f2 c2 : Addr), Room k (A2.deeper (LamX.lamEnv X scope s2.heap.objs.size f2 c2)) → PE (LamX.lamCx X A2 o2 s2 H2 E2 scope f2 c2) body (t E2)) :
    PE X (.Call (.Name "_law_heard" p) [.Lambda params body scope lpos] [] pos) (LamX.tLam (tbs A) (THeard A) t) := by
  obtain ⟨oc, od, kV, doc, pm, an, cdv, ct, osl, efd, lk, hcg⟩ := T.F_law_heard.ex
  have hb := b_law_heard T.F_law_heard
  rw [efd] at lk hb
  exact LamX.pe_lamcall hgl T.g_law_heard T.F_law_heard.kp lk hcg hb sc_law_heard rfl (Or.inl rfl) (heard_gives T) B hcode (by rw [hq]; exact List.mem_singleton.mpr rfl) (fun p hp _ => by rw [List.mem_singleton.mp hp, hq]) hr L hdef hbind hbody
abbrev XL (P : Program) (w : World) (K : PySem.W.Frag) (mg : Str → Option Value) (base : Heap) (A : Ad) (Ar : Around) (outer : List Env) (s : Shared) (H : Hp) (E : XK) : Cx :=
  (cxOf CX0 P w K mg base N_law "law" (defScope s_law) A.f_law (.ref A.cd_law) Ar outer s H E).nox
section
variable {Ar : Around} {outer : List Env} {s : Shared} {H : Hp} {E : XK}
noncomputable def dl_0 (T : LamT K mg A) (B : LamX.TabB base mg A.cd_law A.tb_law) (hg : RmG 11 (XL P w K mg base A Ar outer s H E).A) (hr : Room 11 (XL P w K mg base A Ar outer s H E).A) : {t : TS // PS (XL P w K mg base A Ar outer s H E) ((match (defBody s_law).getD 1 (.Pass ⟨0, 0, 0, 0⟩) with | .For _ _ b _ _ => b | _ => []).getD 0 (.Pass ⟨0, 0, 0, 0⟩)) t} := ⟨_, (ps_set (i := 3) sc_law.nd rfl (Or.inr rfl) (pe_op op_add pe_int (pe_call (ok_law_draw T.toLawT) (hr.mono (by decide)) rfl T.g_law_draw T.F_law_draw.kp (b_law_draw T.F_law_draw) .nil pass0 (pa_cons (pv 1) (pa_cons pe_int pa_nil)))))⟩
noncomputable def dl_1 (T : LamT K mg A) (B : LamX.TabB base mg A.cd_law A.tb_law) (hg : RmG 11 (XL P w K mg base A Ar outer s H E).A) (hr : Room 11 (XL P w K mg base A Ar outer s H E).A) : {t : TS // PS (XL P w K mg base A Ar outer s H E) ((match (defBody s_law).getD 1 (.Pass ⟨0, 0, 0, 0⟩) with | .For _ _ b _ _ => b | _ => []).getD 1 (.Pass ⟨0, 0, 0, 0⟩)) t} := ⟨_, (ps_setLc (i := 4) (own := [("lap", 13)]) (g := gName 13) (by rfl) sc_law.nd rfl rfl (sw_true rfl rfl rfl (by decide +kernel)) (pi_range1 (by rfl) T.n_range (pa_cons pe_int pa_nil)) (blkOk_by (own := [("lap", 13)]) (N := N_law) (sc := defScope s_law) (by decide +kernel)) (fun _ _ _ _ _ => pg_name (i := 13) sc_law.nd rfl (Or.inl rfl)) (fun _ _ _ _ _ => pts_nil) (fun _ _ _ _ _ => (pe_call (ok_law_images T.toLawT) (hr.mono (by decide)) rfl T.g_law_images T.F_law_images.kp (b_law_images T.F_law_images) .nil pass0 (pa_cons (pv 1) (pa_cons (pv 3) pa_nil)))))⟩
noncomputable def dl_2 (T : LamT K mg A) (B : LamX.TabB base mg A.cd_law A.tb_law) (hg : RmG 11 (XL P w K mg base A Ar outer s H E).A) (hr : Room 11 (XL P w K mg base A Ar outer s H E).A) : {t : TS // PS (XL P w K mg base A Ar outer s H E) ((match (defBody s_law).getD 1 (.Pass ⟨0, 0, 0, 0⟩) with | .For _ _ b _ _ => b | _ => []).getD 2 (.Pass ⟨0, 0, 0, 0⟩)) t} := ⟨_, (ps_asg (pe_tup (pa_cons (pe_make T.mk_Map (ok_Map_init T.toTxt) (hr.mono (by decide)) rfl T.g_Map (b_Map_init T.F_Map_init) .nil passL (pa_cons (pe_ix ix_list (pv 4) pe_int (fun _ _ => rfl)) pa_nil)) (pa_cons (pe_make T.mk_Map (ok_Map_init T.toTxt) (hr.mono (by decide)) rfl T.g_Map (b_Map_init T.F_Map_init) .nil passL (pa_cons (pe_ix ix_list (pv 4) pe_int (fun _ _ => rfl)) pa_nil)) (pa_cons (pe_make T.mk_Map (ok_Map_init T.toTxt) (hr.mono (by decide)) rfl T.g_Map (b_Map_init T.F_Map_init) .nil passL (pa_cons (pe_ix ix_list (pv 4) pe_int (fun _ _ => rfl)) pa_nil)) pa_nil)))) (pg_tup rfl (pgs_cons (pg_name (i := 12) sc_law.nd rfl (Or.inr rfl)) (pgs_cons (pg_name (i := 5) sc_law.nd rfl (Or.inr rfl)) (pgs_cons (pg_name (i := 6) sc_law.nd rfl (Or.inl rfl)) pgs_nil)))))⟩
noncomputable def dl_3 (T : LamT K mg A) (B : LamX.TabB base mg A.cd_law A.tb_law) (hg : RmG 11 (XL P w K mg base A Ar outer s H E).A) (hr : Room 11 (XL P w K mg base A Ar outer s H E).A) : {t : TS // PS (XL P w K mg base A Ar outer s H E) ((match (defBody s_law).getD 1 (.Pass ⟨0, 0, 0, 0⟩) with | .For _ _ b _ _ => b | _ => []).getD 3 (.Pass ⟨0, 0, 0, 0⟩)) t} := ⟨_, (ps_if (PW.pt (pw_or (pt_not (pt_val (pe_callG (ok_law_right T.toLawT) (hg.mono (by decide)) rfl T.g_law_right T.F_law_right.kp (b_law_right T.F_law_right) .nil pass0 (pa_cons (pe_ix ix_list (pv 4) pe_int (fun _ _ => rfl)) pa_nil)))) (pw_or1 (pt_not (pt_cmpR (op_eqO (C := A.c_Map) (E := E0) (ok_Map_eq T.toTxt) (hr.mono (by decide)) T.e_Map T.fn_Map_eq (b_Map_eq T.F_Map_eq) pass0) (pe_meth (pe_meth (pv 12) T.i_Map.cl T.m_then (ok_Map_then T.toTxt) (hr.mono (by decide)) (b_Map_then T.F_Map_then) .nil passL (pa_cons (pv 5) pa_nil)) T.i_Map.cl T.m_then (ok_Map_then T.toTxt) (hr.mono (by decide)) (b_Map_then T.F_Map_then) .nil passL (pa_cons (pv 6) pa_nil)) (pe_methK0 (pv 12) T.i_Map.cl T.m_then (ok_Map_then T.toTxt) (hr.mono (by decide)) (kb_Map_then_other T.F_Map_then) passL (pk_cons (pe_meth (pv 5) T.i_Map.cl T.m_then (ok_Map_then T.toTxt) (hr.mono (by decide)) (b_Map_then T.F_Map_then) .nil passL (pa_cons (pv 6) pa_nil)) pk_nil)) (nomark _)))))) (pss_one (ps_ret pe_bl)) pss_nil)⟩
noncomputable def dl_4 (T : LamT K mg A) (B : LamX.TabB base mg A.cd_law A.tb_law) (hg : RmG 11 (XL P w K mg base A Ar outer s H E).A) (hr : Room 11 (XL P w K mg base A Ar outer s H E).A) : {t : TS // PS (XL P w K mg base A Ar outer s H E) ((match (defBody s_law).getD 1 (.Pass ⟨0, 0, 0, 0⟩) with | .For _ _ b _ _ => b | _ => []).getD 4 (.Pass ⟨0, 0, 0, 0⟩)) t} := ⟨_, (ps_asg (pe_tup (pa_cons (pe_meth (pv 12) T.i_Map.cl T.m_then (ok_Map_then T.toTxt) (hr.mono (by decide)) (b_Map_then T.F_Map_then) .nil passL (pa_cons (pv 5) pa_nil)) (pa_cons (pe_cmethK0 (pe_glob (v := .ref A.c_Map) rfl T.g_Map rfl) T.cr_Map T.cm_same (ok_Map_same T.toTxt) (hr.mono (by decide)) (kb_Map_same_size T.F_Map_same) passL (pk_cons (pv 3) pk_nil)) pa_nil))) (pg_tup rfl (pgs_cons (pg_name (i := 7) sc_law.nd rfl (Or.inr rfl)) (pgs_cons (pg_name (i := 8) sc_law.nd rfl (Or.inl rfl)) pgs_nil))))⟩
noncomputable def dl_5 (T : LamT K mg A) (B : LamX.TabB base mg A.cd_law A.tb_law) (hg : RmG 11 (XL P w K mg base A Ar outer s H E).A) (hr : Room 11 (XL P w K mg base A Ar outer s H E).A) : {t : TS // PS (XL P w K mg base A Ar outer s H E) ((match (defBody s_law).getD 1 (.Pass ⟨0, 0, 0, 0⟩) with | .For _ _ b _ _ => b | _ => []).getD 5 (.Pass ⟨0, 0, 0, 0⟩)) t} := ⟨_, (ps_for PassesOwn.never rfl (pi_range1 (by rfl) T.n_range (pa_cons (pe_op op_mul pe_int (pv 3)) pa_nil)) (pg_name (i := 9) sc_law.nd rfl (Or.inl rfl)) (pss_one (ps_if (PW.pt (pw_or (pt_cmpR op_ne (pe_meth (pv 7) T.i_Map.cl T.m_place (ok_Map_place T.toTxt) (hr.mono (by decide)) (b_Map_place T.F_Map_place) .nil pass0 (pa_cons (pv 9) pa_nil)) (pe_meth (pv 5) T.i_Map.cl T.m_place (ok_Map_place T.toTxt) (hr.mono (by decide)) (b_Map_place T.F_Map_place) .nil pass0 (pa_cons (pe_meth (pv 12) T.i_Map.cl T.m_place (ok_Map_place T.toTxt) (hr.mono (by decide)) (b_Map_place T.F_Map_place) .nil pass0 (pa_cons (pv 9) pa_nil)) pa_nil)) (nomark _)) (pw_or1 (pt_cmpR op_ne (pe_meth (pv 7) T.i_Map.cl T.m_corner (ok_Map_corner T.toTxt) (hr.mono (by decide)) (b_Map_corner T.F_Map_corner) .nil pass0 (pa_cons (pv 9) pa_nil)) (pe_meth (pv 5) T.i_Map.cl T.m_corner (ok_Map_corner T.toTxt) (hr.mono (by decide)) (b_Map_corner T.F_Map_corner) .nil pass0 (pa_cons (pe_meth (pv 12) T.i_Map.cl T.m_corner (ok_Map_corner T.toTxt) (hr.mono (by decide)) (b_Map_corner T.F_Map_corner) .nil pass0 (pa_cons (pv 9) pa_nil)) pa_nil)) (nomark _))))) (pss_one (ps_ret pe_bl)) pss_nil)))⟩
noncomputable def dl_6 (T : LamT K mg A) (B : LamX.TabB base mg A.cd_law A.tb_law) (hg : RmG 11 (XL P w K mg base A Ar outer s H E).A) (hr : Room 11 (XL P w K mg base A Ar outer s H E).A) : {t : TS // PS (XL P w K mg base A Ar outer s H E) ((match (defBody s_law).getD 1 (.Pass ⟨0, 0, 0, 0⟩) with | .For _ _ b _ _ => b | _ => []).getD 6 (.Pass ⟨0, 0, 0, 0⟩)) t} := ⟨_, (ps_if (pt_cmpR (op_neD (un64 hr)) (pe_lc (own := [("piece", 15)]) (g := gName 15) (by rfl) sc_law.nd (pi_range1 (by rfl) T.n_range (pa_cons (pv 3) pa_nil)) (blkOk_by (own := [("piece", 15)]) (N := N_law) (sc := defScope s_law) (by decide +kernel)) (fun _ _ _ _ _ => pg_name (i := 15) sc_law.nd rfl (Or.inl rfl)) (fun _ _ _ _ _ => pts_nil) (fun _ _ _ _ _ => (pe_meth (pv 7) T.i_Map.cl T.m_face (ok_Map_face T.toTxt) (hr.mono (by decide)) (b_Map_face T.F_Map_face) .nil pass0 (pa_cons (pv 15) pa_nil)))) (pe_lc (own := [("piece", 15)]) (g := gName 15) (by rfl) sc_law.nd (pi_range1 (by rfl) T.n_range (pa_cons (pv 3) pa_nil)) (blkOk_by (own := [("piece", 15)]) (N := N_law) (sc := defScope s_law) (by decide +kernel)) (fun _ _ _ _ _ => pg_name (i := 15) sc_law.nd rfl (Or.inl rfl)) (fun _ _ _ _ _ => pts_nil) (fun _ _ _ _ _ => (pe_callTy (T := "int") call_int1 (by rfl) T.n_int (by decide +kernel) (pa_cons (pe_cmpR op_ne (pe_meth (pv 12) T.i_Map.cl T.m_face (ok_Map_face T.toTxt) (hr.mono (by decide)) (b_Map_face T.F_Map_face) .nil pass0 (pa_cons (pv 15) pa_nil)) (pe_meth (pv 5) T.i_Map.cl T.m_face (ok_Map_face T.toTxt) (hr.mono (by decide)) (b_Map_face T.F_Map_face) .nil pass0 (pa_cons (pe_op op_fdiv (pe_meth (pv 12) T.i_Map.cl T.m_place (ok_Map_place T.toTxt) (hr.mono (by decide)) (b_Map_place T.F_Map_place) .nil pass0 (pa_cons (pe_op op_mul pe_int (pv 15)) pa_nil)) pe_int) pa_nil)) (nomark _)) pa_nil)))) (nomark _)) (pss_one (ps_ret pe_bl)) pss_nil)⟩
noncomputable def dl_7 (T : LamT K mg A) (B : LamX.TabB base mg A.cd_law A.tb_law) (hg : RmG 11 (XL P w K mg base A Ar outer s H E).A) (hr : Room 11 (XL P w K mg base A Ar outer s H E).A) : {t : TS // PS (XL P w K mg base A Ar outer s H E) ((match (defBody s_law).getD 1 (.Pass ⟨0, 0, 0, 0⟩) with | .For _ _ b _ _ => b | _ => []).getD 7 (.Pass ⟨0, 0, 0, 0⟩)) t} := ⟨_, (ps_if (PW.pt (pw_or (pt_not (pt_cmpR (op_eqO (C := A.c_Map) (E := E0) (ok_Map_eq T.toTxt) (hr.mono (by decide)) T.e_Map T.fn_Map_eq (b_Map_eq T.F_Map_eq) pass0) (pe_meth (pv 12) T.i_Map.cl T.m_then (ok_Map_then T.toTxt) (hr.mono (by decide)) (b_Map_then T.F_Map_then) .nil passL (pa_cons (pe_meth0 (pv 12) T.i_Map.cl T.m_back (ok_Map_back T.toTxt) (hr.mono (by decide)) (b_Map_back T.F_Map_back) .nil passL) pa_nil)) (pv 8) (nomark _))) (pw_or (pt_cmpR (op_neO (C := A.c_Map) (E := E0) (ok_Map_eq T.toTxt) (hr.mono (by decide)) T.ne_Map (b_Map_eq T.F_Map_eq) pass0) (pe_meth (pe_meth0 (pv 12) T.i_Map.cl T.m_back (ok_Map_back T.toTxt) (hr.mono (by decide)) (b_Map_back T.F_Map_back) .nil passL) T.i_Map.cl T.m_then (ok_Map_then T.toTxt) (hr.mono (by decide)) (b_Map_then T.F_Map_then) .nil passL (pa_cons (pv 12) pa_nil)) (pv 8) (nomark _)) (pw_or (pt_cmpR (op_neO (C := A.c_Map) (E := E0) (ok_Map_eq T.toTxt) (hr.mono (by decide)) T.ne_Map (b_Map_eq T.F_Map_eq) pass0) (pe_meth0 (pe_meth0 (pv 12) T.i_Map.cl T.m_back (ok_Map_back T.toTxt) (hr.mono (by decide)) (b_Map_back T.F_Map_back) .nil passL) T.i_Map.cl T.m_back (ok_Map_back T.toTxt) (hr.mono (by decide)) (b_Map_back T.F_Map_back) .nil passL) (pv 12) (nomark _)) (pw_or1 (pt_not (pt_val (pe_callG (ok_law_right T.toLawT) (hg.mono (by decide)) rfl T.g_law_right T.F_law_right.kp (b_law_right T.F_law_right) .nil pass0 (pa_cons (pe_callTy call_list_of (by rfl) T.n_list (by decide +kernel) (pa_cons (pe_fld (pe_meth0 (pv 12) T.i_Map.cl T.m_back (ok_Map_back T.toTxt) (hr.mono (by decide)) (b_Map_back T.F_Map_back) .nil passL) rfl) pa_nil)) pa_nil))))))))) (pss_one (ps_ret pe_bl)) pss_nil)⟩
noncomputable def dl_8 (T : LamT K mg A) (B : LamX.TabB base mg A.cd_law A.tb_law) (hg : RmG 11 (XL P w K mg base A Ar outer s H E).A) (hr : Room 11 (XL P w K mg base A Ar outer s H E).A) : {t : TS // PS (XL P w K mg base A Ar outer s H E) ((match (defBody s_law).getD 1 (.Pass ⟨0, 0, 0, 0⟩) with | .For _ _ b _ _ => b | _ => []).getD 8 (.Pass ⟨0, 0, 0, 0⟩)) t} := ⟨_, (ps_if (PW.pt (pw_or (pt_cmpR op_ne (pe_cmpR (op_eqO (C := A.c_Map) (E := E0) (ok_Map_eq T.toTxt) (hr.mono (by decide)) T.e_Map T.fn_Map_eq (b_Map_eq T.F_Map_eq) pass0) (pv 12) (pv 5) (nomark _)) (pe_cmpR (op_eqD (un64 hr)) (pe_ix ix_list (pv 4) pe_int (fun _ _ => rfl)) (pe_ix ix_list (pv 4) pe_int (fun _ _ => rfl)) (nomark _)) (nomark _)) (pw_or (pt_cmpR (op_eqO (C := A.c_Map) (E := E0) (ok_Map_eq T.toTxt) (hr.mono (by decide)) T.e_Map T.fn_Map_eq (b_Map_eq T.F_Map_eq) pass0) (pv 12) (pe_ix ix_list (pv 4) pe_int (fun _ _ => rfl)) (nomark _)) (pw_or1 (pt_cmpR (op_neO (C := A.c_Map) (E := E0) (ok_Map_eq T.toTxt) (hr.mono (by decide)) T.ne_Map (b_Map_eq T.F_Map_eq) pass0) (pe_meth (pv 8) T.i_Map.cl T.m_then (ok_Map_then T.toTxt) (hr.mono (by decide)) (b_Map_then T.F_Map_then) .nil passL (pa_cons (pv 12) pa_nil)) (pv 12) (nomark _)))))) (pss_one (ps_ret pe_bl)) pss_nil)⟩
noncomputable def dl_9 (T : LamT K mg A) (B : LamX.TabB base mg A.cd_law A.tb_law) (hg : RmG 11 (XL P w K mg base A Ar outer s H E).A) (hr : Room 11 (XL P w K mg base A Ar outer s H E).A) : {t : TS // PS (XL P w K mg base A Ar outer s H E) ((match (defBody s_law).getD 1 (.Pass ⟨0, 0, 0, 0⟩) with | .For _ _ b _ _ => b | _ => []).getD 9 (.Pass ⟨0, 0, 0, 0⟩)) t} := ⟨_, (ps_set (i := 11) sc_law.nd rfl (Or.inr rfl) (pe_call (ok_law_pick T.toLawT) (hr.mono (by decide)) rfl T.g_law_pick T.F_law_pick.kp (b_law_pick T.F_law_pick) .nil pass0 (pa_cons (pv 1) (pa_cons (pe_lst (pa_cons pe_non (pa_cons (pe_ix ix_list (pv 4) pe_int (fun _ _ => rfl)) (pa_cons (pe_cmeth (pe_glob (v := .ref A.c_Map) rfl T.g_Map rfl) T.cr_Map T.cm_same ((ok_Map_same T.toTxt).raw (b_Map_same T.F_Map_same) .nil) (hr.mono (by decide)) passL (pa_cons (pe_op op_add (pv 3) pe_int) pa_nil)) (pa_cons pe_int (pa_cons pe_str pa_nil)))))) pa_nil))))⟩
noncomputable def dl_10 (T : LamT K mg A) (B : LamX.TabB base mg A.cd_law A.tb_law) (hg : RmG 11 (XL P w K mg base A Ar outer s H E).A) (hr : Room 11 (XL P w K mg base A Ar outer s H E).A) : {t : TS // PS (XL P w K mg base A Ar outer s H E) ((match (defBody s_law).getD 1 (.Pass ⟨0, 0, 0, 0⟩) with | .For _ _ b _ _ => b | _ => []).getD 10 (.Pass ⟨0, 0, 0, 0⟩)) t} := ⟨_, (ps_if (pt_cmpR (op_neD (un64 hr)) (by exact pe_heard (k := 6) (by exact T) (by exact B) (by exact hr.mono (by decide)) (by rfl) (by rfl) (by rfl) (LamX.lamS_by (by rfl)) (by rfl) (fun _ _ _ _ _ => rfl) fun A2 o2 s2 H2 E2 f2 c2 hr2 => (pe_meth (pv 12) T.i_Map.cl T.m_then (ok_Map_then T.toTxt) (hr2.mono (by decide)) (b_Map_then T.F_Map_then) .nil (passes_call (takes_of rfl rfl rfl rfl) fun _ _ _ _ h => h) (pa_cons (pv 11) pa_nil))) (pe_tup (pa_cons pe_str (pa_cons pe_str pa_nil))) (nomark _)) (pss_one (ps_ret pe_bl)) pss_nil)⟩
noncomputable def dt_0 (T : LamT K mg A) (B : LamX.TabB base mg A.cd_law A.tb_law) (hg : RmG 11 (XL P w K mg base A Ar outer s H E).A) (hr : Room 11 (XL P w K mg base A Ar outer s H E).A) : {t : TS // PS (XL P w K mg base A Ar outer s H E) ((defBody s_law).getD 0 (.Pass ⟨0, 0, 0, 0⟩)) t} := ⟨_, (ps_set (i := 1) sc_law.nd rfl (Or.inr rfl) (pe_call (ok_law_pen T.toLawT) (hr.mono (by decide)) rfl T.g_law_pen T.F_law_pen.kp (b_law_pen T.F_law_pen) .nil pass0 (pa_cons (pv 0) pa_nil)))⟩
noncomputable def dt_2 (T : LamT K mg A) (B : LamX.TabB base mg A.cd_law A.tb_law) (hg : RmG 11 (XL P w K mg base A Ar outer s H E).A) (hr : Room 11 (XL P w K mg base A Ar outer s H E).A) : {t : TS // PS (XL P w K mg base A Ar outer s H E) ((defBody s_law).getD 2 (.Pass ⟨0, 0, 0, 0⟩)) t} := ⟨_, (ps_set (i := 10) sc_law.nd rfl (Or.inl rfl) (pe_lst (pa_cons pe_non (pa_cons pe_int (pa_cons pe_str (pa_cons (pe_lst pa_nil) (pa_cons (pe_lst (pa_cons pe_non pa_nil)) (pa_cons (pe_lst (pa_cons (pe_tup (pa_cons pe_int (pa_cons pe_int pa_nil))) pa_nil)) (pa_cons (pe_lst (pa_cons (pe_tup (pa_cons pe_int (pa_cons pe_int (pa_cons pe_int (pa_cons pe_int pa_nil))))) pa_nil)) (pa_cons (pe_lst (pa_cons (pe_tup (pa_cons pe_int (pa_cons pe_int (pa_cons pe_int pa_nil)))) pa_nil)) (pa_cons (pe_lst (pa_cons (pe_tup (pa_cons pe_int (pa_cons pe_int (pa_cons pe_int pa_nil)))) pa_nil)) (pa_cons (pe_lst (pa_cons (pe_tup (pa_cons pe_int (pa_cons pe_int (pa_cons pe_int pa_nil)))) pa_nil)) (pa_cons (pe_lst (pa_cons (pe_tup (pa_cons pe_int (pa_cons pe_int (pa_cons pe_int pa_nil)))) (pa_cons (pe_tup (pa_cons pe_int (pa_cons pe_int (pa_cons pe_int pa_nil)))) pa_nil))) (pa_cons (pe_lst (pa_cons (pe_tup (pa_cons pe_int (pa_cons pe_int (pa_cons pe_bl pa_nil)))) pa_nil)) (pa_cons (pe_lst (pa_cons (pe_tup (pa_cons pe_bl (pa_cons pe_int (pa_cons pe_int pa_nil)))) pa_nil)) (pa_cons (pe_lst (pa_cons (pe_tup (pa_cons pe_str (pa_cons pe_int (pa_cons pe_int pa_nil)))) pa_nil)) (pa_cons (pe_lst (pa_cons (pe_tup (pa_cons pe_int (pa_cons (pe_un un_neg pe_int) (pa_cons pe_int pa_nil)))) pa_nil)) (pa_cons pe_dnewK pa_nil))))))))))))))))))⟩
noncomputable def dt_3 (T : LamT K mg A) (B : LamX.TabB base mg A.cd_law A.tb_law) (hg : RmG 11 (XL P w K mg base A Ar outer s H E).A) (hr : Room 11 (XL P w K mg base A Ar outer s H E).A) : {t : TS // PS (XL P w K mg base A Ar outer s H E) ((defBody s_law).getD 3 (.Pass ⟨0, 0, 0, 0⟩)) t} := ⟨_, (ps_ret (pe_cmpR (op_eqD (un64 hr)) (pe_lc (own := [("value", 14)]) (g := gName 14) (by rfl) sc_law.nd (pi_seqW (pv 10)) (blkOk_by (own := [("value", 14)]) (N := N_law) (sc := defScope s_law) (by decide +kernel)) (fun _ _ _ _ _ => pg_name (i := 14) sc_law.nd rfl (Or.inr rfl)) (fun _ _ _ _ _ => pts_one (show PT _ _ (tTest (tOp (rNeD K) (LamX.tLam (tbs A) (THeard A) fun E2 => tMake A.c_Map (spMapInit K A) [] E2 (tCons (tVar 14) tNil)) (tTup (tCons (tC (.str "value")) (tCons (tC (.str "images")) tNil))))) from by refine pt_cmpR (r := rNeD K) ?_ ?_ ?_ (nomark _); exact op_neD (un64 hr); exact (by exact pe_heard (k := 6) (by exact T) (by exact B) (by exact hr.mono (by decide)) (by rfl) (by rfl) (by rfl) (LamX.lamS_by (by rfl)) (by rfl) (fun _ _ _ _ _ => rfl) fun A2 o2 s2 H2 E2 f2 c2 hr2 => (pe_make T.mk_Map (ok_Map_init T.toTxt) (hr2.mono (by decide)) rfl T.g_Map (b_Map_init T.F_Map_init) .nil (passes_call (takes_of rfl rfl rfl rfl) fun _ _ _ _ h => h) (pa_cons (pv 14) pa_nil))); exact pe_tup (pa_cons pe_str (pa_cons pe_str pa_nil)))) (fun _ _ _ _ _ => (pv 14))) (pe_lst pa_nil) (nomark _)))⟩
end
end
end K5


set_option Elab.async false
set_option linter.all false
set_option maxRecDepth 100000
set_option maxHeartbeats 8000000
set_option exponentiation.threshold 10000
namespace K5
open PySem PySem.Spec PyProof.Rows L2 ClX OG
section
variable {P : Program} {w : World} {K : PySem.W.Frag} {mg : Str → Option Value} {base : Heap} {A : Ad} {H' : Hp} {p : Addr}
theorem core_l {a : Addr} {xs : List V} (n : a ≠ p) (q : SqL K H' a xs) : SqL K (core p H') a xs := by
  rcases q with (q | ⟨o, q⟩) | q
  · exact .inl (.inl (core_get n q (fun _ z => by cases z)))
  · exact .inl (.inr ⟨o, core_get n q (fun _ z => by cases z)⟩)
  · exact .inr q
theorem MapA.core {C a : Addr} {ims : List Im} (h : MapA K C H' a ims) (hp : ∃ ys, H' p = some (.lst ys)) : MapA K C (core p H') a ims := by
  obtain ⟨dx, t, xs, e1, e2, e3, e4⟩ := h
  have ⟨ys, hy⟩ := hp
  exact ⟨dx, t, xs, core_get (fun z => by rw [z, hy] at e1; cases e1) e1 (fun _ z => by cases z), core_get (fun z => by rw [z, hy] at e2; cases e2) e2 (fun _ z => by cases z), ⟨e3.1, fun i x m a b => let ⟨u, e, q⟩ := e3.2 i x m a b; ⟨u, e, core_t hp q⟩⟩, e4⟩
theorem RowsL.core {a : Addr} {ims : List Im} (h : RowsL K H' a ims) (n : a ≠ p) (hp : ∃ ys, H' p = some (.lst ys)) : RowsL K (core p H') a ims := by
  obtain ⟨xs, h1, h2, h3⟩ := h
  exact ⟨xs, core_l n h1, h2, fun i x m a b => let ⟨u, e, q⟩ := h3 i x m a b; ⟨u, e, core_t hp q⟩⟩
theorem tabs_put {TT : List (Addr × Str)} {l : Addr} {xs : List V} {o : HO} (t : LamX.Tabs TT H') (h : H' l = some (.lst xs)) : LamX.Tabs TT (upd H' l o) := fun q hq => by
  obtain ⟨ps, h1, h2, h3⟩ := t q hq
  refine ⟨ps, by rw [upd_ne (fun z => by rw [z, h] at h1; cases h1)]; exact h1, h2, fun pos cv hc => ?_⟩
  obtain ⟨c, e1, e2⟩ := h3 pos cv hc
  exact ⟨c, e1, by rw [upd_ne (fun z => by rw [z, h] at e2; unfold LamX.CodeO at e2; cases e2)]; exact e2⟩
section
variable {Ar : Around} {outer : List Env} {s : Shared} {H : Hp} {E : XK}
theorem rd_0 (T : LamT K mg A) (B : LamX.TabB base mg A.cd_law A.tb_law) (hg : RmG 11 (XL P w K mg base A Ar outer s H E).A) (hr : Room 11 (XL P w K mg base A Ar outer s H E).A) {a : Addr} {m : Nat} {D : Ends} {H0 : Hp} {w2 w3 w4 w5 w6 w7 w8 w9 w10 w11 w12 w13 w14 w15 : Option V}
    (k0 : PenK H0 p m) (hm : m ≤ 90000) (q : ∀ (n : Nat) H1, 1 ≤ n → n ≤ 12 → But p H0 H1 → PenK H1 p (m + 1) → D.nx [some (.ref a), some (.ref p), w2, some (.int n), w4, w5, w6, w7, w8, w9, w10, w11, w12, w13, w14, w15] H1) :
    (dl_0 (P := P) (w := w) (outer := outer) (s := s) (H := H) (E := E) T B hg hr).1 D [some (.ref a), some (.ref p), w2, w3, w4, w5, w6, w7, w8, w9, w10, w11, w12, w13, w14, w15] H0 := by
  unfold dl_0
  refine ⟨_, rfl, p, 12, m, rfl, k0, by omega, by decide, (szI_nat (k := 10) (n := 12) (by decide)).mono (by decide), fun r H1 r0 r1 e1 k1 => ⟨_, _, rfl, rfl, ?_⟩⟩
  have := q (1 + r).toNat H1 (by omega) (by omega) e1 k1
  rw [show (((1 + r).toNat : Nat) : Int) = 1 + r by omega] at this
  exact this
theorem rows_put {l F : Addr} {H1 : Hp} {bs : List Im} {xs : List V} {o : HO} (h : RowsAt H1 F bs) (hl : H1 l = some (.lst xs)) (n : F ≠ l) : RowsAt (upd H1 l o) F bs := by
  obtain ⟨ts, h1, h2, h3⟩ := h
  exact ⟨ts, by rw [upd_ne n]; exact h1, h2, fun i t m a b => by
    have := h3 i t m a b
    rw [upd_ne (fun z => by rw [z, hl] at this; cases this)]
    exact this⟩
theorem rd_1 (T : LamT K mg A) (B : LamX.TabB base mg A.cd_law A.tb_law) (hg : RmG 11 (XL P w K mg base A Ar outer s H E).A) (hr : Room 11 (XL P w K mg base A Ar outer s H E).A) {a : Addr} {m n : Nat} {D : Ends} {H0 : Hp} {w2 w4 w5 w6 w7 w8 w9 w10 w11 w12 w13 w14 w15 : Option V}
    (k0 : PenK H0 p m) (tb : LamX.Tabs (tbs A) H0) (hm : m ≤ 80000) (n1 : 1 ≤ n) (n12 : n ≤ 12) (q : ∀ R F0 F1 F2 i0 i1 i2 H1, But p H0 H1 → PenK H1 p (m + 108) → LamX.Tabs (tbs A) H1 → H1 R = some (.lst [.ref F0, .ref F1, .ref F2]) → R ≠ p →
      (RowsAt H1 F0 i0 ∧ F0 ≠ p ∧ Good i0 ∧ i0.length = n) → (RowsAt H1 F1 i1 ∧ F1 ≠ p ∧ Good i1 ∧ i1.length = n) → (RowsAt H1 F2 i2 ∧ F2 ≠ p ∧ Good i2 ∧ i2.length = n) →
      D.nx [some (.ref a), some (.ref p), w2, some (.int n), some (.ref R), w5, w6, w7, w8, w9, w10, w11, w12, w13, w14, w15] H1) :
    (dl_1 (P := P) (w := w) (outer := outer) (s := s) (H := H) (E := E) T B hg hr).1 D [some (.ref a), some (.ref p), w2, some (.int n), w4, w5, w6, w7, w8, w9, w10, w11, w12, w13, w14, w15] H0 := by
  unfold dl_1
  refine ⟨3, rfl, by decide, by decide, fun R hR => ?_⟩
  have hR0 := lst_new k0.lst hR
  refine lc_range (lo := 0) (n := 3) (fun j H' => But p H0 H' ∧ PenK H' p (m + 36 * j) ∧ LamX.Tabs (tbs A) H' ∧ ∃ Fs : List (Addr × List Im), H' R = some (.lst (Fs.map fun f => V.ref f.1)) ∧ Fs.length = j ∧ ∀ f ∈ Fs, RowsAt H' f.1 f.2 ∧ f.1 ≠ p ∧ f.1 ≠ R ∧ Good f.2 ∧ f.2.length = n) ?_ (fun j H1 hj k => ?_) (fun H1 k => ?_)
  · exact ⟨but_put (but_same (Same.refl _) k0.lst) hR, pen_put k0 (but_same (Same.refl _) k0.lst) k0 hR, tb.ext (same_new hR), [], upd_same, rfl, fun f hf => by cases hf⟩
  · obtain ⟨e1, k1, t1, Fs, hF, hl, hfs⟩ := k
    refine ⟨rfl, tyes (A := fun H3 => tCall (spImages K) [] E0 (tCons (tVar 1) (tCons (tVar 3) tNil)) _ H3 _) ⟨_, rfl, _, rfl, p, n, m + 36 * j, rfl, k1, by omega, n1, n12, fun F ims H2 e2 k2 hF0 rF gF lF => ?_⟩⟩
    have hF2 := e2.2.2.1 R _ hR0 hF
    have nFR : F ≠ R := fun z => by rw [z, hF] at hF0; cases hF0
    have nFp := lst_new k1.lst hF0
    have e12 := e1.trans e2
    refine ⟨_, hF2, by rw [List.length_map, hl]; exact Nat.lt_of_lt_of_le (show j < 64 by omega) (by decide), but_put e12 hR, pen_put (k2.mono (by omega)) e12 k0 hR, tabs_put (e2.tabs t1) hF2, Fs ++ [(F, ims)], by rw [upd_same, List.map_append]; rfl, by rw [List.length_append, hl]; rfl, fun f hf => ?_⟩
    rcases List.mem_append.mp hf with hf | hf
    · obtain ⟨f1, f2, f3, f4, f5⟩ := hfs f hf
      exact ⟨rows_put (f1.but e2 f2) hF2 f3, f2, f3, f4, f5⟩
    · rcases List.mem_singleton.mp hf with rfl
      exact ⟨rows_put rF hF2 nFR, nFp, nFR, gF, lF⟩
  · obtain ⟨e1, k1, t1, Fs, hF, hl, hfs⟩ := k
    match Fs, hl with
    | [f0, f1, f2], _ =>
      have g := fun f hf => hfs f hf
      obtain ⟨a1, a2, _, a4, a5⟩ := hfs f0 (by simp)
      obtain ⟨b1, b2, _, b4, b5⟩ := hfs f1 (by simp)
      obtain ⟨c1, c2, _, c4, c5⟩ := hfs f2 (by simp)
      exact q R f0.1 f1.1 f2.1 f0.2 f1.2 f2.2 H1 e1 k1 t1 hF hR0 ⟨a1, a2, a4, a5⟩ ⟨b1, b2, b4, b5⟩ ⟨c1, c2, c4, c5⟩
end
end
end K5


set_option Elab.async false
set_option linter.all false
set_option maxRecDepth 100000
set_option maxHeartbeats 8000000
set_option exponentiation.threshold 10000
namespace K5
open PySem PySem.Spec PyProof.Rows L2 ClX OG
/-- the rows of a turn -/
structure Rws (K : PySem.W.Frag) (H : Hp) (n : Nat) (R F0 F1 F2 : Addr) (i0 i1 i2 : List Im) : Prop where
  hR : SqL K H R [.ref F0, .ref F1, .ref F2]
  r0 : RowsL K H F0 i0
  r1 : RowsL K H F1 i1
  r2 : RowsL K H F2 i2
  g0 : Good i0
  g1 : Good i1
  g2 : Good i2
  l0 : i0.length = n
  l1 : i1.length = n
  l2 : i2.length = n
  n1 : 1 ≤ n
  n12 : n ≤ 12
/-- .. and its maps -/
structure Trn (K : PySem.W.Frag) (A : Ad) (H : Hp) (n : Nat) (R F0 F1 F2 : Addr) (i0 i1 i2 : List Im) (o1 o2 o3 : Addr) : Prop extends Rws K H n R F0 F1 F2 i0 i1 i2 where
  m1 : MapA K A.c_Map H o1 i0
  m2 : MapA K A.c_Map H o2 i1
  m3 : MapA K A.c_Map H o3 i2
section
variable {P : Program} {w : World} {K : PySem.W.Frag} {mg : Str → Option Value} {base : Heap} {A : Ad} {H1 H2 : Hp} {p : Addr} {n : Nat} {R F0 F1 F2 o1 o2 o3 a : Addr} {i0 i1 i2 : List Im}
theorem Rws.same (h : Rws K H1 n R F0 F1 F2 i0 i1 i2) (s : Same H1 H2) : Rws K H2 n R F0 F1 F2 i0 i1 i2 := ⟨s.seq h.hR, h.r0.same s, h.r1.same s, h.r2.same s, h.g0, h.g1, h.g2, h.l0, h.l1, h.l2, h.n1, h.n12⟩
theorem Trn.same (h : Trn K A H1 n R F0 F1 F2 i0 i1 i2 o1 o2 o3) (s : Same H1 H2) : Trn K A H2 n R F0 F1 F2 i0 i1 i2 o1 o2 o3 := ⟨h.toRws.same s, h.m1.mono s, h.m2.mono s, h.m3.mono s⟩
theorem _root_.K5.MapA.i {C a : Addr} {ims : List Im} (h : MapA K C H1 a ims) : ∃ dx t, H1 a = some (.ins C dx [("images", .ref t)]) := let ⟨dx, t, _, e, _⟩ := h; ⟨dx, t, e⟩
theorem dSome (ims jms : List Im) : decide (some ims = some jms) = decide (ims = jms) := by
  rw [Bool.eq_iff_iff, decide_eq_true_iff, decide_eq_true_iff]
  exact ⟨fun h => Option.some.inj h, fun h => congrArg some h⟩
theorem noMis {ims jms : List Im} {H : Hp} {E : XK} (hl : jms.length = ims.length) : (∀ j, some jms = some j → j.length ≠ ims.length) → BadE A.c_Misfit "other" H E := fun h => absurd hl (h jms rfl)
section
variable {Ar : Around} {outer : List Env} {s : Shared} {H : Hp} {E : XK} {D : Ends} {w2 w5 w6 w7 w8 w9 w10 w11 w12 w13 w14 w15 : Option V} {H0 : Hp}
theorem rd_2 (T : LamT K mg A) (B : LamX.TabB base mg A.cd_law A.tb_law) (hg : RmG 11 (XL P w K mg base A Ar outer s H E).A) (hr : Room 11 (XL P w K mg base A Ar outer s H E).A)
    (h : Rws K H0 n R F0 F1 F2 i0 i1 i2) (q : ∀ o1 o2 o3 H1, Same H0 H1 → Trn K A H1 n R F0 F1 F2 i0 i1 i2 o1 o2 o3 → D.nx [some (.ref a), some (.ref p), w2, some (.int n), some (.ref R), some (.ref o2), some (.ref o3), w7, w8, w9, w10, w11, some (.ref o1), w13, w14, w15] H1) :
    (dl_2 (P := P) (w := w) (outer := outer) (s := s) (H := H) (E := E) T B hg hr).1 D [some (.ref a), some (.ref p), w2, some (.int n), some (.ref R), w5, w6, w7, w8, w9, w10, w11, w12, w13, w14, w15] H0 := by
  unfold dl_2
  have l0 := h.l0
  have l1 := h.l1
  have l2 := h.l2
  have n12 := h.n12
  refine ⟨_, rfl, R, _, 0, .ref F0, rfl, rfl, h.hR, atI_nat (j := 0) rfl, fun o1 d1 a1 b1 c1 => make_go (r := some i0) a1 b1 c1 (h.r0.v (by omega) h.g0) (fun z => nomatch z) fun ims' e H1 s1 m1 => ⟨rfl, ?_⟩⟩
  cases e
  replace h := h.same s1
  refine ⟨_, rfl, R, _, 1, .ref F1, rfl, rfl, h.hR, atI_nat (j := 1) rfl, fun o2 d2 a2 b2 c2 => make_go (r := some i1) a2 b2 c2 (h.r1.v (by omega) h.g1) (fun z => nomatch z) fun ims' e H2 s2 m2 => ⟨rfl, ?_⟩⟩
  cases e
  replace h := h.same s2
  refine ⟨_, rfl, R, _, 2, .ref F2, rfl, rfl, h.hR, atI_nat (j := 2) rfl, fun o3 d3 a3 b3 c3 => make_go (r := some i2) a3 b3 c3 (h.r2.v (by omega) h.g2) (fun z => nomatch z) fun ims' e H3 s3 m3 => ⟨rfl, ?_⟩⟩
  cases e
  replace h := h.same s3
  refine ⟨three_line, fun t ht => ⟨t, _, rfl, SqT.of upd_same, rfl, _, _, rfl, _, _, rfl, _, _, rfl, rfl, ?_⟩⟩
  have s4 := same_new (o := .tup [.ref o1, .ref o2, .ref o3]) ht
  exact q o1 o2 o3 _ (s1.trans (s2.trans (s3.trans s4))) ⟨h.same s4, m1.mono (s2.trans (s3.trans s4)), m2.mono (s3.trans s4), m3.mono s4⟩
theorem rd_3 (T : LamT K mg A) (B : LamX.TabB base mg A.cd_law A.tb_law) (hg : RmG 11 (XL P w K mg base A Ar outer s H E).A) (hr : Room 11 (XL P w K mg base A Ar outer s H E).A)
    (h : Trn K A H0 n R F0 F1 F2 i0 i1 i2 o1 o2 o3) (q : ∀ H1, Same H0 H1 → D.nx [some (.ref a), some (.ref p), w2, some (.int n), some (.ref R), some (.ref o2), some (.ref o3), w7, w8, w9, w10, w11, some (.ref o1), w13, w14, w15] H1) :
    (dl_3 (P := P) (w := w) (outer := outer) (s := s) (H := H) (E := E) T B hg hr).1 D [some (.ref a), some (.ref p), w2, some (.int n), some (.ref R), some (.ref o2), some (.ref o3), w7, w8, w9, w10, w11, some (.ref o1), w13, w14, w15] H0 := by
  unfold dl_3
  have l0 := h.l0
  have l1 := h.l1
  have l2 := h.l2
  have n12 := h.n12
  refine ⟨_, rfl, R, _, 0, .ref F0, rfl, rfl, h.hR, atI_nat (j := 0) rfl, F0, i0, rfl, h.r0, h.g0, by omega, fun H1 s1 => ⟨true, rfl, iteF ?_⟩⟩
  replace h := h.same s1
  obtain ⟨d1, t1, e1⟩ := h.m1.i
  refine ⟨_, rfl, o1, d1, _, rfl, e1, rfl, _, rfl, o1, i0, .ref o2, some i1, rfl, h.m1, .map h.m2, noMis (by omega), fun jms e _ x2 H2 s2 m12 => ?_⟩
  cases e
  replace h := h.same s2
  obtain ⟨d2, t2, e2⟩ := m12.i
  refine ⟨x2, d2, _, rfl, e2, rfl, _, rfl, x2, thenI i0 i1, .ref o3, some i2, rfl, m12, .map h.m3, noMis (by rw [len_then]; omega), fun jms e _ x3 H3 s3 m123 => ?_⟩
  cases e
  replace h := h.same s3
  obtain ⟨d4, t4, e4⟩ := h.m1.i
  obtain ⟨d3, t3, e3⟩ := h.m2.i
  refine ⟨_, rfl, o1, d4, _, rfl, e4, rfl, _, rfl, o2, d3, _, rfl, e3, rfl, _, rfl, o2, i1, .ref o3, some i2, rfl, h.m2, .map h.m3, noMis (by omega), fun jms e _ x4 H4 s4 m23 => ?_⟩
  cases e
  replace h := h.same s4
  refine ⟨o1, i0, .ref x4, some (thenI i1 i2), rfl, h.m1, .map m23, noMis (by rw [len_then]; omega), fun jms e _ x5 H5 s5 mm => ?_⟩
  cases e
  obtain ⟨d5, t5, e5⟩ := (m123.mono (s4.trans s5)).i
  obtain ⟨d6, t6, e6⟩ := mm.i
  refine ⟨x3, d5, _, .ref A.c_Map, rfl, e5, T.i_Map.ty e6, T.nf_Map, x3, _, .ref x5, some _, rfl, m123.mono (s4.trans s5), .map mm, true, ?_, _, rfl, ?_⟩
  · rw [dSome, then_assoc h.g0 h.g1 h.g2 (by omega) (by omega), decide_eq_true rfl]
  · exact iteF (q H5 (s1.trans (s2.trans (s3.trans (s4.trans s5)))))
theorem rd_4 (T : LamT K mg A) (B : LamX.TabB base mg A.cd_law A.tb_law) (hg : RmG 11 (XL P w K mg base A Ar outer s H E).A) (hr : Room 11 (XL P w K mg base A Ar outer s H E).A)
    (h : Trn K A H0 n R F0 F1 F2 i0 i1 i2 o1 o2 o3) (q : ∀ bo st H1, Same H0 H1 → MapA K A.c_Map H1 bo (thenI i0 i1) → MapA K A.c_Map H1 st (sameI n) → D.nx [some (.ref a), some (.ref p), w2, some (.int n), some (.ref R), some (.ref o2), some (.ref o3), some (.ref bo), some (.ref st), w9, w10, w11, some (.ref o1), w13, w14, w15] H1) :
    (dl_4 (P := P) (w := w) (outer := outer) (s := s) (H := H) (E := E) T B hg hr).1 D [some (.ref a), some (.ref p), w2, some (.int n), some (.ref R), some (.ref o2), some (.ref o3), w7, w8, w9, w10, w11, some (.ref o1), w13, w14, w15] H0 := by
  unfold dl_4
  have l0 := h.l0
  have l1 := h.l1
  have n1 := h.n1
  have n12 := h.n12
  obtain ⟨d1, t1, e1⟩ := h.m1.i
  refine ⟨_, rfl, o1, d1, _, rfl, e1, rfl, _, rfl, o1, i0, .ref o2, some i1, rfl, h.m1, .map h.m2, noMis (by omega), fun jms e _ bo H2 s2 m12 => ?_⟩
  cases e
  refine ⟨rfl, _, rfl, n, rfl, by omega, by omega, fun st H3 s3 ms => ⟨two_line, fun t ht => ⟨t, _, rfl, SqT.of upd_same, rfl, _, _, rfl, _, _, rfl, rfl, ?_⟩⟩⟩
  have s4 := same_new (o := .tup [.ref bo, .ref st]) ht
  exact q bo st _ (s2.trans (s3.trans s4)) (m12.mono (s3.trans s4)) (ms.mono s4)
end
end
end K5


set_option Elab.async false
set_option linter.all false
set_option maxRecDepth 100000
set_option maxHeartbeats 8000000
set_option exponentiation.threshold 10000
namespace K5
open PySem PySem.Spec PyProof.Rows L2 ClX OG
section
variable {P : Program} {w : World} {K : PySem.W.Frag} {mg : Str → Option Value} {base : Heap} {A : Ad} {H1 H2 : Hp} {p : Addr} {n : Nat} {R F0 F1 F2 o1 o2 o3 bo st a : Addr} {i0 i1 i2 : List Im}
section
variable {Ar : Around} {outer : List Env} {s : Shared} {H : Hp} {E : XK} {D : Ends} {w2 w5 w6 w7 w8 w9 w10 w11 w12 w13 w14 w15 : Option V} {H0 : Hp}
theorem rd_5 (T : LamT K mg A) (B : LamX.TabB base mg A.cd_law A.tb_law) (hg : RmG 11 (XL P w K mg base A Ar outer s H E).A) (hr : Room 11 (XL P w K mg base A Ar outer s H E).A)
    (h : Trn K A H0 n R F0 F1 F2 i0 i1 i2 o1 o2 o3) (hb : MapA K A.c_Map H0 bo (thenI i0 i1)) (hs : MapA K A.c_Map H0 st (sameI n)) (q : ∀ H1 w9, Same H0 H1 → D.nx [some (.ref a), some (.ref p), w2, some (.int n), some (.ref R), some (.ref o2), some (.ref o3), some (.ref bo), some (.ref st), w9, w10, w11, some (.ref o1), w13, w14, w15] H1) :
    (dl_5 (P := P) (w := w) (outer := outer) (s := s) (H := H) (E := E) T B hg hr).1 D [some (.ref a), some (.ref p), w2, some (.int n), some (.ref R), some (.ref o2), some (.ref o3), some (.ref bo), some (.ref st), w9, w10, w11, some (.ref o1), w13, w14, w15] H0 := by
  unfold dl_5
  have l0 := h.l0
  have l1 := h.l1
  have n1 := h.n1
  have n12 := h.n12
  refine ⟨_, rfl, _, _, rfl, rfl, .inl ⟨by decide, by decide⟩, _, rfl, by omega, by omega, ?_⟩
  refine for_range (lo := 0) (n := (3 * (n : Int)).toNat) (fun i σ H' => H' = H0 ∧ ∃ w9, σ = [some (.ref a), some (.ref p), w2, some (.int n), some (.ref R), some (.ref o2), some (.ref o3), some (.ref bo), some (.ref st), w9, w10, w11, some (.ref o1), w13, w14, w15]) ⟨rfl, _, rfl⟩ (fun i σ H1 hi k => ?_) (fun σ H1 k => ?_)
  · obtain ⟨rfl, w9, rfl⟩ := k
    have p0 : 0 ≤ (0 : Int) + (i : Nat) := by omega
    have p1 : (0 : Int) + (i : Nat) < 3 * (i0.length : Int) := by omega
    generalize (0 : Int) + (i : Nat) = u at p0 p1
    have lt := len_then i0 i1
    obtain ⟨db, tb, eb⟩ := hb.i
    obtain ⟨d1, t1, e1⟩ := h.m1.i
    obtain ⟨d2, t2, e2⟩ := h.m2.i
    have hpl := pl_range h.g0.1 p0 p1
    have hco := co_range h.g0.1 p0 p1
    refine ⟨_, rfl, bo, db, _, rfl, eb, rfl, _, rfl, bo, thenI i0 i1, u, rfl, hb, p0, by omega, _, rfl, o2, d2, _, rfl, e2, rfl, _, rfl, o1, d1, _, rfl, e1, rfl, _, rfl, o1, i0, u, rfl, h.m1, p0, p1, o2, i1, pl i0 u, rfl, h.m2, hpl.1, by omega, rfl, _, rfl, ?_⟩
    rw [show decide (V.int (pl (thenI i0 i1) u) = V.int (pl i1 (pl i0 u))) = true from decide_eq_true (by rw [pl_then h.g0 h.g1 (by omega) p0 p1])]
    refine iteF ?_
    refine ⟨_, rfl, bo, db, _, rfl, eb, rfl, _, rfl, bo, thenI i0 i1, u, rfl, hb, p0, by omega, _, rfl, o2, d2, _, rfl, e2, rfl, _, rfl, o1, d1, _, rfl, e1, rfl, _, rfl, o1, i0, u, rfl, h.m1, p0, p1, o2, i1, co i0 u, rfl, h.m2, hco.1, by omega, rfl, _, rfl, ?_⟩
    rw [show decide (V.int (co (thenI i0 i1) u) = V.int (co i1 (co i0 u))) = true from decide_eq_true (by rw [co_then h.g0 h.g1 (by omega) p0 p1])]
    refine iteF ?_
    exact ⟨rfl, _, rfl⟩
  · obtain ⟨rfl, w9, rfl⟩ := k
    exact q _ w9 (Same.refl _)
theorem rd_6 (T : LamT K mg A) (B : LamX.TabB base mg A.cd_law A.tb_law) (hg : RmG 11 (XL P w K mg base A Ar outer s H E).A) (hr : Room 11 (XL P w K mg base A Ar outer s H E).A)
    (h : Trn K A H0 n R F0 F1 F2 i0 i1 i2 o1 o2 o3) (hb : MapA K A.c_Map H0 bo (thenI i0 i1)) (hs : MapA K A.c_Map H0 st (sameI n)) (q : ∀ H1, Same H0 H1 → D.nx [some (.ref a), some (.ref p), w2, some (.int n), some (.ref R), some (.ref o2), some (.ref o3), some (.ref bo), some (.ref st), w9, w10, w11, some (.ref o1), w13, w14, w15] H1) :
    (dl_6 (P := P) (w := w) (outer := outer) (s := s) (H := H) (E := E) T B hg hr).1 D [some (.ref a), some (.ref p), w2, some (.int n), some (.ref R), some (.ref o2), some (.ref o3), some (.ref bo), some (.ref st), w9, w10, w11, some (.ref o1), w13, w14, w15] H0 := by
  unfold dl_6
  have l0 := h.l0
  have l1 := h.l1
  have n1 := h.n1
  have n12 := h.n12
  have lt := len_then i0 i1
  have hn : ((n : Int)).toNat < sizeLine := Nat.lt_of_lt_of_le (by omega : ((n : Int)).toNat < 64) (by decide)
  refine ⟨_, rfl, n, rfl, by omega, by omega, ?_⟩
  refine comp_val walks_range (fun i => V.int (imAt (thenI i0 i1) (i : Nat)).2.2) hn (fun i x H2 N hi s2 hx k => ?_) (fun D1 H1 hD1 s1 hl1 => ?_)
  · subst hx
    obtain ⟨db, tb, eb⟩ := (hb.mono s2).i
    refine ⟨_, rfl, bo, db, _, rfl, eb, rfl, _, rfl, bo, thenI i0 i1, _, rfl, hb.mono s2, by omega, by omega, ?_⟩
    have := k H2 (Same.refl _)
    rw [← Int.zero_add ((i : Nat) : Int)] at this
    exact this
  · refine ⟨_, rfl, n, rfl, by omega, by omega, ?_⟩
    refine comp_val walks_range (fun i => V.int (imAt (thenI i0 i1) (i : Nat)).2.2) hn (fun i x H2 N hi s2 hx k => ?_) (fun D2 H2 hD2 s2 hl2 => ?_)
    · subst hx
      have h2 := h.same (s1.trans s2)
      obtain ⟨d1, t1, e1⟩ := h2.m1.i
      obtain ⟨d2, t2, e2⟩ := h2.m2.i
      have u0 : 0 ≤ (0 : Int) + (i : Nat) := by omega
      have u1 : (0 : Int) + (i : Nat) < (i0.length : Int) := by omega
      have hf := face_then h.g0 h.g1 (by omega) u0 u1
      have hk := k H2 (Same.refl _)
      rw [← Int.zero_add ((i : Nat) : Int), hf] at hk
      generalize (0 : Int) + (i : Nat) = u at *
      have hpl := pl_range h.g0.1 (p := 3 * u) (by omega) (by omega)
      refine ⟨_, rfl, o1, d1, _, rfl, e1, rfl, _, rfl, o1, i0, u, rfl, h2.m1, u0, u1, _, rfl, o2, d2, _, rfl, e2, rfl, _, rfl, o1, d1, _, rfl, e1, rfl, _, rfl, _, _, rfl, rfl, .inl ⟨by decide, by decide⟩, o1, i0, 3 * u, rfl, h2.m1, by omega, by omega, _, _, rfl, rfl, cdiv3, o2, i1, pl i0 (3 * u) / 3, rfl, h2.m2, by omega, by omega, rfl, .inr ⟨_, rfl, ?_⟩⟩
      by_cases c : (imAt i0 u).2.2 = (imAt i1 (pl i0 (3 * u) / 3)).2.2
      · rw [if_pos c] at hk
        rw [show decide (V.int (imAt i0 u).2.2 = V.int (imAt i1 (pl i0 (3 * u) / 3)).2.2) = true from decide_eq_true (by rw [c])]
        exact hk
      · rw [if_neg c] at hk
        rw [show decide (V.int (imAt i0 u).2.2 = V.int (imAt i1 (pl i0 (3 * u) / 3)).2.2) = false from decide_eq_false fun z => c (by injection z)]
        exact hk
    · have ez : ∀ k : Nat, (List.range k).map (fun i : Nat => V.int (imAt (thenI i0 i1) (i : Nat)).2.2) = ((List.range k).map fun i : Nat => (imAt (thenI i0 i1) (i : Nat)).2.2).map V.int := fun k => by rw [List.map_map]; rfl
      rw [ez] at hl1 hl2
      generalize (List.range ((n : Int)).toNat).map (fun i : Nat => (imAt (thenI i0 i1) (i : Nat)).2.2) = zs at hl1 hl2
      refine ⟨.list (zs.map PyData.int), .list (zs.map PyData.int), .lst (SqL.of (s2 _ _ hl1)) (dpa_ints zs), .lst (SqL.of hl2) (dpa_ints zs), shaped_ints zs, shaped_ints zs, _, rfl, ?_⟩
      rw [eqv_ints, decide_eq_true rfl]
      exact iteF (q _ (s1.trans s2))
theorem rd_7 (T : LamT K mg A) (B : LamX.TabB base mg A.cd_law A.tb_law) (hg : RmG 11 (XL P w K mg base A Ar outer s H E).A) (hr : Room 11 (XL P w K mg base A Ar outer s H E).A)
    (h : Trn K A H0 n R F0 F1 F2 i0 i1 i2 o1 o2 o3) (hb : MapA K A.c_Map H0 bo (thenI i0 i1)) (hs : MapA K A.c_Map H0 st (sameI n)) (q : ∀ H1, Same H0 H1 → D.nx [some (.ref a), some (.ref p), w2, some (.int n), some (.ref R), some (.ref o2), some (.ref o3), some (.ref bo), some (.ref st), w9, w10, w11, some (.ref o1), w13, w14, w15] H1) :
    (dl_7 (P := P) (w := w) (outer := outer) (s := s) (H := H) (E := E) T B hg hr).1 D [some (.ref a), some (.ref p), w2, some (.int n), some (.ref R), some (.ref o2), some (.ref o3), some (.ref bo), some (.ref st), w9, w10, w11, some (.ref o1), w13, w14, w15] H0 := by
  unfold dl_7
  have l0 := h.l0
  have l1 := h.l1
  have n1 := h.n1
  have n12 := h.n12
  have lS := len_same n
  obtain ⟨d1, t1, e1⟩ := h.m1.i
  refine ⟨_, rfl, o1, d1, _, rfl, e1, rfl, _, rfl, o1, d1, _, rfl, e1, rfl, o1, i0, rfl, h.m1, fun b c H1 s1 ib mb => ?_⟩
  have h1 := h.same s1
  refine ⟨o1, i0, .ref c, some b, rfl, h1.m1, .map mb, noMis ib.1, fun jms e _ x H2 s2 mx => ?_⟩
  cases e
  obtain ⟨dx, tx, ex⟩ := mx.i
  have hs2 := hs.mono (s1.trans s2)
  obtain ⟨ds, ts, es⟩ := hs2.i
  refine ⟨_, rfl, x, dx, _, .ref A.c_Map, rfl, ex, T.i_Map.ty es, T.nf_Map, x, _, .ref st, some _, rfl, mx, .map hs2, true, ?_, _, rfl, iteF ?_⟩
  · rw [dSome, then_back h.g0 ib, l0, decide_eq_true rfl]
  replace h := h1.same s2
  obtain ⟨d1, t1, e1⟩ := h.m1.i
  have s02 := s1.trans s2
  clear h1 ib mb mx ex s1 s2
  refine ⟨_, rfl, o1, d1, _, rfl, e1, rfl, o1, i0, rfl, h.m1, fun b c H3 s1 ib mb => ?_⟩
  have h1 := h.same s1
  obtain ⟨dc, tc, ec⟩ := mb.i
  refine ⟨c, dc, _, rfl, ec, rfl, _, rfl, c, b, .ref o1, some i0, rfl, mb, .map h1.m1, noMis ib.1.symm, fun jms e _ x H4 s2 mx => ?_⟩
  cases e
  obtain ⟨dx, tx, ex⟩ := mx.i
  have hs3 := hs2.mono (s1.trans s2)
  obtain ⟨ds, ts, es⟩ := hs3.i
  refine ⟨_, rfl, x, st, dx, ds, _, _, rfl, rfl, ex, es, x, _, .ref st, some _, rfl, mx, .map hs3, true, ?_, _, rfl, iteF ?_⟩
  · rw [dSome, back_then h.g0 ib, l0, decide_eq_true rfl]
  replace h := h1.same s2
  obtain ⟨d1, t1, e1⟩ := h.m1.i
  have s04 := s02.trans (s1.trans s2)
  clear h1 ib mb mx ex s1 s2 hs2
  refine ⟨_, rfl, o1, d1, _, rfl, e1, rfl, o1, i0, rfl, h.m1, fun b c H5 s1 ib mb => ?_⟩
  obtain ⟨dc, tc, ec⟩ := mb.i
  refine ⟨c, dc, _, rfl, ec, rfl, c, b, rfl, mb, fun b2 c2 H6 s2 ib2 mb2 => ?_⟩
  have h1 := h.same (s1.trans s2)
  obtain ⟨dx, tx, ex⟩ := mb2.i
  obtain ⟨d1, t1, e1⟩ := h1.m1.i
  refine ⟨_, rfl, c2, o1, dx, d1, _, _, rfl, rfl, ex, e1, c2, _, .ref o1, some _, rfl, mb2, .map h1.m1, true, ?_, _, rfl, iteF ?_⟩
  · rw [dSome, back_back h.g0 ib ib2, decide_eq_true rfl]
  have s06 := s04.trans (s1.trans s2)
  clear ib mb ib2 mb2 ex
  refine ⟨_, rfl, o1, d1, _, rfl, e1, rfl, o1, i0, rfl, h1.m1, fun b c H7 s7 ib mb => ?_⟩
  obtain ⟨dx, t, xs, f1, f2, f3, gb, lb⟩ := mb
  refine ⟨c, A.c_Map, dx, _, _, rfl, f1, T.i_Map.cl, T.na_Map, rfl, t, xs, rfl, .inr (SqT.of f2), fun l hl => ⟨l, b, rfl, ⟨xs, SqL.of upd_same, f3.same (same_new hl)⟩, gb, lb, fun H8 s8 => ⟨true, rfl, ?_⟩⟩⟩
  exact iteF (q _ (s06.trans (s7.trans ((same_new hl).trans s8))))
theorem rd_8 (T : LamT K mg A) (B : LamX.TabB base mg A.cd_law A.tb_law) (hg : RmG 11 (XL P w K mg base A Ar outer s H E).A) (hr : Room 11 (XL P w K mg base A Ar outer s H E).A)
    (h : Trn K A H0 n R F0 F1 F2 i0 i1 i2 o1 o2 o3) (hb : MapA K A.c_Map H0 bo (thenI i0 i1)) (hs : MapA K A.c_Map H0 st (sameI n)) (q : ∀ H1, Same H0 H1 → D.nx [some (.ref a), some (.ref p), w2, some (.int n), some (.ref R), some (.ref o2), some (.ref o3), some (.ref bo), some (.ref st), w9, w10, w11, some (.ref o1), w13, w14, w15] H1) :
    (dl_8 (P := P) (w := w) (outer := outer) (s := s) (H := H) (E := E) T B hg hr).1 D [some (.ref a), some (.ref p), w2, some (.int n), some (.ref R), some (.ref o2), some (.ref o3), some (.ref bo), some (.ref st), w9, w10, w11, some (.ref o1), w13, w14, w15] H0 := by
  unfold dl_8
  have l0 := h.l0
  have l1 := h.l1
  have n1 := h.n1
  have n12 := h.n12
  obtain ⟨d1, t1, e1⟩ := h.m1.i
  obtain ⟨d2, t2, e2⟩ := h.m2.i
  obtain ⟨xs0, hq0, hx0⟩ := id h.r0
  obtain ⟨xs1, hq1, hx1⟩ := id h.r1
  have eqL : PyData.eqv (.list (i0.map dIm)) (.list (i1.map dIm)) = decide (i0 = i1) := eqv_ims i0 i1
  refine ⟨_, rfl, _, rfl, o1, d1, _, .ref A.c_Map, rfl, e1, T.i_Map.ty e2, T.nf_Map, o1, i0, .ref o2, some i1, rfl, h.m1, .map h.m2, decide (i0 = i1), by rw [dSome], ?_⟩
  refine ⟨_, rfl, R, _, 0, .ref F0, rfl, rfl, h.hR, atI_nat (j := 0) rfl, _, rfl, R, _, 1, .ref F1, rfl, rfl, h.hR, atI_nat (j := 1) rfl, .list (i0.map dIm), .list (i1.map dIm), .lst hq0 (dpa_ims hx0), .lst hq1 (dpa_ims hx1), shaped_ims i0, shaped_ims i1, ?_⟩
  rw [eqL]
  refine ⟨rfl, _, rfl, ?_⟩
  rw [decide_eq_true (rfl : V.bl (decide (i0 = i1)) = V.bl (decide (i0 = i1)))]
  refine iteF ?_
  refine ⟨_, rfl, _, rfl, R, _, 0, .ref F0, rfl, rfl, h.hR, atI_nat (j := 0) rfl, o1, d1, _, .type "list", rfl, e1, tyL hq0, T.nf_list, o1, i0, .ref F0, none, rfl, h.m1, .no (tyL hq0) (T.i_Map.kC "list" (by decide)), false, ?_, _, rfl, iteF ?_⟩
  · rw [decide_eq_false (fun z => nomatch z)]
  obtain ⟨ds, ts, es⟩ := hs.i
  refine ⟨_, rfl, st, ds, _, rfl, es, rfl, _, rfl, st, sameI n, .ref o1, some i0, rfl, hs, .map h.m1, noMis (by rw [len_same]; exact l0), fun jms e _ x H1 s1 mx => ?_⟩
  cases e
  obtain ⟨dx, tx, ex⟩ := mx.i
  have h1 := h.same s1
  obtain ⟨d1', t1', e1'⟩ := h1.m1.i
  refine ⟨_, rfl, x, o1, dx, d1', _, _, rfl, rfl, ex, e1', x, _, .ref o1, some _, rfl, mx, .map h1.m1, true, ?_, _, rfl, iteF ?_⟩
  · rw [dSome, ← l0, same_then h.g0, decide_eq_true rfl]
  exact q _ s1
end
end
end K5


set_option Elab.async false
set_option linter.all false
set_option maxRecDepth 100000
set_option maxHeartbeats 8000000
set_option exponentiation.threshold 10000
namespace K5
open PySem PySem.Spec PyProof.Rows L2 ClX OG
/-- what is no map of n triangles -/
inductive OddV (K : PySem.W.Frag) (A : Ad) (H : Hp) (n : Nat) : V → Prop
  | non : OddV K A H n .non
  | int (i : Int) : OddV K A H n (.int i)
  | str (x : Str) : OddV K A H n (.str x)
  | lst {a : Addr} {xs : List V} (h : SqL K H a xs) : OddV K A H n (.ref a)
  | map {a : Addr} {ims : List Im} (h : MapA K A.c_Map H a ims) (e : ims.length ≠ n) : OddV K A H n (.ref a)
def dPair (x y : Str) : PyData := .tuple [.str x, .str y]
section
variable {P : Program} {w : World} {K : PySem.W.Frag} {mg : Str → Option Value} {base : Heap} {A : Ad} {H1 H2 : Hp} {p : Addr} {n m : Nat} {R F0 F1 F2 o1 o2 o3 bo st a : Addr} {i0 i1 i2 : List Im} {x : V}
theorem dp_pair {H : Hp} {t : Addr} {x y : Str} (q : SqT K H t [.str x, .str y]) : Dp K H (.ref t) (dPair x y) := .tup q (.cons (.str _) (.cons (.str _) .nil))
theorem OddV.same (h : OddV K A H1 n x) (s : Same H1 H2) : OddV K A H2 n x := by
  cases h with
  | non => exact .non
  | int i => exact .int i
  | str y => exact .str y
  | lst h => exact .lst (s.seq h)
  | map h e => exact .map (h.mono s) e
theorem OddV.is (T : Txt K mg A) (h : OddV K A H1 n x) : ∃ r, IsMap K A H1 x r ∧ ∀ jms, r = some jms → jms.length ≠ n := by
  cases h with
  | non => exact ⟨_, .no (.base .non) (T.i_Map.kC "NoneType" (by decide)), fun j e => nomatch e⟩
  | int i => exact ⟨_, .no (.base (.int i)) (T.i_Map.kC "int" (by decide)), fun j e => nomatch e⟩
  | str y => exact ⟨_, .no (.base (.str y)) (T.i_Map.kC "str" (by decide)), fun j e => nomatch e⟩
  | lst h => exact ⟨_, .no (tyL h) (T.i_Map.kC "list" (by decide)), fun j e => nomatch e⟩
  | map h e => exact ⟨_, .map h, fun j ej => by cases ej; exact e⟩
section
variable {Ar : Around} {outer : List Env} {s : Shared} {H : Hp} {E : XK} {D : Ends} {w2 w5 w6 w7 w8 w9 w10 w11 w12 w13 w14 w15 : Option V} {H0 : Hp}
theorem rd_9 (T : LamT K mg A) (B : LamX.TabB base mg A.cd_law A.tb_law) (hg : RmG 11 (XL P w K mg base A Ar outer s H E).A) (hr : Room 11 (XL P w K mg base A Ar outer s H E).A)
    (h : Trn K A H0 n R F0 F1 F2 i0 i1 i2 o1 o2 o3) (nF : F0 ≠ p) (k0 : PenK H0 p m) (hm : m ≤ 90000) (tb : LamX.Tabs (tbs A) H0)
    (q : ∀ x H1, Same (core p H0) (core p H1) → PenK H1 p (m + 1) → LamX.Tabs (tbs A) H1 → OddV K A (core p H1) n x → D.nx [some (.ref a), some (.ref p), w2, some (.int n), some (.ref R), some (.ref o2), some (.ref o3), w7, w8, w9, w10, some x, some (.ref o1), w13, w14, w15] H1) :
    (dl_9 (P := P) (w := w) (outer := outer) (s := s) (H := H) (E := E) T B hg hr).1 D [some (.ref a), some (.ref p), w2, some (.int n), some (.ref R), some (.ref o2), some (.ref o3), w7, w8, w9, w10, w11, some (.ref o1), w13, w14, w15] H0 := by
  unfold dl_9
  have n12 := h.n12
  refine ⟨_, rfl, _, rfl, R, _, 0, .ref F0, rfl, rfl, h.hR, atI_nat (j := 0) rfl, ?_⟩
  refine ⟨rfl, _, rfl, _, _, rfl, rfl, n + 1, rfl, by omega, by omega, fun sm H1 s1 ms => ⟨by show 5 ≤ sizeLine; decide, fun l hl => ?_⟩⟩
  have sl := same_new (o := .lst [.non, .ref F0, .ref sm, .int 5, .str "map"]) hl
  have k1 := k0.same s1
  have k2 := k1.same sl
  refine ⟨p, l, _, m, rfl, k2, by omega, SqL.of upd_same, lst_new k1.lst hl, by show 0 < 5; decide, by show 5 ≤ 1000; decide, fun x H3 hx e3 k3 => ?_⟩
  refine q x H3 ((same_core (s1.trans sl)).trans e3.core) k3 (e3.tabs (tb.ext (s1.trans sl))) (OddV.same ?_ e3.core)
  obtain ⟨xs0, hq0, _⟩ := h.r0
  rcases List.mem_cons.mp hx with rfl | hx
  · exact .non
  · rcases List.mem_cons.mp hx with rfl | hx
    · exact .lst (core_l nF ((s1.trans sl).seq hq0))
    · rcases List.mem_cons.mp hx with rfl | hx
      · exact .map ((ms.mono sl).core k2.lst) (by rw [len_same]; omega)
      · rcases List.mem_cons.mp hx with rfl | hx
        · exact .int 5
        · rcases List.mem_cons.mp hx with rfl | hx
          · exact .str _
          · cases hx
theorem rd_10 (T : LamT K mg A) (B : LamX.TabB base mg A.cd_law A.tb_law) (hg : RmG 11 (XL P w K mg base A Ar outer s H E).A) (hr : Room 11 (XL P w K mg base A Ar outer s H E).A)
    (hm1 : MapA K A.c_Map (core p H0) o1 i0) (hl : i0.length = n) (ho : OddV K A (core p H0) n x) (k0 : PenK H0 p m) (tb : LamX.Tabs (tbs A) H0)
    (q : ∀ H1, Same (core p H0) (core p H1) → PenK H1 p m → LamX.Tabs (tbs A) H1 → D.nx [some (.ref a), some (.ref p), w2, some (.int n), some (.ref R), some (.ref o2), some (.ref o3), w7, w8, w9, w10, some x, some (.ref o1), w13, w14, w15] H1) :
    (dl_10 (P := P) (w := w) (outer := outer) (s := s) (H := H) (E := E) T B hg hr).1 D [some (.ref a), some (.ref p), w2, some (.int n), some (.ref R), some (.ref o2), some (.ref o3), w7, w8, w9, w10, some x, some (.ref o1), w13, w14, w15] H0 := by
  unfold dl_10
  refine ⟨tb, fun H1 eN tb1 Q' H2 s2 => ?_⟩
  have sc : Same (core p H0) (core p H2) := (ext_core eN).trans (same_core s2)
  have m1 := (hm1.mono sc).mono core_le
  obtain ⟨r, isx, hne⟩ := ((ho.same sc).same core_le).is T.toTxt
  obtain ⟨d1, t1, e1⟩ := m1.i
  have k2 := (k0.core eN).same s2
  refine ⟨_, rfl, o1, d1, _, rfl, e1, rfl, _, rfl, o1, i0, x, r, rfl, m1, isx, fun hbad => fun d H3 s3 hd => ?_, fun jms e hl' => absurd (hl'.trans hl) (hne jms e)⟩
  refine ⟨A.c_Misfit, "misfit", d, "other", rfl, rfl, hd, .inr ⟨rfl, rfl⟩, fun aa t ha ht => ⟨two_line, fun t2 ht2 => ?_⟩⟩
  have sa := same_new (o := exk aa (.ref A.c_Misfit) (some d)) ha
  have st := same_new (o := .tup [.str "misfit", .str "other"]) ht
  have st2 := same_new (o := .tup [.str "misfit", .str "other"]) ht2
  have s2e := s3.trans (sa.trans (st.trans st2))
  refine ⟨dPair "misfit" "other", dPair "misfit" "other", dp_pair (SqT.of (st2 _ _ upd_same)), dp_pair (SqT.of upd_same), by decide +kernel, by decide +kernel, _, rfl, ?_⟩
  have ee : PyData.eqv (dPair "misfit" "other") (dPair "misfit" "other") = true := by decide +kernel
  rw [ee]
  exact iteF (q _ (sc.trans (same_core s2e)) (k2.same s2e) (tb1.ext (s2.trans s2e)))
end
end
end K5


set_option Elab.async false
set_option linter.all false
set_option maxRecDepth 100000
set_option maxHeartbeats 8000000
set_option exponentiation.threshold 10000
namespace K5
open PySem PySem.Spec PyProof.Rows L2 ClX OG
/-! ### values that are no images -/
section
variable {P : Program} {w : World} {K : PySem.W.Frag} {mg : Str → Option Value} {base : Heap} {A : Ad} {H1 H2 : Hp} {p : Addr} {n m : Nat} {R F0 F1 F2 o1 o2 o3 bo st a : Addr} {i0 i1 i2 : List Im} {x : V}
/-- a plain value -/
inductive Pln : V → Prop
  | non : Pln .non
  | bl (b : Bool) : Pln (.bl b)
  | int (i : Int) : Pln (.int i)
  | str (x : Str) : Pln (.str x)
theorem Pln.oth (h : Pln x) : Oth K H1 x := fun H' s => by
  cases h with
  | non => exact ⟨_, .base .non, kit2 (b := false) (c := false) (by decide +kernel) (by decide +kernel) rfl⟩
  | bl b => exact ⟨_, .base (.bl b), kit2 (b := false) (c := false) (by decide +kernel) (by decide +kernel) rfl⟩
  | int i => exact ⟨_, .base (.int i), kit2 (b := false) (c := false) (by decide +kernel) (by decide +kernel) rfl⟩
  | str y => exact ⟨_, .base (.str y), kit2 (b := false) (c := false) (by decide +kernel) (by decide +kernel) rfl⟩
theorem Pln.knd (h : Pln x) : Knd K H1 x := by
  cases h with
  | non => exact .non
  | bl b => exact .bl b
  | int i => exact .int i
  | str y => exact .str y
theorem rowOth (h : Pln x) : RowsV K H1 x none := .oth h.oth
theorem rowDct {t : Addr} {kvs : List (Key × V)} (h : H1 t = some (.dK kvs)) : RowsV K H1 (.ref t) none := .oth fun H' s => ⟨_, .base (.dK (s _ _ h)), kit2 (b := false) (c := false) (by decide +kernel) (by decide +kernel) rfl⟩
/-- items told one by one -/
inductive ImsV (K : PySem.W.Frag) (H : Hp) : List V → List (Option Im) → Prop
  | nil : ImsV K H [] []
  | cons {x : V} {r : Option Im} {xs : List V} {rs : List (Option Im)} (h : ImV K H x r) (k : ImsV K H xs rs) : ImsV K H (x :: xs) (r :: rs)
theorem ImsV.len {xs : List V} {rs : List (Option Im)} (h : ImsV K H1 xs rs) : rs.length = xs.length := by
  induction h with
  | nil => rfl
  | cons _ _ ih => rw [List.length_cons, List.length_cons, ih]
theorem ImsV.at {xs : List V} {rs : List (Option Im)} (h : ImsV K H1 xs rs) : ∀ (i : Nat) x r, xs[i]? = some x → rs[i]? = some r → ImV K H1 x r := by
  induction h with
  | nil => exact fun i x r a => by cases a
  | cons h k ih =>
    intro i x r a b
    cases i with
    | zero => cases a; cases b; exact h
    | succ i => exact ih i x r (by simpa using a) (by simpa using b)
theorem imOth (h : Pln x) : ImV K H1 x none := .oth h.oth
theorem imTup {t : Addr} {xs : List V} (h : H1 t = some (.tup xs)) (k : ∀ x ∈ xs, Pln x) (hl : xs.length ≤ 1000) : ImV K H1 (.ref t) (seqIm xs) := .seq (.inr (SqT.of h)) (fun y hy => (k y hy).knd) hl
theorem rowLst {t : Addr} {xs : List V} {rs : List (Option Im)} (h : H1 t = some (.lst xs)) (k : ImsV K H1 xs rs) (hl : xs.length < 64) (e : rowsOf rs = none) : RowsV K H1 (.ref t) none := by
  rw [← e]
  exact .seq rs (.inl (SqL.of h)) hl k.len k.at
theorem fr_none {Ja Jb : Hp} {t : Addr} (s : Same Ja Jb) (h : Jb t = none) : Ja t = none := by
  cases e : Ja t with
  | none => rfl
  | some u => rw [s _ _ e] at h; cases h
section
variable {Ar : Around} {outer : List Env} {s : Shared} {H : Hp} {E : XK} {D : Ends} {w0 w1 w2 w3 w4 w5 w6 w7 w8 w9 w10 w11 w12 w13 w14 w15 : Option V} {J0 : Hp}
theorem rt_2 (T : LamT K mg A) (B : LamX.TabB base mg A.cd_law A.tb_law) (hg : RmG 11 (XL P w K mg base A Ar outer s H E).A) (hr : Room 11 (XL P w K mg base A Ar outer s H E).A)
    (q : ∀ l xs H1, Same J0 H1 → H1 l = some (.lst xs) → J0 l = none → xs.length = 16 → (∀ H', (∀ b u, J0 b = none → H1 b = some u → (∀ ps, u ≠ .tbl ps) → H' b = some u) → ∀ x ∈ xs, RowsV K H' x none) → D.nx [w0, w1, w2, w3, w4, w5, w6, w7, w8, w9, some (.ref l), w11, w12, w13, w14, w15] H1) :
    (dt_2 (P := P) (w := w) (outer := outer) (s := s) (H := H) (E := E) T B hg hr).1 D [w0, w1, w2, w3, w4, w5, w6, w7, w8, w9, w10, w11, w12, w13, w14, w15] J0 := by
  unfold dt_2
  refine ⟨by show 0 ≤ sizeLine; decide, fun t1 h1 => ?_⟩
  obtain ⟨J1, eJ1⟩ : ∃ J, J = upd J0 t1 (.lst []) := ⟨_, rfl⟩
  have s1 : Same J0 J1 := by rw [eJ1]; exact same_new h1
  have g1 : J1 t1 = some (.lst []) := by rw [eJ1]; exact upd_same
  rw [← eJ1]
  refine ⟨by show 1 ≤ sizeLine; decide, fun t2 h2 => ?_⟩
  obtain ⟨J2, eJ2⟩ : ∃ J, J = upd J1 t2 (.lst [.non]) := ⟨_, rfl⟩
  have s2 : Same J1 J2 := by rw [eJ2]; exact same_new h2
  have g2 : J2 t2 = some (.lst [.non]) := by rw [eJ2]; exact upd_same
  rw [← eJ2]
  refine ⟨two_line, fun t3 h3 => ?_⟩
  obtain ⟨J3, eJ3⟩ : ∃ J, J = upd J2 t3 (.tup [.int 0, .int 0]) := ⟨_, rfl⟩
  have s3 : Same J2 J3 := by rw [eJ3]; exact same_new h3
  have g3 : J3 t3 = some (.tup [.int 0, .int 0]) := by rw [eJ3]; exact upd_same
  rw [← eJ3]
  refine ⟨by show 1 ≤ sizeLine; decide, fun t4 h4 => ?_⟩
  obtain ⟨J4, eJ4⟩ : ∃ J, J = upd J3 t4 (.lst [.ref t3]) := ⟨_, rfl⟩
  have s4 : Same J3 J4 := by rw [eJ4]; exact same_new h4
  have g4 : J4 t4 = some (.lst [.ref t3]) := by rw [eJ4]; exact upd_same
  rw [← eJ4]
  refine ⟨by show 4 ≤ sizeLine; decide, fun t5 h5 => ?_⟩
  obtain ⟨J5, eJ5⟩ : ∃ J, J = upd J4 t5 (.tup [.int 0, .int 0, .int 0, .int 0]) := ⟨_, rfl⟩
  have s5 : Same J4 J5 := by rw [eJ5]; exact same_new h5
  have g5 : J5 t5 = some (.tup [.int 0, .int 0, .int 0, .int 0]) := by rw [eJ5]; exact upd_same
  rw [← eJ5]
  refine ⟨by show 1 ≤ sizeLine; decide, fun t6 h6 => ?_⟩
  obtain ⟨J6, eJ6⟩ : ∃ J, J = upd J5 t6 (.lst [.ref t5]) := ⟨_, rfl⟩
  have s6 : Same J5 J6 := by rw [eJ6]; exact same_new h6
  have g6 : J6 t6 = some (.lst [.ref t5]) := by rw [eJ6]; exact upd_same
  rw [← eJ6]
  refine ⟨three_line, fun t7 h7 => ?_⟩
  obtain ⟨J7, eJ7⟩ : ∃ J, J = upd J6 t7 (.tup [.int 0, .int 3, .int 0]) := ⟨_, rfl⟩
  have s7 : Same J6 J7 := by rw [eJ7]; exact same_new h7
  have g7 : J7 t7 = some (.tup [.int 0, .int 3, .int 0]) := by rw [eJ7]; exact upd_same
  rw [← eJ7]
  refine ⟨by show 1 ≤ sizeLine; decide, fun t8 h8 => ?_⟩
  obtain ⟨J8, eJ8⟩ : ∃ J, J = upd J7 t8 (.lst [.ref t7]) := ⟨_, rfl⟩
  have s8 : Same J7 J8 := by rw [eJ8]; exact same_new h8
  have g8 : J8 t8 = some (.lst [.ref t7]) := by rw [eJ8]; exact upd_same
  rw [← eJ8]
  refine ⟨three_line, fun t9 h9 => ?_⟩
  obtain ⟨J9, eJ9⟩ : ∃ J, J = upd J8 t9 (.tup [.int 0, .int 0, .int 2]) := ⟨_, rfl⟩
  have s9 : Same J8 J9 := by rw [eJ9]; exact same_new h9
  have g9 : J9 t9 = some (.tup [.int 0, .int 0, .int 2]) := by rw [eJ9]; exact upd_same
  rw [← eJ9]
  refine ⟨by show 1 ≤ sizeLine; decide, fun t10 h10 => ?_⟩
  obtain ⟨J10, eJ10⟩ : ∃ J, J = upd J9 t10 (.lst [.ref t9]) := ⟨_, rfl⟩
  have s10 : Same J9 J10 := by rw [eJ10]; exact same_new h10
  have g10 : J10 t10 = some (.lst [.ref t9]) := by rw [eJ10]; exact upd_same
  rw [← eJ10]
  refine ⟨three_line, fun t11 h11 => ?_⟩
  obtain ⟨J11, eJ11⟩ : ∃ J, J = upd J10 t11 (.tup [.int 1, .int 0, .int 0]) := ⟨_, rfl⟩
  have s11 : Same J10 J11 := by rw [eJ11]; exact same_new h11
  have g11 : J11 t11 = some (.tup [.int 1, .int 0, .int 0]) := by rw [eJ11]; exact upd_same
  rw [← eJ11]
  refine ⟨by show 1 ≤ sizeLine; decide, fun t12 h12 => ?_⟩
  obtain ⟨J12, eJ12⟩ : ∃ J, J = upd J11 t12 (.lst [.ref t11]) := ⟨_, rfl⟩
  have s12 : Same J11 J12 := by rw [eJ12]; exact same_new h12
  have g12 : J12 t12 = some (.lst [.ref t11]) := by rw [eJ12]; exact upd_same
  rw [← eJ12]
  refine ⟨three_line, fun t13 h13 => ?_⟩
  obtain ⟨J13, eJ13⟩ : ∃ J, J = upd J12 t13 (.tup [.int 0, .int 0, .int 0]) := ⟨_, rfl⟩
  have s13 : Same J12 J13 := by rw [eJ13]; exact same_new h13
  have g13 : J13 t13 = some (.tup [.int 0, .int 0, .int 0]) := by rw [eJ13]; exact upd_same
  rw [← eJ13]
  refine ⟨three_line, fun t14 h14 => ?_⟩
  obtain ⟨J14, eJ14⟩ : ∃ J, J = upd J13 t14 (.tup [.int 0, .int 1, .int 1]) := ⟨_, rfl⟩
  have s14 : Same J13 J14 := by rw [eJ14]; exact same_new h14
  have g14 : J14 t14 = some (.tup [.int 0, .int 1, .int 1]) := by rw [eJ14]; exact upd_same
  rw [← eJ14]
  refine ⟨two_line, fun t15 h15 => ?_⟩
  obtain ⟨J15, eJ15⟩ : ∃ J, J = upd J14 t15 (.lst [.ref t13, .ref t14]) := ⟨_, rfl⟩
  have s15 : Same J14 J15 := by rw [eJ15]; exact same_new h15
  have g15 : J15 t15 = some (.lst [.ref t13, .ref t14]) := by rw [eJ15]; exact upd_same
  rw [← eJ15]
  refine ⟨three_line, fun t16 h16 => ?_⟩
  obtain ⟨J16, eJ16⟩ : ∃ J, J = upd J15 t16 (.tup [.int 0, .int 0, .bl true]) := ⟨_, rfl⟩
  have s16 : Same J15 J16 := by rw [eJ16]; exact same_new h16
  have g16 : J16 t16 = some (.tup [.int 0, .int 0, .bl true]) := by rw [eJ16]; exact upd_same
  rw [← eJ16]
  refine ⟨by show 1 ≤ sizeLine; decide, fun t17 h17 => ?_⟩
  obtain ⟨J17, eJ17⟩ : ∃ J, J = upd J16 t17 (.lst [.ref t16]) := ⟨_, rfl⟩
  have s17 : Same J16 J17 := by rw [eJ17]; exact same_new h17
  have g17 : J17 t17 = some (.lst [.ref t16]) := by rw [eJ17]; exact upd_same
  rw [← eJ17]
  refine ⟨three_line, fun t18 h18 => ?_⟩
  obtain ⟨J18, eJ18⟩ : ∃ J, J = upd J17 t18 (.tup [.bl true, .int 0, .int 0]) := ⟨_, rfl⟩
  have s18 : Same J17 J18 := by rw [eJ18]; exact same_new h18
  have g18 : J18 t18 = some (.tup [.bl true, .int 0, .int 0]) := by rw [eJ18]; exact upd_same
  rw [← eJ18]
  refine ⟨by show 1 ≤ sizeLine; decide, fun t19 h19 => ?_⟩
  obtain ⟨J19, eJ19⟩ : ∃ J, J = upd J18 t19 (.lst [.ref t18]) := ⟨_, rfl⟩
  have s19 : Same J18 J19 := by rw [eJ19]; exact same_new h19
  have g19 : J19 t19 = some (.lst [.ref t18]) := by rw [eJ19]; exact upd_same
  rw [← eJ19]
  refine ⟨three_line, fun t20 h20 => ?_⟩
  obtain ⟨J20, eJ20⟩ : ∃ J, J = upd J19 t20 (.tup [.str "0", .int 0, .int 0]) := ⟨_, rfl⟩
  have s20 : Same J19 J20 := by rw [eJ20]; exact same_new h20
  have g20 : J20 t20 = some (.tup [.str "0", .int 0, .int 0]) := by rw [eJ20]; exact upd_same
  rw [← eJ20]
  refine ⟨by show 1 ≤ sizeLine; decide, fun t21 h21 => ?_⟩
  obtain ⟨J21, eJ21⟩ : ∃ J, J = upd J20 t21 (.lst [.ref t20]) := ⟨_, rfl⟩
  have s21 : Same J20 J21 := by rw [eJ21]; exact same_new h21
  have g21 : J21 t21 = some (.lst [.ref t20]) := by rw [eJ21]; exact upd_same
  rw [← eJ21]
  refine ⟨_, rfl, three_line, fun t22 h22 => ?_⟩
  obtain ⟨J22, eJ22⟩ : ∃ J, J = upd J21 t22 (.tup [.int 0, .int (-1), .int 0]) := ⟨_, rfl⟩
  have s22 : Same J21 J22 := by rw [eJ22]; exact same_new h22
  have g22 : J22 t22 = some (.tup [.int 0, .int (-1), .int 0]) := by rw [eJ22]; exact upd_same
  rw [← eJ22]
  refine ⟨by show 1 ≤ sizeLine; decide, fun t23 h23 => ?_⟩
  obtain ⟨J23, eJ23⟩ : ∃ J, J = upd J22 t23 (.lst [.ref t22]) := ⟨_, rfl⟩
  have s23 : Same J22 J23 := by rw [eJ23]; exact same_new h23
  have g23 : J23 t23 = some (.lst [.ref t22]) := by rw [eJ23]; exact upd_same
  rw [← eJ23]
  refine fun t24 h24 => ?_
  obtain ⟨J24, eJ24⟩ : ∃ J, J = upd J23 t24 (.dK []) := ⟨_, rfl⟩
  have s24 : Same J23 J24 := by rw [eJ24]; exact same_new h24
  have g24 : J24 t24 = some (.dK []) := by rw [eJ24]; exact upd_same
  rw [← eJ24]
  have y0 : Same J0 J0 := Same.refl _
  have y1 : Same J0 J1 := y0.trans s1
  have f1 : J0 t1 = none := fr_none y0 h1
  have y2 : Same J0 J2 := y1.trans s2
  have f2 : J0 t2 = none := fr_none y1 h2
  have y3 : Same J0 J3 := y2.trans s3
  have f3 : J0 t3 = none := fr_none y2 h3
  have y4 : Same J0 J4 := y3.trans s4
  have f4 : J0 t4 = none := fr_none y3 h4
  have y5 : Same J0 J5 := y4.trans s5
  have f5 : J0 t5 = none := fr_none y4 h5
  have y6 : Same J0 J6 := y5.trans s6
  have f6 : J0 t6 = none := fr_none y5 h6
  have y7 : Same J0 J7 := y6.trans s7
  have f7 : J0 t7 = none := fr_none y6 h7
  have y8 : Same J0 J8 := y7.trans s8
  have f8 : J0 t8 = none := fr_none y7 h8
  have y9 : Same J0 J9 := y8.trans s9
  have f9 : J0 t9 = none := fr_none y8 h9
  have y10 : Same J0 J10 := y9.trans s10
  have f10 : J0 t10 = none := fr_none y9 h10
  have y11 : Same J0 J11 := y10.trans s11
  have f11 : J0 t11 = none := fr_none y10 h11
  have y12 : Same J0 J12 := y11.trans s12
  have f12 : J0 t12 = none := fr_none y11 h12
  have y13 : Same J0 J13 := y12.trans s13
  have f13 : J0 t13 = none := fr_none y12 h13
  have y14 : Same J0 J14 := y13.trans s14
  have f14 : J0 t14 = none := fr_none y13 h14
  have y15 : Same J0 J15 := y14.trans s15
  have f15 : J0 t15 = none := fr_none y14 h15
  have y16 : Same J0 J16 := y15.trans s16
  have f16 : J0 t16 = none := fr_none y15 h16
  have y17 : Same J0 J17 := y16.trans s17
  have f17 : J0 t17 = none := fr_none y16 h17
  have y18 : Same J0 J18 := y17.trans s18
  have f18 : J0 t18 = none := fr_none y17 h18
  have y19 : Same J0 J19 := y18.trans s19
  have f19 : J0 t19 = none := fr_none y18 h19
  have y20 : Same J0 J20 := y19.trans s20
  have f20 : J0 t20 = none := fr_none y19 h20
  have y21 : Same J0 J21 := y20.trans s21
  have f21 : J0 t21 = none := fr_none y20 h21
  have y22 : Same J0 J22 := y21.trans s22
  have f22 : J0 t22 = none := fr_none y21 h22
  have y23 : Same J0 J23 := y22.trans s23
  have f23 : J0 t23 = none := fr_none y22 h23
  have y24 : Same J0 J24 := y23.trans s24
  have f24 : J0 t24 = none := fr_none y23 h24
  have z24 : Same J24 J24 := Same.refl _
  have z23 : Same J23 J24 := s24.trans z24
  have z22 : Same J22 J24 := s23.trans z23
  have z21 : Same J21 J24 := s22.trans z22
  have z20 : Same J20 J24 := s21.trans z21
  have z19 : Same J19 J24 := s20.trans z20
  have z18 : Same J18 J24 := s19.trans z19
  have z17 : Same J17 J24 := s18.trans z18
  have z16 : Same J16 J24 := s17.trans z17
  have z15 : Same J15 J24 := s16.trans z16
  have z14 : Same J14 J24 := s15.trans z15
  have z13 : Same J13 J24 := s14.trans z14
  have z12 : Same J12 J24 := s13.trans z13
  have z11 : Same J11 J24 := s12.trans z12
  have z10 : Same J10 J24 := s11.trans z11
  have z9 : Same J9 J24 := s10.trans z10
  have z8 : Same J8 J24 := s9.trans z9
  have z7 : Same J7 J24 := s8.trans z8
  have z6 : Same J6 J24 := s7.trans z7
  have z5 : Same J5 J24 := s6.trans z6
  have z4 : Same J4 J24 := s5.trans z5
  have z3 : Same J3 J24 := s4.trans z4
  have z2 : Same J2 J24 := s3.trans z3
  have z1 : Same J1 J24 := s2.trans z2
  refine ⟨by show 16 ≤ sizeLine; decide, fun l hl => ?_⟩
  have sl := same_new (o := .lst [.non, .int 5, .str "abc", .ref t1, .ref t2, .ref t4, .ref t6, .ref t8, .ref t10, .ref t12, .ref t15, .ref t17, .ref t19, .ref t21, .ref t23, .ref t24]) hl
  have s0 := s1.trans z1
  have hl0 : J0 l = none := fr_none s0 hl
  refine q l _ _ (s0.trans sl) upd_same hl0 rfl fun H' hn => ?_
  have zz : ∀ {b u}, J0 b = none → J24 b = some u → (∀ ps, u ≠ .tbl ps) → H' b = some u := fun {b u} a c d => hn b u a (sl _ _ c) d
  exact (fm_cons (rowOth .non) (fm_cons (rowOth (.int _)) (fm_cons (rowOth (.str _)) (fm_cons (rowLst (zz f1 (z1 _ _ g1) (fun _ e => nomatch e)) .nil (show 0 < 64 by decide) (by decide +kernel)) (fm_cons (rowLst (zz f2 (z2 _ _ g2) (fun _ e => nomatch e)) (.cons (imOth .non) .nil) (show 1 < 64 by decide) (by decide +kernel)) (fm_cons (rowLst (zz f4 (z4 _ _ g4) (fun _ e => nomatch e)) (.cons (imTup (zz f3 (z3 _ _ g3) (fun _ e => nomatch e)) (fm_cons (.int _) (fm_cons (.int _) fm_nil)) (by decide)) .nil) (show 1 < 64 by decide) (by decide +kernel)) (fm_cons (rowLst (zz f6 (z6 _ _ g6) (fun _ e => nomatch e)) (.cons (imTup (zz f5 (z5 _ _ g5) (fun _ e => nomatch e)) (fm_cons (.int _) (fm_cons (.int _) (fm_cons (.int _) (fm_cons (.int _) fm_nil)))) (by decide)) .nil) (show 1 < 64 by decide) (by decide +kernel)) (fm_cons (rowLst (zz f8 (z8 _ _ g8) (fun _ e => nomatch e)) (.cons (imTup (zz f7 (z7 _ _ g7) (fun _ e => nomatch e)) (fm_cons (.int _) (fm_cons (.int _) (fm_cons (.int _) fm_nil))) (by decide)) .nil) (show 1 < 64 by decide) (by decide +kernel)) (fm_cons (rowLst (zz f10 (z10 _ _ g10) (fun _ e => nomatch e)) (.cons (imTup (zz f9 (z9 _ _ g9) (fun _ e => nomatch e)) (fm_cons (.int _) (fm_cons (.int _) (fm_cons (.int _) fm_nil))) (by decide)) .nil) (show 1 < 64 by decide) (by decide +kernel)) (fm_cons (rowLst (zz f12 (z12 _ _ g12) (fun _ e => nomatch e)) (.cons (imTup (zz f11 (z11 _ _ g11) (fun _ e => nomatch e)) (fm_cons (.int _) (fm_cons (.int _) (fm_cons (.int _) fm_nil))) (by decide)) .nil) (show 1 < 64 by decide) (by decide +kernel)) (fm_cons (rowLst (zz f15 (z15 _ _ g15) (fun _ e => nomatch e)) (.cons (imTup (zz f13 (z13 _ _ g13) (fun _ e => nomatch e)) (fm_cons (.int _) (fm_cons (.int _) (fm_cons (.int _) fm_nil))) (by decide)) (.cons (imTup (zz f14 (z14 _ _ g14) (fun _ e => nomatch e)) (fm_cons (.int _) (fm_cons (.int _) (fm_cons (.int _) fm_nil))) (by decide)) .nil)) (show 2 < 64 by decide) (by decide +kernel)) (fm_cons (rowLst (zz f17 (z17 _ _ g17) (fun _ e => nomatch e)) (.cons (imTup (zz f16 (z16 _ _ g16) (fun _ e => nomatch e)) (fm_cons (.int _) (fm_cons (.int _) (fm_cons (.bl _) fm_nil))) (by decide)) .nil) (show 1 < 64 by decide) (by decide +kernel)) (fm_cons (rowLst (zz f19 (z19 _ _ g19) (fun _ e => nomatch e)) (.cons (imTup (zz f18 (z18 _ _ g18) (fun _ e => nomatch e)) (fm_cons (.bl _) (fm_cons (.int _) (fm_cons (.int _) fm_nil))) (by decide)) .nil) (show 1 < 64 by decide) (by decide +kernel)) (fm_cons (rowLst (zz f21 (z21 _ _ g21) (fun _ e => nomatch e)) (.cons (imTup (zz f20 (z20 _ _ g20) (fun _ e => nomatch e)) (fm_cons (.str _) (fm_cons (.int _) (fm_cons (.int _) fm_nil))) (by decide)) .nil) (show 1 < 64 by decide) (by decide +kernel)) (fm_cons (rowLst (zz f23 (z23 _ _ g23) (fun _ e => nomatch e)) (.cons (imTup (zz f22 (z22 _ _ g22) (fun _ e => nomatch e)) (fm_cons (.int _) (fm_cons (.int _) (fm_cons (.int _) fm_nil))) (by decide)) .nil) (show 1 < 64 by decide) (by decide +kernel)) (fm_cons (rowDct (zz f24 (z24 _ _ g24) (fun _ e => nomatch e))) fm_nil))))))))))))))))
end
end
end K5


set_option Elab.async false
set_option linter.all false
set_option maxRecDepth 100000
set_option maxHeartbeats 8000000
set_option exponentiation.threshold 10000
namespace K5
open PySem PySem.Spec PyProof.Rows L2 ClX OG
section
variable {P : Program} {w : World} {K : PySem.W.Frag} {mg : Str → Option Value} {base : Heap} {A : Ad} {H1 H2 : Hp} {p : Addr} {n m : Nat} {a : Addr} {x : V}
section
variable {Ar : Around} {outer : List Env} {s : Shared} {H : Hp} {E : XK} {D : Ends} {w1 w2 w3 w4 w5 w6 w7 w8 w9 w11 w12 w13 w14 w15 : Option V} {J0 : Hp}
theorem rt_0 (T : LamT K mg A) (B : LamX.TabB base mg A.cd_law A.tb_law) (hg : RmG 11 (XL P w K mg base A Ar outer s H E).A) (hr : Room 11 (XL P w K mg base A Ar outer s H E).A) {ns : List Int}
    (hq : SqL K J0 a (ns.map V.int)) (q : ∀ p H1, Same J0 H1 → J0 p = none → PenK H1 p 0 → D.nx [some (.ref a), some (.ref p), w2, w3, w4, w5, w6, w7, w8, w9, none, w11, w12, w13, w14, w15] H1) :
    (dt_0 (P := P) (w := w) (outer := outer) (s := s) (H := H) (E := E) T B hg hr).1 D [some (.ref a), w1, w2, w3, w4, w5, w6, w7, w8, w9, none, w11, w12, w13, w14, w15] J0 := by
  unfold dt_0
  exact ⟨_, rfl, a, ns, rfl, hq, fun p H1 s1 hp k => q p H1 s1 hp k⟩
theorem rt_3 (T : LamT K mg A) (B : LamX.TabB base mg A.cd_law A.tb_law) (hg : RmG 11 (XL P w K mg base A Ar outer s H E).A) (hr : Room 11 (XL P w K mg base A Ar outer s H E).A) {w0 : Option V} {B0 : Addr} {xs : List V}
    (k0 : PenK J0 p m) (tb : LamX.Tabs (tbs A) J0) (hB : J0 B0 = some (.lst xs)) (nB : B0 ≠ p) (hl : xs.length = 16) (hx : ∀ x ∈ xs, RowsV K (core p J0) x none)
    (q : ∀ H1, D.rt (.bl true) H1) :
    (dt_3 (P := P) (w := w) (outer := outer) (s := s) (H := H) (E := E) T B hg hr).1 D [w0, w1, w2, w3, w4, w5, w6, w7, w8, w9, some (.ref B0), w11, w12, w13, w14, w15] J0 := by
  unfold dt_3
  refine ⟨_, rfl, B0, xs, rfl, .inl (SqL.of hB), fun J wk => ?_⟩
  intro L hL
  have sL := same_new (o := .lst []) hL
  have nL := lst_new k0.lst hL
  have cB : core p (upd J0 L (.lst [])) B0 = some (.lst xs) := core_get nB (sL _ _ hB) (fun _ z => by cases z)
  have cL : core p (upd J0 L (.lst [])) L = some (.lst []) := core_get nL upd_same (fun _ z => by cases z)
  have wk := wk (fun b => if b = B0 then some (.lst xs) else none) (by rw [if_pos rfl, hB])
  have sB : ∀ H1, H1 B0 = some (.lst xs) → Same (fun b => if b = B0 then some (.lst xs) else none) H1 := fun H1 h b u e => by
    by_cases c : b = B0
    · subst c
      have e : (if b = b then some (HO.lst xs) else none) = some u := e
      rw [if_pos rfl] at e
      rw [h]
      exact e
    · have e : (if b = B0 then some (HO.lst xs) else none) = some u := e
      rw [if_neg c] at e
      cases e
  let Pv : Hp → Prop := fun H1 => Same (core p (upd J0 L (.lst []))) (core p H1) ∧ PenK H1 p m ∧ LamX.Tabs (tbs A) H1
  refine ⟨fun i m H1 => m = xs.length - i ∧ i ≤ xs.length ∧ Pv H1, ⟨xs.length, by simp, Nat.zero_le _, Same.refl _, k0.same sL, tb.ext sL⟩, ?_⟩
  rintro i mm H1 ⟨rfl, hi, c1, k1, t1⟩
  have hB1 := (core_some (c1 _ _ cB)).2.1
  by_cases hlt : i < xs.length
  · refine .inr ⟨wk.go i H1 (sB _ hB1) hlt, Pv, fun H' p' => ⟨xs.length - (i + 1), by omega, rfl, hlt, p'⟩, fun x H2 y => ?_⟩
    obtain ⟨s2, hxi⟩ := wk.yld i x H1 H2 (sB _ hB1) hlt y
    have c2 := c1.trans (same_core s2)
    have rv2 := (hx x (List.mem_of_getElem? hxi)).mono ((same_core sL).trans c2)
    refine ⟨rfl, t1.ext s2, fun H3 eN tb3 Q' H4 s4 => ⟨_, rfl, fun o d1 ho hd hn => ?_⟩⟩
    have c4 := (ext_core (p := p) eN).trans (same_core s4)
    have k4 := ((k1.same s2).core eN).same s4
    refine make_go (r := none) ho hd hn ((rv2.mono c4).mono core_le) (fun _ => fun d H5 s5 hx5 => ?_) (fun ims e => nomatch e)
    refine ⟨A.c_BadValue, "value", d, "images", rfl, rfl, hx5, .inl ⟨rfl, rfl⟩, fun aa t ha ht => ⟨two_line, fun t2 ht2 => ?_⟩⟩
    have sa := same_new (o := exk aa (.ref A.c_BadValue) (some d)) ha
    have st := same_new (o := .tup [.str "value", .str "images"]) ht
    have st2 := same_new (o := .tup [.str "value", .str "images"]) ht2
    have s2e := s5.trans (sa.trans (st.trans st2))
    refine ⟨dPair "value" "images", dPair "value" "images", dp_pair (SqT.of (st2 _ _ upd_same)), dp_pair (SqT.of upd_same), by decide +kernel, by decide +kernel, _, rfl, ?_⟩
    have ee : PyData.eqv (dPair "value" "images") (dPair "value" "images") = true := by decide +kernel
    rw [ee]
    exact iteF (⟨c2.trans (c4.trans (same_core s2e)), k4.same s2e, tb3.ext (s4.trans s2e)⟩ : Pv _)
  · have e : i = xs.length := by omega
    subst e
    refine .inl ⟨wk.stop H1 (sB _ hB1), ?_⟩
    have hL1 := (core_some (c1 _ _ cL)).2.1
    refine ⟨by show 0 ≤ sizeLine; decide, fun l hl2 => ⟨.list [], .list [], .lst (SqL.of (same_new hl2 _ _ hL1)) .nil, .lst (SqL.of upd_same) .nil, shaped_ints [], shaped_ints [], q _⟩⟩
end
end
end K5


set_option Elab.async false
set_option linter.all false
set_option maxRecDepth 100000
set_option maxHeartbeats 8000000
set_option exponentiation.threshold 10000
namespace K5
open PySem PySem.Spec PyProof.Rows L2 ClX OG
section
variable {P : Program} {w : World} {K : PySem.W.Frag} {mg : Str → Option Value} {base : Heap} {A : Ad}
def spLaw (K : PySem.W.Frag) (A : Ad) : Sp := fun vs H Q _ => ∃ (a : Addr) (ns : List Int), vs = [.ref a] ∧ SqL K H a (ns.map V.int) ∧ LamX.Tabs (tbs A) H ∧ ∀ H', Q (.bl true) H'
theorem ok_law (T : LamT K mg A) (B : LamX.TabB base mg A.cd_law A.tb_law) (F : Fun K "law" "law" s_law A.f_law A.d_law) : FnG P w K mg base CX0 12 A.f_law A.d_law ["script"] (spLaw K A) := by
  refine Fun_okG F sc_law (fun vs H Q E h => ?_) (fun cdv Ar outer s H vs Q E hg _ hlk h => ?_)
  · obtain ⟨_, _, rfl, _⟩ := h
    rfl
  · obtain ⟨a, ns, rfl, hq, tb, q⟩ := h
    have hr := hg.rm
    obtain ⟨oc, od, kV, doc, pm, an, ct, osl, lk⟩ := hlk
    have hcv := T.cdv_law
    rw [lk] at hcv
    obtain rfl : cdv = .ref A.cd_law := Option.some.inj hcv
    suffices z : ∃ t, PSs (XL P w K mg base A Ar outer s H E) (defBody s_law) t ∧ t { nx := fun _ H' => Q .non H', rt := Q } (L2.start N_law [.ref a]) H from by
      obtain ⟨t, h, q⟩ := z
      exact ⟨t, h.nox, q⟩
    refine ⟨_, (pss_cons (dt_0 T B hg hr).2
      (pss_cons (ps_for PassesOwn.never rfl (pi_range1 (by rfl) T.n_range (pa_cons pe_int pa_nil)) (pg_name (i := 2) sc_law.nd rfl (Or.inl rfl)) (pss_cons (dl_0 T B hg hr).2
      (pss_cons (dl_1 T B hg hr).2
      (pss_cons (dl_2 T B hg hr).2
      (pss_cons (dl_3 T B hg hr).2
      (pss_cons (dl_4 T B hg hr).2
      (pss_cons (dl_5 T B hg hr).2
      (pss_cons (dl_6 T B hg hr).2
      (pss_cons (dl_7 T B hg hr).2
      (pss_cons (dl_8 T B hg hr).2
      (pss_cons (dl_9 T B hg hr).2
      (pss_one (dl_10 T B hg hr).2))))))))))))
      (pss_cons (dt_2 T B hg hr).2
      (pss_one (dt_3 T B hg hr).2)))), ?_⟩
    refine rt_0 (P := P) (w := w) (outer := outer) (s := s) (H := H) (E := E) T B hg hr hq fun p H1 s1 hp0 k1 => ?_
    refine ⟨5, rfl, by decide, by decide, ?_⟩
    refine for_range (lo := 0) (n := 5) (fun i σ H' => (∃ w2 w3 w4 w5 w6 w7 w8 w9 w10 w11 w12 w13 w14 w15, σ = [some (.ref a), some (.ref p), w2, w3, w4, w5, w6, w7, w8, w9, w10, w11, w12, w13, w14, w15]) ∧ PenK H' p (110 * i) ∧ LamX.Tabs (tbs A) H') ⟨⟨_, _, _, _, _, _, _, _, _, _, _, _, _, _, rfl⟩, k1, tb.ext s1⟩ (fun i σ H0 hi k => ?_) (fun σ H0 k => ?_)
    · obtain ⟨⟨w2, w3, w4, w5, w6, w7, w8, w9, w10, w11, w12, w13, w14, w15, rfl⟩, k0, t0⟩ := k
      refine rd_0 (P := P) (w := w) (outer := outer) (s := s) (H := H) (E := E) (w2 := some (.int (0 + (i : Nat)))) T B hg hr k0 (by omega) fun n H1 n1 n12 e1 k1 => ?_
      refine rd_1 (P := P) (w := w) (outer := outer) (s := s) (H := H) (E := E) T B hg hr k1 (e1.tabs t0) (by omega) n1 n12 fun R F0 F1 F2 i0 i1 i2 H2 e2 k2 t2 hR nR ⟨r0, f0, g0, l0⟩ ⟨r1, f1, g1, l1⟩ ⟨r2, f2, g2, l2⟩ => ?_
      have hw : Rws K H2 n R F0 F1 F2 i0 i1 i2 := ⟨SqL.of hR, r0.l, r1.l, r2.l, g0, g1, g2, l0, l1, l2, n1, n12⟩
      refine rd_2 (P := P) (w := w) (outer := outer) (s := s) (H := H) (E := E) T B hg hr hw fun o1 o2 o3 H3 s3 h3 => ?_
      refine rd_3 (P := P) (w := w) (outer := outer) (s := s) (H := H) (E := E) T B hg hr h3 fun H4 s4 => ?_
      have h4 := h3.same s4
      refine rd_4 (P := P) (w := w) (outer := outer) (s := s) (H := H) (E := E) T B hg hr h4 fun bo st H5 s5 mb5 ms5 => ?_
      have h5 := h4.same s5
      refine rd_5 (P := P) (w := w) (outer := outer) (s := s) (H := H) (E := E) T B hg hr h5 mb5 ms5 fun H6 w9' s6 => ?_
      have h6 := h5.same s6
      refine rd_6 (P := P) (w := w) (outer := outer) (s := s) (H := H) (E := E) T B hg hr h6 (mb5.mono s6) (ms5.mono s6) fun H7 s7 => ?_
      have h7 := h6.same s7
      have s57 := s6.trans s7
      refine rd_7 (P := P) (w := w) (outer := outer) (s := s) (H := H) (E := E) T B hg hr h7 (mb5.mono s57) (ms5.mono s57) fun H8 s8 => ?_
      have h8 := h7.same s8
      have s58 := s57.trans s8
      refine rd_8 (P := P) (w := w) (outer := outer) (s := s) (H := H) (E := E) T B hg hr h8 (mb5.mono s58) (ms5.mono s58) fun H9 s9 => ?_
      have h9 := h8.same s9
      have s29 := s3.trans (s4.trans (s5.trans (s58.trans s9)))
      have k9 := k2.same s29
      refine rd_9 (P := P) (w := w) (outer := outer) (s := s) (H := H) (E := E) T B hg hr h9 f0 k9 (by omega) (t2.ext s29) fun x H10 c10 k10 t10 ox => ?_
      refine rd_10 (P := P) (w := w) (outer := outer) (s := s) (H := H) (E := E) T B hg hr ((h9.m1.core k9.lst).mono c10) l0 ox k10 t10 fun H11 c11 k11 t11 => ?_
      exact ⟨⟨_, _, _, _, _, _, _, _, _, _, _, _, _, _, rfl⟩, k11.mono (by omega), t11⟩
    · obtain ⟨⟨w2, w3, w4, w5, w6, w7, w8, w9, w10, w11, w12, w13, w14, w15, rfl⟩, k0, t0⟩ := k
      refine rt_2 (P := P) (w := w) (outer := outer) (s := s) (H := H) (E := E) T B hg hr fun l xs H2 s2 hl hl0 hxl hx => ?_
      refine rt_3 (P := P) (w := w) (outer := outer) (s := s) (H := H) (E := E) T B hg hr (k0.same s2) (t0.ext s2) hl (lst_new k0.lst hl0) hxl (hx _ fun b u n h nt => core_get (lst_new k0.lst n) h nt) fun H3 => q H3
end
end K5


set_option Elab.async false
set_option linter.all false
set_option maxRecDepth 100000
set_option maxHeartbeats 8000000
set_option exponentiation.threshold 10000
namespace K5
open PySem PySem.Spec PyProof.Rows L2 ClX OG
theorem all_mk {l : PySem.W.OpenLaw} {w : World} {K : PySem.W.Frag} {h : Heap} {mg : Str → Option Value} {fa : Addr} (X : K.In h) (G : h.Ns mainGlobals mg) (hfa : mg "law" = some (.ref fa))
    {C_Map p_same N_Map : Addr} {rest : List Value} {nm_Map q_Map : Str} {bs_Map sub_Map : List Value} {hd_Map ab_Map : Bool} {sn_Map : List Str} {col_Map : Option Bool} {dd_Map : Option Addr} {m0_Map m1_Map m2_Map m3_Map m5_Map : Option Value} {ni_Map : String} {cd tb : Addr}
    {C_PlanError : Addr}
    {C_BadValue : Addr}
    {C_BadNumber : Addr}
    {C_BadPlan : Addr}
    {C_BadPaper : Addr}
    {C_BadText : Addr}
    {C_BadCommand : Addr}
    {C_Misfit : Addr}
    {C_NoTurn : Addr}
    {C_Nothing : Addr}
    {C_TooMany : Addr}
    {f_is_image : Addr} {od_is_image an_is_image : Option Addr} {sl_is_image : Array (Option Value)} {oc_is_image kV_is_image dc_is_image pm_is_image ct_is_image cd_is_image : Value}
    {f_law_pen : Addr} {od_law_pen an_law_pen : Option Addr} {sl_law_pen : Array (Option Value)} {oc_law_pen kV_law_pen dc_law_pen pm_law_pen ct_law_pen cd_law_pen : Value}
    {f_law_draw : Addr} {od_law_draw an_law_draw : Option Addr} {sl_law_draw : Array (Option Value)} {oc_law_draw kV_law_draw dc_law_draw pm_law_draw ct_law_draw cd_law_draw : Value}
    {f_law_pick : Addr} {od_law_pick an_law_pick : Option Addr} {sl_law_pick : Array (Option Value)} {oc_law_pick kV_law_pick dc_law_pick pm_law_pick ct_law_pick cd_law_pick : Value}
    {f_law_next : Addr} {od_law_next an_law_next : Option Addr} {sl_law_next : Array (Option Value)} {oc_law_next kV_law_next dc_law_next pm_law_next ct_law_next cd_law_next : Value}
    {f_law_heard : Addr} {od_law_heard an_law_heard : Option Addr} {sl_law_heard : Array (Option Value)} {oc_law_heard kV_law_heard dc_law_heard pm_law_heard ct_law_heard cd_law_heard : Value}
    {f_law_images : Addr} {od_law_images an_law_images : Option Addr} {sl_law_images : Array (Option Value)} {oc_law_images kV_law_images dc_law_images pm_law_images ct_law_images cd_law_images : Value}
    {f_law_end : Addr} {od_law_end an_law_end : Option Addr} {sl_law_end : Array (Option Value)} {oc_law_end kV_law_end dc_law_end pm_law_end ct_law_end cd_law_end : Value}
    {f_law_right : Addr} {od_law_right an_law_right : Option Addr} {sl_law_right : Array (Option Value)} {oc_law_right kV_law_right dc_law_right pm_law_right ct_law_right cd_law_right : Value}
    {f_law : Addr} {od_law an_law : Option Addr} {sl_law : Array (Option Value)} {oc_law kV_law dc_law pm_law ct_law : Value}
    {f_Map_init : Addr} {od_Map_init an_Map_init : Option Addr} {sl_Map_init : Array (Option Value)} {oc_Map_init kV_Map_init dc_Map_init pm_Map_init ct_Map_init cd_Map_init : Value}
    {f_Map_same : Addr} {od_Map_same an_Map_same : Option Addr} {sl_Map_same : Array (Option Value)} {oc_Map_same kV_Map_same dc_Map_same pm_Map_same ct_Map_same cd_Map_same : Value}
    {f_Map_place : Addr} {od_Map_place an_Map_place : Option Addr} {sl_Map_place : Array (Option Value)} {oc_Map_place kV_Map_place dc_Map_place pm_Map_place ct_Map_place cd_Map_place : Value}
    {f_Map_corner : Addr} {od_Map_corner an_Map_corner : Option Addr} {sl_Map_corner : Array (Option Value)} {oc_Map_corner kV_Map_corner dc_Map_corner pm_Map_corner ct_Map_corner cd_Map_corner : Value}
    {f_Map_face : Addr} {od_Map_face an_Map_face : Option Addr} {sl_Map_face : Array (Option Value)} {oc_Map_face kV_Map_face dc_Map_face pm_Map_face ct_Map_face cd_Map_face : Value}
    {f_Map_then : Addr} {od_Map_then an_Map_then : Option Addr} {sl_Map_then : Array (Option Value)} {oc_Map_then kV_Map_then dc_Map_then pm_Map_then ct_Map_then cd_Map_then : Value}
    {f_Map_back : Addr} {od_Map_back an_Map_back : Option Addr} {sl_Map_back : Array (Option Value)} {oc_Map_back kV_Map_back dc_Map_back pm_Map_back ct_Map_back cd_Map_back : Value}
    {f_Map_len : Addr} {od_Map_len an_Map_len : Option Addr} {sl_Map_len : Array (Option Value)} {oc_Map_len kV_Map_len dc_Map_len pm_Map_len ct_Map_len cd_Map_len : Value}
    {f_Map_eq : Addr} {od_Map_eq an_Map_eq : Option Addr} {sl_Map_eq : Array (Option Value)} {kV_Map_eq dc_Map_eq pm_Map_eq ct_Map_eq cd_Map_eq : Value}
    {N_BadValue : Addr} {nm_BadValue q_BadValue : Str} {bs_BadValue sub_BadValue : List Value} {bm_BadValue : List Value} {sn_BadValue : List Str} {ab_BadValue : Bool} {col_BadValue : Option Bool} {dd_BadValue : Option Addr} {m0_BadValue m1_BadValue m2_BadValue m3_BadValue m5_BadValue : Option Value}
    {f_BadValue_init : Addr} {od_BadValue_init an_BadValue_init : Option Addr} {sl_BadValue_init : Array (Option Value)} {oc_BadValue_init kV_BadValue_init dc_BadValue_init pm_BadValue_init ct_BadValue_init cd_BadValue_init : Value}
    {N_Misfit : Addr} {nm_Misfit q_Misfit : Str} {bs_Misfit sub_Misfit : List Value} {bm_Misfit : List Value} {sn_Misfit : List Str} {ab_Misfit : Bool} {col_Misfit : Option Bool} {dd_Misfit : Option Addr} {m0_Misfit m1_Misfit m2_Misfit m3_Misfit m5_Misfit : Option Value}
    {f_Misfit_init : Addr} {od_Misfit_init an_Misfit_init : Option Addr} {sl_Misfit_init : Array (Option Value)} {oc_Misfit_init kV_Misfit_init dc_Misfit_init pm_Misfit_init ct_Misfit_init cd_Misfit_init : Value}
    (aC_Map : PySem.W.nsIn K mainGlobals "Map" = some (some (.ref C_Map)))
    (aC_PlanError : PySem.W.nsIn K mainGlobals "PlanError" = some (some (.ref C_PlanError)))
    (aC_BadValue : PySem.W.nsIn K mainGlobals "BadValue" = some (some (.ref C_BadValue)))
    (aC_BadNumber : PySem.W.nsIn K mainGlobals "BadNumber" = some (some (.ref C_BadNumber)))
    (aC_BadPlan : PySem.W.nsIn K mainGlobals "BadPlan" = some (some (.ref C_BadPlan)))
    (aC_BadPaper : PySem.W.nsIn K mainGlobals "BadPaper" = some (some (.ref C_BadPaper)))
    (aC_BadText : PySem.W.nsIn K mainGlobals "BadText" = some (some (.ref C_BadText)))
    (aC_BadCommand : PySem.W.nsIn K mainGlobals "BadCommand" = some (some (.ref C_BadCommand)))
    (aC_Misfit : PySem.W.nsIn K mainGlobals "Misfit" = some (some (.ref C_Misfit)))
    (aC_NoTurn : PySem.W.nsIn K mainGlobals "NoTurn" = some (some (.ref C_NoTurn)))
    (aC_Nothing : PySem.W.nsIn K mainGlobals "Nothing" = some (some (.ref C_Nothing)))
    (aC_TooMany : PySem.W.nsIn K mainGlobals "TooMany" = some (some (.ref C_TooMany)))
    (a_is_image : PySem.W.nsIn K mainGlobals "is_image" = some (some (.ref f_is_image)))
    (l_is_image : K.lookup f_is_image = some ⟨oc_is_image, od_is_image, .func (PySem.W.fnOf "is_image" "is_image" (defArgs s_is_image) (defBody s_is_image) (defScope s_is_image) .none kV_is_image dc_is_image pm_is_image an_is_image cd_is_image ct_is_image), sl_is_image⟩)
    (c_is_image : PySem.W.codeIn K cd_is_image "is_image" = true)
    (k_is_image : PySem.W.keepIn K (.ref f_is_image) = true)
    (a_law_pen : PySem.W.nsIn K mainGlobals "_law_pen" = some (some (.ref f_law_pen)))
    (l_law_pen : K.lookup f_law_pen = some ⟨oc_law_pen, od_law_pen, .func (PySem.W.fnOf "_law_pen" "_law_pen" (defArgs s_law_pen) (defBody s_law_pen) (defScope s_law_pen) .none kV_law_pen dc_law_pen pm_law_pen an_law_pen cd_law_pen ct_law_pen), sl_law_pen⟩)
    (c_law_pen : PySem.W.codeIn K cd_law_pen "_law_pen" = true)
    (k_law_pen : PySem.W.keepIn K (.ref f_law_pen) = true)
    (a_law_draw : PySem.W.nsIn K mainGlobals "_law_draw" = some (some (.ref f_law_draw)))
    (l_law_draw : K.lookup f_law_draw = some ⟨oc_law_draw, od_law_draw, .func (PySem.W.fnOf "_law_draw" "_law_draw" (defArgs s_law_draw) (defBody s_law_draw) (defScope s_law_draw) .none kV_law_draw dc_law_draw pm_law_draw an_law_draw cd_law_draw ct_law_draw), sl_law_draw⟩)
    (c_law_draw : PySem.W.codeIn K cd_law_draw "_law_draw" = true)
    (k_law_draw : PySem.W.keepIn K (.ref f_law_draw) = true)
    (a_law_pick : PySem.W.nsIn K mainGlobals "_law_pick" = some (some (.ref f_law_pick)))
    (l_law_pick : K.lookup f_law_pick = some ⟨oc_law_pick, od_law_pick, .func (PySem.W.fnOf "_law_pick" "_law_pick" (defArgs s_law_pick) (defBody s_law_pick) (defScope s_law_pick) .none kV_law_pick dc_law_pick pm_law_pick an_law_pick cd_law_pick ct_law_pick), sl_law_pick⟩)
    (c_law_pick : PySem.W.codeIn K cd_law_pick "_law_pick" = true)
    (k_law_pick : PySem.W.keepIn K (.ref f_law_pick) = true)
    (a_law_next : PySem.W.nsIn K mainGlobals "_law_next" = some (some (.ref f_law_next)))
    (l_law_next : K.lookup f_law_next = some ⟨oc_law_next, od_law_next, .func (PySem.W.fnOf "_law_next" "_law_next" (defArgs s_law_next) (defBody s_law_next) (defScope s_law_next) .none kV_law_next dc_law_next pm_law_next an_law_next cd_law_next ct_law_next), sl_law_next⟩)
    (c_law_next : PySem.W.codeIn K cd_law_next "_law_next" = true)
    (k_law_next : PySem.W.keepIn K (.ref f_law_next) = true)
    (a_law_heard : PySem.W.nsIn K mainGlobals "_law_heard" = some (some (.ref f_law_heard)))
    (l_law_heard : K.lookup f_law_heard = some ⟨oc_law_heard, od_law_heard, .func (PySem.W.fnOf "_law_heard" "_law_heard" (defArgs s_law_heard) (defBody s_law_heard) (defScope s_law_heard) .none kV_law_heard dc_law_heard pm_law_heard an_law_heard cd_law_heard ct_law_heard), sl_law_heard⟩)
    (c_law_heard : PySem.W.codeIn K cd_law_heard "_law_heard" = true)
    (k_law_heard : PySem.W.keepIn K (.ref f_law_heard) = true)
    (a_law_images : PySem.W.nsIn K mainGlobals "_law_images" = some (some (.ref f_law_images)))
    (l_law_images : K.lookup f_law_images = some ⟨oc_law_images, od_law_images, .func (PySem.W.fnOf "_law_images" "_law_images" (defArgs s_law_images) (defBody s_law_images) (defScope s_law_images) .none kV_law_images dc_law_images pm_law_images an_law_images cd_law_images ct_law_images), sl_law_images⟩)
    (c_law_images : PySem.W.codeIn K cd_law_images "_law_images" = true)
    (k_law_images : PySem.W.keepIn K (.ref f_law_images) = true)
    (a_law_end : PySem.W.nsIn K mainGlobals "_law_end" = some (some (.ref f_law_end)))
    (l_law_end : K.lookup f_law_end = some ⟨oc_law_end, od_law_end, .func (PySem.W.fnOf "_law_end" "_law_end" (defArgs s_law_end) (defBody s_law_end) (defScope s_law_end) .none kV_law_end dc_law_end pm_law_end an_law_end cd_law_end ct_law_end), sl_law_end⟩)
    (c_law_end : PySem.W.codeIn K cd_law_end "_law_end" = true)
    (k_law_end : PySem.W.keepIn K (.ref f_law_end) = true)
    (a_law_right : PySem.W.nsIn K mainGlobals "_law_right" = some (some (.ref f_law_right)))
    (l_law_right : K.lookup f_law_right = some ⟨oc_law_right, od_law_right, .func (PySem.W.fnOf "_law_right" "_law_right" (defArgs s_law_right) (defBody s_law_right) (defScope s_law_right) .none kV_law_right dc_law_right pm_law_right an_law_right cd_law_right ct_law_right), sl_law_right⟩)
    (c_law_right : PySem.W.codeIn K cd_law_right "_law_right" = true)
    (k_law_right : PySem.W.keepIn K (.ref f_law_right) = true)
    (a_law : PySem.W.nsIn K mainGlobals "law" = some (some (.ref f_law)))
    (l_law : K.lookup f_law = some ⟨oc_law, od_law, .func (PySem.W.fnOf "law" "law" (defArgs s_law) (defBody s_law) (defScope s_law) .none kV_law dc_law pm_law an_law (.ref cd) ct_law), sl_law⟩)
    (c_law : PySem.W.codeIn K (.ref cd) "law" = true)
    (k_law : PySem.W.keepIn K (.ref f_law) = true)
    (m_Map_init : PySem.W.findIn K (.ref C_Map) "__init__" = some (some (.ref f_Map_init)))
    (fn_Map_init : PySem.W.isFn K (.ref f_Map_init) = true)
    (l_Map_init : K.lookup f_Map_init = some ⟨oc_Map_init, od_Map_init, .func (PySem.W.fnOf "__init__" "Map.__init__" (defArgs s_Map_init) (defBody s_Map_init) (defScope s_Map_init) .none kV_Map_init dc_Map_init pm_Map_init an_Map_init cd_Map_init ct_Map_init), sl_Map_init⟩)
    (c_Map_init : PySem.W.codeIn K cd_Map_init "Map.__init__" = true)
    (k_Map_init : PySem.W.keepIn K (.ref f_Map_init) = true)
    (cs : PySem.W.findCls K (.ref C_Map) (.type "type") "same" = some (.get (.builtin "classmethod.__get__") (.ref p_same) .none (.ref C_Map)))
    (cr : PySem.W.recIn K p_same "classmethod" = some (.ref f_Map_same :: rest))
    (cf : PySem.W.fnIn K f_Map_same = true)
    (l_Map_same : K.lookup f_Map_same = some ⟨oc_Map_same, od_Map_same, .func (PySem.W.fnOf "same" "Map.same" (defArgs s_Map_same) (defBody s_Map_same) (defScope s_Map_same) .none kV_Map_same dc_Map_same pm_Map_same an_Map_same cd_Map_same ct_Map_same), sl_Map_same⟩)
    (c_Map_same : PySem.W.codeIn K cd_Map_same "Map.same" = true)
    (k_Map_same : PySem.W.keepIn K (.ref f_Map_same) = true)
    (m_Map_place : PySem.W.findIn K (.ref C_Map) "place" = some (some (.ref f_Map_place)))
    (fn_Map_place : PySem.W.isFn K (.ref f_Map_place) = true)
    (l_Map_place : K.lookup f_Map_place = some ⟨oc_Map_place, od_Map_place, .func (PySem.W.fnOf "place" "Map.place" (defArgs s_Map_place) (defBody s_Map_place) (defScope s_Map_place) .none kV_Map_place dc_Map_place pm_Map_place an_Map_place cd_Map_place ct_Map_place), sl_Map_place⟩)
    (c_Map_place : PySem.W.codeIn K cd_Map_place "Map.place" = true)
    (k_Map_place : PySem.W.keepIn K (.ref f_Map_place) = true)
    (m_Map_corner : PySem.W.findIn K (.ref C_Map) "corner" = some (some (.ref f_Map_corner)))
    (fn_Map_corner : PySem.W.isFn K (.ref f_Map_corner) = true)
    (l_Map_corner : K.lookup f_Map_corner = some ⟨oc_Map_corner, od_Map_corner, .func (PySem.W.fnOf "corner" "Map.corner" (defArgs s_Map_corner) (defBody s_Map_corner) (defScope s_Map_corner) .none kV_Map_corner dc_Map_corner pm_Map_corner an_Map_corner cd_Map_corner ct_Map_corner), sl_Map_corner⟩)
    (c_Map_corner : PySem.W.codeIn K cd_Map_corner "Map.corner" = true)
    (k_Map_corner : PySem.W.keepIn K (.ref f_Map_corner) = true)
    (m_Map_face : PySem.W.findIn K (.ref C_Map) "face" = some (some (.ref f_Map_face)))
    (fn_Map_face : PySem.W.isFn K (.ref f_Map_face) = true)
    (l_Map_face : K.lookup f_Map_face = some ⟨oc_Map_face, od_Map_face, .func (PySem.W.fnOf "face" "Map.face" (defArgs s_Map_face) (defBody s_Map_face) (defScope s_Map_face) .none kV_Map_face dc_Map_face pm_Map_face an_Map_face cd_Map_face ct_Map_face), sl_Map_face⟩)
    (c_Map_face : PySem.W.codeIn K cd_Map_face "Map.face" = true)
    (k_Map_face : PySem.W.keepIn K (.ref f_Map_face) = true)
    (m_Map_then : PySem.W.findIn K (.ref C_Map) "then" = some (some (.ref f_Map_then)))
    (fn_Map_then : PySem.W.isFn K (.ref f_Map_then) = true)
    (l_Map_then : K.lookup f_Map_then = some ⟨oc_Map_then, od_Map_then, .func (PySem.W.fnOf "then" "Map.then" (defArgs s_Map_then) (defBody s_Map_then) (defScope s_Map_then) .none kV_Map_then dc_Map_then pm_Map_then an_Map_then cd_Map_then ct_Map_then), sl_Map_then⟩)
    (c_Map_then : PySem.W.codeIn K cd_Map_then "Map.then" = true)
    (k_Map_then : PySem.W.keepIn K (.ref f_Map_then) = true)
    (m_Map_back : PySem.W.findIn K (.ref C_Map) "back" = some (some (.ref f_Map_back)))
    (fn_Map_back : PySem.W.isFn K (.ref f_Map_back) = true)
    (l_Map_back : K.lookup f_Map_back = some ⟨oc_Map_back, od_Map_back, .func (PySem.W.fnOf "back" "Map.back" (defArgs s_Map_back) (defBody s_Map_back) (defScope s_Map_back) .none kV_Map_back dc_Map_back pm_Map_back an_Map_back cd_Map_back ct_Map_back), sl_Map_back⟩)
    (c_Map_back : PySem.W.codeIn K cd_Map_back "Map.back" = true)
    (k_Map_back : PySem.W.keepIn K (.ref f_Map_back) = true)
    (m_Map_len : PySem.W.findIn K (.ref C_Map) "__len__" = some (some (.ref f_Map_len)))
    (fn_Map_len : PySem.W.isFn K (.ref f_Map_len) = true)
    (l_Map_len : K.lookup f_Map_len = some ⟨oc_Map_len, od_Map_len, .func (PySem.W.fnOf "__len__" "Map.__len__" (defArgs s_Map_len) (defBody s_Map_len) (defScope s_Map_len) .none kV_Map_len dc_Map_len pm_Map_len an_Map_len cd_Map_len ct_Map_len), sl_Map_len⟩)
    (c_Map_len : PySem.W.codeIn K cd_Map_len "Map.__len__" = true)
    (k_Map_len : PySem.W.keepIn K (.ref f_Map_len) = true)
    (m_Map_eq : PySem.W.findIn K (.ref C_Map) "__eq__" = some (some (.ref f_Map_eq)))
    (fn_Map_eq : PySem.W.isFn K (.ref f_Map_eq) = true)
    (l_Map_eq : K.lookup f_Map_eq = some ⟨(.type "function"), od_Map_eq, .func (PySem.W.fnOf "__eq__" "Map.__eq__" (defArgs s_Map_eq) (defBody s_Map_eq) (defScope s_Map_eq) .none kV_Map_eq dc_Map_eq pm_Map_eq an_Map_eq cd_Map_eq ct_Map_eq), sl_Map_eq⟩)
    (c_Map_eq : PySem.W.codeIn K cd_Map_eq "Map.__eq__" = true)
    (k_Map_eq : PySem.W.keepIn K (.ref f_Map_eq) = true)
    (pgM : PySem.W.plainGet K C_Map Str.empty = true)
    (hdM : PySem.W.hasDictIn K C_Map = true)
    (poM : PySem.W.plainOver K C_Map = true)
    (saM : PySem.W.findIn K (.ref C_Map) "__setattr__" = some (some (.builtin "object.__setattr__")))
    (haM : PySem.W.findIn K (.ref C_Map) "__class__" = some (some (.builtin "object.__class__")))
    (hnO : PySem.W.specialIn K (.builtin "object.__class__") "__get__" = some (some (.builtin "getset_descriptor.__get__")))
    (tkO : PySem.W.takesIn K (.builtin "object.__class__") = some true)
    (mrM : PySem.W.mroIn K C_Map (.type "object") = some true)
    (mkM : PySem.W.makesIn K C_Map = true)
    (kpM : PySem.W.keepIn K (.ref C_Map) = true)
    (naM : PySem.W.findIn K (.ref C_Map) "images" = some none)
    (rdM : PySem.W.readsIn K C_Map (.type "type") = true)
    (gaM : PySem.W.specialIn K (.ref C_Map) "__getattribute__" = some (some (.builtin "type.__getattribute__")))
    (xM : K.lookup C_Map = some (excClassObj nm_Map q_Map C_Map N_Map bs_Map [.type "object"] hd_Map sn_Map sub_Map ab_Map col_Map dd_Map m0_Map m1_Map m2_Map m3_Map m5_Map ni_Map))
    (noM : PySem.W.nsOkIn K N_Map = true)
    (neM : PySem.W.nsIn K N_Map "__eq__" = some (some (.ref f_Map_eq)))
    (nnM : PySem.W.nsIn K N_Map "__ne__" = some none)
    (nfM : PySem.W.notFirst K C_Map (.ref C_Map) = true)
    (nfL : PySem.W.notFirst K C_Map (.type "list") = true)
    (kI : PySem.W.kitOne K (.ref C_Map) (.type "int") = some false)
    (kB : PySem.W.kitOne K (.ref C_Map) (.type "bool") = some false)
    (kL : PySem.W.kitOne K (.ref C_Map) (.type "list") = some false)
    (kT : PySem.W.kitOne K (.ref C_Map) (.type "tuple") = some false)
    (kC_NoneType : PySem.W.kitOne K (.type "NoneType") (.ref C_Map) = some false)
    (kC_bool : PySem.W.kitOne K (.type "bool") (.ref C_Map) = some false)
    (kC_int : PySem.W.kitOne K (.type "int") (.ref C_Map) = some false)
    (kC_str : PySem.W.kitOne K (.type "str") (.ref C_Map) = some false)
    (kC_list : PySem.W.kitOne K (.type "list") (.ref C_Map) = some false)
    (kC_tuple : PySem.W.kitOne K (.type "tuple") (.ref C_Map) = some false)
    (kC_dict : PySem.W.kitOne K (.type "dict") (.ref C_Map) = some false)
    (xL_BadValue : K.lookup C_BadValue = some (excClassObj nm_BadValue q_BadValue C_BadValue N_BadValue bs_BadValue bm_BadValue true sn_BadValue sub_BadValue ab_BadValue col_BadValue dd_BadValue m0_BadValue m1_BadValue m2_BadValue m3_BadValue m5_BadValue "ValueError.__new__"))
    (rf_BadValue : PySem.HandSPX.refsVE bm_BadValue = true)
    (sa_BadValue : PySem.W.findIn K (.ref C_BadValue) "__setattr__" = some (some (.builtin "object.__setattr__")))
    (eC_BadValue : PySem.W.subIn K (.ref C_BadValue) (.type "BaseException") = some true)
    (tC_BadValue : PySem.W.typeIn K (.ref C_BadValue) = some (.type "type"))
    (kC_BadValue : PySem.W.keepIn K (.ref C_BadValue) = true)
    (np_BadValue : PySem.W.findIn K (.ref C_BadValue) "part" = some none)
    (iI_BadValue : PySem.W.findIn K (.ref C_BadValue) "__init__" = some (some (.ref f_BadValue_init)))
    (tI_BadValue : PySem.W.typeIn K (.ref f_BadValue_init) = some (.type "function"))
    (xga_BadValue : PySem.W.findIn K (.ref C_BadValue) "__getattribute__" = some (some (.builtin "BaseException.__getattribute__")))
    (xgg_BadValue : PySem.W.findIn K (.ref C_BadValue) "__getattr__" = some none)
    (xhd_BadValue : PySem.W.hasDictIn K C_BadValue = true)
    (eha_BadValue : PySem.W.findIn K (.ref C_BadValue) "__class__" = some (some (.builtin "object.__class__")))
    (ehm_BadValue : PySem.W.mroIn K C_BadValue (.type "object") = some true)
    (l_BadValue_init : K.lookup f_BadValue_init = some ⟨oc_BadValue_init, od_BadValue_init, .func (PySem.W.fnOf "__init__" "BadValue.__init__" (defArgs s_BadValue_init) (defBody s_BadValue_init) (defScope s_BadValue_init) .none kV_BadValue_init dc_BadValue_init pm_BadValue_init an_BadValue_init cd_BadValue_init ct_BadValue_init), sl_BadValue_init⟩)
    (c_BadValue_init : PySem.W.codeIn K cd_BadValue_init "BadValue.__init__" = true)
    (k_BadValue_init : PySem.W.keepIn K (.ref f_BadValue_init) = true)
    (ex_BadValue : PySem.W.exmAny K (.ref C_BadValue) [.ref C_PlanError, .ref C_NoTurn, .ref C_Nothing, .ref C_TooMany] = some true)
    (kk_BadValue_BadPlan : PySem.W.kitOne K (.ref C_BadValue) (.ref C_BadPlan) = some false)
    (kk_BadValue_BadText : PySem.W.kitOne K (.ref C_BadValue) (.ref C_BadText) = some false)
    (kk_BadValue_BadCommand : PySem.W.kitOne K (.ref C_BadValue) (.ref C_BadCommand) = some false)
    (kk_BadValue_NoTurn : PySem.W.kitOne K (.ref C_BadValue) (.ref C_NoTurn) = some false)
    (kk_BadValue_TooMany : PySem.W.kitOne K (.ref C_BadValue) (.ref C_TooMany) = some false)
    (kk_BadValue_BadValue : PySem.W.kitOne K (.ref C_BadValue) (.ref C_BadValue) = some true)
    (xL_Misfit : K.lookup C_Misfit = some (excClassObj nm_Misfit q_Misfit C_Misfit N_Misfit bs_Misfit bm_Misfit true sn_Misfit sub_Misfit ab_Misfit col_Misfit dd_Misfit m0_Misfit m1_Misfit m2_Misfit m3_Misfit m5_Misfit "ValueError.__new__"))
    (rf_Misfit : PySem.HandSPX.refsVE bm_Misfit = true)
    (sa_Misfit : PySem.W.findIn K (.ref C_Misfit) "__setattr__" = some (some (.builtin "object.__setattr__")))
    (eC_Misfit : PySem.W.subIn K (.ref C_Misfit) (.type "BaseException") = some true)
    (tC_Misfit : PySem.W.typeIn K (.ref C_Misfit) = some (.type "type"))
    (kC_Misfit : PySem.W.keepIn K (.ref C_Misfit) = true)
    (np_Misfit : PySem.W.findIn K (.ref C_Misfit) "part" = some none)
    (iI_Misfit : PySem.W.findIn K (.ref C_Misfit) "__init__" = some (some (.ref f_Misfit_init)))
    (tI_Misfit : PySem.W.typeIn K (.ref f_Misfit_init) = some (.type "function"))
    (xga_Misfit : PySem.W.findIn K (.ref C_Misfit) "__getattribute__" = some (some (.builtin "BaseException.__getattribute__")))
    (xgg_Misfit : PySem.W.findIn K (.ref C_Misfit) "__getattr__" = some none)
    (xhd_Misfit : PySem.W.hasDictIn K C_Misfit = true)
    (eha_Misfit : PySem.W.findIn K (.ref C_Misfit) "__class__" = some (some (.builtin "object.__class__")))
    (ehm_Misfit : PySem.W.mroIn K C_Misfit (.type "object") = some true)
    (l_Misfit_init : K.lookup f_Misfit_init = some ⟨oc_Misfit_init, od_Misfit_init, .func (PySem.W.fnOf "__init__" "Misfit.__init__" (defArgs s_Misfit_init) (defBody s_Misfit_init) (defScope s_Misfit_init) .none kV_Misfit_init dc_Misfit_init pm_Misfit_init an_Misfit_init cd_Misfit_init ct_Misfit_init), sl_Misfit_init⟩)
    (c_Misfit_init : PySem.W.codeIn K cd_Misfit_init "Misfit.__init__" = true)
    (k_Misfit_init : PySem.W.keepIn K (.ref f_Misfit_init) = true)
    (ex_Misfit : PySem.W.exmAny K (.ref C_Misfit) [.ref C_PlanError, .ref C_NoTurn, .ref C_Nothing, .ref C_TooMany] = some true)
    (kk_Misfit_BadPlan : PySem.W.kitOne K (.ref C_Misfit) (.ref C_BadPlan) = some false)
    (kk_Misfit_BadText : PySem.W.kitOne K (.ref C_Misfit) (.ref C_BadText) = some false)
    (kk_Misfit_BadCommand : PySem.W.kitOne K (.ref C_Misfit) (.ref C_BadCommand) = some false)
    (kk_Misfit_NoTurn : PySem.W.kitOne K (.ref C_Misfit) (.ref C_NoTurn) = some false)
    (kk_Misfit_TooMany : PySem.W.kitOne K (.ref C_Misfit) (.ref C_TooMany) = some false)
    (kk_Misfit_BadValue : PySem.W.kitOne K (.ref C_Misfit) (.ref C_BadValue) = some false)
    (kk_Misfit_BadNumber : PySem.W.kitOne K (.ref C_Misfit) (.ref C_BadNumber) = some false)
    (kk_Misfit_BadPaper : PySem.W.kitOne K (.ref C_Misfit) (.ref C_BadPaper) = some false)
    (kk_Misfit_Misfit : PySem.W.kitOne K (.ref C_Misfit) (.ref C_Misfit) = some true)
    (pr : PySem.W.readsIn K C_PlanError (.type "type") = true)
    (pg : PySem.W.specialIn K (.ref C_PlanError) "__getattribute__" = some (some (.builtin "type.__getattribute__")))
    (pa : PySem.W.findCls K (.ref C_PlanError) (.type "type") "__init__" = some (.val (.builtin "ValueError.__init__")))
    (hT : h.get? tb = some { cls := .none, data := .fields #[] })
    (nT : K.lookup tb = none)
    (cH : PySem.W.codeHdIn K cd tb = true)
    (z_isinstance : PySem.W.nsIn K mainGlobals "isinstance" = some none)
    (z_int : PySem.W.nsIn K mainGlobals "int" = some none)
    (z_bool : PySem.W.nsIn K mainGlobals "bool" = some none)
    (z_list : PySem.W.nsIn K mainGlobals "list" = some none)
    (z_tuple : PySem.W.nsIn K mainGlobals "tuple" = some none)
    (z_len : PySem.W.nsIn K mainGlobals "len" = some none)
    (z_all : PySem.W.nsIn K mainGlobals "all" = some none)
    (z_range : PySem.W.nsIn K mainGlobals "range" = some none)
    (z_sorted : PySem.W.nsIn K mainGlobals "sorted" = some none)
    (z_enumerate : PySem.W.nsIn K mainGlobals "enumerate" = some none)
    (z_abs : PySem.W.nsIn K mainGlobals "abs" = some none)
    (z_repr : PySem.W.nsIn K mainGlobals "repr" = some none) :
    LawAtG l w K CX0 12 63 "script" mg fa h := by
  have e := hfa.symm.trans (PySem.W.mg_of X G a_law)
  have e2 : fa = f_law := by injection e with e; injection e
  rw [e2]
  let A : Ad := { f_is_image := f_is_image, d_is_image := PySem.W.fnOf "is_image" "is_image" (defArgs s_is_image) (defBody s_is_image) (defScope s_is_image) .none kV_is_image dc_is_image pm_is_image an_is_image cd_is_image ct_is_image, f_law_pen := f_law_pen, d_law_pen := PySem.W.fnOf "_law_pen" "_law_pen" (defArgs s_law_pen) (defBody s_law_pen) (defScope s_law_pen) .none kV_law_pen dc_law_pen pm_law_pen an_law_pen cd_law_pen ct_law_pen, f_law_draw := f_law_draw, d_law_draw := PySem.W.fnOf "_law_draw" "_law_draw" (defArgs s_law_draw) (defBody s_law_draw) (defScope s_law_draw) .none kV_law_draw dc_law_draw pm_law_draw an_law_draw cd_law_draw ct_law_draw, f_law_pick := f_law_pick, d_law_pick := PySem.W.fnOf "_law_pick" "_law_pick" (defArgs s_law_pick) (defBody s_law_pick) (defScope s_law_pick) .none kV_law_pick dc_law_pick pm_law_pick an_law_pick cd_law_pick ct_law_pick, f_law_next := f_law_next, d_law_next := PySem.W.fnOf "_law_next" "_law_next" (defArgs s_law_next) (defBody s_law_next) (defScope s_law_next) .none kV_law_next dc_law_next pm_law_next an_law_next cd_law_next ct_law_next, f_law_heard := f_law_heard, d_law_heard := PySem.W.fnOf "_law_heard" "_law_heard" (defArgs s_law_heard) (defBody s_law_heard) (defScope s_law_heard) .none kV_law_heard dc_law_heard pm_law_heard an_law_heard cd_law_heard ct_law_heard, f_law_images := f_law_images, d_law_images := PySem.W.fnOf "_law_images" "_law_images" (defArgs s_law_images) (defBody s_law_images) (defScope s_law_images) .none kV_law_images dc_law_images pm_law_images an_law_images cd_law_images ct_law_images, f_law_end := f_law_end, d_law_end := PySem.W.fnOf "_law_end" "_law_end" (defArgs s_law_end) (defBody s_law_end) (defScope s_law_end) .none kV_law_end dc_law_end pm_law_end an_law_end cd_law_end ct_law_end, f_law_right := f_law_right, d_law_right := PySem.W.fnOf "_law_right" "_law_right" (defArgs s_law_right) (defBody s_law_right) (defScope s_law_right) .none kV_law_right dc_law_right pm_law_right an_law_right cd_law_right ct_law_right, f_law := f_law, d_law := PySem.W.fnOf "law" "law" (defArgs s_law) (defBody s_law) (defScope s_law) .none kV_law dc_law pm_law an_law (.ref cd) ct_law, f_Map_init := f_Map_init, d_Map_init := PySem.W.fnOf "__init__" "Map.__init__" (defArgs s_Map_init) (defBody s_Map_init) (defScope s_Map_init) .none kV_Map_init dc_Map_init pm_Map_init an_Map_init cd_Map_init ct_Map_init, f_Map_same := f_Map_same, d_Map_same := PySem.W.fnOf "same" "Map.same" (defArgs s_Map_same) (defBody s_Map_same) (defScope s_Map_same) .none kV_Map_same dc_Map_same pm_Map_same an_Map_same cd_Map_same ct_Map_same, f_Map_place := f_Map_place, d_Map_place := PySem.W.fnOf "place" "Map.place" (defArgs s_Map_place) (defBody s_Map_place) (defScope s_Map_place) .none kV_Map_place dc_Map_place pm_Map_place an_Map_place cd_Map_place ct_Map_place, f_Map_corner := f_Map_corner, d_Map_corner := PySem.W.fnOf "corner" "Map.corner" (defArgs s_Map_corner) (defBody s_Map_corner) (defScope s_Map_corner) .none kV_Map_corner dc_Map_corner pm_Map_corner an_Map_corner cd_Map_corner ct_Map_corner, f_Map_face := f_Map_face, d_Map_face := PySem.W.fnOf "face" "Map.face" (defArgs s_Map_face) (defBody s_Map_face) (defScope s_Map_face) .none kV_Map_face dc_Map_face pm_Map_face an_Map_face cd_Map_face ct_Map_face, f_Map_then := f_Map_then, d_Map_then := PySem.W.fnOf "then" "Map.then" (defArgs s_Map_then) (defBody s_Map_then) (defScope s_Map_then) .none kV_Map_then dc_Map_then pm_Map_then an_Map_then cd_Map_then ct_Map_then, f_Map_back := f_Map_back, d_Map_back := PySem.W.fnOf "back" "Map.back" (defArgs s_Map_back) (defBody s_Map_back) (defScope s_Map_back) .none kV_Map_back dc_Map_back pm_Map_back an_Map_back cd_Map_back ct_Map_back, f_Map_len := f_Map_len, d_Map_len := PySem.W.fnOf "__len__" "Map.__len__" (defArgs s_Map_len) (defBody s_Map_len) (defScope s_Map_len) .none kV_Map_len dc_Map_len pm_Map_len an_Map_len cd_Map_len ct_Map_len, f_Map_eq := f_Map_eq, d_Map_eq := PySem.W.fnOf "__eq__" "Map.__eq__" (defArgs s_Map_eq) (defBody s_Map_eq) (defScope s_Map_eq) .none kV_Map_eq dc_Map_eq pm_Map_eq an_Map_eq cd_Map_eq ct_Map_eq, f_BadValue_init := f_BadValue_init, d_BadValue_init := PySem.W.fnOf "__init__" "BadValue.__init__" (defArgs s_BadValue_init) (defBody s_BadValue_init) (defScope s_BadValue_init) .none kV_BadValue_init dc_BadValue_init pm_BadValue_init an_BadValue_init cd_BadValue_init ct_BadValue_init, f_Misfit_init := f_Misfit_init, d_Misfit_init := PySem.W.fnOf "__init__" "Misfit.__init__" (defArgs s_Misfit_init) (defBody s_Misfit_init) (defScope s_Misfit_init) .none kV_Misfit_init dc_Misfit_init pm_Misfit_init an_Misfit_init cd_Misfit_init ct_Misfit_init, c_PlanError := C_PlanError, c_BadValue := C_BadValue, c_BadNumber := C_BadNumber, c_BadPlan := C_BadPlan, c_BadPaper := C_BadPaper, c_BadText := C_BadText, c_BadCommand := C_BadCommand, c_Misfit := C_Misfit, c_NoTurn := C_NoTurn, c_Nothing := C_Nothing, c_TooMany := C_TooMany, c_Map := C_Map, cd_law := cd, tb_law := tb, m_PE := .type "type", m_Map := .type "type", p_same := p_same }
  have T : LamT K mg A := { F_is_image := fun_mk (st := s_is_image) l_is_image c_is_image k_is_image, F_law_pen := fun_mk (st := s_law_pen) l_law_pen c_law_pen k_law_pen, F_law_draw := fun_mk (st := s_law_draw) l_law_draw c_law_draw k_law_draw, F_law_pick := fun_mk (st := s_law_pick) l_law_pick c_law_pick k_law_pick, F_law_next := fun_mk (st := s_law_next) l_law_next c_law_next k_law_next, F_law_heard := fun_mk (st := s_law_heard) l_law_heard c_law_heard k_law_heard, F_law_images := fun_mk (st := s_law_images) l_law_images c_law_images k_law_images, F_law_end := fun_mk (st := s_law_end) l_law_end c_law_end k_law_end, F_law_right := fun_mk (st := s_law_right) l_law_right c_law_right k_law_right, F_Map_init := fun_mk (st := s_Map_init) l_Map_init c_Map_init k_Map_init, F_Map_same := fun_mk (st := s_Map_same) l_Map_same c_Map_same k_Map_same, F_Map_place := fun_mk (st := s_Map_place) l_Map_place c_Map_place k_Map_place, F_Map_corner := fun_mk (st := s_Map_corner) l_Map_corner c_Map_corner k_Map_corner, F_Map_face := fun_mk (st := s_Map_face) l_Map_face c_Map_face k_Map_face, F_Map_then := fun_mk (st := s_Map_then) l_Map_then c_Map_then k_Map_then, F_Map_back := fun_mk (st := s_Map_back) l_Map_back c_Map_back k_Map_back, F_Map_len := fun_mk (st := s_Map_len) l_Map_len c_Map_len k_Map_len, F_Map_eq := fun_mk (st := s_Map_eq) l_Map_eq c_Map_eq k_Map_eq, F_BadValue_init := fun_mk (st := s_BadValue_init) l_BadValue_init c_BadValue_init k_BadValue_init, F_Misfit_init := fun_mk (st := s_Misfit_init) l_Misfit_init c_Misfit_init k_Misfit_init, g_is_image := PySem.W.mg_of X G a_is_image, g_law_pen := PySem.W.mg_of X G a_law_pen, g_law_draw := PySem.W.mg_of X G a_law_draw, g_law_pick := PySem.W.mg_of X G a_law_pick, g_law_next := PySem.W.mg_of X G a_law_next, g_law_heard := PySem.W.mg_of X G a_law_heard, g_law_images := PySem.W.mg_of X G a_law_images, g_law_end := PySem.W.mg_of X G a_law_end, g_law_right := PySem.W.mg_of X G a_law_right, n_isinstance := PySem.W.mg_none_of X G z_isinstance, n_int := PySem.W.mg_none_of X G z_int, n_bool := PySem.W.mg_none_of X G z_bool, n_list := PySem.W.mg_none_of X G z_list, n_tuple := PySem.W.mg_none_of X G z_tuple, n_len := PySem.W.mg_none_of X G z_len, n_all := PySem.W.mg_none_of X G z_all, n_range := PySem.W.mg_none_of X G z_range, n_sorted := PySem.W.mg_none_of X G z_sorted, n_enumerate := PySem.W.mg_none_of X G z_enumerate, n_abs := PySem.W.mg_none_of X G z_abs, n_repr := PySem.W.mg_none_of X G z_repr, g_PlanError := PySem.W.mg_of X G aC_PlanError, g_BadValue := PySem.W.mg_of X G aC_BadValue, g_BadNumber := PySem.W.mg_of X G aC_BadNumber, g_BadPlan := PySem.W.mg_of X G aC_BadPlan, g_BadPaper := PySem.W.mg_of X G aC_BadPaper, g_BadText := PySem.W.mg_of X G aC_BadText, g_BadCommand := PySem.W.mg_of X G aC_BadCommand, g_Misfit := PySem.W.mg_of X G aC_Misfit, g_NoTurn := PySem.W.mg_of X G aC_NoTurn, g_Nothing := PySem.W.mg_of X G aC_Nothing, g_TooMany := PySem.W.mg_of X G aC_TooMany, g_Map := PySem.W.mg_of X G aC_Map, m_place := ⟨m_Map_place, fn_Map_place, k_Map_place⟩, m_corner := ⟨m_Map_corner, fn_Map_corner, k_Map_corner⟩, m_face := ⟨m_Map_face, fn_Map_face, k_Map_face⟩, m_then := ⟨m_Map_then, fn_Map_then, k_Map_then⟩, m_back := ⟨m_Map_back, fn_Map_back, k_Map_back⟩, i_Map := ⟨⟨pgM, hdM, poM, saM⟩, haM, hnO, tkO, mrM, kI, kB, kL, kT, (fm_cons kC_NoneType (fm_cons kC_bool (fm_cons kC_int (fm_cons kC_str (fm_cons kC_list (fm_cons kC_tuple (fm_cons kC_dict fm_nil)))))))⟩, mk_Map := ⟨mkM, m_Map_init, fn_Map_init, kpM⟩, na_Map := naM, cr_Map := ⟨rdM, gaM⟩, cm_same := ⟨cs, ⟨_, cr⟩, cf⟩, l_Map := m_Map_len, fn_Map_len := fn_Map_len, e_Map := m_Map_eq, fn_Map_eq := fn_Map_eq, ne_Map := ⟨⟨_, _, _, _, _, _, _, _, _, _, _, _, _, _, _, _, .none, _, _, _, xM, l_Map_eq, noM, neM, nnM⟩⟩, nf_Map := nfM, nf_list := nfL, base := ⟨pr, pg, pa⟩, o_BadValue := ⟨⟨_, _, _, _, _, _, _, _, _, _, _, _, _, _, _, xL_BadValue, rf_BadValue⟩, sa_BadValue, eC_BadValue, tC_BadValue, kC_BadValue⟩, n_BadValue := np_BadValue, i_BadValue := iI_BadValue, t_BadValue := tI_BadValue, xf_BadValue := ⟨xga_BadValue, xgg_BadValue, eC_BadValue, xhd_BadValue⟩, ec_BadValue := ⟨xga_BadValue, xgg_BadValue, eC_BadValue, xhd_BadValue, eha_BadValue, hnO, tkO, ehm_BadValue⟩, ex_BadValue := ex_BadValue, k_BadValue_BadPlan := kk_BadValue_BadPlan, k_BadValue_BadText := kk_BadValue_BadText, k_BadValue_BadCommand := kk_BadValue_BadCommand, k_BadValue_NoTurn := kk_BadValue_NoTurn, k_BadValue_TooMany := kk_BadValue_TooMany, k_BadValue_BadValue := kk_BadValue_BadValue, o_Misfit := ⟨⟨_, _, _, _, _, _, _, _, _, _, _, _, _, _, _, xL_Misfit, rf_Misfit⟩, sa_Misfit, eC_Misfit, tC_Misfit, kC_Misfit⟩, n_Misfit := np_Misfit, i_Misfit := iI_Misfit, t_Misfit := tI_Misfit, xf_Misfit := ⟨xga_Misfit, xgg_Misfit, eC_Misfit, xhd_Misfit⟩, ec_Misfit := ⟨xga_Misfit, xgg_Misfit, eC_Misfit, xhd_Misfit, eha_Misfit, hnO, tkO, ehm_Misfit⟩, ex_Misfit := ex_Misfit, k_Misfit_BadPlan := kk_Misfit_BadPlan, k_Misfit_BadText := kk_Misfit_BadText, k_Misfit_BadCommand := kk_Misfit_BadCommand, k_Misfit_NoTurn := kk_Misfit_NoTurn, k_Misfit_TooMany := kk_Misfit_TooMany, k_Misfit_BadValue := kk_Misfit_BadValue, k_Misfit_BadNumber := kk_Misfit_BadNumber, k_Misfit_BadPaper := kk_Misfit_BadPaper, k_Misfit_Misfit := kk_Misfit_Misfit, cdv_law := by show (K.lookup f_law).map codeOf = _; rw [l_law]; rfl }
  refine ⟨PySem.W.fnOf "law" "law" (defArgs s_law) (defBody s_law) (defScope s_law) .none kV_law dc_law pm_law an_law (.ref cd) ct_law, [(cd, tb)], spLaw K A, fun p hp => ?_, fun p hp => ?_, fun p hp => ?_, fun s u => .of_eq rfl, fun H a ns _ _ hH hS => ⟨a, ns, rfl, hS, fun p hp => ?_, fun _ => rfl⟩, fun base _ _ TB => ok_law (A := A) T (TB (cd, tb) (List.mem_singleton.mpr rfl)) (fun_mk (st := s_law) l_law c_law k_law)⟩
  · rw [List.mem_singleton.mp hp]
    exact hT
  · rw [List.mem_singleton.mp hp]
    exact nT
  · rw [List.mem_singleton.mp hp]
    exact PySem.W.codeHd_of_K X cH
  · rw [List.mem_singleton.mp hp]
    exact LamX.TabS.nil (hH (cd, tb) (List.mem_singleton.mpr rfl))
end K5


set_option Elab.async false
set_option linter.all false
set_option maxRecDepth 100000
open PySem PySem.W PyProof.Rows in
set_option maxRecDepth 100000 in
set_option maxHeartbeats 0 in
theorem PySem.Challenge.cw_otherdiagonal_k05_maps_and_what_they_do_holds : PySem.Challenge.rw_otherdiagonal_k05_maps_and_what_they_do.Holds := by
  w_on; o_law; k_head; (case hw => w_witness2)
  k_fill
  refine OG.walk_ofG (l := PySem.Challenge.rw_otherdiagonal_k05_maps_and_what_they_do) (n := 63) (k := 12) (CX := fun _ => L2.CX0) (x := "script") rfl (by decide) rfl ⟨⟨rfl, by decide, by decide⟩, rfl⟩ (fun w h Y => PySem.W.km_in_of Y) ?F (fun _ _ _ _ _ z => z)
  case F =>
    intro w mg fa h Y KX G hmg
    refine' K5.all_mk KX G hmg ?aC_Map ?aC_PlanError ?aC_BadValue ?aC_BadNumber ?aC_BadPlan ?aC_BadPaper ?aC_BadText ?aC_BadCommand ?aC_Misfit ?aC_NoTurn ?aC_Nothing ?aC_TooMany ?a_is_image ?l_is_image ?c_is_image ?k_is_image ?a_law_pen ?l_law_pen ?c_law_pen ?k_law_pen ?a_law_draw ?l_law_draw ?c_law_draw ?k_law_draw ?a_law_pick ?l_law_pick ?c_law_pick ?k_law_pick ?a_law_next ?l_law_next ?c_law_next ?k_law_next ?a_law_heard ?l_law_heard ?c_law_heard ?k_law_heard ?a_law_images ?l_law_images ?c_law_images ?k_law_images ?a_law_end ?l_law_end ?c_law_end ?k_law_end ?a_law_right ?l_law_right ?c_law_right ?k_law_right ?a_law ?l_law ?c_law ?k_law ?m_Map_init ?fn_Map_init ?l_Map_init ?c_Map_init ?k_Map_init ?cs ?cr ?cf ?l_Map_same ?c_Map_same ?k_Map_same ?m_Map_place ?fn_Map_place ?l_Map_place ?c_Map_place ?k_Map_place ?m_Map_corner ?fn_Map_corner ?l_Map_corner ?c_Map_corner ?k_Map_corner ?m_Map_face ?fn_Map_face ?l_Map_face ?c_Map_face ?k_Map_face ?m_Map_then ?fn_Map_then ?l_Map_then ?c_Map_then ?k_Map_then ?m_Map_back ?fn_Map_back ?l_Map_back ?c_Map_back ?k_Map_back ?m_Map_len ?fn_Map_len ?l_Map_len ?c_Map_len ?k_Map_len ?m_Map_eq ?fn_Map_eq ?l_Map_eq ?c_Map_eq ?k_Map_eq ?pgM ?hdM ?poM ?saM ?haM ?hnO ?tkO ?mrM ?mkM ?kpM ?naM ?rdM ?gaM ?xM ?noM ?neM ?nnM ?nfM ?nfL ?kI ?kB ?kL ?kT ?kC_NoneType ?kC_bool ?kC_int ?kC_str ?kC_list ?kC_tuple ?kC_dict ?xL_BadValue ?rf_BadValue ?sa_BadValue ?eC_BadValue ?tC_BadValue ?kC_BadValue ?np_BadValue ?iI_BadValue ?tI_BadValue ?xga_BadValue ?xgg_BadValue ?xhd_BadValue ?eha_BadValue ?ehm_BadValue ?l_BadValue_init ?c_BadValue_init ?k_BadValue_init ?ex_BadValue ?kk_BadValue_BadPlan ?kk_BadValue_BadText ?kk_BadValue_BadCommand ?kk_BadValue_NoTurn ?kk_BadValue_TooMany ?kk_BadValue_BadValue ?xL_Misfit ?rf_Misfit ?sa_Misfit ?eC_Misfit ?tC_Misfit ?kC_Misfit ?np_Misfit ?iI_Misfit ?tI_Misfit ?xga_Misfit ?xgg_Misfit ?xhd_Misfit ?eha_Misfit ?ehm_Misfit ?l_Misfit_init ?c_Misfit_init ?k_Misfit_init ?ex_Misfit ?kk_Misfit_BadPlan ?kk_Misfit_BadText ?kk_Misfit_BadCommand ?kk_Misfit_NoTurn ?kk_Misfit_TooMany ?kk_Misfit_BadValue ?kk_Misfit_BadNumber ?kk_Misfit_BadPaper ?kk_Misfit_Misfit ?pr ?pg ?pa (PySem.W.km_tabs_of Y _ (List.mem_cons_self ..)) ?nT ?cH ?z_isinstance ?z_int ?z_bool ?z_list ?z_tuple ?z_len ?z_all ?z_range ?z_sorted ?z_enumerate ?z_abs ?z_repr
    (case aC_Map => k_is)
    (case aC_PlanError => k_is)
    (case aC_BadValue => k_is)
    (case aC_BadNumber => k_is)
    (case aC_BadPlan => k_is)
    (case aC_BadPaper => k_is)
    (case aC_BadText => k_is)
    (case aC_BadCommand => k_is)
    (case aC_Misfit => k_is)
    (case aC_NoTurn => k_is)
    (case aC_Nothing => k_is)
    (case aC_TooMany => k_is)
    (case a_is_image => k_is)
    (case l_is_image => k_is)
    (case c_is_image => k_is)
    (case k_is_image => k_is)
    (case a_law_pen => k_is)
    (case l_law_pen => k_is)
    (case c_law_pen => k_is)
    (case k_law_pen => k_is)
    (case a_law_draw => k_is)
    (case l_law_draw => k_is)
    (case c_law_draw => k_is)
    (case k_law_draw => k_is)
    (case a_law_pick => k_is)
    (case l_law_pick => k_is)
    (case c_law_pick => k_is)
    (case k_law_pick => k_is)
    (case a_law_next => k_is)
    (case l_law_next => k_is)
    (case c_law_next => k_is)
    (case k_law_next => k_is)
    (case a_law_heard => k_is)
    (case l_law_heard => k_is)
    (case c_law_heard => k_is)
    (case k_law_heard => k_is)
    (case a_law_images => k_is)
    (case l_law_images => k_is)
    (case c_law_images => k_is)
    (case k_law_images => k_is)
    (case a_law_end => k_is)
    (case l_law_end => k_is)
    (case c_law_end => k_is)
    (case k_law_end => k_is)
    (case a_law_right => k_is)
    (case l_law_right => k_is)
    (case c_law_right => k_is)
    (case k_law_right => k_is)
    (case a_law => k_is)
    (case l_law => k_is)
    (case c_law => k_is)
    (case k_law => k_is)
    (case m_Map_init => k_is)
    (case fn_Map_init => k_is)
    (case l_Map_init => k_is)
    (case c_Map_init => k_is)
    (case k_Map_init => k_is)
    (case cs => k_is)
    (case cr => k_is)
    (case cf => k_is)
    (case l_Map_same => k_is)
    (case c_Map_same => k_is)
    (case k_Map_same => k_is)
    (case m_Map_place => k_is)
    (case fn_Map_place => k_is)
    (case l_Map_place => k_is)
    (case c_Map_place => k_is)
    (case k_Map_place => k_is)
    (case m_Map_corner => k_is)
    (case fn_Map_corner => k_is)
    (case l_Map_corner => k_is)
    (case c_Map_corner => k_is)
    (case k_Map_corner => k_is)
    (case m_Map_face => k_is)
    (case fn_Map_face => k_is)
    (case l_Map_face => k_is)
    (case c_Map_face => k_is)
    (case k_Map_face => k_is)
    (case m_Map_then => k_is)
    (case fn_Map_then => k_is)
    (case l_Map_then => k_is)
    (case c_Map_then => k_is)
    (case k_Map_then => k_is)
    (case m_Map_back => k_is)
    (case fn_Map_back => k_is)
    (case l_Map_back => k_is)
    (case c_Map_back => k_is)
    (case k_Map_back => k_is)
    (case m_Map_len => k_is)
    (case fn_Map_len => k_is)
    (case l_Map_len => k_is)
    (case c_Map_len => k_is)
    (case k_Map_len => k_is)
    (case m_Map_eq => k_is)
    (case fn_Map_eq => k_is)
    (case l_Map_eq => k_is)
    (case c_Map_eq => k_is)
    (case k_Map_eq => k_is)
    (case pgM => k_is)
    (case hdM => k_is)
    (case poM => k_is)
    (case saM => k_is)
    (case haM => k_is)
    (case hnO => k_is)
    (case tkO => k_is)
    (case mrM => k_is)
    (case mkM => k_is)
    (case kpM => k_is)
    (case naM => k_is)
    (case rdM => k_is)
    (case gaM => k_is)
    (case xM => k_is)
    (case noM => first | kernel_rfl | rfl | decide +kernel)
    (case neM => k_is)
    (case nnM => k_is)
    (case nfM => k_is)
    (case nfL => k_is)
    (case kI => first | kernel_rfl | rfl | decide +kernel)
    (case kB => first | kernel_rfl | rfl | decide +kernel)
    (case kL => first | kernel_rfl | rfl | decide +kernel)
    (case kT => first | kernel_rfl | rfl | decide +kernel)
    (case kC_NoneType => first | kernel_rfl | rfl | decide +kernel)
    (case kC_bool => first | kernel_rfl | rfl | decide +kernel)
    (case kC_int => first | kernel_rfl | rfl | decide +kernel)
    (case kC_str => first | kernel_rfl | rfl | decide +kernel)
    (case kC_list => first | kernel_rfl | rfl | decide +kernel)
    (case kC_tuple => first | kernel_rfl | rfl | decide +kernel)
    (case kC_dict => first | kernel_rfl | rfl | decide +kernel)
    (case xL_BadValue => k_is)
    (case rf_BadValue => decide +kernel)
    (case sa_BadValue => k_is)
    (case eC_BadValue => k_is)
    (case tC_BadValue => k_is)
    (case kC_BadValue => k_is)
    (case np_BadValue => k_is)
    (case iI_BadValue => k_is)
    (case tI_BadValue => k_is)
    (case xga_BadValue => k_is)
    (case xgg_BadValue => k_is)
    (case xhd_BadValue => k_is)
    (case eha_BadValue => k_is)
    (case ehm_BadValue => k_is)
    (case l_BadValue_init => k_is)
    (case c_BadValue_init => k_is)
    (case k_BadValue_init => k_is)
    (case ex_BadValue => first | kernel_rfl | rfl | decide +kernel)
    (case kk_BadValue_BadPlan => first | kernel_rfl | rfl | decide +kernel)
    (case kk_BadValue_BadText => first | kernel_rfl | rfl | decide +kernel)
    (case kk_BadValue_BadCommand => first | kernel_rfl | rfl | decide +kernel)
    (case kk_BadValue_NoTurn => first | kernel_rfl | rfl | decide +kernel)
    (case kk_BadValue_TooMany => first | kernel_rfl | rfl | decide +kernel)
    (case kk_BadValue_BadValue => first | kernel_rfl | rfl | decide +kernel)
    (case xL_Misfit => k_is)
    (case rf_Misfit => decide +kernel)
    (case sa_Misfit => k_is)
    (case eC_Misfit => k_is)
    (case tC_Misfit => k_is)
    (case kC_Misfit => k_is)
    (case np_Misfit => k_is)
    (case iI_Misfit => k_is)
    (case tI_Misfit => k_is)
    (case xga_Misfit => k_is)
    (case xgg_Misfit => k_is)
    (case xhd_Misfit => k_is)
    (case eha_Misfit => k_is)
    (case ehm_Misfit => k_is)
    (case l_Misfit_init => k_is)
    (case c_Misfit_init => k_is)
    (case k_Misfit_init => k_is)
    (case ex_Misfit => first | kernel_rfl | rfl | decide +kernel)
    (case kk_Misfit_BadPlan => first | kernel_rfl | rfl | decide +kernel)
    (case kk_Misfit_BadText => first | kernel_rfl | rfl | decide +kernel)
    (case kk_Misfit_BadCommand => first | kernel_rfl | rfl | decide +kernel)
    (case kk_Misfit_NoTurn => first | kernel_rfl | rfl | decide +kernel)
    (case kk_Misfit_TooMany => first | kernel_rfl | rfl | decide +kernel)
    (case kk_Misfit_BadValue => first | kernel_rfl | rfl | decide +kernel)
    (case kk_Misfit_BadNumber => first | kernel_rfl | rfl | decide +kernel)
    (case kk_Misfit_BadPaper => first | kernel_rfl | rfl | decide +kernel)
    (case kk_Misfit_Misfit => first | kernel_rfl | rfl | decide +kernel)
    (case pr => k_is)
    (case pg => k_is)
    (case pa => k_is)
    (case nT => first | kernel_rfl | rfl | decide +kernel)
    (case cH => first | kernel_rfl | rfl | decide +kernel)
    (case z_isinstance => k_is)
    (case z_int => k_is)
    (case z_bool => k_is)
    (case z_list => k_is)
    (case z_tuple => k_is)
    (case z_len => k_is)
    (case z_all => k_is)
    (case z_range => k_is)
    (case z_sorted => k_is)
    (case z_enumerate => k_is)
    (case z_abs => k_is)
    (case z_repr => k_is)


