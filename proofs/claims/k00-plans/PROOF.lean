import PyProof.Rows.All
import Wide.All
import OpenK.AllK
import Wide.FinOn
import PyProof.EqAt
import PyProof.EqKinds
import PyProof.TupleCall
import HandS.ForExc
import HandS.Lambda
import HandS.EndTab
import HandS.HeadWalk
import HandS.TryMany
import HandS.ExcInit
import HandS.ExcField
import HandS.ClsMeth
import HandS.IsInst
import HandS.Wide
import HandS.Gcd
import HandS.OwnEq
import PyProof.InstNe
import HandS.ExcIs
import HandS.Iter
import HandS.Walk
import HandS.MakeKwOnly
import KE.GoesMore
import HandS.Style
import HandS.Conv
import HandS.SetFor
import HandS.SortInts
import HandS.Strs
import HandS.Zip
import PySem.Challenge.RW_otherdiagonal_k00_plans_made_and_compare
import HandS.RaiseMore
import HandS.TupMul
import HandS.ForMost
set_option Elab.async false
set_option linter.all false
set_option maxRecDepth 100000
set_option maxHeartbeats 2000000
/-! GA: what the hand layer lacks for laws that show nested data by repr, walk a list or a tuple, and name an own base class in __init__. -/
namespace OG
open PySem PySem.Spec PyProof.Rows L2

/-! ### room with known guards -/
structure RmG (k : Nat) (A : Around) : Prop where
  rm : Room k A
  gd : A.guards = some []
theorem RmG.mono {j k : Nat} {A : Around} (r : RmG k A) (h : j ≤ k) : RmG j A := ⟨r.rm.mono h, r.gd⟩
theorem RmG.deeper {k : Nat} {A : Around} (r : RmG (k + 1) A) (env : Env) : RmG k (A.deeper env) := ⟨r.rm.deeper env, r.gd⟩

/-- a def's promise, where nothing is being shown around the call -/
structure FnG (P : Program) (w : World) (K : PySem.W.Frag) (mg : Str → Option Value) (base : Heap) (CX : CXT) (k : Nat) (f : Addr) (fd : FuncData) (ps : List Str) (sp : Sp) : Prop where
  len : ∀ vs H Q E, sp vs H Q E → vs.length = ps.length
  run : ∀ (A : Around) (outer : List Env) (s : Shared) (H : Hp) (args : Args) (us : List Value) (vs : List V) (Q : VK) (E : XK),
    RmG k A → Env0 P w K mg base A outer s H → BindsTo s fd args (ps.zip us) → Vals vs us → sp vs H Q E →
    codeAny (model P w) A (.call (.ref f) args) (CR CX outer P w H s Q E) s

section
variable {P : Program} {w : World} {K : PySem.W.Frag} {mg : Str → Option Value} {base : Heap}
/-- a def by its body: the guards are told to the body -/
theorem Fun_okG {CX : CXT} {x qual : Str} {st : Stmt} {f : Addr} {fd : FuncData} {N ps : List Str} {k : Nat} {sp : Sp} (F : Fun K x qual st f fd) (S : FnScope N ps (defScope st))
    (len : ∀ vs H Q E, sp vs H Q E → vs.length = ps.length)
    (hbody : ∀ (cdv : Value) (A : Around) (outer : List Env) (s : Shared) (H : Hp) (vs : List V) (Q : VK) (E : XK),
      RmG k (A.deeper (envOfC qual (defScope st) s.heap.objs.size f cdv)) → PySem.W.codeIn K cdv qual = true → (∃ oc od kV doc pm an ct osl, K.lookup f = some ⟨oc, od, .func (PySem.W.fnOf x qual (defArgs st) (defBody st) (defScope st) .none kV doc pm an cdv ct), osl⟩) → sp vs H Q E →
      ∃ t, PSs (cxOf CX P w K mg base N qual (defScope st) f cdv A outer s H E) (defBody st) t ∧ t { nx := fun _ H' => Q .non H', rt := Q } (start N vs) H) :
    FnG P w K mg base CX (k + 1) f fd ps sp := by
  obtain ⟨oc, od, kV, doc, pm, an, cdv, ct, osl, rfl, lk, hcd⟩ := F.ex
  refine ⟨len, fun A outer s H args us vs Q E hr e0 hb r hsp => ?_⟩
  have hl := len _ _ _ _ hsp
  have KX : K.In s.heap := e0.mod.kin.keeps fun b o e => (e0.bs b o e).1
  have lim : s.heap.NoLimit := e0.mod.nolimit.keeps fun b o e => (e0.bs b o e).1
  have hkind : ∀ y ∈ ps.zip us, (defScope st).names.lookup y.1 = some .local ∨ ((defScope st).names.lookup y.1 = some .cell ∧ ((cellsFrom (s.heap.objs.size + 1) (defScope st).names []).lookup y.1).isSome = true) := by
    intro ⟨n, v⟩ hy
    rcases S.par n (List.of_mem_zip hy).1 with q | q
    · exact .inl q
    · exact .inr ⟨q, PySem.W.cellsFrom_some _ _ _ (.inl q)⟩
  refine codeAny_call_function hr.rm.depth (KX _ _ lk) rfl S.co S.gen rfl (PySem.W.codeRec_of KX hcd) (hb _ _ _ _ ?_)
  refine wpAny_newFunctionEnv_cells S.kind hkind fun env he s1 x => ?_
  subst he
  refine ⟨lim.keeps x.toInCall.keep, codeAny_func ?_⟩
  obtain ⟨t, ht, hq⟩ := hbody cdv A outer s H vs Q E (hr.deeper _) hcd ⟨_, _, _, _, _, _, _, _, lk⟩ hsp
  have I := inv_start (CX := CX) (E := E) (f := f) (cd := cdv) (qual := qual) S hr.rm.hd e0 hl r x
  refine wpAny_mono (ht.run [] s1 (start N vs) H _ I hq) (fun fl s' hs => ?_) fun e s' hs => hs
  cases fl with
  | ret u =>
    obtain ⟨v, σ', H', J, rv, q⟩ := hs
    exact ⟨v, H', J.os, J.bare, J.base, J.hok, rv, q⟩
  | next =>
    obtain ⟨σ', H', J, q⟩ := hs
    exact ⟨V.non, H', J.os, J.bare, J.base, J.hok, rfl, q⟩
  | brk =>
    obtain ⟨_, _, _, q⟩ := hs
    exact False.elim q
  | cont =>
    obtain ⟨_, _, _, q⟩ := hs
    exact False.elim q
end

section
variable {X : Cx} {CX : CXT} {k : Nat} {f : Addr} {fd : FuncData} {ps : List Str} {sp : Sp} {dvs : List V} {ds : List Value} {E : XK} {x : Str} {p pos : Pos} {e : Expr} {es : List Expr} {t : TA}
/-- f(e, ..) of such a def -/
theorem pe_callG (F : FnG X.prog X.w X.K X.mg X.base CX k f fd ps sp) (hr : RmG k X.A) (hg : Gl X x) (hm : X.mg x = some (.ref f)) (hk : PySem.W.keepIn X.K (.ref f) = true) (hb : Binds X.K fd ps ds) (hd : Vals dvs ds) (hx : Passes CX X E)
    (ha : PA X (e :: es) t) (hdb : (x == ("__debug__" : Str)) = false := by decide) (he : starEach (e :: es) X.env = (false, eval e X.env) :: starEach es X.env := by rfl) (hpl : (backTo pos (starEach es X.env)).any (·.1) = false := by rfl) :
    PE X (.Call (.Name x p) (e :: es) [] pos) (tCall sp dvs E t) := by
  refine ⟨fun pins s σ H Q I h => ?_⟩
  refine wpAny_Call_Name_kw (ld_glob I hg hm ?_ hdb)
  refine PySem.W.callWith_K (h₀ := X.base) I.ok.mod.kin hk (thn (ha.run pos pins s σ H _ I h) fun us s1 ⟨vs, H1, I1, r, q⟩ => ⟨I1.kIn, ?_⟩) he hpl
  have r2 : Vals (vs ++ dvs) (us ++ ds) := r.append hd
  have hl : (us ++ ds).length = ps.length := by
    rw [← r2.length]
    exact F.len _ _ _ _ q
  refine wpAny_call (codeAny_mono (F.run X.A X.stack s1 H1 ⟨us, []⟩ (us ++ ds) (vs ++ dvs) Q E hr I1.env0 (hb s1 us I1.kIn hl) r2 q) fun r s' hq => ?_)
  cases r with
  | error er => exact hx pins σ H1 s1 er s' I1 hq
  | ok fl =>
    cases fl with
    | ret u => exact I1.after hq
    | next => exact False.elim hq
    | brk => exact False.elim hq
    | cont => exact False.elim hq
end

/-! ### repr of nested data -/
/-- repr(x), x a list or a tuple of data -/
def rRepr (K : PySem.W.Frag) : List V → Hp → VK → Prop := fun xs H Q => ∃ (a : Addr) (d : PyData), xs = [.ref a] ∧ Dp K H (.ref a) d ∧ d.showable = true ∧ d.hasDict = false ∧ d.depth ≤ 64 ∧ d.shown.length ≤ sizeLine ∧ Q (.str d.shown) H
theorem call_repr {X : Cx} (hg : X.A.guards = some []) (hu : X.A.units + 65 < cLine) : CallR X (.builtin "repr") (rRepr X.K) := by
  intro pins s σ H xs us Q I r h
  obtain ⟨a, d, rfl, hd, hs, hn, hdp, hz, q⟩ := h
  obtain ⟨u, rfl, ru⟩ := vals1 r
  obtain rfl : u = Value.ref a := ru
  obtain ⟨as, rd⟩ := Dp.reads I d _ _ hd rfl
  refine repr_of_reads' rd hs (PyData.noDict_hsm hn) hg (by omega) (fun _ _ e => e) (fun h' u tk hk => ?_) hz
  exact ⟨.str d.shown, H, I.kept hk, ⟨_, rfl⟩, q⟩

/-! ### an own base class named in __init__: B.__init__(self, ..) where B has ValueError's -/
structure BaseC (K : PySem.W.Frag) (B : Addr) (mc : Value) : Prop where
  rd : PySem.W.readsIn K B mc = true
  ga : PySem.W.specialIn K (.ref B) "__getattribute__" = some (some (.builtin "type.__getattribute__"))
  at_ : PySem.W.findCls K (.ref B) mc "__init__" = some (.val (.builtin "ValueError.__init__"))
theorem pe_binit {X : Cx} {e : Expr} {es : List Expr} {ta : TA} {p1 p2 pos : Pos} {x : Str} {B : Addr} {mc : Value} {pl : Sem Bool} (T : BaseC X.K B mc) (hg : Gl X x) (hm : X.mg x = some (.ref B)) (ha : PA X (e :: es) ta)
    (hc : eval (.Call (.Attribute (.Name x p1) "__init__" p2) (e :: es) [] pos) X.env = (do
      let ov ← eval (.Name x p1) X.env
      standAt p2.atName
      let (f, first) ← holding [ov] (getMethod ov "__init__" pl)
      callWith pos f first (backTo pos (starEach (e :: es) X.env)) (backToKw pos (keywordEach [] X.env))) := by rfl)
    (hdb : (x == ("__debug__" : Str)) = false := by decide)
    (he : starEach (e :: es) X.env = (false, eval e X.env) :: starEach es X.env := by rfl) (hpl : (backTo pos (starEach es X.env)).any (·.1) = false := by rfl) :
    PE X (.Call (.Attribute (.Name x p1) "__init__" p2) (e :: es) [] pos) (tVeI X.K ta) := by
  refine ⟨fun pins s σ H Q I h => ?_⟩
  refine PySem.W.methodCall_KW (ld_glob I hg hm ?_ hdb) hc
  refine PySem.W.method_cls I.kIn T.ga (PySem.W.cls_value I.kIn T.rd T.at_ (by rfl) ?_)
  show wpAny _ _ (callWith pos (Value.builtin "ValueError.__init__") [] (backTo pos (starEach (e :: es) X.env)) []) _ _ _
  refine PyProof.Rows.callWith_method1 (thn (ha.run pos pins _ σ H _ (I.tok _) h) fun us s1 ⟨vs, H1, I1, r1, a, C, ws, ev, hl, T, ea, q⟩ => ?_) he hpl
  subst ev
  cases r1 with
  | @cons _ u0 _ ur ra rw' =>
    obtain rfl : u0 = Value.ref a := ra
    have hlen : ur.length ≤ sizeLine := by
      rw [← Paired.length rw', sizeLine_eq]
      omega
    exact oinit_ok T I1 ea hlen fun s' J => ⟨.non, H1, J, rfl, q⟩

/-! ### a list or a tuple, walked -/
def SqS (K : PySem.W.Frag) (H : Hp) (a : Addr) (xs : List V) : Prop := SqL K H a xs ∨ SqT K H a xs
def iSeq (K : PySem.W.Frag) (tl : TE) : TI := fun σ H R => tl σ H fun x H1 => ∃ a, x = .ref a ∧ (((∃ xs, SqL K H1 a xs) ∧ R (Itl K a) H1) ∨ ((∃ xs, SqT K H1 a xs) ∧ R (Itt K a) H1))
theorem pi_seq {X : Cx} {tg l : Expr} {tl : TE} (hl : PE X l tl) : PI X tg l (iSeq X.K tl) := by
  refine ⟨fun pins s σ H R I h => ?_⟩
  refine thn (hl.run pins s σ H _ I h) fun v s1 ⟨x, H1, I1, r1, q1⟩ => ?_
  obtain ⟨a, e, q⟩ := q1
  subst e
  cases r1
  have hfp : ∀ b ∈ [s1.heap.objs.size], FpOk X pins H1 b := fun b hb => by
    have e : b = s1.heap.objs.size := by simpa using hb
    subst e
    exact I1.fpOk (Nat.le_refl _) (I1.hok.fresh (Nat.le_refl _))
  rcases q with ⟨⟨xs, hq⟩, q⟩ | ⟨⟨xs, hq⟩, q⟩
  · obtain ⟨its, rv, p, hz⟩ := I1.list hq
    refine wpAny_pyIter_list p.isList ?_
    exact ⟨s1.heap.objs.size, [s1.heap.objs.size], _, _, H1, rfl, I1.kept (t' := s1.toks) fun b o e => Heap.get?_push_of_some _ e, turn_list a _, ⟨_, Heap.get?_push_size _ rfl, rfl, rfl⟩, hfp, q⟩
  · obtain ⟨its, rv, p, hz⟩ := I1.tuple hq
    refine wpAny_pyIter_tuple (show s1.heap.IsTuple a its.toArray from p) ?_
    exact ⟨s1.heap.objs.size, [s1.heap.objs.size], _, _, H1, rfl, I1.kept (t' := s1.toks) fun b o e => Heap.get?_push_of_some _ e, turn_tuple a _, ⟨_, Heap.get?_push_size _ rfl, rfl, rfl⟩, hfp, q⟩
end OG


set_option Elab.async false
set_option linter.all false
set_option maxRecDepth 100000
set_option maxHeartbeats 2000000
/-! GB: several clauses «except X as n», each with its suite. -/
namespace OG
open PySem PySem.Spec PyProof.Rows L2

/-- behind a suite the clause's name is gone -/
def Ends.drop (i : Nat) (D : Ends) : Ends :=
  { nx := fun σ H => D.nx (σ.set i none) H, rt := D.rt, bk := fun σ H => D.bk (σ.set i none) H, ct := fun σ H => D.ct (σ.set i none) H }
/-- the clauses' wishes, one after the other: class, slot of the name, the suite's reading -/
def wNs (K : PySem.W.Frag) (Wout : WX) (D : Ends) : List (Value × Nat × (Addr → Value → Option Addr → TS)) → WX
  | [] => Wout
  | (c, i, ts) :: r => fun cls d σ H => ∃ b, PySem.W.exmOne K cls c = some b ∧ (b = true → ∀ a, H a = none → ts a cls d (Ends.drop i D) (σ.set i (some (.ref a))) H) ∧ (b = false → wNs K Wout D r cls d σ H)
inductive HdsN (X : Cx) : List ExceptHandler → List (Value × Nat × (Addr → Value → Option Addr → TS)) → Prop
  | nil : HdsN X [] []
  | cons {x n : Str} {c : Value} {i : Nat} {ts : Addr → Value → Option Addr → TS} {b₀ : Stmt} {suite : List Stmt} {np pos' : Pos} {hds : List ExceptHandler} {l : List (Value × Nat × (Addr → Value → Option Addr → TS))}
      (hi : X.N[i]? = some n) (hln : X.env.kindOf n = some .local) (hc : Names X x c)
      (hsu : ∀ (a : Addr) (oe : Obj) (cls : Value) (d : Option Addr) (pn : List (Addr × Obj)), Zc cls d oe → (∃ vs, oe.data = .fields vs) → PSs (X.suite a ((a, oe) :: pn)) (b₀ :: suite) (ts a cls d))
      (r : HdsN X hds l) : HdsN X (.ExceptHandler (some (.Name x np)) (some n) (b₀ :: suite) pos' :: hds) ((c, i, ts) :: l)

section
variable {X : Cx} {body : List Stmt} {h₀ : ExceptHandler} {hds : List ExceptHandler} {l : List (Value × Nat × (Addr → Value → Option Addr → TS))} {pos : Pos} {tb : WX → TS} {Wout : WX}
theorem ps_try_ns (hs : X.stack = X.env :: X.outer) (hf : X.env.frame = some X.env.locals) (hN : X.N.Nodup) (tk : Takes X Wout)
    (hb : ∀ (W : WX) (pn : List (Addr × Obj)) (xe : Value → Shared → Prop), Takes (X.tr pn xe) W → PassesOwn (model X.prog X.w) X.A X.env xe → PSs (X.tr pn xe) body (tb W))
    (hh : HdsN X (h₀ :: hds) l) : PS X (.Try body (h₀ :: hds) [] [] pos) (fun D σ H => tb (wNs X.K Wout D l) D σ H) := by
  refine ⟨fun pins s σ H D I h => ?_⟩
  have ok := I.ok
  have hfr : X.A.frames = some (X.env :: X.outer) := by rw [ok.frames, hs]
  refine wpAny_Try_except ?_
  refine wpAny_mono ((hb (wNs X.K Wout D l) (X.pn ++ pins) (fun e s₁ => wpAny (model X.prog X.w) X.A (noteFrame e X.env) (fun _ s₂ => wpAny (model X.prog X.w) X.A (setFlight e none) (fun _ s₃ =>
    wpAny (model X.prog X.w) X.A (handleBy e X.env (h₀ :: hds)) (SP X pins D) X.xe s₃) X.xe s₂) X.xe s₁) (fun u s' xx => ?_) PassesOwn.looking).run [] s σ H D (I.toTry _) h) (fun f s1 hsp => ?_) (fun e s1 he => he)
  · obtain ⟨a, B, sI, pins', σ', H', cls, d, rfl, J', nb, up, sky, na, os, ag, w⟩ := xx
    have J : Inv X pins σ' H' sI := J'.ofTry ok
    have sky' : Sky B (X.env :: X.outer) a (Zc cls d) X.env.locals s'.heap := by rw [← hs]; exact sky
    show wpAny (model X.prog X.w) X.A (noteFrame (.ref a) X.env) _ _ _
    refine Sky.land Zc.steady hfr hf sky' fun h3 fl3 up3 => ?_
    have J3 : Inv X pins σ' H' { s' with heap := h3 } := J.landed nb fl3.1 (up.trans up3) os ag
    obtain ⟨oe3, vs3, he3, hz3, hd3⟩ := fl3.there
    have nfr : a ∉ frs (X.env :: X.outer) := fun hm => by
      obtain ⟨_, o', e', hnf⟩ := fl3.2.2.1.mem hm
      rw [he3] at e'; cases e'
      exact hnf _ hd3
    have nL : a ≠ X.env.locals := fun z => nfr (List.mem_filterMap.mpr ⟨X.env, List.mem_cons_self, by rw [hf, z]⟩)
    have nF : a ∉ X.fs := fun hm => by
      obtain ⟨e, he, q⟩ := List.mem_filterMap.mp hm
      exact nfr (List.mem_filterMap.mpr ⟨e, List.mem_cons_of_mem _ he, q⟩)
    have S3 := J3.suite he3 hd3 na nL nF
    have go : ∀ {hds' : List ExceptHandler} {l' : List (Value × Nat × (Addr → Value → Option Addr → TS))}, HdsN X hds' l' → wNs X.K Wout D l' cls d σ' H' →
        wpAny (model X.prog X.w) X.A (handleBy (.ref a) X.env hds') (SP X pins D) X.xe { s' with heap := h3 } := by
      intro hds' l' hk
      induction hk with
      | nil =>
        intro w
        refine wpAny_handleBy_nil ?_
        obtain ⟨k1, k2, k3, oe, vs, T, oT, ts', he, hz, hd, h1, hr⟩ := id fl3
        unfold PySem.passOn
        refine wpAny_bind (wpAny_field he hd h1 ?_)
        rw [if_neg (show ¬ ((Value.ref T == Value.none) = true) from by simp)]
        have fin : wpAny (model X.prog X.w) X.A (setFlight (.ref a) X.env.frame) (fun _ s4 => wpAny (model X.prog X.w) X.A (throw (.ref a) : Sem Flow) (SP X pins D) X.xe s4) X.xe { s' with heap := h3 } := by
          rw [hf]
          refine HandSPX.setFlight_upZ fl3 fun h4 hh4 up4 => wpAny_throw (tk _ _ ?_)
          exact ⟨a, B, sI, pins, σ', H', cls, d, rfl, J, nb, (up.trans up3).trans up4, .inr (.inr (by rw [hs]; exact hh4)), na, os, ag, w⟩
        first
          | exact wpAny_bind (wpAny_pure (wpAny_bind fin))
          | exact wpAny_bind fin
      | @cons x n c i ts b₀ suite np pos' hds2 l2 hi hln hc hsu r ih =>
        intro w
        obtain ⟨b, hb1, hyes, hno⟩ := w
        refine wpAny_handleBy_cons (codeAny_handlers_test ?_) (by intro q; cases q)
        have LT : PySem.W.Looks (model X.prog X.w) h3 (typeOf (.ref a)) cls := fun A Q E s k q => wpAny_typeOf_ref (k _ _ he3) (by rw [hz3.1]; exact q)
        have LM := PySem.W.exm_one (M := model X.prog X.w) (J3.kIn) LT hb1
        have test : ∀ {Q : Value → Shared → Prop} {E : Value → Shared → Prop}, Q c { s' with heap := h3 } → wpAny (model X.prog X.w) (X.A.mark (some (.ref a))) (eval (.Name x np) X.env) Q E { s' with heap := h3 } := fun {Q E} q => by
          obtain ⟨hg, hdbg, hm | ⟨hm, hv, hnn⟩⟩ := hc
          · exact ld_glob (X := X.suite a ((a, oe3) :: (X.pn ++ pins))) S3 hg hm q hdbg
          · exact ld_blt (X := X.suite a ((a, oe3) :: (X.pn ++ pins))) S3 hg hm hv q hnn hdbg
        refine test (LM.here ?_)
        cases b with
        | true =>
          refine codeAny_handlers_suite_as ?_
          refine HandSPX.lands_againZ fl3 fun h4 fl4 up4 => ?_
          have J4 : Inv X pins σ' H' { s' with heap := h4 } := J.landed nb fl4.1 ((up.trans up3).trans up4) os ag
          obtain ⟨oe4, vs4, he4, hz4, hd4⟩ := fl4.there
          have S4 := J4.suite he4 hd4 na nL nF
          refine store_ok (X := X.suite a ((a, oe4) :: (X.pn ++ pins))) (v := .ref a) S4 hN hi (.inl hln) rfl (fun s5 S5 => ?_) (.inr hln)
          refine wpAny_mono ((hsu a oe4 cls d (X.pn ++ pins) hz4 ⟨_, hd4⟩).run [] s5 _ H' _ S5 (hyes rfl a na)) (fun f s6 hsp => ?_) (fun _ _ z => False.elim z)
          have end_ : ∀ {σ6 : L2.St} {H6 : Hp} {Q : Shared → Prop}, Inv (X.suite a ((a, oe4) :: (X.pn ++ pins))) [] σ6 H6 s6 → (∀ s7, Inv X pins (σ6.set i none) H6 s7 → Q s7) →
              wpAny (model X.prog X.w) X.A (do bindName X.env n .none; unbindBehindTheSuite X.env n pos') (fun _ s7 => Q s7) X.xe s6 := fun {σ6 H6 Q} S6 hq => gone_ok (S6.unsuite ok) hN hi hln hq
          cases f with
          | next =>
            obtain ⟨σ6, H6, S6, q6⟩ := hsp
            exact end_ S6 fun s7 J7 => ⟨_, _, J7, q6⟩
          | brk =>
            obtain ⟨σ6, H6, S6, q6⟩ := hsp
            exact end_ S6 fun s7 J7 => ⟨_, _, J7, q6⟩
          | cont =>
            obtain ⟨σ6, H6, S6, q6⟩ := hsp
            exact end_ S6 fun s7 J7 => ⟨_, _, J7, q6⟩
          | ret u =>
            obtain ⟨v6, σ6, H6, S6, r6, q6⟩ := hsp
            exact end_ S6 fun s7 J7 => ⟨_, _, _, J7, r6, q6⟩
        | false =>
          show wpAny _ X.A (handleBy (.ref a) X.env hds2) _ _ _
          exact ih (hno rfl)
    exact go hh w
  · cases f with
    | next =>
      obtain ⟨σ', H', J', q⟩ := hsp
      exact wpAny_execs_nil ⟨σ', H', J'.ofTry ok, q⟩
    | brk =>
      obtain ⟨σ', H', J', q⟩ := hsp
      exact ⟨σ', H', J'.ofTry ok, q⟩
    | cont =>
      obtain ⟨σ', H', J', q⟩ := hsp
      exact ⟨σ', H', J'.ofTry ok, q⟩
    | ret u =>
      obtain ⟨v, σ', H', J', r, q⟩ := hsp
      exact ⟨v, σ', H', J'.ofTry ok, r, q⟩
end
end OG


set_option Elab.async false
set_option linter.all false
set_option maxRecDepth 100000
set_option maxHeartbeats 2000000
/-! GC: a lambda with one parameter that has an int for its default, handed to a def that calls it without arguments. -/
namespace OG
open PySem PySem.Spec PyProof.Rows L2 LamX

/-- the made function's record; dV: its defaults -/
abbrev ldFd (qual : Str) (params : Arguments) (body : Expr) (scope : Scope) (cl : List (Str × Addr)) (dV pm cdv ct : Value) : FuncData :=
  { name := "<lambda>", qualname := qual, params, body := .expr body, scope, globals := mainGlobals, closure := cl, defaults := dV, kwdefaults := .none, doc := .none, pyModule := pm, annotations := none, code := cdv, closureTuple := ct, builtins := builtinsNs }
abbrev ldObj (qual : Str) (params : Arguments) (body : Expr) (scope : Scope) (clos : List (Str × Addr)) (dV pm : Value) (c' : Addr) (ctv : Value) : Obj :=
  { cls := .type "function", data := .func (ldFd qual params body scope clos dV pm (.ref c') ctv) }

section
variable {M : Model} {A : Around} {E : Value → Shared → Prop} {s : Shared} {qual : Str} {params : Arguments} {body : Expr} {scope : Scope} {env : Env} {c P : Addr} {ps : Array Value} {pos : Pos} {firstLine : Nat} {mg : Str → Option Value}
  {clos : List (Str × Addr)} {dV : Value} {Q : Value → Shared → Prop}
theorem ld_tail (hcl : closureFor scope env = pure clos) (hge0 : env.globals = mainGlobals) (hg : s.heap.Ns mainGlobals mg) (hcode : env.code = .ref c) (C : PySem.W.CodeHd s.heap c P) (hP : s.heap.get? P = some (PySem.W.tabObj ps)) (ht : TriplesOk ps.toList)
    (hnf : codeAmong pos ps.toList = none) (hgP : mainGlobals ≠ P) (hb : s.heap.BuiltinsAt mg P)
    (h : ∀ c' ctv h' tk, Heap.ExtBut P s.heap h' → s.heap.objs.size ≤ c' → c' < h'.objs.size → h'.CodeRec (.ref c') qual → h'.get? P = some (PySem.W.tabObj (ps ++ #[rawInt pos.line, rawInt pos.col, .ref c'])) →
      Q (.ref h'.objs.size) { s with heap := h'.push (ldObj qual params body scope clos dV ((mg "__name__").getD .none) c' ctv), toks := tk }) :
    wpAny M A (makeTail "<lambda>" qual params (.expr body) scope env dV .none none pos firstLine) Q E s := by
  obtain ⟨bm, ob, hbm, hne0, _, hneP, hbo, hcls, hdict, hdata⟩ := hb
  unfold makeTail
  rw [hcl, hge0]
  refine wpAny_bind (wpAny_pure ?_)
  cases clos with
  | nil =>
    simp only [List.isEmpty_nil, if_true]
    refine wpAny_bind (wpAny_pure ?_)
    refine wpAny_bind (wpAny_functionCodeX hcode (C.code hP ht) (C.tab hP) hnf fun c' h' tk hx hge hlt _ hrec htb _ => ?_)
    have hg' := hg.extBut hx hgP
    refine wpAny_bind (wpAny_builtinsFor hg' hbm hne0 (hx _ _ hneP hbo) hcls hdict hdata ?_)
    refine wpAny_bind (wpAny_nsGet hg' ?_)
    exact wpAny_bind (wpAny_pure (wpAny_newObj_type (h c' .none h' tk hx hge hlt hrec htb.2) (by size_fits)))
  | cons q r =>
    simp only [List.isEmpty_cons, Bool.false_eq_true, if_false]
    refine wpAny_bind (wpAny_newTextTuple ?_)
    refine wpAny_bind (wpAny_functionCodeX hcode ((C.keeps fun b o e => Heap.get?_push_of_some _ e).code (Heap.get?_push_of_some _ hP) ht) ((C.keeps fun b o e => Heap.get?_push_of_some _ e).tab (Heap.get?_push_of_some _ hP)) hnf fun c' h' tk hx hge hlt _ hrec htb _ => ?_)
    have hg' := (hg.push _).extBut hx hgP
    have hx' : Heap.ExtBut P s.heap h' := fun b o hb' e => hx b o hb' (Heap.get?_push_of_some _ e)
    have hge' : s.heap.objs.size ≤ c' := Nat.le_trans (by rw [Heap.size_push]; omega) hge
    refine wpAny_bind (wpAny_builtinsFor hg' hbm hne0 (hx' _ _ hneP hbo) hcls hdict hdata ?_)
    refine wpAny_bind (wpAny_nsGet hg' ?_)
    exact wpAny_bind (wpAny_pure (wpAny_newObj_type (h c' _ h' tk hx' hge' hlt hrec htb.2) (by size_fits)))
theorem ld_tailHit {c1 : Addr} (hcl : closureFor scope env = pure clos) (hge0 : env.globals = mainGlobals) (hg : s.heap.Ns mainGlobals mg) (hcode : env.code = .ref c) (C : PySem.W.CodeHd s.heap c P) (hP : s.heap.get? P = some (PySem.W.tabObj ps)) (ht : TriplesOk ps.toList)
    (hf : codeAmong pos ps.toList = some (.ref c1)) (hb : s.heap.BuiltinsAt mg P)
    (h : ∀ (ctv : Value) (h' : Heap) (tk : Tok), (∀ b o, s.heap.get? b = some o → h'.get? b = some o) → s.heap.objs.size ≤ h'.objs.size →
      Q (.ref h'.objs.size) { s with heap := h'.push (ldObj qual params body scope clos dV ((mg "__name__").getD .none) c1 ctv), toks := tk }) :
    wpAny M A (makeTail "<lambda>" qual params (.expr body) scope env dV .none none pos firstLine) Q E s := by
  obtain ⟨bm, ob, hbm, hne0, _, hneP, hbo, hcls, hdict, hdata⟩ := hb
  unfold makeTail
  rw [hcl, hge0]
  refine wpAny_bind (wpAny_pure ?_)
  cases clos with
  | nil =>
    simp only [List.isEmpty_nil, if_true]
    refine wpAny_bind (wpAny_pure ?_)
    refine wpAny_bind (wpAny_functionCode_hit hcode (C.code hP ht) hf ?_)
    refine wpAny_bind (wpAny_builtinsFor hg hbm hne0 hbo hcls hdict hdata ?_)
    refine wpAny_bind (wpAny_nsGet hg ?_)
    exact wpAny_bind (wpAny_pure (wpAny_newObj_type (h .none s.heap s.toks (fun _ _ e => e) (Nat.le_refl _)) (by size_fits)))
  | cons q r =>
    simp only [List.isEmpty_cons, Bool.false_eq_true, if_false]
    refine wpAny_bind (wpAny_newTextTuple ?_)
    refine wpAny_bind (wpAny_functionCode_hit hcode ((C.keeps fun b o e => Heap.get?_push_of_some _ e).code (Heap.get?_push_of_some _ hP) ht) hf ?_)
    refine wpAny_bind (wpAny_builtinsFor (hg.push _) hbm hne0 (Heap.get?_push_of_some _ hbo) hcls hdict hdata ?_)
    refine wpAny_bind (wpAny_nsGet (hg.push _) ?_)
    have hsz : ∀ oT : Obj, s.heap.objs.size ≤ (s.heap.push oT).objs.size := fun oT => by rw [Heap.size_push]; omega
    exact wpAny_bind (wpAny_pure (wpAny_newObj_type (h _ _ s.toks (fun b o e => Heap.get?_push_of_some _ e) (hsz _)) (by size_fits)))
end

section
variable {X : Cx} {pins : List (Addr × Obj)} {σ : L2.St} {H HZ : Hp} {s s1 : Shared}
/-- the lambda's function object with defaults dV is made: its code object is new, or found in the table -/
theorem ld_fun {T : List (Addr × Str)} {c P : Addr} {params : Arguments} {body : Expr} {scope : Scope} {pos : Pos} {dV : Value} {E : Value → Shared → Prop} {Q : Value → Shared → Prop} (I : Inv X pins σ H s) (TB : TabB X.base X.mg c P) (hcode : X.env.code = .ref c)
    (hm : (P, X.env.qual ++ "<lambda>") ∈ T) (hu : ∀ p ∈ T, p.1 = P → p.2 = X.env.qual ++ "<lambda>") (hT : Tabs T H) (hfree : ∀ y ∈ scope.names, y.2 = .free → ∃ c, X.env.cells.lookup y.1 = some c)
    (h : ∀ (f c' : Addr) (pm ctv : Value) (H1 : Hp) (s' : Shared), Inv X pins σ H1 s' → ExtN H H1 → Tabs T H1 →
      s'.heap.get? f = some (ldObj (X.env.qual ++ "<lambda>") params body scope (cloFrom X.env.cells scope.names []) dV pm c' ctv) → H1 f = none → f ∉ frs X.stack → H1 c' = some (CodeO c' (X.env.qual ++ "<lambda>")) → Q (.ref f) s') :
    wpAny (model X.prog X.w) X.A (makeTail "<lambda>" (X.env.qual ++ "<lambda>") params (.expr body) scope X.env dV .none none pos pos.line) Q E s := by
  obtain ⟨ps, hP, ht, ha⟩ := hT _ hm
  have bP : s.heap.BuiltinsAt X.mg P := TB.bm.keeps I.bk
  have hP' : s.heap.get? P = some { cls := .none, data := .fields ps } := I.hok P _ hP
  have nofr : ∀ f, s.heap.objs.size ≤ f → f ∉ frs X.stack := fun f hf z => by
    rcases List.mem_cons.mp (I.stkSub _ z) with e | e
    · have h1 := I.lt
      rw [← e] at h1
      exact Nat.lt_irrefl _ (Nat.lt_of_lt_of_le h1 hf)
    · exact I.nofs hf e
  cases hc : codeAmong pos ps.toList with
  | none =>
    refine ld_tail (mg := X.mg) (c := c) (P := P) (ps := ps) (closure_ok hfree) I.ok.glob (I.mod.glob.keeps I.bk) hcode (TB.code.keeps I.bk) hP' ht hc TB.gP bP fun c' ctv h' tk hx hge hlt hrec htb => ?_
    obtain ⟨c2, oc, vs, t, e2, hoc, hd, hv⟩ := hrec
    cases e2
    have hsz : s.heap.objs.size ≤ h'.objs.size := Nat.le_trans hge (Nat.le_of_lt hlt)
    have nC : H c' = none := I.hok.fresh hge
    have I1 := inv_table (t' := tk) (more := #[rawInt pos.line, rawInt pos.col, .ref c']) (h' := h'.push (ldObj (X.env.qual ++ "<lambda>") params body scope (cloFrom X.env.cells scope.names []) dV ((X.mg "__name__").getD .none) c' ctv)) I hP
      (fun b o hb e => Heap.get?_push_of_some _ (hx b o hb e)) (Heap.get?_push_of_some _ htb) hge ⟨oc, vs, t, Heap.get?_push_of_some _ hoc, hd, hv⟩
    have hE : ExtN H (upd (upd H P (.tbl (ps ++ #[rawInt pos.line, rawInt pos.col, .ref c']))) c' (CodeO c' (X.env.qual ++ "<lambda>"))) := fun b o e n => by
      rw [upd_ne (ne_of_none e nC), upd_ne (fun z => n ps (Option.some.inj (e.symm.trans (by rw [z]; exact hP))))]
      exact e
    have eL : (ps ++ #[rawInt pos.line, rawInt pos.col, .ref c']).toList = ps.toList ++ [rawInt pos.line, rawInt pos.col, .ref c'] := by simp
    refine h h'.objs.size c' ((X.mg "__name__").getD .none) ctv _ _ I1 hE (fun p hp => ?_) (Heap.get?_push_size _ rfl) ?_ (nofr _ hsz) upd_same
    · by_cases hb : p.1 = P
      · rw [hu p hp hb, hb]
        refine ⟨_, by rw [upd_ne (ne_of_none hP nC), upd_same], by rw [eL]; exact PySem.TriplesOk_snoc _ _ _ _ ht, fun p' cv hcv => ?_⟩
        rw [eL] at hcv
        rcases among_app _ ht hcv with z | z
        · obtain ⟨c0, e1, e2⟩ := ha p' cv z
          exact ⟨c0, e1, hE _ _ e2 codeO_ne⟩
        · exact ⟨c', z, upd_same⟩
      · obtain ⟨ps', a1, a2, a3⟩ := hT p hp
        refine ⟨ps', by rw [upd_ne (ne_of_none a1 nC), upd_ne hb]; exact a1, a2, fun p' cv hcv => ?_⟩
        obtain ⟨c0, e1, e2⟩ := a3 p' cv hcv
        exact ⟨c0, e1, hE _ _ e2 codeO_ne⟩
    · have n1 : h'.objs.size ≠ c' := Nat.ne_of_gt hlt
      have n2 : h'.objs.size ≠ P := Nat.ne_of_gt (Nat.lt_of_lt_of_le (Heap.lt_size hP') hsz)
      rw [upd_ne n1, upd_ne n2]
      exact I.hok.fresh hsz
  | some cv =>
    obtain ⟨c', e, hco⟩ := ha pos cv hc
    subst e
    refine ld_tailHit (mg := X.mg) (c := c) (P := P) (ps := ps) (closure_ok hfree) I.ok.glob (I.mod.glob.keeps I.bk) hcode (TB.code.keeps I.bk) hP' ht hc bP fun ctv h' tk hx hsz => ?_
    have I1 : Inv X pins σ H { s with heap := h'.push (ldObj (X.env.qual ++ "<lambda>") params body scope (cloFrom X.env.cells scope.names []) dV ((X.mg "__name__").getD .none) c' ctv), toks := tk } := I.kept fun b o e => Heap.get?_push_of_some _ (hx b o e)
    exact h h'.objs.size c' ((X.mg "__name__").getD .none) ctv H _ I1 (ExtN.refl H) hT (Heap.get?_push_size _ rfl) (I.hok.fresh hsz) (nofr _ hsz) hco

/-- .. the default's tuple ahead of it -/
theorem ld_make {T : List (Addr × Str)} {c P : Addr} {params : Arguments} {body : Expr} {scope : Scope} {pos dp : Pos} {n : Int} {j : Nat} {E : Value → Shared → Prop} {Q : Value → Shared → Prop} (I : Inv X pins σ H s) (TB : TabB X.base X.mg c P) (hcode : X.env.code = .ref c)
    (hm : (P, X.env.qual ++ "<lambda>") ∈ T) (hu : ∀ p ∈ T, p.1 = P → p.2 = X.env.qual ++ "<lambda>") (hT : Tabs T H) (hdef : defaultsOf params X.env = ([eval (.Constant (.int n) j dp) X.env], [])) (hkw : params.kwonlyargs = []) (hfree : ∀ y ∈ scope.names, y.2 = .free → ∃ c, X.env.cells.lookup y.1 = some c)
    (h : ∀ (f c' pd : Addr) (pm ctv : Value) (H1 : Hp) (s' : Shared), Inv X pins σ H1 s' → ExtN H H1 → Tabs T H1 →
      s'.heap.get? f = some (ldObj (X.env.qual ++ "<lambda>") params body scope (cloFrom X.env.cells scope.names []) (.ref pd) pm c' ctv) → H1 f = none → f ∉ frs X.stack → H1 c' = some (CodeO c' (X.env.qual ++ "<lambda>")) →
      H1 pd = some (.tup [.int n]) → Q (.ref f) s') :
    wpAny (model X.prog X.w) X.A (eval (.Lambda params body scope pos) X.env) Q E s := by
  rw [arm_eval_Lambda, hdef]
  refine wpAny_bind (wpAny_evalAll_cons (wpAny_Constant_int (wpAny_evalAll_nil ?_)))
  refine wpAny_bind (wpAny_holding (wpAny_pure ?_))
  rw [makeFunction_eq, hkw]
  simp only [List.zip_nil_right, List.zip_nil_left, List.filterMap_nil, List.isEmpty_nil, List.isEmpty_cons, if_true, pure_bind, Bool.false_eq_true, if_false]
  refine wpAny_bind (wpAny_newTextTuple ?_)
  have hn0 : H s.heap.objs.size = none := I.hok.fresh (Nat.le_refl _)
  have I0 : Inv X pins σ (upd H s.heap.objs.size (.tup [.int n])) { s with heap := s.heap.push { cls := .type "tuple", data := .seq [Value.int n s.toks].toArray }, toks := s.toks + 1 } :=
    I.laid (fun b o e => Heap.get?_push_of_some _ e) (Nat.le_refl _) ⟨by show 1 ≤ sizeLine; decide, [Value.int n s.toks], .cons ⟨_, rfl⟩ .nil, ⟨_, Heap.get?_push_size _ rfl, rfl, _, rfl⟩⟩
  have sm : ∀ b o, H b = some o → upd H s.heap.objs.size (.tup [.int n]) b = some o := fun b o e => by
    rw [upd_ne (ne_of_none e hn0)]
    exact e
  refine ld_fun I0 TB hcode hm hu (hT.ext sm) hfree fun f c' pm ctv H1 s' I1 eN T1 hf hfn hfr hco => ?_
  exact h f c' s.heap.objs.size pm ctv H1 s' I1 ((ExtN.of sm).trans eN) T1 hf hfn hfr hco (eN _ _ upd_same fun ps z => by cases z)
end

/-! ### the body's names: the default's own name is a local that none of the maker's names is -/
structure LamD (N : List Str) (a : Str) (sc scope : Scope) : Prop where
  kind : scope.kind = .function
  co : scope.isCoroutine = false
  gen : scope.isGenerator = false
  nocell : ∀ y ∈ scope.names, y.2 ≠ .cell
  loc : scope.names.lookup a = some .local
  own : ∀ y ∈ N, scope.names.lookup y ≠ some .local
  free : ∀ y ∈ scope.names, y.2 = .free → sc.names.lookup y.1 = some .cell ∨ sc.names.lookup y.1 = some .free
def lamDB (N : List Str) (a : Str) (sc scope : Scope) : Bool :=
  decide (scope.kind = .function) && (!scope.isCoroutine && (!scope.isGenerator && ((scope.names.all fun y => !decide (y.2 = .cell)) && (decide (scope.names.lookup a = some .local) && ((N.all fun y => !decide (scope.names.lookup y = some .local)) &&
    scope.names.all fun y => !decide (y.2 = .free) || (decide (sc.names.lookup y.1 = some .cell) || decide (sc.names.lookup y.1 = some .free)))))))
theorem lamD_by {N : List Str} {a : Str} {sc scope : Scope} (h : lamDB N a sc scope = true) : LamD N a sc scope := by
  unfold lamDB at h
  simp only [Bool.and_eq_true, Bool.or_eq_true, Bool.not_eq_true', decide_eq_true_eq, decide_eq_false_iff_not, List.all_eq_true] at h
  obtain ⟨h1, h2, h3, h4, h5, h6, h7⟩ := h
  refine ⟨h1, h2, h3, h4, h5, h6, fun y hy e => ?_⟩
  rcases h7 y hy with z | z
  · exact absurd e z
  · exact z
theorem LamD.has {X : Cx} {a : Str} {scope : Scope} (L : LamD X.N a X.env.scope scope) (ok : X.Ok) : ∀ y ∈ scope.names, y.2 = .free → ∃ c, X.env.cells.lookup y.1 = some c := fun y hy e => by
  rcases L.free y hy e with k | k
  · exact ok.has _ (.inl k)
  · exact ok.has _ (.inr k)

section
variable {X : Cx} {pins : List (Addr × Obj)} {σ : L2.St} {H HZ : Hp} {s s1 : Shared}
theorem ld_start {A : Around} {outer : List Env} {E : XK} {a : Str} {scope : Scope} {f c' : Addr} {h₁ : Heap} {tk : Nat} {m₁ : Str → Option Value} (I : Inv X pins σ H s) (L : LamD X.N a X.env.scope scope) (e0 : Env0 X.prog X.w X.K X.mg X.base A outer s1 HZ) (hd : A.handled = none)
    (un : Un (frs X.stack) [] H HZ s.heap s1.heap) (hns : h₁.Ns s1.heap.objs.size m₁) (kp : ∀ b o, s1.heap.get? b = some o → h₁.get? b = some o) :
    Inv (lamCx X A outer s1 HZ E scope f c') [] σ HZ { s1 with heap := h₁, toks := tk } := by
  have hfree := L.has I.ok
  have cm : ∀ {y c}, (cloFrom X.env.cells scope.names []).lookup y = some c → X.env.cells.lookup y = some c := fun {y c} e => by
    rcases cloFrom_mem (PySem.mem_of_lookup e) with hm | ⟨h1, h2⟩
    · cases hm
    · obtain ⟨c1, hc⟩ := hfree _ h1 rfl
      have hc : X.env.cells.lookup y = some c1 := hc
      have e2 : c = c1 := by
        rw [h2, hc] <;> rfl
      rw [e2]
      exact hc
  have look : ∀ {y}, scope.names.lookup y = some .free → ∃ c, (cloFrom X.env.cells scope.names []).lookup y = some c := fun {y} hl => by
    have hy : (y, NameKind.free) ∈ scope.names := PySem.mem_of_lookup hl
    exact mem_lookup (cloFrom_has (cells := X.env.cells) (acc := []) hy)
  have cellK : ∀ {c : Addr} {v : Option Value}, H c = none → s.heap.IsCell c v → h₁.IsCell c v := fun {c v} n ⟨o, ho, hd⟩ => by
    obtain ⟨sl, q⟩ := un.any ho n (by simp)
    exact ⟨_, kp _ _ q, hd⟩
  have noA : ∀ b : Addr, b ∉ (lamCx X A outer s1 HZ E scope f c').ex := fun b z => absurd (show b ∈ ([] : List Addr) from z) (by simp)
  refine ⟨⟨e0.mod, L.kind, rfl, rfl, Nat.le_refl _, fun y z c e1 e2 => I.ok.inj y z c (cm e1) (cm e2), fun y hy => ?_, fun y c z _ => ?_, fun _ => hd, Around.frames_deeper e0.frames, .inr ⟨rfl, rfl⟩, fun b z => absurd z (noA b), e0.bs, e0.bsz, fun b _ _ => noA b,
      fun b z => absurd z (noA b), e0.funs, e0.frf⟩,
    rfl, e0.bare, Un.kept kp, ⟨_, hns, fun i y v e1 e2 e3 => ?_⟩, fun y c e => ?_, e0.hok.fresh (Nat.le_refl _), fun y c e => ?_, fun q hq => absurd (show q ∈ ([] : List (Addr × Obj)) ++ [] from hq) (by simp), e0.hok.kept kp, I.len⟩
  · have hy : scope.names.lookup y = some .cell ∨ scope.names.lookup y = some .free := hy
    rcases hy with hy | hy
    · exact absurd rfl (L.nocell _ (PySem.mem_of_lookup hy))
    · exact look hy
  · have z : false = true := z
    cases z
  · have e3 : Vis scope y := e3
    have e1 : X.N[i]? = some y := e1
    rcases e3 with k | k | k
    · exact absurd k (L.own y (List.mem_of_getElem? e1))
    · exact absurd rfl (L.nocell _ (PySem.mem_of_lookup k))
    · obtain ⟨m, hn, hl⟩ := I.loc
      have hvis : Vis X.env.scope y := (L.free _ (PySem.mem_of_lookup k) rfl).elim (fun k => .inr (.inl k)) (fun k => .inr (.inr k))
      obtain ⟨w', r, q⟩ := hl i y v e1 e2 hvis
      obtain ⟨c2, h2⟩ := look k
      refine ⟨w', r, .inr ⟨.inr k, c2, h2, ?_⟩⟩
      have c1 := cm h2
      rcases q with ⟨k', _⟩ | ⟨_, c3, e', z⟩
      · have k' : X.env.scope.names.lookup y = some .local := k'
        rcases L.free _ (PySem.mem_of_lookup k) rfl with k2 | k2 <;> rw [show X.env.scope.names.lookup y = _ from k2] at k' <;> cases k'
      · rw [c1] at e'
        cases e'
        exact cellK (I.freeC y _ c1) z
  · obtain ⟨w', z⟩ := I.cell y c (cm e)
    exact ⟨w', cellK (I.freeC y c (cm e)) z⟩
  · obtain ⟨v, o, ho, hd⟩ := I.cell y c (cm e)
    exact un.free c o ho (I.freeC y c (cm e)) (by simp)

/-- how its call without arguments binds -/
def LdBind (params : Arguments) (a : Str) : Prop := ∀ (q : Str) (body : Expr) (scope : Scope) (cl : List (Str × Addr)) (dV pm cv ctv : Value), ∃ k : Option (Array Value) → Sem (List (Str × Value)),
  bindArgs (ldFd q params body scope cl dV pm cv ctv) ⟨[], []⟩ = seqItems? dV >>= k ∧ ∀ v : Value, k (some #[v]) = pure [(a, v)]
/-- x(), in the def that got the lambda -/
theorem pe_actD {CXg : CXT} {Eg : XK} {Ng : List Str} {qg : Str} {sg : Scope} {g f c' pd : Addr} {cdg pm ctv : Value} {params : Arguments} {body : Expr} {scope : Scope} {k i : Nat} {a b : Str} {n : Int} {pn : List (Addr × Obj)} {xe : Value → Shared → Prop} {W : WX} {E : XK} {tb : TE} {p1 p2 : Pos}
    (I : Inv X pins σ H s) (L : LamD X.N b X.env.scope scope) (hf : s.heap.get? f = some (ldObj (X.env.qual ++ "<lambda>") params body scope (cloFrom X.env.cells scope.names []) (.ref pd) pm c' ctv)) (hfn : H f = none) (hfr : f ∉ frs X.stack)
    (hpd : H pd = some (.tup [.int n])) (hbind : LdBind params b)
    (tk : Takes ((cxOf CXg X.prog X.w X.K X.mg X.base Ng qg sg g cdg X.A X.stack s H Eg).tr pn xe) W) (hW : ∀ cls d σ' H', E cls d H' → W cls d σ' H') (hr : Room (k + 1) (X.A.deeper (envOfC qg sg s.heap.objs.size g cdg)))
    (hbody : ∀ (A : Around) (outer : List Env) (s : Shared) (H : Hp), Room k (A.deeper (lamEnv X scope s.heap.objs.size f c')) → PE (lamCx X A outer s H E scope f c') body tb)
    (hN : Ng[i]? = some a) (hv : Vis sg a) (hd : (a == ("__debug__" : Str)) = false := by decide) (hcd : (a == ("__classdict__" : Str)) = false := by decide) :
    PE ((cxOf CXg X.prog X.w X.K X.mg X.base Ng qg sg g cdg X.A X.stack s H Eg).tr pn xe) (.Call (.Name a p1) [] [] p2)
      (fun σZ HZ Q => σZ[i]? = some (some (.ref f)) ∧ HZ c' = some (CodeO c' (X.env.qual ++ "<lambda>")) ∧ tb σ HZ Q) := by
  refine ⟨fun pinsZ sZ σZ HZ Q IZ h => ?_⟩
  obtain ⟨hs, hc, ht⟩ := h
  refine wpAny_Call_Name_kw (thn ((pe_var (pos := p1) (i := i) hN hv hd hcd).run pinsZ sZ σZ HZ (fun v H1 => v = .ref f ∧ H1 = HZ) IZ ⟨.ref f, hs, rfl, rfl⟩) fun u s1 ⟨v, H1, I1, r1, q1⟩ => ?_)
  obtain ⟨ev, eH⟩ := q1
  subst ev
  rw [eH] at I1
  obtain rfl : u = Value.ref f := r1
  have of1 : s1.heap.get? f = some (ldObj (X.env.qual ++ "<lambda>") params body scope (cloFrom X.env.cells scope.names []) (.ref pd) pm c' ctv) := I1.base.keep f _ hf hfn hfr (fun z => nomatch (show f ∈ ([] : List Addr) from z))
  refine PySem.W.callWith_F0 ⟨_, _, _, _, of1⟩ ?_
  have un : Un (frs X.stack) [] H HZ s.heap s1.heap := I1.base
  obtain ⟨⟨oc, vs, t, hoc, hdc, hvc⟩, _, _⟩ := I1.hok c' _ hc
  have hpz : HZ pd = some (.tup [.int n]) := un.tups pd _ hpd
  obtain ⟨_, its, rv, o2, ho2, _, n2, hd2⟩ := (show ObjOk X.prog X.w HZ s1.heap pd (.tup [.int n]) from I1.hok pd _ hpz)
  obtain ⟨u1, rfl, ru1⟩ := vals1 rv
  obtain ⟨kb, hb1, hb2⟩ := hbind (X.env.qual ++ "<lambda>") body scope (cloFrom X.env.cells scope.names []) (.ref pd) pm (.ref c') ctv
  have hbd : BindsTo s1 (ldFd (X.env.qual ++ "<lambda>") params body scope (cloFrom X.env.cells scope.names []) (.ref pd) pm (.ref c') ctv) ⟨[], []⟩ [(b, u1)] := .of_defaults rfl ho2 hd2 hb1 (hb2 u1)
  have rc : codeAny (model X.prog X.w) (X.A.deeper (envOfC qg sg s.heap.objs.size g cdg)) (.call (.ref f) ⟨[], []⟩) (CR (L2.CX X.prog X.w) (envOfC qg sg s.heap.objs.size g cdg :: X.stack) X.prog X.w HZ s1 Q E) s1 := by
    refine PySem.W.kla_callFunE hr.depth of1 rfl L.co L.gen rfl ⟨c', oc, vs, t, rfl, hoc, hdc, hvc⟩ (hbd _ _ _ _ ?_)
    refine wpAny_newFunctionEnv L.nocell (fun y hy => ?_) (fun h₁ hns hsb => ⟨I1.nolimit.fresh _ hsb, ?_⟩) L.kind
    · obtain rfl : y = (b, u1) := List.mem_singleton.mp hy
      exact L.loc
    · show codeAny _ _ (.expr body (lamEnv X scope s1.heap.objs.size f c')) _ _
      have kp : ∀ b o, s1.heap.get? b = some o → h₁.get? b = some o := fun b o e => hsb.extBut b o (Nat.ne_of_lt (Heap.lt_size e)) (Heap.get?_push_of_some _ e)
      have J : Inv (lamCx X (X.A.deeper (envOfC qg sg s.heap.objs.size g cdg)) (envOfC qg sg s.heap.objs.size g cdg :: X.stack) s1 HZ E scope f c') [] σ HZ { s1 with heap := h₁, toks := s1.toks + ([(b, u1)] : List (Str × Value)).length } :=
        ld_start I L I1.env0 hr.hd un hns kp
      refine PySem.W.kla_codeExpr (wpAny_mono ((hbody _ _ s1 HZ (hr.deeper _)).run [] _ _ HZ Q J ht) (fun v s' hq => ?_) fun e s' hq => hq)
      obtain ⟨w', H', J', rv, q⟩ := hq
      exact ⟨w', H', J'.os, J'.bare, J'.base, J'.hok, rv, q⟩
  have hx : Passes (L2.CX X.prog X.w) ((cxOf CXg X.prog X.w X.K X.mg X.base Ng qg sg g cdg X.A X.stack s H Eg).tr pn xe) E := passes_call tk hW
  refine wpAny_call (codeAny_mono rc fun r s' hq => ?_)
  cases r with
  | error e => exact hx pinsZ σZ HZ s1 e s' I1 hq
  | ok fl =>
    cases fl with
    | ret u => exact I1.after hq
    | next => exact False.elim hq
    | brk => exact False.elim hq
    | cont => exact False.elim hq
end

section
variable {X : Cx}
/-- x(lambda b=n: body) -/
theorem pe_lamcallD {T : List (Addr × Str)} {TT : (XK → Hp → VK → Prop) → Hp → VK → Prop} {x a b : Str} {n : Int} {j : Nat} {g c P : Addr} {k : Nat} {pg : Arguments} {bg : List Stmt} {sg : Scope} {dV kV doc pm cdv ct oc : Value} {an od : Option Addr} {osl : Array (Option Value)} {Ng : List Str}
    {params : Arguments} {body : Expr} {scope : Scope} {t : XK → TE} {p lpos pos dp : Pos} (hg : Gl X x) (hm : X.mg x = some (.ref g)) (hk : PySem.W.keepIn X.K (.ref g) = true)
    (lk : X.K.lookup g = some ⟨oc, od, .func (PySem.W.fnOf x x pg bg sg dV kV doc pm an cdv ct), osl⟩) (hcg : PySem.W.codeIn X.K cdv x = true) (hb : L2.Binds X.K (PySem.W.fnOf x x pg bg sg dV kV doc pm an cdv ct) [a] []) (Sg : FnScope Ng [a] sg) (hNg : Ng[0]? = some a) (hva : Vis sg a)
    (hG : GivesTo X Ng x sg g cdv bg a (X.env.qual ++ "<lambda>") TT)
    (TB : TabB X.base X.mg c P) (hcode : X.env.code = .ref c) (hmT : (P, X.env.qual ++ "<lambda>") ∈ T) (hu : ∀ p ∈ T, p.1 = P → p.2 = X.env.qual ++ "<lambda>") (hr : Room (k + 2) X.A) (L : LamD X.N b X.env.scope scope)
    (hdef : defaultsOf params X.env = ([eval (.Constant (.int n) j dp) X.env], [])) (hkw : params.kwonlyargs = []) (hbind : LdBind params b)
    (hbody : ∀ (A : Around) (outer : List Env) (s : Shared) (H : Hp) (E : XK) (f c' : Addr), Room k (A.deeper (lamEnv X scope s.heap.objs.size f c')) → PE (lamCx X A outer s H E scope f c') body (t E))
    (hdb : (x == ("__debug__" : Str)) = false := by decide) (hd : (a == ("__debug__" : Str)) = false := by decide) (hcd : (a == ("__classdict__" : Str)) = false := by decide) :
    PE X (.Call (.Name x p) [.Lambda params body scope lpos] [] pos) (tLam T TT t) := by
  refine ⟨fun pins s σ H Q I h => ?_⟩
  obtain ⟨hT, h⟩ := h
  refine wpAny_Call_Name_kw (ld_glob I hg hm ?_ hdb)
  refine PySem.W.callWith_K (h₀ := X.base) I.ok.mod.kin hk ?_ (by rfl) (by rfl)
  show wpAny _ _ (spliced ((false, eval (.Lambda params body scope lpos) X.env) :: backTo pos (starEach [] X.env))) _ _ s
  refine Calls.spliced_cons (ld_make I TB hcode hmT hu hT hdef hkw (L.has I.ok) fun f c' pd pm' ctv H1 s' I1 eN T1 hf hfn hfr hco hpd => ?_)
  refine Calls.spliced_nil ⟨I1.kIn, ?_⟩
  have rc : codeAny (model X.prog X.w) X.A (.call (.ref g) ⟨[.ref f], []⟩) (CR C8.CX0 X.stack X.prog X.w H1 s' Q C8.E0) s' := by
    refine run_ofS (N := Ng) (ps := [a]) (us := [.ref f]) (vs := [.ref f]) lk hcg Sg hr I1.env0 (hb s' [.ref f] I1.kIn rfl) (.cons rfl .nil) rfl fun hr' => ?_
    obtain ⟨t', ht', hq'⟩ := hG f c' s' H1 Q (fun E H' Q' => t E σ H' Q') (fun W pn xe E p1 p2 tk hW => pe_actD (i := 0) I1 L hf hfn hfr hpd hbind tk hW hr' (fun A outer s H hr2 => hbody A outer s H E f c' hr2) hNg hva hd hcd) hco (h H1 eN T1)
    exact ⟨t', ht'.nox, hq'⟩
  refine wpAny_call (codeAny_mono rc fun r s2 hq => ?_)
  cases r with
  | error e => exact (show False from hq).elim
  | ok fl =>
    cases fl with
    | ret u => exact I1.after hq
    | next => exact False.elim hq
    | brk => exact False.elim hq
    | cont => exact False.elim hq
end
end OG


set_option Elab.async false
set_option linter.all false
set_option maxRecDepth 100000
set_option maxHeartbeats 2000000
/-! GD: the end of a law row where the law's promise knows the guards; xs[-2::-1]. -/
namespace OG
open PySem PySem.Spec PyProof.Rows L2 LamX
/-- the tables' places -/
abbrev tabs (cs : List (Addr × Addr)) : List Addr := cs.map fun p => p.2
/-- the law's call at the head's heap, for a promise that knows the guards; cs: code objects and their tables -/
theorem law_callG {P : Program} {w : World} {K : PySem.W.Frag} {mg mb : Str → Option Value} {CX : CXT} {k : Nat} {fa a : Addr} {cs : List (Addr × Addr)} {fd : FuncData} {x : Str} {sp : Sp} {s₁ : Shared} {vs : List Value} {ns : List Int}
    (KX : K.In s₁.heap) (hns : s₁.heap.Ns mainGlobals mg) (hb : s₁.heap.Ns builtinsNs mb) (hbb : ∀ x : Str, x ≠ "__name__" → mb x = bootBuiltins x) (hlim : s₁.heap.NoLimit) (hg : s₁.gens = #[])
    (hT : ∀ p ∈ cs, s₁.heap.get? p.2 = some { cls := .none, data := .fields #[] }) (nT : ∀ p ∈ cs, K.lookup p.2 = none) (C : ∀ p ∈ cs, PySem.W.CodeHd s₁.heap p.1 p.2)
    (hbm : ∃ (bm : Addr) (ob : Obj), mg "__builtins__" = some (.ref bm) ∧ bm ≠ builtinsNs ∧ s₁.heap.get? bm = some ob ∧ ob.cls = .type "module" ∧ ob.dict = some builtinsNs ∧ ob.data = .plain)
    (ha : s₁.heap.get? a = some { cls := .type "list", data := .seq vs.toArray }) (hi : IntsAre vs ns) (hl : ns.length ≤ sizeLine) (hr : RmG k callerA)
    (F : ∀ base : Heap, K.In base → base.Ns mainGlobals mg → (∀ p ∈ cs, TabB base mg p.1 p.2) → FnG P w K mg base CX k fa fd [x] sp) (hbind : ∀ (s : Shared) (u : Value), BindsTo s fd ⟨[u], []⟩ [(x, u)])
    (hsp : ∀ H : Hp, (∀ p ∈ cs, H p.2 = some (.tbl #[])) → SqL K H a (ns.map V.int) → sp [.ref a] H (fun v _ => v = .bl true) fun _ _ _ => False)
    (hCX : ∀ H e s', CX [] H s₁ (fun _ _ _ => False) e s' → False) :
    codeAny (model P w) callerA (.call (.ref fa) ⟨[.ref a], []⟩) (fun r s' => r = .ok (.ret (.bool true)) ∧ OldK s₁.heap s'.heap ∧ s'.os = s₁.os ∧ AllBare s'.gens) s₁ := by
  have rv := vals_ints hi
  have lenV := hi.length
  have isT : ∀ b : Addr, b ∈ tabs cs → s₁.heap.get? b = some { cls := .none, data := .fields #[] } := fun b hb => by
    obtain ⟨p, hp, e⟩ := List.mem_map.mp hb
    rw [← e]
    exact hT p hp
  have aT : a ∉ tabs cs := fun z => by
    have q := isT a z
    rw [ha] at q
    have z' : Data.seq vs.toArray _ = Data.fields #[] := congrArg Obj.data (Option.some.inj q)
    cases z'
  have memT : ∀ p ∈ cs, p.2 ∈ tabs cs := fun p hp => List.mem_map.mpr ⟨p, hp, rfl⟩
  -- from an abstract heap in which nothing but the script and the tables may be tracked
  have core : ∀ H : Hp, (∀ p ∈ cs, H p.2 = some (.tbl #[])) → (∀ b, H b = none ∨ b ∈ tabs cs ∨ ∃ o xs, H b = some (.frz o (.lst xs))) → SqL K H a (ns.map V.int) → HOk P w H s₁.heap → (∀ b, H b ≠ none → b = a ∨ b ∈ tabs cs) → (H a ≠ none → K.lookup a = none) →
      codeAny (model P w) callerA (.call (.ref fa) ⟨[.ref a], []⟩) (fun r s' => r = .ok (.ret (.bool true)) ∧ OldK s₁.heap s'.heap ∧ s'.os = s₁.os ∧ AllBare s'.gens) s₁ := by
    intro H hH hO hS hok hA hK
    have base_of : ∀ {b : Addr} {o : Obj}, s₁.heap.get? b = some o → H b = none → (hidT s₁.heap H).get? b = some o := fun e n => hidT_get e n
    have noD : ∀ {b : Addr} {o : Obj}, s₁.heap.get? b = some o → (∀ vs n, o.data ≠ .seq vs n) → o.data ≠ .fields #[] → H b = none := fun {b o} e h1 h2 => by
      cases q : H b with
      | none => rfl
      | some u =>
        rcases hA b (by rw [q]; simp) with e' | e'
        · rw [e', ha] at e
          cases e
          exact (h1 _ _ rfl).elim
        · rw [isT b e'] at e
          cases e
          exact (h2 rfl).elim
    have noA : ∀ {b : Addr} {o : Obj} {es : Array DictEntry} {ep : Nat}, s₁.heap.get? b = some o → o.data = .dict es ep → H b = none := fun {b o es ep} e d => by
      refine noD e (fun vs n z => ?_) fun z => ?_
      · rw [d] at z
        cases z
      · rw [d] at z
        cases z
    have nsK : ∀ {b : Addr} {m : Str → Option Value}, s₁.heap.Ns b m → (hidT s₁.heap H).Ns b m := fun {b m} ⟨o, es, ep, e, d, r⟩ => ⟨o, es, ep, base_of e (noA e d), d, r⟩
    have hKb : K.In (hidT s₁.heap H) := fun b o e => base_of (KX b o e) (by
      cases q : H b with
      | none => rfl
      | some u =>
        rcases hA b (by rw [q]; simp) with e' | e'
        · rw [e'] at e q
          rw [hK (by rw [q]; simp)] at e
          cases e
        · obtain ⟨p, hp, ep⟩ := List.mem_map.mp e'
          rw [← ep, nT p hp] at e
          cases e)
    have hM : L2.Mod K mg (hidT s₁.heap H) := ⟨hKb, nsK hns, ⟨mb, nsK hb, hbb⟩, let ⟨mc, h1, h2⟩ := hlim; ⟨mc, nsK h1, h2⟩⟩
    have TB : ∀ p ∈ cs, TabB (hidT s₁.heap H) mg p.1 p.2 := fun p hp => by
      have hTp := hT p hp
      refine ⟨?_, ?_, fun z => ?_⟩
      · obtain ⟨o, us, file, tf, flags, tg, inF, text, tt, e1, r1, r2, r3, r4, r5, r6, r7, r8, hne⟩ := C p hp
        refine ⟨o, us, file, tf, flags, tg, inF, text, tt, base_of e1 (noD e1 (fun vs n z => ?_) fun z => ?_), r1, r2, r3, r4, r5, r6, r7, r8, hne⟩
        · rw [r2] at z
          cases z
        · rw [r2] at z
          cases z
          simp at r3
      · obtain ⟨bm, ob, b1, b2, b3, b4, b5, b6⟩ := hbm
        have nG : bm ≠ mainGlobals := fun q => by
          obtain ⟨o, es, ep, e, hd, _⟩ := hns
          rw [q, e] at b3
          cases b3
          rw [hd] at b6
          cases b6
        have nP : bm ≠ p.2 := fun q => by
          rw [q, hTp] at b3
          cases b3
          cases b6
        refine ⟨bm, ob, b1, b2, nG, nP, base_of b3 (noD b3 (fun vs n z => ?_) fun z => ?_), b4, b5, b6⟩
        · rw [b6] at z
          cases z
        · rw [b6] at z
          cases z
      · obtain ⟨o, es, ep, e, hd, _⟩ := hns
        rw [z, hTp] at e
        cases e
        cases hd
    have e0 : Env0 P w K mg (hidT s₁.heap H) callerA [] s₁ H := ⟨rfl, hM, fun b o e => of_hidT e, Nat.le_of_eq (hidT_size _ _), trivial, fun b hb => absurd (show b ∈ ([] : List Addr) from hb) (by simp), hok, .of_eq hg⟩
    refine codeAny_mono ((F _ hKb (nsK hns) TB).run callerA [] s₁ H ⟨[.ref a], []⟩ [.ref a] [.ref a] _ _ hr e0 (hbind s₁ (.ref a)) (.cons rfl .nil) (hsp H hH hS)) fun r s' h => ?_
    cases r with
    | error e => exact (hCX H e s' h).elim
    | ok fl =>
      cases fl with
      | next => exact False.elim h
      | brk => exact False.elim h
      | cont => exact False.elim h
      | ret u =>
        obtain ⟨v, H', os, bare, un, hok', r', q⟩ := h
        have q' : v = .bl true := q
        subst q'
        obtain rfl : u = Value.bool true := r'
        have key : ∀ b o, b ∉ tabs cs → s₁.heap.get? b = some o → s'.heap.get? b = some o := fun b o nb e => by
          cases q : H b with
          | none => exact un.keep b o e q (by intro z; exact absurd (show b ∈ ([] : List Addr) from z) (by simp)) (by simp)
          | some u =>
            rcases hO b with z | z | ⟨ob, xs, z⟩
            · rw [q] at z; cases z
            · exact absurd z nb
            · have z2 := un.frzs b ob _ z
              obtain ⟨e1, _⟩ := hok b _ z
              obtain ⟨e2, _⟩ := hok' b _ z2
              rw [e] at e1; cases e1
              exact e2
        have grown : ∀ p ∈ cs, ∃ more : Array Value, s'.heap.get? p.2 = some { cls := .none, data := .fields more } := fun p hp => by
          obtain ⟨more, z⟩ := un.tbls p.2 #[] (hH p hp)
          exact ⟨_, hok' p.2 _ z⟩
        refine ⟨rfl, ⟨fun b o e => ?_, fun b o e => ?_⟩, os, bare⟩
        · by_cases hb : b ∈ tabs cs
          · obtain ⟨p, hp, ep⟩ := List.mem_map.mp hb
            obtain ⟨more, hm⟩ := grown p hp
            rw [← ep] at e ⊢
            rw [hT p hp] at e
            cases e
            exact .inr (.inl ⟨((C p hp).tab (hT p hp)).isCodeTable, rfl, #[], more, rfl, by rw [Array.empty_append]; exact hm⟩)
          · exact .inl (key b o hb e)
        · by_cases hb : b ∈ tabs cs
          · obtain ⟨p, hp, ep⟩ := List.mem_map.mp hb
            obtain ⟨more, hm⟩ := grown p hp
            rw [← ep]
            exact ⟨_, hm⟩
          · exact ⟨o, key b o hb e⟩
  cases hk : K.lookup a with
  | some o =>
    have e := KX a o hk
    rw [ha] at e
    cases e
    refine core (fun b => if b ∈ tabs cs then some (.tbl #[]) else none) (fun p hp => if_pos (memT p hp)) (fun b => ?_) (.inr ⟨_, vs.toArray, _, hk, rfl, rfl, rfl, by rw [List.size_toArray, lenV]; exact hl, by simpa using rv⟩) (fun b u z => ?_) (fun b z => ?_) fun z => absurd (show (if a ∈ tabs cs then some (HO.tbl #[]) else none) = none from if_neg aT) z
    · by_cases hb : b ∈ tabs cs
      · exact .inr (.inl hb)
      · exact .inl (if_neg hb)
    · by_cases hb : b ∈ tabs cs
      · have z' := (if_pos hb).symm.trans z
        cases z'
        exact isT b hb
      · have z' := (if_neg hb).symm.trans z
        cases z'
    · by_cases hb : b ∈ tabs cs
      · exact .inr hb
      · exact absurd (if_neg hb) z
  | none =>
    refine core (fun b => if b = a then some (.frz { cls := .type "list", data := .seq vs.toArray } (.lst (ns.map V.int))) else if b ∈ tabs cs then some (.tbl #[]) else none) (fun p hp => (if_neg (show ¬ p.2 = a from fun z => aT (by rw [← z]; exact memT p hp))).trans (if_pos (memT p hp))) (fun b => ?_)
      (.inl (.inr ⟨{ cls := .type "list", data := .seq vs.toArray }, if_pos rfl⟩)) (fun b u z => ?_) (fun b z => ?_) fun _ => hk
    · by_cases hb : b = a
      · exact .inr (.inr ⟨_, _, if_pos hb⟩)
      · by_cases hb2 : b ∈ tabs cs
        · exact .inr (.inl hb2)
        · exact .inl ((if_neg hb).trans (if_neg hb2))
    · by_cases hb : b = a
      · have z' := (if_pos hb).symm.trans z
        cases z'
        rw [hb]
        exact ⟨ha, by rw [List.length_map]; exact hl, vs, _, rv, ha⟩
      · have z1 := (if_neg hb).symm.trans z
        by_cases hb2 : b ∈ tabs cs
        · have z' := (if_pos hb2).symm.trans z1
          cases z'
          exact isT b hb2
        · have z' := (if_neg hb2).symm.trans z1
          cases z'
    · by_cases hb : b = a
      · exact .inl hb
      · by_cases hb2 : b ∈ tabs cs
        · exact .inr hb2
        · exact absurd ((if_neg hb).trans (if_neg hb2)) z
/-- what is known of the law's promise at the head's heap h -/
def LawAtG (l : PySem.W.OpenLaw) (w : World) (K : PySem.W.Frag) (CX : CXT) (k n : Nat) (x : Str) (mg : Str → Option Value) (fa : Addr) (h : Heap) : Prop :=
  ∃ (fd : FuncData) (cs : List (Addr × Addr)) (sp : Sp), (∀ p ∈ cs, h.get? p.2 = some { cls := .none, data := .fields #[] }) ∧ (∀ p ∈ cs, K.lookup p.2 = none) ∧ (∀ p ∈ cs, PySem.W.CodeHd h p.1 p.2) ∧
    (∀ (s : Shared) (u : Value), BindsTo s fd ⟨[u], []⟩ [(x, u)]) ∧
    (∀ (H : Hp) (a : Addr) (ns : List Int), ns.length ≤ n → (∀ z ∈ ns, Builtin.Int.intBits z ≤ 1048576) → (∀ p ∈ cs, H p.2 = some (.tbl #[])) → SqL K H a (ns.map V.int) → sp [.ref a] H (fun v _ => v = .bl true) fun _ _ _ => False) ∧
    ∀ base : Heap, K.In base → base.Ns mainGlobals mg → (∀ p ∈ cs, TabB base mg p.1 p.2) → FnG l.prog w K mg base CX k fa fd [x] sp
theorem walk_ofG {l : PySem.W.OpenLaw} {n k : Nat} {q : Program} {loose : List Str} {XP : (Str → Option Value) → Heap → Prop} {YP : World → Heap → Prop} {d : DefRec} {K : Params → PySem.W.Frag} {CX : World → CXT} {x : Str}
    (hn : l.most = some n) (hn2 : n ≤ sizeLine) (hdf : d.params.defaults = []) (hr : RmG k callerA) (hY : ∀ (w : World) (h : Heap), YP w h → (K w.params).In h)
    (F : ∀ (w : World) (mg : Str → Option Value) (fa : Addr) (h : Heap), YP w h → (K w.params).In h → h.Ns mainGlobals mg → mg d.name = some (.ref fa) → LawAtG l w (K w.params) (CX w) k n x mg fa h)
    (hCX : ∀ (w : World) (H : Hp) (s : Shared) (e : Value) (s' : Shared), CX w [] H s (fun _ _ _ => False) e s' → False) :
    PySem.W.WalkO q loose XP YP l.row.toRowW d [] (fun f vs => PySem.call f vs) := by
  refine Att.attach_callB hn hdf fun w s₀ s₁ mg mb fa o pm cd doc a vs ns G Y ho hd hcd hmg hobj hints hlen hbits hg => ?_
  have KX := hY w _ Y
  obtain ⟨fd, cs, sp, hT, nT, C, hb, hsp, hF⟩ := F w mg fa _ Y KX G.T.g hmg
  exact law_callG KX G.T.g G.T.b G.T.builtins G.T.nolimit hg hT nT C G.T.bmain hobj hints (Nat.le_trans hlen hn2) hr hF hb (fun H hH hS => hsp H a ns hlen hbits hH hS) fun H e s' => hCX w H s₁ e s'

/-! ### xs[-2::-1] -/
theorem take_all {α : Type} : ∀ (l : List α) (m : Nat), m ≤ l.length → (List.range m).filterMap (fun i => l[i]?) = l.take m
  | l, 0, _ => by simp
  | l, m + 1, h => by
    rw [List.range_succ, List.filterMap_append, take_all l m (by omega)]
    have e : l[m]? = some l[m] := List.getElem?_eq_getElem (by omega)
    rw [List.take_succ, e]
    simp [e]
theorem bounds_back (n : Nat) (h : 2 ≤ n) : sliceBounds (some (-2)) none (some (-1)) n = (((n - 1 : Nat) : Int) - 1, -1, -1) := by
  have e : max (-1) (min (-2 + (n : Int)) ((n : Int) - 1)) = ((n - 1 : Nat) : Int) - 1 := by omega
  show (max (-1) (min (-2 + (n : Int)) ((n : Int) - 1)), (-1 : Int), (-1 : Int)) = _
  rw [e]
theorem pick_back (its : Array Value) (h : 2 ≤ its.size) : slicePick its (some (-2)) none (some (-1)) = (its.toList.take (its.size - 1)).reverse.toArray := by
  unfold slicePick
  rw [bounds_back _ h]
  show ((sliceRange (((its.size - 1 : Nat) : Int) - 1) (-1) (-1)).filterMap (its[·]?)).toArray = _
  rw [PySem.W.krv_sliceRange, PySem.W.krv_range, List.filterMap_reverse]
  have e : (List.range (its.size - 1)).filterMap (its[·]?) = its.toList.take (its.size - 1) := by
    rw [← take_all its.toList (its.size - 1) (by rw [Array.length_toList]; omega)]
    congr 1
    funext i
    rw [Array.getElem?_toList]
  rw [e]
def tBackL (K : PySem.W.Frag) (te : TE) : TE := fun σ H Q => te σ H fun x H1 => ∃ a xs, x = .ref a ∧ SqL K H1 a xs ∧ 2 ≤ xs.length ∧ ∀ p, H1 p = none → Q (.ref p) (upd H1 p (.lst (xs.take (xs.length - 1)).reverse))
theorem pe_backL {X : Cx} {e : Expr} {te : TE} {k k' : Nat} {p0 p1 p2 p3 p4 pos : Pos} (he : PE X e te) :
    PE X (.Subscript e (.Slice (some (.UnaryOp .USub (.Constant (.int 2) k' p0) p4)) none (some (.UnaryOp .USub (.Constant (.int 1) k p1) p2)) p3) pos) (tBackL X.K te) := by
  refine ⟨fun pins s σ H Q I h => ?_⟩
  refine Subscript_ (thn (he.run pins s σ H _ I h) fun v s1 ⟨x, H1, I1, r1, q1⟩ => ?_)
  obtain ⟨a, xs, ex, hx, h2, q⟩ := q1
  subst ex
  cases r1
  have hst : PO X (some (.UnaryOp .USub (.Constant (.int 1) k p1) p2)) (tPart (tUn (rU fun i => .int (-i)) (tC (.int 1)))) := po_some (pe_un un_neg pe_int)
  have hlo : PO X (some (.UnaryOp .USub (.Constant (.int 2) k' p0) p4)) (tPart (tUn (rU fun i => .int (-i)) (tC (.int 2)))) := po_some (pe_un un_neg pe_int)
  refine wpAny_Slice (thn (hlo.run pins s1 σ H1 (fun o H2 => o = some (-2) ∧ H2 = H1) I1 ⟨2, rfl, -2, rfl, rfl, rfl⟩) fun vl s2 ⟨l, H2, I2, pl, el, e2⟩ => ?_)
  subst el e2
  refine thn (po_none.run pins s2 σ H2 (fun o H3 => o = none ∧ H3 = H2) I2 ⟨rfl, rfl⟩) fun vu s3 ⟨u, H3, I3, pu, eu, e3⟩ => ?_
  subst eu e3
  refine thn (hst.run pins s3 σ H3 (fun o H4 => o = some (-1) ∧ H4 = H3) I3 ⟨1, rfl, -1, rfl, rfl, rfl⟩) fun vs s4 ⟨o, H4, I4, ps, eo, e4⟩ => ?_
  subst eo e4
  have I5 : Inv X pins σ H4 { s4 with heap := s4.heap.push { cls := .type "slice", data := .fields #[vl, vu, vs] } } := I4.kept (t' := s4.toks) fun b ob q => Heap.get?_push_of_some _ q
  obtain ⟨its, r, ht, hz⟩ := I5.list hx
  have hlen := r.length
  refine tail_any (ops := [.ref a, .ref s4.heap.objs.size]) ht.isList.typeIs (PySem.slot_list_getitem.lookup) ?_ (by with_unfolding_all rfl)
  refine wpAny_getItem_list_slice ht.isList (Heap.IsSliceOf.new _ vl vu vs) pl pu ps (by decide) ?_ (by rw [List.size_toArray]; omega)
  rw [pick_back _ (by rw [List.size_toArray]; omega)]
  refine ⟨.ref _, _, I5.laid (t' := s4.toks) (o := .lst (xs.take (xs.length - 1)).reverse) (fun b ob q => Heap.get?_push_of_some _ q) (Nat.le_refl _) ?_, rfl, q _ (I5.hok.fresh (Nat.le_refl _))⟩
  refine ⟨by rw [List.length_reverse, List.length_take]; omega, _, 0, ?_, Heap.get?_push_size _ rfl⟩
  have e : its.toArray.toList.take (its.toArray.size - 1) = its.take (xs.length - 1) := by
    rw [List.size_toArray, hlen]
  rw [e]
  exact (r.take (xs.length - 1)).reverse
end OG


set_option Elab.async false
set_option linter.all false
set_option maxRecDepth 100000
set_option maxHeartbeats 2000000
/-! GE: own __len__, own == and != that answer both ways. -/
namespace OG
open PySem PySem.Spec PyProof.Rows L2
section
variable {X : Cx} {CX : CXT} {n : Nat} {f C : Addr} {fd : FuncData} {ps : List Str} {sp : Sp} {E : XK}
/-- the callee runs, below the body -/
theorem run_sub {A : Around} {pins : List (Addr × Obj)} {σ : L2.St} {H : Hp} {s : Shared} {Q : VK} {us : List Value} {vs : List V} (F : FnOk X.prog X.w X.K X.mg X.base CX n f fd ps sp) (sb : Sub X n A) (hb : Binds X.K fd ps []) (hx : Passes CX X E)
    (I : Inv X pins σ H s) (r : Vals vs us) (h : sp vs H Q E) : wpAny (model X.prog X.w) A (call (.ref f) us) (EP X pins σ Q) X.xe s := by
  have e0 : Env0 X.prog X.w X.K X.mg X.base A X.stack s H := by
    have e := I.env0
    exact ⟨by rw [sb.fr]; exact e.frames, e.mod, e.bs, e.bsz, e.funs, e.frf, e.hok, e.bare⟩
  have hl : (us ++ []).length = ps.length := by
    rw [List.append_nil, ← r.length]
    exact F.len _ _ _ _ h
  have hbt := hb s us I.kIn hl
  rw [List.append_nil] at hbt
  refine wpAny_call (codeAny_mono (F.run A X.stack s H ⟨us, []⟩ us vs Q E sb.room e0 hbt r h) fun r s' hq => ?_)
  cases r with
  | error e => exact hx pins σ H s e s' I hq
  | ok fl =>
    cases fl with
    | ret u => exact I.after hq
    | next => exact False.elim hq
    | brk => exact False.elim hq
    | cont => exact False.elim hq
theorem tyx_looks {pins : List (Addr × Obj)} {σ : L2.St} {H : Hp} {s : Shared} {x : V} {u t : Value} (I : Inv X pins σ H s) (rx : L2.RelV x u) (ty : TyX X.K H x t) : PySem.W.Looks (model X.prog X.w) s.heap (typeOf u) t := by
  obtain ⟨P, k, p, _⟩ := kit_of I rx ty
  exact k.ty _ _ I.kIn p
theorem sub_in1 (hr : Room (n + 1) X.A) : Sub X n X.A.in1 := ⟨hr.in1, rfl⟩
/-- len(x), x an instance of the class at C with the text's own __len__ -/
def rLenO (C : Addr) (sp : Sp) (E : XK) : List V → Hp → VK → Prop := fun xs H Q => ∃ (a dx : Addr) (fs : List (Str × V)), xs = [.ref a] ∧ H a = some (.ins C dx fs) ∧ sp [.ref a] H (fun v H' => ∃ i : Int, v = .int i ∧ 0 ≤ i ∧ i < 2 ^ 63 ∧ Q (.int i) H') E
theorem call_lenO (F : FnOk X.prog X.w X.K X.mg X.base CX n f fd ps sp) (hr : Room (n + 1) X.A) (hs : PySem.W.findIn X.K (.ref C) "__len__" = some (some (.ref f))) (hf : PySem.W.isFn X.K (.ref f) = true) (hb : Binds X.K fd ps []) (hx : Passes CX X E) :
    CallR X (.builtin "len") (rLenO C sp E) := by
  intro pins s σ H xs us Q I r h
  obtain ⟨a, dx, fs, rfl, ha, h⟩ := h
  rw [Vals.ref1 r]
  obtain ⟨mA, J, _⟩ := ins_get I.hok ha
  obtain ⟨od, J, _⟩ := J.look
  obtain ⟨m, hF⟩ := I.fr
  refine PySem.W.len_K hF I.ok.mod.kin J hs hf (wpAny_mono (run_sub F (sub_in1 hr) hb hx I (.cons (show L2.RelV (.ref a) (.ref a) from rfl) .nil) h) (fun v s' hv => ?_) fun _ _ x => x)
  obtain ⟨z, H', I', rz, i, rfl, h0, h1, q⟩ := hv
  obtain ⟨t, rfl⟩ := rz
  exact ⟨⟨h0, h1⟩, .int i, H', I'.tok _, ⟨_, rfl⟩, q⟩
/-- x == y, x such an instance; y of the type tb -/
def rEqO (K : PySem.W.Frag) (C : Addr) (sp : Sp) (E : XK) : R2 := fun x y H Q => ∃ (a dx : Addr) (fs : List (Str × V)) (tb : Value), x = .ref a ∧ H a = some (.ins C dx fs) ∧ TyX K H y tb ∧ PySem.W.notFirst K C tb = true ∧ sp [.ref a, y] H (fun v H' => ∃ b, v = .bl b ∧ Q (.bl b) H') E
theorem op_eqO (F : FnOk X.prog X.w X.K X.mg X.base CX n f fd ps sp) (hr : Room n X.A) (hs : PySem.W.findIn X.K (.ref C) "__eq__" = some (some (.ref f))) (hf : PySem.W.isFn X.K (.ref f) = true) (hb : Binds X.K fd ps []) (hx : Passes CX X E) :
    OpR X (compareOp .Eq) (rEqO X.K C sp E) := by
  intro pins s σ H x y v u Q I rx ry h
  obtain ⟨a, dx, fs, tb, rfl, ha, ty, nf, h⟩ := h
  cases rx
  obtain ⟨mA, J, _⟩ := ins_get I.hok ha
  obtain ⟨od, J, _⟩ := J.look
  obtain ⟨m, hF⟩ := I.fr
  show wpAny (model X.prog X.w) X.A (richCompare .Eq (.ref a) u) (EP X pins σ Q) X.xe s
  refine PySem.W.cmp_K (op := .Eq) hr.units0 hF I.ok.mod.kin J (tyx_looks I ry ty) nf hs hf (wpAny_mono (run_sub F ⟨hr, rfl⟩ hb hx I (.cons (show L2.RelV (.ref a) (.ref a) from rfl) (.cons ry .nil)) h) (fun v s' hv => ?_) fun _ _ x => x)
  obtain ⟨z, H', I', rz, b, rfl, q⟩ := hv
  cases rz
  exact ⟨.bl b, H', I', rfl, q⟩
/-- x != y, both such instances -/
def rNeO (C : Addr) (sp : Sp) (E : XK) : R2 := fun x y H Q => ∃ (a b dx dy : Addr) (fs gs : List (Str × V)), x = .ref a ∧ y = .ref b ∧ H a = some (.ins C dx fs) ∧ H b = some (.ins C dy gs) ∧ sp [.ref a, .ref b] H (fun v H' => ∃ b, v = .bl b ∧ Q (.bl (!b)) H') E
theorem ns_at {K : PySem.W.Frag} {h : Heap} {N : Addr} {mg : Str → Option Value} {n : Str} {v : Value} (X : K.In h) (G : h.Ns N mg) (e : PySem.W.nsIn K N n = some (some v)) : mg n = some v := by
  obtain ⟨o, es, ep, ho, hd, _, hf⟩ := G
  unfold PySem.W.nsIn at e
  split at e
  · rename_i c d es' n' sl q
    have := X _ _ q
    rw [ho] at this
    cases this
    cases hd
    split at e
    · rename_i en he
      cases e
      rw [← hf]
      unfold nsFind findBy
      rw [← Array.find?_toList, he]
      rfl
    · split at e <;> cases e
  · cases e
/-- what the class must be for != to go by its == -/
structure NeC (K : PySem.W.Frag) (C f : Addr) : Prop where
  cls : ∃ (nm q : Str) (N : Addr) (bs : List Value) (hdct : Bool) (sn : List Str) (sub : List Value) (ab : Bool) (col : Option Bool) (dd : Option Addr) (k0 k1 k2 k3 k5 : Option Value) (newId : String) (oc : Value) (od : Option Addr) (da : Data) (sl : Array (Option Value)),
    K.lookup C = some (excClassObj nm q C N bs [.type "object"] hdct sn sub ab col dd k0 k1 k2 k3 k5 newId) ∧ K.lookup f = some ⟨.type "function", od, da, sl⟩ ∧ PySem.W.nsOkIn K N = true ∧ PySem.W.nsIn K N "__eq__" = some (some (.ref f)) ∧ PySem.W.nsIn K N "__ne__" = some none
theorem op_neO (F : FnOk X.prog X.w X.K X.mg X.base CX n f fd ps sp) (hr : Room (n + 1) X.A) (T : NeC X.K C f) (hb : Binds X.K fd ps []) (hx : Passes CX X E) : OpR X (compareOp .NotEq) (rNeO C sp E) := by
  intro pins s σ H x y v u Q I rx ry h
  obtain ⟨a, b, dx, dy, fs, gs, rfl, rfl, ha, hb', h⟩ := h
  cases rx
  cases ry
  obtain ⟨mA, J, _⟩ := ins_get I.hok ha
  obtain ⟨mB, J', _⟩ := ins_get I.hok hb'
  obtain ⟨od, J, _⟩ := J.look
  obtain ⟨od', J', _⟩ := J'.look
  obtain ⟨nm, q, N, bs, hdct, sn, sub, ab, col, dd, k0, k1, k2, k3, k5, newId, oc, odf, da, sl, xL, lf, nok, ne, nn⟩ := T.cls
  have KX := I.kIn
  have G : s.heap.Ns N (s.heap.nsMap N) := .of_isNs (PySem.W.isNs_of_in KX nok)
  have O : s.heap.OwnEqNoNe a C f "object" [.type "object"] := ⟨_, _, nm, q, N, bs, hdct, sn, sub, ab, col, dd, k0, k1, k2, k3, k5, newId, _, _, J.1, rfl, KX _ _ xL, G, ns_at KX G ne, KX _ _ lf, rfl, PySem.F.cmp_object.mro, PySem.F.cmp_object.eq.lookup, PySem.W.ns_none_of KX G nn⟩
  refine compareOp_ne_ownEq PySem.F.cmp_object O J'.1 rfl (by have := hr.un; omega) (wpAny_mono (run_sub F (sub_in1 hr) hb hx I (.cons (show L2.RelV (.ref a) (.ref a) from rfl) (.cons (show L2.RelV (.ref b) (.ref b) from rfl) .nil)) h) (fun v s' hv => ?_) fun _ _ x => x)
  obtain ⟨z, H', I', rz, c, rfl, q⟩ := hv
  cases rz
  exact ⟨c, rfl, .bl (!c), H', I', rfl, q⟩
end
end OG


set_option Elab.async false
set_option linter.all false
set_option maxRecDepth 100000
set_option maxHeartbeats 2000000
/-! GF: «except (A, B, C, D) as n: y = n»: the exception is kept in y behind its suite. -/
namespace OG
open PySem PySem.Spec PyProof.Rows L2
/-- a kept exception: its class, its dict -/
def exk (a : Addr) (cls : Value) (d : Option Addr) : HO := .ext fun h => ∃ (oe : Obj) (vs : Array Value), h.get? a = some oe ∧ Zc cls d oe ∧ oe.data = .fields vs
theorem exk_ne_tup {a : Addr} {cls : Value} {d : Option Addr} {xs : List V} : exk a cls d ≠ .tup xs := fun z => by unfold exk at z; cases z
theorem exk_ne_own {a b : Addr} {cls : Value} {d : Option Addr} : exk a cls d ≠ .own b := fun z => by unfold exk at z; cases z
section
variable {X : Cx} {pins : List (Addr × Obj)} {σ : L2.St} {H : Hp} {s : Shared}
/-- a pinned object is tracked from now on -/
theorem inv_keep {a : Addr} {oe : Obj} {vs : Array Value} {cls : Value} {d : Option Addr} (I : Inv X ((a, oe) :: pins) σ H s) (hz : Zc cls d oe) (hd : oe.data = .fields vs) (hex : X.ex = []) (n0 : X.s_0.heap.get? a = none) (np : ∀ p ∈ X.pn ++ pins, p.1 ≠ a) :
    Inv X pins σ (upd H a (exk a cls d)) s := by
  obtain ⟨ha, hn, nL, nF, _⟩ := I.pin (a, oe) (List.mem_append_right _ List.mem_cons_self)
  have ha : s.heap.get? a = some oe := ha
  have hn : H a = none := hn
  have nex : ∀ b : Addr, b ∉ X.ex := fun b z => by rw [hex] at z; cases z
  have ne0 : ∀ b o, X.s_0.heap.get? b = some o → b ≠ a := fun b o e z => by rw [z, n0] at e; cases e
  have neH : ∀ b u, H b = some u → b ≠ a := fun b u e => ne_of_none e hn
  refine ⟨I.ok, I.os, I.bare, ⟨I.base.keep, I.base.slot, fun b o e n x => ?_, I.base.there, fun b xs e => ?_, fun b o u e => ?_, fun b ps e => ?_⟩, I.loc, I.cell, ?_, fun y c e => ?_, fun p hp => ?_, fun b u e => ?_, I.len⟩
  · rw [upd_ne (ne0 b o e)]
    exact I.base.free b o e n x
  · have q := I.base.tups b xs e
    rw [upd_ne (neH b _ q)]
    exact q
  · have q := I.base.frzs b o u e
    rw [upd_ne (neH b _ q)]
    exact q
  · obtain ⟨more, q⟩ := I.base.tbls b ps e
    exact ⟨more, by rw [upd_ne (neH b _ q)]; exact q⟩
  · rw [upd_ne (fun z => nL z.symm)]
    exact I.free
  · have hc : c ≠ a := fun z => by
      obtain ⟨v, o, ho, hcd⟩ := I.cell y c e
      rw [z, ha] at ho
      cases ho
      rw [hd] at hcd
      cases hcd
    rw [upd_ne hc]
    exact I.freeC y c e
  · have hp' : p ∈ X.pn ++ (a, oe) :: pins := by
      rcases List.mem_append.mp hp with z | z
      · exact List.mem_append_left _ z
      · exact List.mem_append_right _ (List.mem_cons_of_mem _ z)
    obtain ⟨h1, h2, h3, h4, h5⟩ := I.pin p hp'
    exact ⟨h1, by rw [upd_ne (np p hp)]; exact h2, h3, h4, h5⟩
  · by_cases hb : b = a
    · subst hb
      rw [upd_same] at e
      cases e
      exact ⟨⟨oe, vs, ha, hz, hd⟩, ⟨oe, ha⟩, fun h1 h2 ⟨o1, v1, e1, e2, e3⟩ st => ⟨o1, v1, st _ e1, e2, e3⟩⟩
    · rw [upd_ne hb] at e
      exact (I.hok b u e).stay (fun c v _ q => q) (fun c q => by rw [upd_ne (neH c _ q)]; exact q) fun c xs q => by rw [upd_ne (neH c _ q)]; exact q
theorem flyz_keeps {B : Heap} {l : List Env} {e : Addr} {Z : Obj → Prop} {h h' : Heap} (R : HandSPX.FlyingZ B l e Z h) (k : ∀ b o, h.get? b = some o → h'.get? b = some o) : HandSPX.FlyingZ B l e Z h' := by
  obtain ⟨f1, f2, f3, oe, ws, T, oT, ts, he, hc, hd, h1, hn, hne, hT, hdT, h3⟩ := R
  exact ⟨fun b o q => k b o (f1 b o q), f2, f3.of_keeps fun b o q _ => ⟨o, k b o q, rfl⟩, oe, ws, T, oT, ts, k _ _ he, hc, hd, h1, hn, hne, k _ _ hT, hdT, h3⟩
end
/-- what «except (..) as n: y = n» wishes of an exception of the body: slots i (n's) and j (y's) -/
def wKeep (K : PySem.W.Frag) (Wout : WX) (D : Ends) (i j : Nat) (cs : List Value) : WX := fun cls d σ H =>
  ∃ b, PySem.W.exmAny K cls cs = some b ∧ (b = true → ∀ a, H a = none → D.nx (((σ.set i (some (.ref a))).set j (some (.ref a))).set i none) (upd H a (exk a cls d))) ∧ (b = false → Wout cls d σ H)
section
variable {X : Cx} {body : List Stmt} {pos : Pos} {tb : WX → TS} {Wout : WX} {i j : Nat} {n y x1 x2 x3 x4 : Str} {c1 c2 c3 c4 : Value} {p1 p2 p3 p4 tpos pos' py pn' spos : Pos} {kk : Nat}
theorem ps_try_keep (hs : X.stack = X.env :: X.outer) (hf : X.env.frame = some X.env.locals) (hN : X.N.Nodup) (hex : X.ex = []) (tk : Takes X Wout)
    (hb : ∀ (W : WX) (pn : List (Addr × Obj)) (xe : Value → Shared → Prop), Takes (X.tr pn xe) W → PassesOwn (model X.prog X.w) X.A X.env xe → PSs (X.tr pn xe) body (tb W))
    (hi : X.N[i]? = some n) (hln : X.env.kindOf n = some .local) (n1 : Names X x1 c1) (n2 : Names X x2 c2) (n3 : Names X x3 c3) (n4 : Names X x4 c4)
    (hsu : ∀ (a : Addr) (oe : Obj) (cls : Value) (d : Option Addr) (pn : List (Addr × Obj)), Zc cls d oe → (∃ vs, oe.data = .fields vs) → PSs (X.suite a ((a, oe) :: pn)) [.Assign [.Name y py] (.Name n pn') spos] (tAsg (tVar i) (gName j))) :
    PS X (.Try body [.ExceptHandler (some (.Tuple [.Name x1 p1, .Name x2 p2, .Name x3 p3, .Name x4 p4] kk tpos)) (some n) [.Assign [.Name y py] (.Name n pn') spos] pos'] [] [] pos) (fun D σ H => tb (wKeep X.K Wout D i j [c1, c2, c3, c4]) D σ H) := by
  refine ⟨fun pins s σ H D I h => ?_⟩
  have ok := I.ok
  have hfr : X.A.frames = some (X.env :: X.outer) := by rw [ok.frames, hs]
  refine wpAny_Try_except ?_
  refine wpAny_mono ((hb (wKeep X.K Wout D i j [c1, c2, c3, c4]) (X.pn ++ pins) (fun e s₁ => wpAny (model X.prog X.w) X.A (noteFrame e X.env) (fun _ s₂ => wpAny (model X.prog X.w) X.A (setFlight e none) (fun _ s₃ =>
    wpAny (model X.prog X.w) X.A (handleBy e X.env [.ExceptHandler (some (.Tuple [.Name x1 p1, .Name x2 p2, .Name x3 p3, .Name x4 p4] kk tpos)) (some n) [.Assign [.Name y py] (.Name n pn') spos] pos']) (SP X pins D) X.xe s₃) X.xe s₂) X.xe s₁) (fun u s' xx => ?_) PassesOwn.looking).run [] s σ H D (I.toTry _) h) (fun f s1 hsp => ?_) (fun e s1 he => he)
  · obtain ⟨a, B, sI, pins', σ', H', cls, d, rfl, J', nb, up, sky, na, os, ag, w⟩ := xx
    have J : Inv X pins σ' H' sI := J'.ofTry ok
    have sky' : Sky B (X.env :: X.outer) a (Zc cls d) X.env.locals s'.heap := by rw [← hs]; exact sky
    show wpAny (model X.prog X.w) X.A (noteFrame (.ref a) X.env) _ _ _
    refine Sky.land Zc.steady hfr hf sky' fun h3 fl3 up3 => ?_
    have J3 : Inv X pins σ' H' { s' with heap := h3 } := J.landed nb fl3.1 (up.trans up3) os ag
    obtain ⟨oe3, vs3, he3, hz3, hd3⟩ := fl3.there
    have nfr : a ∉ frs (X.env :: X.outer) := fun hm => by
      obtain ⟨_, o', e', hnf⟩ := fl3.2.2.1.mem hm
      rw [he3] at e'; cases e'
      exact hnf _ hd3
    have nL : a ≠ X.env.locals := fun z => nfr (List.mem_filterMap.mpr ⟨X.env, List.mem_cons_self, by rw [hf, z]⟩)
    have nF : a ∉ X.fs := fun hm => by
      obtain ⟨e, he, q⟩ := List.mem_filterMap.mp hm
      exact nfr (List.mem_filterMap.mpr ⟨e, List.mem_cons_of_mem _ he, q⟩)
    have S3 := J3.suite he3 hd3 na nL nF
    have nI : sI.heap.get? a = none := by
      cases q : sI.heap.get? a with
      | none => rfl
      | some o =>
        have z := nb a o q (by rw [hs]; exact nfr)
        rw [fl3.2.1] at z
        cases z
    have n0 : X.s_0.heap.get? a = none := by
      cases q : X.s_0.heap.get? a with
      | none => rfl
      | some o =>
        obtain ⟨o', e'⟩ := J.base.there a o q (by rw [hex]; exact List.not_mem_nil)
        rw [nI] at e'
        cases e'
    have np : ∀ p ∈ X.pn ++ pins, p.1 ≠ a := fun p hp z => by
      have e := (J.pin p hp).1
      rw [z, nI] at e
      cases e
    obtain ⟨b, hb1, hyes, hno⟩ := w
    refine wpAny_handleBy_cons (codeAny_handlers_test ?_) (by intro q; cases q)
    have LT : PySem.W.Looks (model X.prog X.w) h3 (typeOf (.ref a)) cls := fun A Q E s k q => wpAny_typeOf_ref (k _ _ he3) (by rw [hz3.1]; exact q)
    have name : ∀ {x : Str} {c : Value} {np : Pos} {Q : Value → Shared → Prop} {E : Value → Shared → Prop}, Names X x c → Q c { s' with heap := h3 } → wpAny (model X.prog X.w) (X.A.mark (some (.ref a))) (eval (.Name x np) X.env) Q E { s' with heap := h3 } := fun {x c np Q E} hc q => by
      obtain ⟨hg, hdbg, hm | ⟨hm, hv, hnn⟩⟩ := hc
      · exact ld_glob (X := X.suite a ((a, oe3) :: (X.pn ++ pins))) S3 hg hm q hdbg
      · exact ld_blt (X := X.suite a ((a, oe3) :: (X.pn ++ pins))) S3 hg hm hv q hnn hdbg
    refine wpAny_Tuple ?_
    refine wpAny_items_cons (name n1 ?_)
    refine wpAny_items_cons (name n2 ?_)
    refine wpAny_items_cons (name n3 ?_)
    refine wpAny_items_cons (name n4 ?_)
    refine wpAny_items_nil ⟨by size_fits, ?_⟩
    have kp : ∀ q o, h3.get? q = some o → (h3.push { cls := .type "tuple", data := .seq [c1, c2, c3, c4].toArray }).get? q = some o := fun _ _ z => Heap.get?_push_of_some _ z
    have LM := PySem.W.exm_tup4 (M := model X.prog X.w) (K := X.K) (J3.kIn.keeps kp) (LT.keeps kp) (Heap.get?_push_size h3 rfl) hb1
    refine LM.here ?_
    have fl3' := flyz_keeps fl3 kp
    have up3' : s'.heap.UpToSlots (h3.push { cls := .type "tuple", data := .seq [c1, c2, c3, c4].toArray }) := up3.trans (Heap.UpToSlots.of_keeps kp)
    generalize h3.push { cls := .type "tuple", data := .seq [c1, c2, c3, c4].toArray } = h3' at *
    cases b with
    | true =>
      refine codeAny_handlers_suite_as ?_
      refine HandSPX.lands_againZ fl3' fun h4 fl4 up4 => ?_
      have J4 : Inv X pins σ' H' { s' with heap := h4 } := J.landed nb fl4.1 ((up.trans up3').trans up4) os ag
      obtain ⟨oe4, vs4, he4, hz4, hd4⟩ := fl4.there
      have S4 := J4.suite he4 hd4 na nL nF
      refine store_ok (X := X.suite a ((a, oe4) :: (X.pn ++ pins))) (v := .ref a) S4 hN hi (.inl hln) rfl (fun s5 S5 => ?_) (.inr hln)
      have hil : i < σ'.length := by
        rw [J.len]
        exact (List.getElem?_eq_some_iff.mp hi).1
      refine wpAny_mono ((hsu a oe4 cls d (X.pn ++ pins) hz4 ⟨_, hd4⟩).run [] s5 _ H' { nx := fun σ6 H6 => σ6 = (σ'.set i (some (.ref a))).set j (some (.ref a)) ∧ H6 = H', rt := fun _ _ => False, bk := fun _ _ => False, ct := fun _ _ => False } S5
        ⟨.ref a, List.getElem?_set_self hil, rfl, rfl⟩) (fun f s6 hsp => ?_) (fun _ _ z => False.elim z)
      cases f with
      | next =>
        obtain ⟨σ6, H6, S6, rfl, rfl⟩ := hsp
        have I6 : Inv X ((a, oe4) :: pins) ((σ'.set i (some (.ref a))).set j (some (.ref a))) H6 s6 := ⟨ok, S6.os, S6.bare, S6.base, S6.loc, S6.cell, S6.free, S6.freeC, fun p hp => S6.pin p (by
            rw [List.append_nil]
            rcases List.mem_append.mp hp with z | z
            · exact List.mem_cons_of_mem _ (List.mem_append_left _ z)
            · rcases List.mem_cons.mp z with z | z
              · rw [z]
                exact List.mem_cons_self
              · exact List.mem_cons_of_mem _ (List.mem_append_right _ z)), S6.hok, S6.len⟩
        exact gone_ok I6 hN hi hln fun s7 J7 => ⟨_, _, inv_keep J7 hz4 hd4 hex n0 np, hyes rfl a na⟩
      | brk =>
        obtain ⟨_, _, _, z⟩ := hsp
        exact z.elim
      | cont =>
        obtain ⟨_, _, _, z⟩ := hsp
        exact z.elim
      | ret u =>
        obtain ⟨_, _, _, _, _, z⟩ := hsp
        exact z.elim
    | false =>
      show wpAny _ X.A (handleBy (.ref a) X.env []) _ _ _
      refine wpAny_handleBy_nil ?_
      obtain ⟨k1, k2, k3, oe, vs, T, oT, ts', he, hz, hd, h1, hr⟩ := id fl3'
      unfold PySem.passOn
      refine wpAny_bind (wpAny_field he hd h1 ?_)
      rw [if_neg (show ¬ ((Value.ref T == Value.none) = true) from by simp)]
      have fin : wpAny (model X.prog X.w) X.A (setFlight (.ref a) X.env.frame) (fun _ s4 => wpAny (model X.prog X.w) X.A (throw (.ref a) : Sem Flow) (SP X pins D) X.xe s4) X.xe { s' with heap := h3' } := by
        rw [hf]
        refine HandSPX.setFlight_upZ fl3' fun h4 hh4 up4 => wpAny_throw (tk _ _ ?_)
        exact ⟨a, B, sI, pins, σ', H', cls, d, rfl, J, nb, (up.trans up3').trans up4, .inr (.inr (by rw [hs]; exact hh4)), na, os, ag, hno rfl⟩
      first
        | exact wpAny_bind (wpAny_pure (wpAny_bind fin))
        | exact wpAny_bind fin
  · cases f with
    | next =>
      obtain ⟨σ', H', J', q⟩ := hsp
      exact wpAny_execs_nil ⟨σ', H', J'.ofTry ok, q⟩
    | brk =>
      obtain ⟨σ', H', J', q⟩ := hsp
      exact ⟨σ', H', J'.ofTry ok, q⟩
    | cont =>
      obtain ⟨σ', H', J', q⟩ := hsp
      exact ⟨σ', H', J'.ofTry ok, q⟩
    | ret u =>
      obtain ⟨v, σ', H', J', r, q⟩ := hsp
      exact ⟨v, σ', H', J'.ofTry ok, r, q⟩
end
/-! ### isinstance of a kept exception, its fields -/
section
variable {prog : Program} {w : World} {A : Around} {E : Value → Shared → Prop} {s : Shared} {K : PySem.W.Frag} {x D : Addr} {ox : Obj} {od : Option Obj}
theorem find_data {C : Addr} {name : Str} {a g : Value} (hc : (PySem.W.clsIn K C).isSome = true) (ha : PySem.W.findIn K (.ref C) name = some (some a)) (hg : PySem.W.specialIn K a "__get__" = some (some g)) (ht : PySem.W.takesIn K a = some true) : PySem.W.findObj K C od name = some (.bind g a) := by
  obtain ⟨cd, hc⟩ := Option.isSome_iff_exists.mp hc
  simp [PySem.W.findObj, hc, ha, hg, ht]
open PySem.W in
/-- x.__class__ of an exception with a dict or without -/
theorem exc_class {Q : Option Value → Shared → Prop} (T : ExcC K D) (X : K.In s.heap) (I : InstAt s.heap x ox D od) (h : Q (some (.ref D)) { s with toks := s.toks + 1 }) : wpAny (model prog w) A (getAttr? (.ref x) "__class__") Q E s := by
  have f0 : findObj K D od "__class__" = some (.bind (.builtin "getset_descriptor.__get__") (.builtin "object.__class__")) := find_data (by obtain ⟨cd, hc, _⟩ := any_some T.hd; rw [hc]; rfl) T.ha T.hn T.ht
  obtain ⟨hp, g, d, t, os⟩ := s
  have L0 := I.type (M := model prog w)
  have LG := looks_findIn (M := model prog w) X T.hg
  have LT := looks_findIn (M := model prog w) X T.hk
  have LF := looks_find (M := model prog w) X I f0
  have sub : Looks (model prog w) hp (isInstance (.ref x) (.type "BaseException")) true := L0.andThen (looks_subIn X T.hs)
  have ne : (Value.builtin "BaseException.__getattribute__" == Value.builtin "object.__getattribute__") = false := by decide +kernel
  have e1 : (onTheHeap (Value.ref D) && Value.builtin "BaseException.__getattribute__" == Value.builtin "object.__getattribute__") = false := by rw [ne]; rfl
  unfold getAttr? getAttrBy? getAttrBy
  refine wpAny_bind (wpAny_mkText (wpAny_bind (wpAny_attempt (wpAny_holding (wpAny_bind (L0.at (wpAny_bind (LG.at ?_))))))))
  dsimp only
  rw [e1, if_neg Bool.false_ne_true]
  unfold getAttrByItsOwn hookBefore
  refine wpAny_bind ?_
  rw [if_pos (show onTheHeap (Value.ref D) = true from rfl)]
  refine LT.at ?_
  refine wpAny_bind (wpAny_attempt (wpAny_holding ?_))
  unfold callGetattribute
  rw [if_neg (show ¬ ((false && onTheHeap (Value.builtin "BaseException.__getattribute__")) = true) from by decide)]
  unfold boundAndCalled
  rw [PySem.F.excAttr_ValueError.ga.bind (.ref x)]
  refine wpAny_bind (wpAny_pure ?_)
  refine wpAny_call (codeAny_call_builtin PySem.F.excAttr_ValueError.ga.plain PySem.F.entry_bexc_ga ?_)
  refine @check_slot (model prog w) _ _ ⟨hp, g, d, t + 1, os⟩ "BaseException.__getattribute__" "BaseException" "__getattribute__" (.ref x) [.str "__class__" t] [] _ (by decide +kernel) (by decide +kernel) sub (PySem.F.args_bexc_ga (.ref x) (.str "__class__" t)) ?_
  unfold Builtin.«object.__getattribute__»
  refine wpAny_bind (wpAny_of_eq (a := ((Value.ref x : Value), [Value.str "__class__" t])) (by first | rfl | (simp only [slotArgs]; rfl)) ?_)
  refine wpAny_bind (wpAny_pure (wpAny_bind (L0.at (wpAny_bind (LF.at ?_)))))
  refine wpAny_bind (wpAny_holding (wpAny_call (class_get (s := ⟨hp, g, d, t + 1, os⟩) (ox := ox) (od := od) X I T.hm ?_)))
  refine wpAny_pure ?_
  show wpAny _ _ (handedOut (.ref D)) _ _ _
  rw [handedOut_of (v := .ref D) rfl]
  first
    | exact wpAny_pure (wpAny_pure h)
    | exact wpAny_pure h
    | exact wpAny_pure (wpAny_bind (wpAny_pure (wpAny_pure h)))
theorem exc_kit (T : ExcC K D) : PySem.W.KitX K (.ref x) (.ref D) (fun h => PySem.W.InstAt h x ox D od) where
  ty := fun _ _ _ I => I.type
  it := fun _ _ X _ => by
    obtain ⟨cd, hc, _⟩ := PySem.W.any_some T.hd
    unfold PySem.W.clsIn at hc
    split at hc
    · rename_i c d c2 sl ho
      intro A' Q' E' s' k q
      unfold isType loadHead
      exact wpAny_bind (wpAny_loadPart (k _ _ (X _ _ ho)) (wpAny_pure q))
    · cases hc
  ne := fun h tp dd its n sl X htp => (PySem.W.handS_kitx_exc (x := x) (ox := ox) T.hg T.hk T.hs T.hd T.ha T.hn T.ht T.hm).ne h tp dd its n sl X htp
  ca := fun X I k => exc_class T X I k
end
section
variable {X : Cx} {pins : List (Addr × Obj)} {σ : L2.St} {H : Hp} {s : Shared}
/-- a kept exception in the heap -/
theorem exk_inst {a D : Addr} {d : Option Addr} (I : Inv X pins σ H s) (ha : H a = some (exk a (.ref D) d)) {od : Option Obj} (hod : match d with | none => od = none | some dd => ∃ o, od = some o ∧ s.heap.get? dd = some o) : ∃ ox, PySem.W.InstAt s.heap a ox D od := by
  obtain ⟨⟨oe, vs, e1, hz, e3⟩, _, _⟩ := (show ObjOk X.prog X.w H s.heap a (exk a (.ref D) d) from I.hok a _ ha)
  refine ⟨oe, e1, hz.1, by unfold PySem.W.notCls; rw [e3] <;> rfl, ?_⟩
  rw [hz.2]
  cases d with
  | none =>
    obtain rfl : od = none := hod
    trivial
  | some dd =>
    obtain ⟨o, rfl, ho⟩ := hod
    exact ho
/-- isinstance(e, c), e kept -/
def rIsK (K : PySem.W.Frag) : List V → Hp → VK → Prop := fun xs H Q => ∃ (a D dd : Addr) (fs : List (Str × V)) (c : V) (cv : Value) (b : Bool), xs = [.ref a, c] ∧ ExcC K D ∧ H a = some (exk a (.ref D) (some dd)) ∧ H dd = some (.xd fs) ∧ ClsV c cv ∧ PySem.W.kitOne K (.ref D) cv = some b ∧ Q (.bl b) H
theorem call_isKept : CallR X (.builtin "isinstance") (rIsK X.K) := by
  intro pins s σ H xs us Q I r h
  obtain ⟨a, D, dd, fs, c, cv, b, rfl, T, ha, hdd, k, e, q⟩ := h
  obtain ⟨u1, u2, rfl, r1, r2⟩ := vals2 r
  have e2 := k.eq r2
  subst e2
  obtain rfl : u1 = Value.ref a := r1
  obtain ⟨mA, hns, _⟩ := (show ObjOk X.prog X.w H s.heap dd (.xd fs) from I.hok dd _ hdd)
  obtain ⟨od, ho, _⟩ := lookIn_ns hns
  obtain ⟨ox, J⟩ := exk_inst I ha (od := some od) ⟨od, rfl, ho⟩
  exact PySem.W.kia_one (exc_kit (ox := ox) (od := some od) T) I.kIn J e (fun z => nomatch z) fun tk => ⟨.bl b, H, I.tok tk, rfl, q⟩
/-- e.f, e kept -/
def tXk (K : PySem.W.Frag) (f : Str) (te : TE) : TE := fun σ H Q => te σ H fun x H1 => ∃ (a D dd : Addr) (fs : List (Str × V)) (v : V), x = .ref a ∧ XfC K D ∧ PySem.W.findIn K (.ref D) f = some none ∧ H1 a = some (exk a (.ref D) (some dd)) ∧ H1 dd = some (.xd fs) ∧ fs.lookup f = some v ∧ Q v H1
theorem pe_xk {e : Expr} {te : TE} {pos : Pos} {n : Str} (he : PE X e te) (hb : attributeBase e n X.env (eval e X.env) = eval e X.env := by rfl) : PE X (.Attribute e n pos) (tXk X.K n te) := by
  refine ⟨fun pins s σ H Q I h => ?_⟩
  refine attr_of hb (thn (he.run pins s σ H _ I h) fun u s1 hh => ?_)
  obtain ⟨x, H1, I1, rx, a, D, dd, fs, v, ex, T, hno, ha, hdd, l, q⟩ := hh
  subst ex
  obtain rfl : u = Value.ref a := rx
  obtain ⟨mA, hns, hr⟩ := (show ObjOk X.prog X.w H1 s1.heap dd (.xd fs) from I1.hok dd _ hdd)
  obtain ⟨od, ho, hl⟩ := lookIn_ns hns
  obtain ⟨u, hu, ru⟩ := RelO.some_of (v := v) (o := mA n) (by rw [← l]; exact hr n)
  obtain ⟨ox, J⟩ := exk_inst I1 ha (od := some od) ⟨od, rfl, ho⟩
  exact HandSPX.exc_get I1.kIn J T.ga T.gg T.exC (PySem.W.findObj_own T.hdC hno rfl (by rw [hl, hu])) (handed_of ru) ⟨v, H1, I1.tok _, ru, q⟩
end
end OG


set_option Elab.async false
set_option linter.all false
set_option maxRecDepth 100000
set_option maxHeartbeats 2000000
/-! GG: enumerate of a tuple; methods and class methods by keywords; a class in a variable called. -/
namespace OG
open PySem PySem.Spec PyProof.Rows L2 ClX
/-! ### enumerate(t), t a tuple -/
theorem meets_enum_tup (t : Addr) (items : Array Value) :
    Meets (Builtin.«enumerate.__new__» ⟨[.type "enumerate", .ref t], []⟩) (fun _ R s => s.heap.IsTuple t items ∧
      R (.ok (.ret (.ref (s.heap.push { cls := .type "tuple_iterator", data := .fields #[.ref t, .int 0 0] }).objs.size)))
        { s with heap := (s.heap.push { cls := .type "tuple_iterator", data := .fields #[.ref t, .int 0 0] }).push { cls := .type "enumerate", data := .fields #[.none, .bool false, .ref s.heap.objs.size, rawInt 0, .none, .none] } }) :=
  .of_wp fun prog w A R s h => by
    obtain ⟨hp, g, d, tk, os⟩ := s; obtain ⟨hl, h⟩ := h
    obtain ⟨⟨oc, od, dt, sl⟩, ho, hc, n, hd⟩ := id hl
    replace hc : oc = .type "tuple" := hc
    replace hd : dt = .seq items n := hd
    subst hc hd
    have hsub := PySem.sub_enumerate
    have hL : Heap.IsTuple (Shared.heap ⟨hp, g, d, tk, os⟩) t items := hl
    wp_walk using PySem.AutoSeq1.wpAny_loadPart' ho
    refine wpAny_stack_any fun st => wpAny_pure ?_
    split
    · rename_i c _ _ _ _ _
      cases (c == Value.type "enumerate")
      · wp_walk using PySem.AutoSeq1.wpAny_loadPart' ho, wpAny_pyIter_tuple hL
        exact ⟨_, rfl, h⟩
      · wp_walk using PySem.AutoSeq1.wpAny_loadPart' ho, wpAny_pyIter_tuple hL
        exact ⟨_, rfl, h⟩
    · wp_walk using PySem.AutoSeq1.wpAny_loadPart' ho, wpAny_pyIter_tuple hL
      exact ⟨_, rfl, h⟩
section
variable {prog : Program} {w : World} {A : Around} {E : Value → Shared → Prop} {s : Shared}
theorem call_enum_tup {t : Addr} {items : Array Value} {Q : Value → Shared → Prop} (hL : s.heap.IsTuple t items)
    (h : ∀ h', IsEnum h' (s.heap.objs.size + 1) s.heap.objs.size 0 .none → h'.IsTupleIter s.heap.objs.size t 0 → h'.objs.size = s.heap.objs.size + 2 →
      (∀ b o, s.heap.get? b = some o → h'.get? b = some o) → Q (.ref (s.heap.objs.size + 1)) { s with heap := h' }) :
    wpAny (model prog w) A (call (.type "enumerate") [.ref t]) Q E s := by
  refine callType_new PySem.F.called_enumerate (by decide) (PySem.F.typeCall_enumerate_1 _) (PySem.F.newCall_enumerate_1 _) (fun obj => PySem.F.args_object_init_2 obj _) PySem.F.entry_enumerate_new (meets_enum_tup t items) ⟨hL, ?_⟩
  have hz : (s.heap.push { cls := .type "tuple_iterator", data := .fields #[.ref t, .int 0 0] }).objs.size = s.heap.objs.size + 1 := Heap.size_push ..
  show _ ∧ _
  rw [hz]
  have he : IsEnum ((s.heap.push { cls := .type "tuple_iterator", data := .fields #[.ref t, .int 0 0] }).push
      { cls := .type "enumerate", data := .fields #[.none, .bool false, .ref s.heap.objs.size, rawInt 0, .none, .none] }) (s.heap.objs.size + 1) s.heap.objs.size 0 .none := by
    have := Heap.get?_push_size (s.heap.push { cls := .type "tuple_iterator", data := .fields #[.ref t, .int 0 0] })
      (o := { cls := .type "enumerate", data := .fields #[.none, .bool false, .ref s.heap.objs.size, rawInt 0, .none, .none] }) rfl
    rw [hz] at this; exact this
  exact ⟨⟨_, he, rfl⟩, h _ he ⟨_, Heap.get?_push_of_some _ (Heap.get?_push_size _ rfl), rfl, rfl⟩ (by rw [Heap.size_push, hz]) fun b o x => Heap.get?_push_of_some _ (Heap.get?_push_of_some _ x)⟩
end
/-- the tuple at a, each item in a new pair -/
def IteT (K : PySem.W.Frag) (a : Addr) : It :=
  ⟨fun i H => ∃ (xs : List V) (x : V), SqT K H a xs ∧ xs[i]? = some x, fun i H v H' => ∃ T x, v = .ref T ∧ H T = none ∧ H' = upd H T (.tup [.int (i : Nat), x]) ∧ ∀ xs, SqT K H a xs → xs[i]? = some x, fun i H => ∃ xs : List V, SqT K H a xs ∧ xs.length = i⟩
theorem turn_enumT {P : Program} {w : World} {K : PySem.W.Frag} {elts : List Expr} {kk : Nat} {tpos : Pos} (a e it : Addr) :
    Turn P w K (.Tuple elts kk tpos) (IteT K a) [e, it] e (fun i h => (∃ old, IsEnum h e it ((i : Nat) : Int) old) ∧ h.IsTupleIter it a i ∧ e ≠ it ∧ a ≠ it ∧ a ≠ e) where
  mem := by simp
  obj := fun i h st b hb => by
    obtain ⟨⟨old, he⟩, ⟨o, ho, hc, hd⟩, _⟩ := st
    have e' : b = e ∨ b = it := by simpa using hb
    rcases e' with z | z
    · rw [z]; exact ⟨_, he, fun v q => nomatch q⟩
    · rw [z]; exact ⟨o, ho, fun v q => by rw [hd] at q; cases q⟩
  keep := fun i h h' st k => let ⟨⟨old, he⟩, hi, hne⟩ := st; ⟨⟨old, k e (by simp) _ he⟩, hi.at fun o q => k it (by simp) o q, hne⟩
  item := by
    intro X hP hw hK hc i pins s σ H E I hf st hg
    subst hP hw hK
    obtain ⟨⟨old, he⟩, hit, hne, nai, nae⟩ := st
    obtain ⟨xs, x, hq, hx⟩ := hg
    obtain ⟨its, rv, p, hz⟩ := I.tuple hq
    obtain ⟨u, hu, ru⟩ := rv.get hx
    have hel : e < s.heap.objs.size := Heap.lt_size he
    have hil : it < s.heap.objs.size := by obtain ⟨_, q, _⟩ := hit; exact Heap.lt_size q
    have hp : s.heap.IsTuple a its.toArray := p
    have hlt : i < its.toArray.size := by
      have := (List.getElem?_eq_some_iff.mp hu).1
      simpa using this
    refine wpAny_pyNext_enum_itemD (Draws.tuple (prog := X.prog) (w := X.w) (A := X.A.in1) (I.ok.hd hc) it a nai its.toArray) he ⟨hit, hp⟩ hlt hne (by simp [hne, Ne.symm nae]) fun x' h' tk px ho hst' hT hsz hk => ?_
    have ex : x' = u := by
      have e1 : its[i]? = some x' := by simpa using px
      rw [hu] at e1
      exact (Option.some.inj e1).symm
    subst ex
    refine ⟨_, rfl, wpAny_letOwnedTupleGo_enum (s := { s with heap := h', toks := tk + 1 }) ho fun h'' he' sb => ?_⟩
    have hT2 : h''.get? s.heap.objs.size = some { cls := .type "tuple", data := .seq #[.int i tk, x'] } := (sb.2 _ (Nat.ne_of_gt hel)).trans hT
    have new : ObjOk X.prog X.w (upd H s.heap.objs.size (.tup [.int (i : Nat), x])) h'' s.heap.objs.size (.tup [.int (i : Nat), x]) :=
      ⟨by show 2 ≤ sizeLine; decide, [.int i tk, x'], .cons ⟨_, rfl⟩ (.cons ru .nil), ⟨_, hT2, rfl, _, rfl⟩⟩
    have I1 : Inv X pins σ (upd H s.heap.objs.size (.tup [.int (i : Nat), x])) { s with heap := h'', toks := tk + 1 } :=
      I.turnedNew (ch := [e, it]) (fun b ob hb q => (sb.2 b (fun z => hb (by simp [z]))).trans (hk b ob (fun z => hb (by simp [z])) (fun z => hb (by simp [z])) q)) hf (Nat.le_refl _) new
    refine ⟨.ref s.heap.objs.size, _, I1, rfl, ⟨_, x, rfl, I.hok.fresh (Nat.le_refl _), rfl, fun ys hy => by rw [I.tuple_inj hy hq]; exact hx⟩, ⟨⟨x', ?_⟩, hst'.1.at fun o q => (sb.2 it (Ne.symm hne)).trans q, hne, nai, nae⟩, fun b hb => ?_⟩
    · have e1 : ((i + 1 : Nat) : Int) = (i : Int) + 1 := by omega
      rw [e1]; exact he'
    · have hb' : b < s.heap.objs.size := by
        have e' : b = e ∨ b = it := by simpa using hb
        rcases e' with z | z
        · rw [z]; exact hel
        · rw [z]; exact hil
      rw [upd_ne (Nat.ne_of_lt hb')]
      exact (hf b hb).1
  done := by
    intro X hP hw hK hc i pins s σ H E I hf st hg
    subst hP hw hK
    obtain ⟨⟨old, he⟩, hit, hne, nai, nae⟩ := st
    obtain ⟨xs, hq, hx⟩ := hg
    obtain ⟨its, rv, p, hz⟩ := I.tuple hq
    obtain ⟨f0, f1, f2, f3, f4, f5⟩ := hf it (by simp)
    have hl := rv.length
    have hi : i = its.toArray.size := by rw [List.size_toArray, ← hl, hx]
    subst hi
    exact wpAny_pyNext_enum_endD (Draws.tuple (prog := X.prog) (w := X.w) (A := X.A.in1) (I.ok.hd hc) it a nai its.toArray) he ⟨hit, (show s.heap.IsTuple a its.toArray from p)⟩ fun h' eb => ⟨rfl, I.turned (t' := s.toks) (fun b o hb q => eb b o hb q) f0 f1 f3 f4 f5⟩
  self := fun A i s Q E st h => let ⟨⟨_, he⟩, _⟩ := st; wpAny_pyIter_enum he h
def iEnumT (K : PySem.W.Frag) (ta : TA) : TI := fun σ H R => ta σ H fun vs H1 => ∃ a xs, vs = [.ref a] ∧ SqT K H1 a xs ∧ R (IteT K a) H1
theorem pi_enumT {X : Cx} {e : Expr} {ta : TA} {p pos tpos : Pos} {elts : List Expr} {kk : Nat} (hg : Gl X "enumerate") (hm : X.mg "enumerate" = none) (ha : PA X [e] ta) (hs : starEach [e] X.env = [(false, eval e X.env)] := by rfl) :
    PI X (.Tuple elts kk tpos) (.Call (.Name "enumerate" p) [e] [] pos) (iEnumT X.K ta) := by
  refine ⟨fun pins s σ H R I h => ?_⟩
  refine Call_ (ld_blt I hg hm boot_enumerate (PyProof.Rows.callWith_type1 (thn (ha.run pos pins s σ H _ I h) fun us s1 ⟨vs, H1, I1, r1, q1⟩ => ?_) hs rfl))
  obtain ⟨a, xs, ex, hq, q⟩ := q1
  subst ex
  cases r1 with
  | cons r rr =>
    cases rr
    cases r
    obtain ⟨its, rv, p', hz⟩ := I1.tuple hq
    have hp : s1.heap.IsTuple a its.toArray := p'
    have hal : a < s1.heap.objs.size := by obtain ⟨_, q, _⟩ := hp; exact Heap.lt_size q
    refine call_enum_tup hp fun h' he hit hsz hk => wpAny_pyIter_enum he ?_
    have I2 : Inv X pins σ H1 { s1 with heap := h' } := I1.kept (t' := s1.toks) hk
    refine ⟨s1.heap.objs.size + 1, [s1.heap.objs.size + 1, s1.heap.objs.size], _, _, H1, rfl, I2, turn_enumT a (s1.heap.objs.size + 1) s1.heap.objs.size, ⟨⟨.none, he⟩, hit, Nat.succ_ne_self _, Nat.ne_of_lt hal, Nat.ne_of_lt (Nat.lt_succ_of_lt hal)⟩, fun b hb => ?_, q⟩
    have e' : b = s1.heap.objs.size + 1 ∨ b = s1.heap.objs.size := by simpa using hb
    have hle : s1.heap.objs.size ≤ b := by
      rcases e' with z | z
      · rw [z]; exact Nat.le_add_right _ _
      · rw [z]; exact Nat.le_refl _
    exact I1.fpOk hle (I1.hok.fresh hle)
/-- such a walk, by what stands before each turn -/
theorem for_enumT {K : PySem.W.Frag} {a : Addr} {xs : List V} {g : TG} {tb : TS} {D : Ends} {σ : L2.St} {H : Hp} (Pv : Nat → L2.St → Hp → Prop) (h0 : Pv 0 σ H) (hl : ∀ i σ H, i ≤ xs.length → Pv i σ H → SqT K H a xs)
    (hs : ∀ i x σ H T, xs[i]? = some x → Pv i σ H → H T = none → g (.ref T) σ (upd H T (.tup [.int (i : Nat), x])) fun σ2 H2 => tb { D with nx := Pv (i + 1), ct := Pv (i + 1), bk := D.nx } σ2 H2) (hd : ∀ σ H, Pv xs.length σ H → D.nx σ H) :
    ∃ W : Nat → Nat → L2.St → Hp → Prop, (∃ m, W 0 m σ H) ∧ ∀ i m σ H, W i m σ H →
      ((IteT K a).stop i H ∧ D.nx σ H) ∨ ((IteT K a).go i H ∧ ∃ N : L2.St → Hp → Prop, (∀ σ' H', N σ' H' → ∃ m', m' < m ∧ W (i + 1) m' σ' H') ∧ ∀ x H', (IteT K a).yld i H x H' → g x σ H' fun σ2 H2 => tb { D with nx := N, ct := N, bk := D.nx } σ2 H2) := by
  refine ⟨fun i m σ H => m = xs.length - i ∧ i ≤ xs.length ∧ Pv i σ H, ⟨xs.length, by simp, Nat.zero_le _, h0⟩, ?_⟩
  rintro i m σ H ⟨rfl, hi, p⟩
  have q := hl i σ H hi p
  by_cases hlt : i < xs.length
  · refine .inr ⟨⟨xs, xs[i], q, List.getElem?_eq_getElem hlt⟩, Pv (i + 1), fun σ' H' p' => ⟨xs.length - (i + 1), by omega, rfl, hlt, p'⟩, fun x H' y => ?_⟩
    obtain ⟨T, x', rfl, hT, rfl, hx⟩ := y
    exact hs i x' σ H T (hx xs q) p hT
  · have e : i = xs.length := by omega
    subst e
    exact .inl ⟨⟨xs, q, rfl⟩, hd σ H p⟩
/-! ### methods by keywords alone -/
section
variable {X : Cx} {CX : CXT} {k : Nat} {C f p g : Addr} {fd : FuncData} {ps ks : List Str} {sp : Sp} {E : XK} {o : Expr} {m : Str} {pos apos : Pos} {kws : List Keyword} {ta : TE} {tk : TA} {gg : List Value → List Value → List Value} {gV : List V → List V → List V} {mc : Value} {pl : Sem Bool}
/-- o.m(k = v, ..) -/
def tMethK (C : Addr) (m : Str) (sp : Sp) (gV : List V → List V → List V) (E : XK) (ta : TE) (tk : TA) : TE := fun σ H Q => ta σ H fun x H1 => ∃ a dx fs, x = .ref a ∧ H1 a = some (.ins C dx fs) ∧ fs.lookup m = none ∧ tk σ H1 fun zs H2 => sp (gV [x] zs) H2 Q E
theorem pe_methK0 (he : PE X o ta) (c : L2.Cls X.K C) (hm : L2.Meth X.K C m f) (F : FnOk X.prog X.w X.K X.mg X.base CX k f fd ps sp) (hr : Room k X.A) (hb : KBinds X.K fd ps ks gg gV) (hx : Passes CX X E) (hkw : PK X kws tk)
    (hall : (backToKw pos (keywordEach kws X.env)).all (·.1.isSome) = true := by rfl) (hks : (backToKw pos (keywordEach kws X.env)).filterMap (·.1) = ks := by rfl)
    (hpl : ((backTo pos (starEach [] X.env)).any (·.1) || (backToKw pos (keywordEach kws X.env)).any (·.1.isNone)) = false := by rfl)
    (ht : eval (.Call (.Attribute o m apos) [] kws pos) X.env = (do
      let ov ← eval o X.env
      standAt apos.atName
      let (f, first) ← holding [ov] (getMethod ov m pl)
      callWith pos f first (backTo pos (starEach [] X.env)) (backToKw pos (keywordEach kws X.env))) := by rfl) :
    PE X (.Call (.Attribute o m apos) [] kws pos) (tMethK C m sp gV E ta tk) := by
  refine ⟨fun pins s σ H Q I h => ?_⟩
  refine PySem.W.methodCall_KW (pl := pl) (thn (he.run pins s σ H _ I h) fun u s1 ⟨x, H1, I1, rx, a, dx, fs, ex, ea, l, q⟩ => ?_) ht
  subst ex
  obtain rfl : u = Value.ref a := rx
  refine getmeth_ok I1 ea c hm l ?_
  refine PySem.W.callWith_KW0 (first := [.ref a]) (h₀ := X.base) I.ok.mod.kin hm.kp hall (thn (hkw.run pos pins s1 σ H1 _ I1 q) fun ws s2 ⟨zs, H2, I2, rz, q2⟩ => ⟨I2.kIn, ?_⟩) hpl
  rw [hks]
  exact run_fnk (us := [.ref a]) (vs := [.ref a]) F hr hb hx I2 (.cons rfl .nil) rz q2
/-- C.m(k = v, ..), m a classmethod -/
def tCMethK (C : Addr) (sp : Sp) (gV : List V → List V → List V) (E : XK) (ta : TE) (tk : TA) : TE := fun σ H Q => ta σ H fun x H1 => x = .ref C ∧ tk σ H1 fun zs H2 => sp (gV [.ref C] zs) H2 Q E
theorem pe_cmethK0 (he : PE X o ta) (r : CRead X.K C mc) (c : CMet X.K C mc m p g) (F : FnOk X.prog X.w X.K X.mg X.base CX k g fd ps sp) (hr : Room k X.A) (hb : KBinds X.K fd ps ks gg gV) (hx : Passes CX X E) (hkw : PK X kws tk)
    (hall : (backToKw pos (keywordEach kws X.env)).all (·.1.isSome) = true := by rfl) (hks : (backToKw pos (keywordEach kws X.env)).filterMap (·.1) = ks := by rfl)
    (hpl : ((backTo pos (starEach [] X.env)).any (·.1) || (backToKw pos (keywordEach kws X.env)).any (·.1.isNone)) = false := by rfl)
    (ht : eval (.Call (.Attribute o m apos) [] kws pos) X.env = (do
      let ov ← eval o X.env
      standAt apos.atName
      let (f, first) ← holding [ov] (getMethod ov m pl)
      callWith pos f first (backTo pos (starEach [] X.env)) (backToKw pos (keywordEach kws X.env))) := by rfl) :
    PE X (.Call (.Attribute o m apos) [] kws pos) (tCMethK C sp gV E ta tk) := by
  refine ⟨fun pins s σ H Q I h => ?_⟩
  refine PySem.W.methodCall_KW (pl := pl) (thn (he.run pins s σ H _ I h) fun u s1 ⟨x, H1, I1, rx, ex, q⟩ => ?_) ht
  subst ex
  obtain rfl : u = Value.ref C := rx
  refine getmethcm_ok I1 r c fun s2 I2 => ?_
  refine PySem.W.callWith_of hpl (PySem.W.keeps_M c.fi) (evalArgs_kw2_nil hall (thn (hkw.run pos _ s2 σ H1 _ I2 q) fun ws s3 ⟨zs, H2, I3, rz, q2⟩ => ⟨⟨pin_at I3, I3.kIn⟩, ?_⟩))
  rw [hks]
  have r2 := hb.rel (vs := [.ref C]) (us := [.ref C]) (.cons (show L2.RelV (.ref C) (.ref C) from rfl) .nil) rz
  have hl : (gg [.ref C] ws).length = ps.length := by rw [← r2.length]; exact F.len _ _ _ _ q2
  have z : wpAny (model X.prog X.w) X.A (call (.ref s1.heap.objs.size) [] (ks.zip ws)) (EP X ((s1.heap.objs.size, PySem.W.methodObj (.ref g) (.ref C)) :: pins) σ Q) X.xe s3 :=
    wpAny_call (PySem.W.method_call (pin_at I3) (codeAny_mono (F.run X.A X.stack s3 H2 ⟨[.ref C], ks.zip ws⟩ (gg [.ref C] ws) (gV [.ref C] zs) Q E hr I3.env0 (hb.to s3 [.ref C] ws I3.kIn hl) r2 q2) fun r s' hq => by
      cases r with
      | error e => exact hx _ σ H2 s3 e s' I3 hq
      | ok fl =>
        cases fl with
        | ret u => exact I3.after hq
        | next => exact False.elim hq
        | brk => exact False.elim hq
        | cont => exact False.elim hq))
  exact thn z fun _ _ y => unpinE y
/-! ### x(e, ..), x a variable that holds a class -/
def tMakeL (i : Nat) (C : Addr) (sp : Sp) (E : XK) (t : TA) : TE := fun σ H Q => σ[i]? = some (some (.ref C)) ∧ t σ H fun vs H1 => ∀ x dx, H1 x = none → H1 dx = none → dx ≠ x →
  sp (.ref x :: (vs ++ [])) (upd (upd H1 dx (.own x)) x (.ins C dx [])) (fun v H2 => v = .non ∧ Q (.ref x) H2) E
theorem pe_makeL {i : Nat} {x : Str} {p pos : Pos} {e : Expr} {es : List Expr} {t : TA} (M : Mk X.K C f) (F : FnOk X.prog X.w X.K X.mg X.base CX k f fd ps sp) (hr : Room (k + 1) X.A) (hN : X.N[i]? = some x) (hv : Vis X.env.scope x) (hb : L2.Binds X.K fd ps []) (hx : Passes CX X E)
    (ha : PA X (e :: es) t) (hdb : (x == ("__debug__" : Str)) = false := by decide) (hcd : (x == ("__classdict__" : Str)) = false := by decide) (he : starEach (e :: es) X.env = (false, eval e X.env) :: starEach es X.env := by rfl) (hpl : (backTo pos (starEach es X.env)).any (·.1) = false := by rfl) :
    PE X (.Call (.Name x p) (e :: es) [] pos) (tMakeL i C sp E t) := by
  refine ⟨fun pins s σ H Q I h => ?_⟩
  obtain ⟨hs, ht⟩ := h
  refine wpAny_Call_Name_kw (thn ((pe_var (pos := p) hN hv hdb hcd).run pins s σ H (fun v H1 => v = .ref C ∧ H1 = H) I ⟨.ref C, hs, rfl, rfl⟩) fun u s1 ⟨v, H1, I1, r1, q1⟩ => ?_)
  obtain ⟨rfl, rfl⟩ := q1
  cases r1
  refine PySem.W.callWith_K (h₀ := X.base) I.ok.mod.kin M.kp (thn (ha.run pos pins s1 σ _ _ I1 ht) fun us s2 ⟨vs, H2, I2, r, q⟩ => ⟨I2.kIn, ?_⟩) he hpl
  exact run_make M F hr hb .nil hx I2 r q
end
end OG


set_option Elab.async false
set_option linter.all false
set_option maxRecDepth 100000
set_option maxHeartbeats 4000000
/-! GH: kinds of values, own instances among them; ends of promises; errors that hold one part. -/
namespace OG
open PySem PySem.Spec PyProof.Rows L2
/-- what the top tells of an own class whose instances are looked at -/
structure InsC (K : PySem.W.Frag) (C : Addr) : Prop where
  cl : Cls K C
  ha : PySem.W.findIn K (.ref C) "__class__" = some (some (.builtin "object.__class__"))
  hn : PySem.W.specialIn K (.builtin "object.__class__") "__get__" = some (some (.builtin "getset_descriptor.__get__"))
  tk : PySem.W.takesIn K (.builtin "object.__class__") = some true
  mr : PySem.W.mroIn K C (.type "object") = some true
  kI : PySem.W.kitOne K (.ref C) (.type "int") = some false
  kB : PySem.W.kitOne K (.ref C) (.type "bool") = some false
  kL : PySem.W.kitOne K (.ref C) (.type "list") = some false
  kT : PySem.W.kitOne K (.ref C) (.type "tuple") = some false
  kC : ∀ n ∈ ["NoneType", "bool", "int", "str", "list", "tuple", "dict"], PySem.W.kitOne K (.type n) (.ref C) = some false
inductive Knd (K : PySem.W.Frag) (H : Hp) : V → Prop
  | non : Knd K H .non
  | bl (b : Bool) : Knd K H (.bl b)
  | int (i : Int) : Knd K H (.int i)
  | str (x : Str) : Knd K H (.str x)
  | lst {a : Addr} {xs : List V} (h : SqL K H a xs) : Knd K H (.ref a)
  | tup {a : Addr} {xs : List V} (h : SqT K H a xs) : Knd K H (.ref a)
  | dct {a : Addr} {kvs : List (Key × V)} (h : H a = some (.dK kvs)) : Knd K H (.ref a)
  | ins {a C dx : Addr} {fs : List (Str × V)} (h : H a = some (.ins C dx fs)) (c : InsC K C) : Knd K H (.ref a)
def isI : V → Bool
  | .int _ => true
  | _ => false
def isB : V → Bool
  | .bl _ => true
  | _ => false
section
variable {K : PySem.W.Frag} {mg : Str → Option Value} {H H' : Hp} {a : Addr} {xs : List V} {x : V}
theorem same_t (e : Same H H') (h : SqT K H a xs) : SqT K H' a xs := by
  rcases h with (h | ⟨o, h⟩) | h
  · exact .inl (.inl (e _ _ h))
  · exact .inl (.inr ⟨o, e _ _ h⟩)
  · exact .inr h
theorem same_s (e : Same H H') (h : SqS K H a xs) : SqS K H' a xs := h.elim (fun h => .inl (e.seq h)) fun h => .inr (same_t e h)
theorem tyL (h : SqL K H a xs) : TyX K H (.ref a) (.type "list") := by
  rcases h with (h | ⟨o, h⟩) | ⟨o, its, n, h, c, _⟩
  · exact .base (.lst h)
  · exact .base (.frz h)
  · exact .kList h c
theorem tyT (h : SqT K H a xs) : TyX K H (.ref a) (.type "tuple") := by
  rcases h with (h | ⟨o, h⟩) | ⟨o, its, n, h, c, _⟩
  · exact .base (.tup h)
  · exact .fTuple h
  · exact .kTuple h c
theorem InsC.ty {C dx : Addr} {fs : List (Str × V)} (c : InsC K C) (h : H a = some (.ins C dx fs)) : TyX K H (.ref a) (.ref C) := .base (.ins h c.cl c.ha c.hn c.tk c.mr)
theorem Knd.mono (e : Same H H') (k : Knd K H x) : Knd K H' x := by
  cases k with
  | non => exact .non
  | bl b => exact .bl b
  | int i => exact .int i
  | str s => exact .str s
  | lst h => exact .lst (e.seq h)
  | tup h => exact .tup (same_t e h)
  | dct h => exact .dct (e _ _ h)
  | ins h c => exact .ins (e _ _ h) c
theorem Knd.isint (k : Knd K H x) : ∃ t, TyX K H x t ∧ PySem.W.kitOne K t (.type "int") = some (isI x || isB x) ∧ PySem.W.kitOne K t (.type "bool") = some (isB x) := by
  cases k with
  | non => exact ⟨_, .base .non, kit_ty (a := "NoneType") (r := false) (by decide +kernel), kit_ty (a := "NoneType") (r := false) (by decide +kernel)⟩
  | bl b => exact ⟨_, .base (.bl b), kit_ty (a := "bool") (r := true) (by decide +kernel), kit_ty (a := "bool") (r := true) (by decide +kernel)⟩
  | int i => exact ⟨_, .base (.int i), kit_ty (a := "int") (r := true) (by decide +kernel), kit_ty (a := "int") (r := false) (by decide +kernel)⟩
  | str s => exact ⟨_, .base (.str s), kit_ty (a := "str") (r := false) (by decide +kernel), kit_ty (a := "str") (r := false) (by decide +kernel)⟩
  | lst h => exact ⟨_, tyL h, kit_ty (a := "list") (r := false) (by decide +kernel), kit_ty (a := "list") (r := false) (by decide +kernel)⟩
  | tup h => exact ⟨_, tyT h, kit_ty (a := "tuple") (r := false) (by decide +kernel), kit_ty (a := "tuple") (r := false) (by decide +kernel)⟩
  | dct h => exact ⟨_, .base (.dK h), kit_ty (a := "dict") (r := false) (by decide +kernel), kit_ty (a := "dict") (r := false) (by decide +kernel)⟩
  | ins h c => exact ⟨_, c.ty h, c.kI, c.kB⟩
theorem kit2 {t : String} {b c r : Bool} (h1 : kitB t "list" = some b) (h2 : kitB t "tuple" = some c) (hr : (b || c) = r) : PySem.W.kitAny K (.type t) [.type "list", .type "tuple"] = some r := by
  subst hr
  refine kitAny_cons (kit_ty h1) (fun hb => ?_) (fun hb => by rw [hb]; rfl)
  refine kitAny_cons (kit_ty h2) (fun hc => ?_) (fun hc => by rw [hb, hc]; rfl)
  rw [hb, hc]
  exact kitAny_nil
/-- a list or a tuple, or none of both -/
theorem Knd.seq (k : Knd K H x) : (∃ a xs t, x = .ref a ∧ SqS K H a xs ∧ TyX K H x t ∧ PySem.W.kitAny K t [.type "list", .type "tuple"] = some true) ∨
    ∃ t, TyX K H x t ∧ PySem.W.kitAny K t [.type "list", .type "tuple"] = some false := by
  cases k with
  | non => exact .inr ⟨_, .base .non, kit2 (b := false) (c := false) (by decide +kernel) (by decide +kernel) rfl⟩
  | bl b => exact .inr ⟨_, .base (.bl b), kit2 (b := false) (c := false) (by decide +kernel) (by decide +kernel) rfl⟩
  | int i => exact .inr ⟨_, .base (.int i), kit2 (b := false) (c := false) (by decide +kernel) (by decide +kernel) rfl⟩
  | str s => exact .inr ⟨_, .base (.str s), kit2 (b := false) (c := false) (by decide +kernel) (by decide +kernel) rfl⟩
  | lst h => exact .inl ⟨_, _, _, rfl, .inl h, tyL h, kit2 (b := true) (c := false) (by decide +kernel) (by decide +kernel) rfl⟩
  | tup h => exact .inl ⟨_, _, _, rfl, .inr h, tyT h, kit2 (b := false) (c := true) (by decide +kernel) (by decide +kernel) rfl⟩
  | dct h => exact .inr ⟨_, .base (.dK h), kit2 (b := false) (c := false) (by decide +kernel) (by decide +kernel) rfl⟩
  | ins h c => exact .inr ⟨_, c.ty h, kitAny_cons c.kL (fun _ => kitAny_cons c.kT (fun _ => kitAny_nil) fun z => nomatch z) fun z => nomatch z⟩
theorem seq_kit (h : SqS K H a xs) : ∃ t, TyX K H (.ref a) t ∧ PySem.W.kitAny K t [.type "list", .type "tuple"] = some true := by
  rcases h with h | h
  · exact ⟨_, tyL h, kit2 (b := true) (c := false) (by decide +kernel) (by decide +kernel) rfl⟩
  · exact ⟨_, tyT h, kit2 (b := false) (c := true) (by decide +kernel) (by decide +kernel) rfl⟩
end
/-! ### the ends of promises -/
/-- as before but for what stands at p -/
def SameBut (p : Addr) (H H' : Hp) : Prop := ∀ b u, b ≠ p → H b = some u → H' b = some u
theorem same_new {H : Hp} {p : Addr} {o : HO} (h : H p = none) : Same H (upd H p o) := fun b u e => by
  rw [upd_ne (ne_of_none e h)]
  exact e
theorem sameBut_upd {H : Hp} {p : Addr} {o : HO} : SameBut p H (upd H p o) := fun b u n e => by
  rw [upd_ne n]
  exact e
theorem SameBut.trans {p : Addr} {H H1 H2 : Hp} (h : SameBut p H H1) (k : SameBut p H1 H2) : SameBut p H H2 := fun b u n e => k b u n (h b u n e)
theorem _root_.L2.Same.but {p : Addr} {H H' : Hp} (h : Same H H') : SameBut p H H' := fun b u _ e => h b u e
/-- a new instance was filled: all that stood before stands -/
theorem SameBut.made {p dx : Addr} {H H' : Hp} {o u : HO} (hp : H p = none) (hd : H dx = none) (h : SameBut p (upd (upd H dx o) p u) H') : Same H H' := fun b v e => by
  have n1 := ne_of_none e hp
  have n2 := ne_of_none e hd
  exact h b v n1 (by rw [upd_ne n1, upd_ne n2]; exact e)
/-- an exception that holds the one part w -/
def BadE (C : Addr) (w : Str) (H : Hp) (E : XK) : Prop := ∀ d H', Same H H' → H' d = some (.xd [("part", .str w)]) → E (.ref C) (some d) H'
theorem BadE.mono {C : Addr} {w : Str} {H H' : Hp} {E : XK} (e : Same H H') (h : BadE C w H E) : BadE C w H' E := fun d H2 s h2 => h d H2 (e.trans s) h2
/-- the __init__ of an error with one part -/
def spInit (C : Addr) : Sp := fun vs H Q _ => ∃ (a : Addr) (v : V), vs = [.ref a, v] ∧ H a = some (exo a C none) ∧ ∀ dx, H dx = none → dx ≠ a → Q .non (upd (upd H dx (exd dx [("part", v)])) a (exo a C (some dx)))
/-- the reading of raise C(..): what is wished of it -/
theorem raise_go {C : Addr} {v : V} {H : Hp} {Q : XK} (h : ∀ d H', Same H H' → H' d = some (.xd [("part", v)]) → Q (.ref C) (some d) H') :
    [v].length ≤ 1000 ∧ ∀ a, H a = none → spInit C (.ref a :: ([v] ++ [])) (upd H a (exo a C none))
      (fun u H2 => u = .non ∧ ∃ (d : Addr) (fs : List (Str × V)), H2 a = some (exo a C (some d)) ∧ H2 d = some (exd d fs) ∧ H d = none ∧ Q (.ref C) (some d) (upd (del H2 a) d (.xd fs))) (fun _ _ _ => False) := by
  refine ⟨by show 1 ≤ 1000; decide, fun a ha => ⟨a, v, rfl, upd_same, fun dx hdx nda => ?_⟩⟩
  have hd0 : H dx = none := by
    rw [upd_ne nda] at hdx
    exact hdx
  refine ⟨rfl, dx, _, upd_same, by rw [upd_ne nda]; exact upd_same, hd0, h dx _ (fun b o e => ?_) upd_same⟩
  have n1 := ne_of_none e ha
  have n2 := ne_of_none e hd0
  rw [upd_ne n2, del_ne n1, upd_ne n1, upd_ne n2, upd_ne n1]
  exact e
end OG


set_option Elab.async false
set_option linter.all false
set_option maxRecDepth 100000
set_option maxHeartbeats 4000000
/-! GI: comprehensions in one lemma; small readings. -/
namespace OG
open PySem PySem.Spec PyProof.Rows L2
section
variable {K : PySem.W.Frag} {H H1 : Hp} {a p : Addr} {xs : List V}
theorem rix_s {Q : VK} {i : Int} {v : V} (h : SqS K H p xs) (ha : atI xs i = some v) (q : Q v H) : rIx K (.ref p) (.int i) H Q := by
  rcases h with h | h
  · exact .inl ⟨p, xs, i, v, rfl, rfl, h, ha, q⟩
  · exact .inr (.inl ⟨p, xs, i, v, rfl, rfl, h, ha, q⟩)
theorem len_s (h : SqS K H p xs) : LenV K (.ref p) H xs.length := h.elim (fun h => .inl ⟨xs, h, rfl⟩) fun h => .inr ⟨xs, h, rfl⟩
theorem take_next {α β : Type} {xs : List α} {f : α → β} {i : Nat} {x : α} (h : xs[i]? = some x) : (xs.take (i + 1)).map f = (xs.take i).map f ++ [f x] := by
  rw [List.take_succ, h]
  simp
theorem tyes {σ : L2.St} {A B : Hp → Prop} (h : A H) : tYes σ H (fun b H3 => if b = true then A H3 else B H3) := by
  show if true = true then A H else B H
  exact iteT h
theorem not_all {te : TE} {σ : L2.St} {Q : Bool → Hp → Prop} (h : te σ H fun x H1 => rAll K [x] H1 fun y H2 => ∃ c, y = .bl c ∧ Q (!c) H2) : tNot (tB (tCB (rAll K) (tCons te tNil))) σ H Q := h
/-- what an iteration yields while all that stood stands -/
structure Walks (J : It) (H1 : Hp) (n : Nat) (Y : Nat → V → Hp → Prop) : Prop where
  go : ∀ i H', Same H1 H' → i < n → J.go i H'
  stop : ∀ H', Same H1 H' → J.stop n H'
  yld : ∀ i x H' H2, Same H1 H' → i < n → J.yld i H' x H2 → Same H' H2 ∧ Y i x H2
theorem walks_list (hq : SqL K H1 a xs) : Walks (Itl K a) H1 xs.length (fun i x _ => xs[i]? = some x) where
  go := fun i H' s h => ⟨xs, xs[i], s.seq hq, List.getElem?_eq_getElem h⟩
  stop := fun H' s => ⟨xs, s.seq hq, Nat.le_refl _⟩
  yld := fun i x H' H2 s h y => by
    obtain ⟨e, q⟩ := y
    subst e
    exact ⟨Same.refl _, q xs (s.seq hq)⟩
theorem walks_tup (hq : SqT K H1 a xs) : Walks (Itt K a) H1 xs.length (fun i x _ => xs[i]? = some x) where
  go := fun i H' s h => ⟨xs, xs[i], same_t s hq, List.getElem?_eq_getElem h⟩
  stop := fun H' s => ⟨xs, same_t s hq, Nat.le_refl _⟩
  yld := fun i x H' H2 s h y => by
    obtain ⟨e, q⟩ := y
    subst e
    exact ⟨Same.refl _, q xs (same_t s hq)⟩
theorem walks_range {lo : Int} {n : Nat} : Walks (Itr lo n) H1 n (fun i x _ => x = .int (lo + i)) where
  go := fun i H' s h => h
  stop := fun H' s => Nat.le_refl _
  yld := fun i x H' H2 s h y => by
    obtain ⟨e, q⟩ := y
    first
      | (subst e; exact ⟨Same.refl _, q⟩)
      | (subst q; exact ⟨Same.refl _, e⟩)
/-- a list or a tuple walked; the walk goes by what stands at a alone -/
def iSeqW (K : PySem.W.Frag) (tl : TE) : TI := fun σ H R => tl σ H fun x H1 => ∃ a xs, x = .ref a ∧ SqS K H1 a xs ∧ ∀ J, (∀ H0, H0 a = H1 a → Walks J H0 xs.length (fun i x _ => xs[i]? = some x)) → R J H1
theorem sql_at {H0 : Hp} (e : H0 a = H a) (h : SqL K H a xs) : SqL K H0 a xs := by
  rcases h with (h | ⟨o, h⟩) | h
  · exact .inl (.inl (e.trans h))
  · exact .inl (.inr ⟨o, e.trans h⟩)
  · exact .inr h
theorem sqt_at {H0 : Hp} (e : H0 a = H a) (h : SqT K H a xs) : SqT K H0 a xs := by
  rcases h with (h | ⟨o, h⟩) | h
  · exact .inl (.inl (e.trans h))
  · exact .inl (.inr ⟨o, e.trans h⟩)
  · exact .inr h
theorem sqs_at {H0 : Hp} (e : H0 a = H a) (h : SqS K H a xs) : SqS K H0 a xs := h.elim (fun h => .inl (sql_at e h)) fun h => .inr (sqt_at e h)
theorem pi_seqW {X : Cx} {tg l : Expr} {tl : TE} (hl : PE X l tl) : PI X tg l (iSeqW X.K tl) := by
  refine ⟨fun pins s σ H R I h => ?_⟩
  refine thn (hl.run pins s σ H _ I h) fun v s1 ⟨x, H1, I1, r1, q1⟩ => ?_
  obtain ⟨a, xs, e, hq, q⟩ := q1
  subst e
  cases r1
  have hfp : ∀ b ∈ [s1.heap.objs.size], FpOk X pins H1 b := fun b hb => by
    have e : b = s1.heap.objs.size := by simpa using hb
    subst e
    exact I1.fpOk (Nat.le_refl _) (I1.hok.fresh (Nat.le_refl _))
  rcases hq with hq | hq
  · obtain ⟨its, rv, p, hz⟩ := I1.list hq
    refine wpAny_pyIter_list p.isList ?_
    exact ⟨s1.heap.objs.size, [s1.heap.objs.size], _, _, H1, rfl, I1.kept (t' := s1.toks) fun b o e => Heap.get?_push_of_some _ e, turn_list a _, ⟨_, Heap.get?_push_size _ rfl, rfl, rfl⟩, hfp, q _ fun H0 e0 => walks_list (sql_at e0 hq)⟩
  · obtain ⟨its, rv, p, hz⟩ := I1.tuple hq
    refine wpAny_pyIter_tuple (show s1.heap.IsTuple a its.toArray from p) ?_
    exact ⟨s1.heap.objs.size, [s1.heap.objs.size], _, _, H1, rfl, I1.kept (t' := s1.toks) fun b o e => Heap.get?_push_of_some _ e, turn_tuple a _, ⟨_, Heap.get?_push_size _ rfl, rfl, rfl⟩, hfp, q _ fun H0 e0 => walks_tup (sqt_at e0 hq)⟩
theorem walks_enumT (hq : SqT K H1 a xs) : Walks (IteT K a) H1 xs.length (fun i x H2 => ∃ T y, x = .ref T ∧ H2 T = some (.tup [.int (i : Nat), y]) ∧ xs[i]? = some y) where
  go := fun i H' s h => ⟨xs, xs[i], same_t s hq, List.getElem?_eq_getElem h⟩
  stop := fun H' s => ⟨xs, same_t s hq, rfl⟩
  yld := fun i x H' H2 s h y => by
    obtain ⟨T, y, rfl, hT, rfl, e⟩ := y
    exact ⟨same_new hT, T, y, rfl, upd_same, e xs (same_t s hq)⟩
/-- enumerate of a tuple, read by what stands at it -/
def iEnumW (K : PySem.W.Frag) (ta : TA) : TI := fun σ H R => ta σ H fun vs H1 => ∃ a xs, vs = [.ref a] ∧ SqT K H1 a xs ∧ ∀ J, (∀ H0, H0 a = H1 a → Walks J H0 xs.length (fun i x H2 => ∃ T y, x = .ref T ∧ H2 T = some (.tup [.int (i : Nat), y]) ∧ xs[i]? = some y)) → R J H1
theorem pi_enumW {X : Cx} {e : Expr} {ta : TA} {p pos tpos : Pos} {elts : List Expr} {kk : Nat} (hg : Gl X "enumerate") (hm : X.mg "enumerate" = none) (ha : PA X [e] ta) (hs : starEach [e] X.env = [(false, eval e X.env)] := by rfl) :
    PI X (.Tuple elts kk tpos) (.Call (.Name "enumerate" p) [e] [] pos) (iEnumW X.K ta) := by
  refine ⟨fun pins s σ H R I h => ?_⟩
  refine Call_ (ld_blt I hg hm boot_enumerate (PyProof.Rows.callWith_type1 (thn (ha.run pos pins s σ H _ I h) fun us s1 ⟨vs, H1, I1, r1, q1⟩ => ?_) hs rfl))
  obtain ⟨a, xs, ex, hq, q⟩ := q1
  subst ex
  cases r1 with
  | cons r rr =>
    cases rr
    cases r
    obtain ⟨its, rv, p', hz⟩ := I1.tuple hq
    have hp : s1.heap.IsTuple a its.toArray := p'
    have hal : a < s1.heap.objs.size := by obtain ⟨_, q, _⟩ := hp; exact Heap.lt_size q
    refine call_enum_tup hp fun h' he hit hsz hk => wpAny_pyIter_enum he ?_
    have I2 : Inv X pins σ H1 { s1 with heap := h' } := I1.kept (t' := s1.toks) hk
    refine ⟨s1.heap.objs.size + 1, [s1.heap.objs.size + 1, s1.heap.objs.size], _, _, H1, rfl, I2, turn_enumT a (s1.heap.objs.size + 1) s1.heap.objs.size, ⟨⟨.none, he⟩, hit, Nat.succ_ne_self _, Nat.ne_of_lt hal, Nat.ne_of_lt (Nat.lt_succ_of_lt hal)⟩, fun b hb => ?_, q _ fun H0 e0 => walks_enumT (sqt_at e0 hq)⟩
    have e' : b = s1.heap.objs.size + 1 ∨ b = s1.heap.objs.size := by simpa using hb
    have hle : s1.heap.objs.size ≤ b := by
      rcases e' with z | z
      · rw [z]; exact Nat.le_add_right _ _
      · rw [z]; exact Nat.le_refl _
    exact I1.fpOk hle (I1.hok.fresh hle)
/-- a loop over such a walk; H0 is what no turn changes -/
theorem for_core {J : It} {n : Nat} {H0 : Hp} {Y : Nat → V → Hp → Prop} (w : Walks J H0 n Y) {g : TG} {tb : TS} {D : Ends} {σ : L2.St} (Pv : Nat → L2.St → Hp → Prop) (h0 : Pv 0 σ H) (hl : ∀ i σ H, Pv i σ H → Same H0 H)
    (hs : ∀ i x σ H H2, i < n → Pv i σ H → Same H H2 → Y i x H2 → g x σ H2 fun σ2 H3 => tb { D with nx := Pv (i + 1), ct := Pv (i + 1), bk := D.nx } σ2 H3) (hd : ∀ σ H, Pv n σ H → D.nx σ H) :
    ∃ W : Nat → Nat → L2.St → Hp → Prop, (∃ m, W 0 m σ H) ∧ ∀ i m σ H, W i m σ H →
      (J.stop i H ∧ D.nx σ H) ∨ (J.go i H ∧ ∃ N : L2.St → Hp → Prop, (∀ σ' H', N σ' H' → ∃ m', m' < m ∧ W (i + 1) m' σ' H') ∧ ∀ x H', J.yld i H x H' → g x σ H' fun σ2 H2 => tb { D with nx := N, ct := N, bk := D.nx } σ2 H2) := by
  refine ⟨fun i m σ H => m = n - i ∧ i ≤ n ∧ Pv i σ H, ⟨n, by simp, Nat.zero_le _, h0⟩, ?_⟩
  rintro i m σ H ⟨rfl, hi, p⟩
  have q := hl i σ H p
  by_cases hlt : i < n
  · refine .inr ⟨w.go i H q hlt, Pv (i + 1), fun σ' H' p' => ⟨n - (i + 1), by omega, rfl, hlt, p'⟩, fun x H' y => ?_⟩
    obtain ⟨s1, yy⟩ := w.yld i x H H' q hlt y
    exact hs i x σ H H' hlt p s1 yy
  · have e : i = n := by omega
    subst e
    exact .inl ⟨w.stop H q, hd σ H p⟩
theorem inV_ints {x : Int} {ns : List Int} : inV (.int x) (ns.map V.int) = decide (x ∈ ns) := by
  unfold inV
  induction ns with
  | nil => rfl
  | cons n ns ih =>
    rw [List.map_cons, List.any_cons, ih]
    have e : eqV (.int n) (.int x) = decide (n = x) := by
      first
        | rfl
        | (unfold eqV; by_cases h : n = x <;> simp [h])
    rw [e]
    by_cases h : n = x
    · simp [h]
    · have h2 : ¬ x = n := fun z => h z.symm
      simp [h, h2]
theorem map_range {α β : Type} (xs : List α) (f : α → β) (d : α) : (List.range xs.length).map (fun i => f (xs.getD i d)) = xs.map f := by
  refine List.ext_getElem? fun i => ?_
  by_cases h : i < xs.length
  · simp [h]
  · rw [List.getElem?_eq_none (by simp; omega), List.getElem?_eq_none (by simp; omega)]
theorem wipe_set {σ : L2.St} {j : Nat} {x : V} : wipe ((wipe σ [j]).set j (some x)) [j] = wipe σ [j] := by
  show (((σ.set j none).set j (some x)).set j none) = σ.set j none
  rw [List.set_set, List.set_set]
/-- such an iteration, each turn's element made by te -/
theorem comp_core {J : It} {n : Nat} {Y : Nat → V → Hp → Prop} (w : Walks J H1 n Y) {te : TE} {σ : L2.St} {j : Nat} {Qd : Addr → Hp → Prop} (R : Nat → V → Hp → Prop) (hR : ∀ i y H H', Same H H' → R i y H → R i y H') (hn : n < sizeLine)
    (step : ∀ (D : Addr) i x H2 (N : VK), H1 D = none → i < n → Same H1 H2 → (∃ acc, H2 D = some (.lst acc)) → Y i x H2 → (∀ y H3 Hs, Same H2 H3 → Hs D = none → Same Hs H3 → R i y Hs → N y H3) → te ((wipe σ [j]).set j (some x)) H2 N)
    (kont : ∀ D ys H', H1 D = none → Same H1 H' → H' D = some (.lst ys) → ys.length = n → (∀ i y, ys[i]? = some y → R i y H') → Qd D H') :
    ∀ D, H1 D = none → ∃ W : Nat → Nat → Hp → Prop, (∃ m, W 0 m (upd H1 D (.lst []))) ∧ ∀ i m H, W i m H →
      (J.stop i H ∧ Qd D H) ∨ (J.go i H ∧ ∃ Nx : Hp → Prop, (∀ H', Nx H' → ∃ m', m' < m ∧ W (i + 1) m' H') ∧ ∀ x H', J.yld i H x H' → gName j x (wipe σ [j]) H' fun σ2 H2 => wipe σ2 [j] = wipe σ [j] ∧ tYes σ2 H2 fun b H3 =>
        if b = true then te σ2 H3 fun y H4 => ∃ acc, H4 D = some (.lst acc) ∧ acc.length < sizeLine ∧ Nx (upd H4 D (.lst (acc ++ [y]))) else Nx H3) := by
  intro D hD
  let Pv : Nat → Hp → Prop := fun i H => Same H1 H ∧ ∃ ys, H D = some (.lst ys) ∧ ys.length = i ∧ ∀ k y, ys[k]? = some y → ∃ Hs, Hs D = none ∧ Same Hs H ∧ R k y Hs
  refine ⟨fun i m H => m = n - i ∧ i ≤ n ∧ Pv i H, ⟨n, by simp, Nat.zero_le _, same_new hD, [], upd_same, rfl, fun k y e => by cases e⟩, ?_⟩
  rintro i m H ⟨rfl, hi, s, ys, hy, hl, hr⟩
  by_cases hlt : i < n
  · refine .inr ⟨w.go i H s hlt, Pv (i + 1), fun H' p' => ⟨n - (i + 1), by omega, rfl, hlt, p'⟩, fun x H' y => ?_⟩
    obtain ⟨s1, yy⟩ := w.yld i x H H' s hlt y
    refine ⟨wipe_set, tyes (A := fun H3 => te _ H3 _) (step D i x H' _ hD hlt (s.trans s1) ⟨ys, s1 _ _ hy⟩ yy fun v H3 Hs s3 hs0 hs1 rv => ?_)⟩
    have hy3 := s3 _ _ (s1 _ _ hy)
    refine ⟨ys, hy3, by omega, fun b u e => ?_, ys ++ [v], upd_same, by simp [hl], fun k z e => ?_⟩
    · rw [upd_ne (ne_of_none e hD)]
      exact s3 _ _ (s1 _ _ (s _ _ e))
    · by_cases hk : k < ys.length
      · rw [List.getElem?_append_left hk] at e
        obtain ⟨Hz, z0, z1, z2⟩ := hr k z e
        exact ⟨Hz, z0, fun b u q => by rw [upd_ne (ne_of_none q z0)]; exact s3 _ _ (s1 _ _ (z1 _ _ q)), z2⟩
      · rw [List.getElem?_append_right (by omega)] at e
        have hk0 : k - ys.length = 0 := by
          cases hkk : k - ys.length with
          | zero => rfl
          | succ _ => rw [hkk] at e; cases e
        rw [hk0] at e
        have e2 : v = z := Option.some.inj e
        subst e2
        have hki : k = i := by omega
        subst hki
        exact ⟨Hs, hs0, fun b u q => by rw [upd_ne (ne_of_none q hs0)]; exact hs1 _ _ q, rv⟩
  · have hi2 : i = n := by omega
    subst hi2
    exact .inl ⟨w.stop H s, kont D ys H hD s hy hl fun k y e => by
      obtain ⟨Hs, _, z1, z2⟩ := hr k y e
      exact hR _ _ _ _ z1 z2⟩
/-- .. elements that are plain values -/
theorem comp_val {J : It} {n : Nat} {Y : Nat → V → Hp → Prop} (w : Walks J H1 n Y) {te : TE} {σ : L2.St} {j : Nat} {Qd : Addr → Hp → Prop} (f : Nat → V) (hn : n < sizeLine)
    (step : ∀ i x H2 (N : VK), i < n → Same H1 H2 → Y i x H2 → (∀ H3, Same H2 H3 → N (f i) H3) → te ((wipe σ [j]).set j (some x)) H2 N)
    (kont : ∀ D H', H1 D = none → Same H1 H' → H' D = some (.lst ((List.range n).map f)) → Qd D H') :
    ∀ D, H1 D = none → ∃ W : Nat → Nat → Hp → Prop, (∃ m, W 0 m (upd H1 D (.lst []))) ∧ ∀ i m H, W i m H →
      (J.stop i H ∧ Qd D H) ∨ (J.go i H ∧ ∃ Nx : Hp → Prop, (∀ H', Nx H' → ∃ m', m' < m ∧ W (i + 1) m' H') ∧ ∀ x H', J.yld i H x H' → gName j x (wipe σ [j]) H' fun σ2 H2 => wipe σ2 [j] = wipe σ [j] ∧ tYes σ2 H2 fun b H3 =>
        if b = true then te σ2 H3 fun y H4 => ∃ acc, H4 D = some (.lst acc) ∧ acc.length < sizeLine ∧ Nx (upd H4 D (.lst (acc ++ [y]))) else Nx H3) := by
  refine comp_core w (fun i y _ => y = f i) (fun _ _ _ _ _ h => h) hn (fun D i x H2 N _ hi s _ y h => step i x H2 N hi s y fun H3 s3 => h _ H3 (fun _ => none) s3 rfl (fun _ _ z => nomatch z) rfl) fun D ys H' hD s hy hl hr => ?_
  refine kont D H' hD s ?_
  have e : ys = (List.range n).map f := by
    refine List.ext_getElem? fun i => ?_
    by_cases h : i < n
    · have h2 : i < ys.length := by omega
      have := hr i ys[i] (List.getElem?_eq_getElem h2)
      rw [List.getElem?_eq_getElem h2, this]
      simp [h]
    · rw [List.getElem?_eq_none (by omega), List.getElem?_eq_none (by simp; omega)]
  rw [← e]
  exact hy
/-- .. elements that are new tuples of plain values -/
theorem comp_tups {J : It} {n : Nat} {Y : Nat → V → Hp → Prop} (w : Walks J H1 n Y) {te : TE} {σ : L2.St} {j : Nat} {Qd : Addr → Hp → Prop} (f : Nat → List V) (hn : n < sizeLine)
    (step : ∀ i x H2 (N : VK), i < n → Same H1 H2 → Y i x H2 → (∀ t H3, H2 t = none → Same H2 H3 → H3 t = some (.tup (f i)) → N (.ref t) H3) → te ((wipe σ [j]).set j (some x)) H2 N)
    (kont : ∀ D (ts : List Addr) H', H1 D = none → Same H1 H' → H' D = some (.lst (ts.map V.ref)) → ts.length = n → (∀ i t, ts[i]? = some t → H' t = some (.tup (f i))) → Qd D H') :
    ∀ D, H1 D = none → ∃ W : Nat → Nat → Hp → Prop, (∃ m, W 0 m (upd H1 D (.lst []))) ∧ ∀ i m H, W i m H →
      (J.stop i H ∧ Qd D H) ∨ (J.go i H ∧ ∃ Nx : Hp → Prop, (∀ H', Nx H' → ∃ m', m' < m ∧ W (i + 1) m' H') ∧ ∀ x H', J.yld i H x H' → gName j x (wipe σ [j]) H' fun σ2 H2 => wipe σ2 [j] = wipe σ [j] ∧ tYes σ2 H2 fun b H3 =>
        if b = true then te σ2 H3 fun y H4 => ∃ acc, H4 D = some (.lst acc) ∧ acc.length < sizeLine ∧ Nx (upd H4 D (.lst (acc ++ [y]))) else Nx H3) := by
  refine comp_core w (fun i y H => ∃ t, y = .ref t ∧ H t = some (.tup (f i))) (fun _ _ _ _ s ⟨t, e, h⟩ => ⟨t, e, s _ _ h⟩) hn (fun D i x H2 N _ hi s hacc y h => step i x H2 N hi s y fun t H3 ht s3 h3 => ?_) fun D ys H' hD s hy hl hr => ?_
  · obtain ⟨acc, hacc⟩ := hacc
    have ne : D ≠ t := fun z => by rw [z, ht] at hacc; cases hacc
    refine h _ H3 (upd (fun _ => none) t (.tup (f i))) s3 (by rw [upd_ne ne]) (fun b u e => ?_) ⟨t, rfl, upd_same⟩
    by_cases hb : b = t
    · subst hb
      rw [upd_same] at e
      cases e
      exact h3
    · rw [upd_ne hb] at e
      cases e
  · have : ∀ m (ys : List V) , (∀ i y, ys[i]? = some y → ∃ t, y = .ref t ∧ H' t = some (.tup (f (m + i)))) → ∃ ts : List Addr, ys = ts.map V.ref ∧ ∀ i t, ts[i]? = some t → H' t = some (.tup (f (m + i))) := by
      intro m ys
      induction ys generalizing m with
      | nil => exact fun _ => ⟨[], rfl, fun i t e => by cases e⟩
      | cons y ys ih =>
        intro h
        obtain ⟨t, e1, e2⟩ := h 0 y rfl
        obtain ⟨ts, e3, e4⟩ := ih (m + 1) fun i z e => by
          have := h (i + 1) z (by simpa using e)
          rwa [show m + 1 + i = m + (i + 1) by omega]
        refine ⟨t :: ts, by rw [e1, e3]; rfl, fun i u e => ?_⟩
        cases i with
        | zero =>
          have : t = u := by simpa using e
          rw [← this]
          exact e2
        | succ i =>
          have := e4 i u (by simpa using e)
          rwa [show m + 1 + i = m + (i + 1) by omega] at this
    obtain ⟨ts, e1, e2⟩ := this 0 ys fun i y e => by rw [Nat.zero_add]; exact hr i y e
    subst e1
    exact kont D ts H' hD s hy (by simpa using hl) fun i t e => by
      have := e2 i t e
      rwa [Nat.zero_add] at this
/-- what a list at F has been given so far; H0 is what stood before it -/
def Acc (H0 : Hp) (F : Addr) (R : Nat → V → Hp → Prop) (n : Nat) (H : Hp) : Prop := Same H0 H ∧ ∃ ys, H F = some (.lst ys) ∧ ys.length = n ∧ ∀ k y, ys[k]? = some y → ∃ Hs, Hs F = none ∧ Same Hs H ∧ R k y Hs
theorem Acc.same {H0 H H' : Hp} {F : Addr} {R : Nat → V → Hp → Prop} {n : Nat} (h : Acc H0 F R n H) (s : Same H H') : Acc H0 F R n H' := by
  obtain ⟨h1, ys, h2, h3, h4⟩ := h
  exact ⟨h1.trans s, ys, s _ _ h2, h3, fun k y e => let ⟨Hs, a, b, c⟩ := h4 k y e; ⟨Hs, a, b.trans s, c⟩⟩
theorem Acc.nil {H : Hp} {F : Addr} {R : Nat → V → Hp → Prop} (h : H F = none) : Acc H F R 0 (upd H F (.lst [])) := ⟨same_new h, [], upd_same, rfl, fun _ _ e => by cases e⟩
theorem Acc.push {H0 H Hs : Hp} {F : Addr} {R : Nat → V → Hp → Prop} {n : Nat} {y : V} (h : Acc H0 F R n H) (h0 : H0 F = none) (hs0 : Hs F = none) (hs1 : Same Hs H) (r : R n y Hs) :
    ∃ ys, H F = some (.lst ys) ∧ ys.length = n ∧ Acc H0 F R (n + 1) (upd H F (.lst (ys ++ [y]))) := by
  obtain ⟨h1, ys, h2, h3, h4⟩ := h
  refine ⟨ys, h2, h3, fun b u e => ?_, ys ++ [y], upd_same, by simp [h3], fun k z e => ?_⟩
  · rw [upd_ne (ne_of_none e h0)]
    exact h1 _ _ e
  · by_cases hk : k < ys.length
    · rw [List.getElem?_append_left hk] at e
      obtain ⟨Hz, z0, z1, z2⟩ := h4 k z e
      exact ⟨Hz, z0, fun b u q => by rw [upd_ne (ne_of_none q z0)]; exact z1 _ _ q, z2⟩
    · rw [List.getElem?_append_right (by omega)] at e
      have hk0 : k - ys.length = 0 := by
        cases hkk : k - ys.length with
        | zero => rfl
        | succ _ => rw [hkk] at e; cases e
      rw [hk0] at e
      have e2 : y = z := Option.some.inj e
      subst e2
      have hkn : k = n := by omega
      subst hkn
      exact ⟨Hs, hs0, fun b u q => by rw [upd_ne (ne_of_none q hs0)]; exact hs1 _ _ q, r⟩
/-- elements that are tuples of plain values -/
def TupR (f : Nat → List V) (i : Nat) (y : V) (H : Hp) : Prop := ∃ t, y = .ref t ∧ H t = some (.tup (f i))
theorem Acc.tup {H0 H : Hp} {F t : Addr} {f : Nat → List V} {n : Nat} (h : Acc H0 F (TupR f) n H) (h0 : H0 F = none) (ht : H t = none) :
    ∃ ys, upd H t (.tup (f n)) F = some (.lst ys) ∧ ys.length = n ∧ Acc H0 F (TupR f) (n + 1) (upd (upd H t (.tup (f n))) F (.lst (ys ++ [.ref t]))) := by
  have h2 := h.same (same_new (o := .tup (f n)) ht)
  have nF : F ≠ t := fun z => by
    obtain ⟨_, ys, e, _⟩ := h
    rw [z, ht] at e
    cases e
  refine h2.push h0 (Hs := upd (fun _ => none) t (.tup (f n))) (by rw [upd_ne nF]) (fun b u e => ?_) ⟨t, rfl, upd_same⟩
  by_cases hb : b = t
  · subst hb
    rw [upd_same] at e ⊢
    exact e
  · rw [upd_ne hb] at e
    cases e
theorem Acc.tups {H0 H : Hp} {F : Addr} {f : Nat → List V} {n : Nat} (h : Acc H0 F (TupR f) n H) : ∃ ts : List Addr, H F = some (.lst (ts.map V.ref)) ∧ ts.length = n ∧ ∀ i t, ts[i]? = some t → H t = some (.tup (f i)) := by
  obtain ⟨_, ys, hy, hl, hr⟩ := h
  have : ∀ m (ys : List V) , (∀ i y, ys[i]? = some y → ∃ t, y = .ref t ∧ H t = some (.tup (f (m + i)))) → ∃ ts : List Addr, ys = ts.map V.ref ∧ ∀ i t, ts[i]? = some t → H t = some (.tup (f (m + i))) := by
    intro m ys
    induction ys generalizing m with
    | nil => exact fun _ => ⟨[], rfl, fun i t e => by cases e⟩
    | cons y ys ih =>
      intro h
      obtain ⟨t, e1, e2⟩ := h 0 y rfl
      obtain ⟨ts, e3, e4⟩ := ih (m + 1) fun i z e => by
        have := h (i + 1) z (by simpa using e)
        rwa [show m + 1 + i = m + (i + 1) by omega]
      refine ⟨t :: ts, by rw [e1, e3]; rfl, fun i u e => ?_⟩
      cases i with
      | zero =>
        have : t = u := by simpa using e
        rw [← this]
        exact e2
      | succ i =>
        have := e4 i u (by simpa using e)
        rwa [show m + 1 + i = m + (i + 1) by omega] at this
  obtain ⟨ts, e1, e2⟩ := this 0 ys fun i y e => by
    obtain ⟨Hs, _, z1, t, z2, z3⟩ := hr i y e
    rw [Nat.zero_add]
    exact ⟨t, z2, z1 _ _ z3⟩
  subst e1
  exact ⟨ts, hy, by simpa using hl, fun i t e => by
    have := e2 i t e
    rwa [Nat.zero_add] at this⟩
end
end OG


set_option Elab.async false
set_option linter.all false
set_option maxRecDepth 100000
set_option maxHeartbeats 4000000
/-! GJ: rows of integers as data; calls by keywords alone. -/
namespace OG
open PySem PySem.Spec PyProof.Rows L2
theorem sqt_but {K : PySem.W.Frag} {H H' : Hp} {p C dx t : Addr} {fs : List (Str × V)} {xs : List V} (b : SameBut p H H') (hp : H p = some (.ins C dx fs)) (h : SqT K H t xs) : SqT K H' t xs := by
  rcases h with (h | ⟨o, h⟩) | h
  · exact .inl (.inl (b _ _ (fun z => by rw [z, hp] at h; cases h) h))
  · exact .inl (.inr ⟨o, b _ _ (fun z => by rw [z, hp] at h; cases h) h⟩)
  · exact .inr h
/-- tuple(x): the tuple itself, or a new one of the list's items -/
def rTupOf (K : PySem.W.Frag) : List V → Hp → VK → Prop := fun xs H Q => ∃ p ys, xs = [.ref p] ∧ ((SqL K H p ys ∧ ∀ l, H l = none → Q (.ref l) (upd H l (.tup ys))) ∨ (SqT K H p ys ∧ Q (.ref p) H))
def rListOf (K : PySem.W.Frag) : List V → Hp → VK → Prop := fun xs H Q => ∃ p ys, xs = [.ref p] ∧ (SqL K H p ys ∨ SqT K H p ys) ∧ ∀ l, H l = none → Q (.ref l) (upd H l (.lst ys))
theorem lay_ints (zs : List Int) : PyData.canLayAll0 (zs.map PyData.int) = true := by
  induction zs with
  | nil => rfl
  | cons z zs ih =>
    show (PyData.canLay0 (.int z) && PyData.canLayAll0 (zs.map PyData.int)) = true
    rw [ih]
    rfl
theorem depth_ints (zs : List Int) : PyData.depthAll (zs.map PyData.int) = 0 := by
  induction zs with
  | nil => rfl
  | cons z zs ih =>
    show Nat.max (PyData.depth (.int z)) (PyData.depthAll (zs.map PyData.int)) = 0
    rw [ih]
    rfl
theorem shaped_ints (zs : List Int) : SeqAt.shaped (.list (zs.map PyData.int)) = true := by
  refine Bool.and_eq_true_iff.mpr ⟨lay_ints zs, decide_eq_true ?_⟩
  show PyData.depthAll (zs.map PyData.int) + 1 ≤ 64
  rw [depth_ints]
  decide
theorem eqvAll_ints (xs ys : List Int) : PyData.eqvAll (xs.map PyData.int) (ys.map PyData.int) = decide (xs = ys) := by
  induction xs generalizing ys with
  | nil => cases ys <;> rfl
  | cons x xs ih =>
    cases ys with
    | nil => rfl
    | cons y ys =>
      show ((x == y) && PyData.eqvAll (xs.map PyData.int) (ys.map PyData.int)) = _
      rw [ih]
      by_cases h : x = y <;> by_cases h2 : xs = ys <;> simp [h, h2]
theorem eqv_ints (xs ys : List Int) : PyData.eqv (.list (xs.map PyData.int)) (.list (ys.map PyData.int)) = decide (xs = ys) := eqvAll_ints xs ys
theorem dpa_ints {K : PySem.W.Frag} {H : Hp} (ns : List Int) : DpAll K H (ns.map V.int) (ns.map PyData.int) := by
  induction ns with
  | nil => exact .nil
  | cons n ns ih => exact .cons (.int n) ih
theorem rgV_ints (n : Nat) : rgV 0 (n : Nat) = ((List.range n).map fun i : Nat => (i : Int)).map V.int := by
  unfold rgV
  rw [List.map_map]
  have e : ((n : Int) - 0).toNat = n := by omega
  rw [e]
  refine List.map_congr_left fun i _ => ?_
  show V.int (0 + (i : Int)) = V.int (i : Int)
  rw [Int.zero_add]
/-- f(k = v, ..): keywords alone -/
theorem pe_callK0 {X : Cx} {CX : CXT} {k : Nat} {f : Addr} {fd : FuncData} {ps ks : List Str} {sp : Sp} {E : XK} {x : Str} {p pos : Pos} {kws : List Keyword} {tk : TA} {g : List Value → List Value → List Value} {gV : List V → List V → List V}
    (F : FnOk X.prog X.w X.K X.mg X.base CX k f fd ps sp) (hr : Room k X.A) (hg : Gl X x) (hm : X.mg x = some (.ref f)) (hk : PySem.W.keepIn X.K (.ref f) = true) (hb : KBinds X.K fd ps ks g gV) (hx : Passes CX X E)
    (hkw : PK X kws tk) (hall : (backToKw pos (keywordEach kws X.env)).all (·.1.isSome) = true := by rfl) (hks : (backToKw pos (keywordEach kws X.env)).filterMap (·.1) = ks := by rfl)
    (hdb : (x == ("__debug__" : Str)) = false := by decide) (hpl : ((backTo pos (starEach [] X.env)).any (·.1) || (backToKw pos (keywordEach kws X.env)).any (·.1.isNone)) = false := by rfl) :
    PE X (.Call (.Name x p) [] kws pos) (tCallK sp gV E tNil tk) := by
  refine ⟨fun pins s σ H Q I h => ?_⟩
  refine wpAny_Call_Name_kw (ld_glob I hg hm ?_ hdb)
  refine PySem.W.callWith_KW0 (h₀ := X.base) I.ok.mod.kin hk hall (thn (hkw.run pos pins s σ H _ I h) fun ws s2 ⟨zs, H2, I2, rz, q2⟩ => ⟨I2.kIn, ?_⟩) hpl
  rw [hks]
  exact run_fnk (us := []) (vs := []) F hr hb hx I2 .nil rz q2
/-- one argument by place, one by name -/
def gOneOne {α : Type} : List α → List α → List α
  | [s], [c] => [s, c]
  | _, _ => []
theorem rel_oneOne {vs : List V} {us : List Value} {zs : List V} {ws : List Value} (r : Vals vs us) (rz : Vals zs ws) : Vals (gOneOne vs zs) (gOneOne us ws) := by
  cases r with
  | nil => exact .nil
  | cons r1 r =>
    cases r with
    | cons _ _ => exact .nil
    | nil =>
      cases rz with
      | nil => exact .nil
      | cons r2 rz =>
        cases rz with
        | nil => exact .cons r1 (.cons r2 .nil)
        | cons _ _ => exact .nil
end OG


set_option Elab.async false
set_option linter.all false
set_option maxRecDepth 100000
set_option maxHeartbeats 4000000
set_option exponentiation.threshold 10000
/-! GK: the laws' pen; what stays but for it; what stays but for it and the tables. -/
namespace OG
open PySem PySem.Spec PyProof.Rows L2
def HeadIs (c : Addr) (H : Hp) (p : Addr) : Prop := ∃ r, H p = some (.lst (.ref c :: r))
def But (p : Addr) (H H' : Hp) : Prop := (∃ xs, H p = some (.lst xs)) ∧ (∃ xs, H' p = some (.lst xs)) ∧ (∀ b u, b ≠ p → H b = some u → H' b = some u) ∧ ∀ c, HeadIs c H p → HeadIs c H' p
section
variable {K : PySem.W.Frag} {H H' H'' : Hp} {p a : Addr} {xs : List V} {v : V}
theorem But.trans (e : But p H H') (k : But p H' H'') : But p H H'' := ⟨e.1, k.2.1, fun b u n h => k.2.2.1 b u n (e.2.2.1 b u n h), fun c h => k.2.2.2 c (e.2.2.2 c h)⟩
theorem But.same (e : But p H H') (k : Same H' H'') : But p H H'' := ⟨e.1, let ⟨xs, h⟩ := e.2.1; ⟨xs, k _ _ h⟩, fun b u n h => k b u (e.2.2.1 b u n h), fun c h => let ⟨r, h⟩ := e.2.2.2 c h; ⟨r, k _ _ h⟩⟩
theorem same_but (k : Same H H') (e : But p H' H'') (h : ∃ xs, H p = some (.lst xs)) : But p H H'' := ⟨h, e.2.1, fun b u n hb => e.2.2.1 b u n (k b u hb), fun c ⟨r, hr⟩ => e.2.2.2 c ⟨r, k _ _ hr⟩⟩
theorem but_same (k : Same H H') (h : ∃ xs, H p = some (.lst xs)) : But p H H' := ⟨h, let ⟨xs, h⟩ := h; ⟨xs, k _ _ h⟩, fun b u _ hb => k b u hb, fun c ⟨r, hr⟩ => ⟨r, k _ _ hr⟩⟩
theorem But.t (e : But p H H') (h : SqT K H a xs) : SqT K H' a xs := by
  obtain ⟨ys, hp⟩ := e.1
  rcases h with (h | ⟨o, h⟩) | h
  · exact .inl (.inl (e.2.2.1 _ _ (fun z => by rw [z, hp] at h; cases h) h))
  · exact .inl (.inr ⟨o, e.2.2.1 _ _ (fun z => by rw [z, hp] at h; cases h) h⟩)
  · exact .inr h
theorem But.l (e : But p H H') (n : a ≠ p) (h : SqL K H a xs) : SqL K H' a xs := by
  rcases h with (h | ⟨o, h⟩) | h
  · exact .inl (.inl (e.2.2.1 _ _ n h))
  · exact .inl (.inr ⟨o, e.2.2.1 _ _ n h⟩)
  · exact .inr h
/-- the pen: its cells, how many are read, the rest -/
def PenK (H : Hp) (p : Addr) (n : Nat) : Prop := ∃ (c : Addr) (zs : List Int) (at_ rest : Int), H p = some (.lst [.ref c, .int at_, .int rest]) ∧ c ≠ p ∧ H c = some (.lst (zs.map .int)) ∧ 0 ≤ at_ ∧ at_ ≤ (n : Int) ∧ 0 ≤ rest
theorem PenK.lst {n : Nat} (k : PenK H p n) : ∃ xs, H p = some (.lst xs) := let ⟨_, _, _, _, h, _⟩ := k; ⟨_, h⟩
theorem PenK.same {n : Nat} (k : PenK H p n) (e : Same H H') : PenK H' p n := by
  obtain ⟨c, zs, at_, rest, h1, h2, h3, h4⟩ := k
  exact ⟨c, zs, at_, rest, e _ _ h1, h2, e _ _ h3, h4⟩
theorem PenK.mono {n m : Nat} (k : PenK H p n) (e : n ≤ m) : PenK H p m := by
  obtain ⟨c, zs, at_, rest, h1, h2, h3, h4, h5, h6⟩ := k
  exact ⟨c, zs, at_, rest, h1, h2, h3, h4, by omega, h6⟩
/-- the pen's own change -/
theorem pen_set {n : Nat} {c : Addr} {zs : List Int} {a0 r0 at_ rest : Int} (h1 : H p = some (.lst [.ref c, .int a0, .int r0])) (h2 : c ≠ p) (h3 : H c = some (.lst (zs.map .int))) (ha : 0 ≤ at_) (hb : at_ ≤ (n : Int)) (hc : 0 ≤ rest) :
    But p H (upd H p (.lst [.ref c, .int at_, .int rest])) ∧ PenK (upd H p (.lst [.ref c, .int at_, .int rest])) p n :=
  ⟨⟨⟨_, h1⟩, ⟨_, upd_same⟩, fun b u nb hb => by rw [upd_ne nb]; exact hb, fun c' ⟨r, hr⟩ => by rw [h1] at hr; cases hr; exact ⟨_, upd_same⟩⟩, c, zs, at_, rest, upd_same, h2, by rw [upd_ne h2]; exact h3, ha, hb, hc⟩
theorem dp_ints (zs : List Int) : DpAll K H (zs.map V.int) (zs.map PyData.int) := by
  induction zs with
  | nil => exact .nil
  | cons z zs ih => exact .cons (.int z) ih
theorem eqv_nil (zs : List Int) : PyData.eqv (.list (zs.map PyData.int)) (.list []) = decide (zs = []) := by
  cases zs <;> rfl
end
def cutI (ns : List Int) : List Int := (ns.drop (HT.sIx (ns.map V.int).length 0 none)).take (HT.sIx (ns.map V.int).length (ns.map V.int).length (some 63) - HT.sIx (ns.map V.int).length 0 none)
theorem cutI_is (ns : List Int) : cutV (ns.map V.int) none (some 63) = (cutI ns).map V.int := by
  unfold cutV cutI
  rw [List.map_take, List.map_drop]
section
variable {K : PySem.W.Frag} {H H' H'' : Hp} {p a : Addr} {xs : List V} {v : V}
theorem fmod_in (i : Int) {j : Int} (h : 0 < j) : 0 ≤ i.fmod j ∧ i.fmod j < j := by
  rw [Int.fmod_eq_emod_of_nonneg i (by omega)]
  exact ⟨Int.emod_nonneg i (by omega), Int.emod_lt_of_pos i h⟩
def SzI (n : Nat) (i : Int) : Prop := i.natAbs < 2 ^ n
theorem SzI.mono {a b : Nat} {i : Int} (h : SzI a i) (e : a ≤ b) : SzI b i := Nat.lt_of_lt_of_le h (Nat.pow_le_pow_right (by decide) e)
theorem divW {n : Nat} {i j : Int} (h : 0 < j) (z : SzI n j) (h0 : 0 < n) (h9 : n ≤ 9000) : CDivW i j := wide_div (b := n) h z h0 h9
theorem szI_nat {n k : Nat} (h : n < 2 ^ k) : SzI k (n : Int) := by
  show (n : Int).natAbs < 2 ^ k
  rw [Int.natAbs_natCast]
  exact h
theorem lst_new {p l : Addr} {H : Hp} (h : ∃ xs, H p = some (.lst xs)) (hl : H l = none) : l ≠ p := fun z => by
  obtain ⟨xs, h⟩ := h
  rw [← z, hl] at h
  cases h
/-! ### what stays: all but the pen and the tables -/
def core (p : Addr) (H : Hp) : Hp := fun b => if b = p then none else match H b with
  | some (.tbl _) => none
  | o => o
theorem core_some {b : Addr} {u : HO} (h : core p H b = some u) : b ≠ p ∧ H b = some u ∧ ∀ ps, u ≠ .tbl ps := by
  unfold core at h
  by_cases c : b = p
  · rw [if_pos c] at h
    cases h
  · rw [if_neg c] at h
    cases e : H b with
    | none =>
      rw [e] at h
      cases h
    | some o =>
      rw [e] at h
      cases o with
      | tbl ps => cases h
      | _ => (cases h; exact ⟨c, rfl, fun ps z => by cases z⟩)
theorem core_get {b : Addr} {u : HO} (n : b ≠ p) (h : H b = some u) (nt : ∀ ps, u ≠ .tbl ps) : core p H b = some u := by
  unfold core
  rw [if_neg n, h]
  cases u with
  | tbl ps => exact absurd rfl (nt ps)
  | _ => rfl
theorem core_le : Same (core p H) H := fun b u h => (core_some h).2.1
theorem same_core (e : Same H H') : Same (core p H) (core p H') := fun b u h => by
  obtain ⟨h1, h2, h3⟩ := core_some h
  exact core_get h1 (e b u h2) h3
theorem But.core (e : But p H H') : Same (core p H) (core p H') := fun b u h => by
  obtain ⟨h1, h2, h3⟩ := core_some h
  exact core_get h1 (e.2.2.1 b u h1 h2) h3
theorem ext_core (e : LamX.ExtN H H') : Same (core p H) (core p H') := fun b u h => by
  obtain ⟨h1, h2, h3⟩ := core_some h
  exact core_get h1 (e b u h2 h3) h3
theorem core_tup (n : a ≠ p) (h : H a = some (.tup xs)) : SqT K (core p H) a xs := SqT.of (core_get n h (fun _ z => by cases z))
theorem core_lst (n : a ≠ p) (h : H a = some (.lst xs)) : SqL K (core p H) a xs := SqL.of (core_get n h (fun _ z => by cases z))
theorem core_t (h : ∃ ys, H p = some (.lst ys)) (q : SqT K H a xs) : SqT K (core p H) a xs := by
  obtain ⟨ys, hp⟩ := h
  rcases q with (q | ⟨o, q⟩) | q
  · exact .inl (.inl (core_get (fun z => by rw [z, hp] at q; cases q) q (fun _ z => by cases z)))
  · exact .inl (.inr ⟨o, core_get (fun z => by rw [z, hp] at q; cases q) q (fun _ z => by cases z)⟩)
  · exact .inr q
theorem PenK.core {n : Nat} (k : PenK H p n) (e : LamX.ExtN H H') : PenK H' p n := by
  obtain ⟨c, zs, at_, rest, h1, h2, h3, h4⟩ := k
  exact ⟨c, zs, at_, rest, e _ _ h1 (fun _ z => by cases z), h2, e _ _ h3 (fun _ z => by cases z), h4⟩
theorem But.tabs {T : List (Addr × Str)} (e : But p H H') (t : LamX.Tabs T H) : LamX.Tabs T H' := fun q hq => by
  obtain ⟨ps, h1, h2, h3⟩ := t q hq
  obtain ⟨xs, hp⟩ := e.1
  refine ⟨ps, e.2.2.1 _ _ (fun z => by rw [z, hp] at h1; cases h1) h1, h2, fun pos cv hc => ?_⟩
  obtain ⟨c, e1, e2⟩ := h3 pos cv hc
  exact ⟨c, e1, e.2.2.1 _ _ (fun z => by rw [z, hp] at e2; unfold LamX.CodeO at e2; cases e2) e2⟩
theorem fm_nil {α : Type} {P : α → Prop} : ∀ x ∈ ([] : List α), P x := fun _ h => by cases h
theorem fm_cons {α : Type} {P : α → Prop} {a : α} {l : List α} (h : P a) (k : ∀ x ∈ l, P x) : ∀ x ∈ a :: l, P x := fun x hx => by
  rcases List.mem_cons.mp hx with rfl | hx
  · exact h
  · exact k x hx
end
end OG


set_option Elab.async false
set_option linter.all false
set_option maxRecDepth 100000
set_option maxHeartbeats 4000000
/-! GL: how much room the text of small data takes. -/
namespace OG
open PySem PySem.Spec PyProof.Rows L2
theorem un65 {k : Nat} {A : Around} (r : Room k A) : A.units + 65 < cLine := by have := r.un; omega
theorem log_lt {n : Nat} {i : Int} (h : SzI n i) (h0 : 0 < n) : i.natAbs.log2 < n := by
  by_cases c : i.natAbs = 0
  · rw [c]
    exact h0
  · exact (Nat.log2_lt c).mpr h
theorem int_show {n : Nat} {i : Int} (h : SzI n i) (h0 : 0 < n) (h1 : n ≤ 999) : (PyData.shown (.int i)).length ≤ 1000 := by
  have e := int_text_length_le h0 (log_lt h h0)
  have e2 : (PyData.shown (.int i)).length = (toString i).length := by
    show (Str.ofString (toString i)).length = _
    exact PySem.ofString_length _
  omega
theorem int_able {n : Nat} {i : Int} (h : SzI n i) (h0 : 0 < n) (h1 : n ≤ 1920) : PyData.showable (.int i) = true := decide_eq_true (Nat.lt_of_lt_of_le (log_lt h h0) h1)
theorem int_weight {n : Nat} {i : Int} (h : SzI n i) (h0 : 0 < n) : PyData.weight (.int i) ≤ n := by
  have := log_lt h h0
  show (if i == 0 then 0 else i.natAbs.log2 + 1) ≤ n
  split <;> omega
/-- what repr asks -/
structure Shw (d : PyData) : Prop where
  a : d.showable = true
  n : d.hasDict = false
  p : d.depth ≤ 64
  l : d.shown.length ≤ sizeLine
/-- bounds of data: its depth, its weight -/
structure ShwB (p w : Nat) (d : PyData) : Prop where
  a : d.showable = true
  n : d.hasDict = false
  p : d.depth ≤ p
  s : d.leavesShort 1000 = true
  w : d.weight ≤ w
theorem ShwB.mono {p q w v : Nat} {d : PyData} (h : ShwB p w d) (e1 : p ≤ q) (e2 : w ≤ v) : ShwB q v d := ⟨h.a, h.n, Nat.le_trans h.p e1, h.s, Nat.le_trans h.w e2⟩
theorem ShwB.int {n : Nat} {i : Int} (h : SzI n i) (h0 : 0 < n) (h1 : n ≤ 999) : ShwB 0 n (.int i) := ⟨int_able h h0 (by omega), rfl, Nat.le_refl 0, decide_eq_true (int_show h h0 h1), int_weight h h0⟩
structure ShwA (p w : Nat) (ds : List PyData) : Prop where
  a : PyData.showableAll ds = true
  n : PyData.hasDictAll ds = false
  p : PyData.depthAll ds ≤ p
  s : PyData.leavesShortAll 1000 ds = true
  w : PyData.weightAll ds ≤ w
theorem ShwA.nil {p w : Nat} : ShwA p w [] := ⟨rfl, rfl, Nat.zero_le _, rfl, Nat.zero_le _⟩
theorem ShwA.cons {p w v : Nat} {d : PyData} {ds : List PyData} (h : ShwB p w d) (k : ShwA p v ds) : ShwA p (w + 1 + v) (d :: ds) where
  a := by show (d.showable && PyData.showableAll ds) = true; rw [h.a, k.a]; rfl
  n := by show (d.hasDict || PyData.hasDictAll ds) = false; rw [h.n, k.n]; rfl
  p := Nat.max_le.mpr ⟨h.p, k.p⟩
  s := by show (d.leavesShort 1000 && PyData.leavesShortAll 1000 ds) = true; rw [h.s, k.s]; rfl
  w := by
    show d.weight + 1 + PyData.weightAll ds ≤ _
    have := h.w
    have := k.w
    omega
theorem ShwA.all {p w : Nat} {ds : List PyData} (h : ∀ d ∈ ds, ShwB p w d) : ShwA p (ds.length * (w + 1)) ds := by
  induction ds with
  | nil => exact .nil
  | cons d ds ih =>
    have k := ShwA.cons (h d List.mem_cons_self) (ih fun x hx => h x (List.mem_cons_of_mem _ hx))
    rw [show (d :: ds).length * (w + 1) = w + 1 + ds.length * (w + 1) by rw [List.length_cons, Nat.succ_mul, Nat.add_comm]]
    exact k
theorem ShwA.list {p w : Nat} {ds : List PyData} (h : ShwA p w ds) : ShwB (p + 1) w (.list ds) := ⟨h.a, h.n, Nat.succ_le_succ h.p, h.s, h.w⟩
theorem ShwA.tup {p w : Nat} {ds : List PyData} (h : ShwA p w ds) : ShwB (p + 1) w (.tuple ds) := ⟨h.a, h.n, Nat.succ_le_succ h.p, h.s, h.w⟩
theorem ShwB.shw {p w : Nat} {d : PyData} (h : ShwB p w d) (h1 : p ≤ 64) (h2 : w ≤ 10000) : Shw d := by
  refine ⟨h.a, h.n, Nat.le_trans h.p h1, ?_⟩
  have k := PyData.shown_le 1000 (by decide) d h.s
  have w := h.w
  have : (1000 + 2) * d.weight ≤ (1000 + 2) * 10000 := Nat.mul_le_mul_left _ (Nat.le_trans w h2)
  rw [sizeLine_eq]
  omega
def dInts (zs : List Int) : PyData := .list (zs.map PyData.int)
theorem shw_ints {n : Nat} {zs : List Int} (h : ∀ z ∈ zs, SzI n z) (h0 : 0 < n) (h1 : n ≤ 999) (hw : zs.length * (n + 1) ≤ 10000) : Shw (dInts zs) := by
  have k : ShwA 0 ((zs.map PyData.int).length * (n + 1)) (zs.map PyData.int) := .all fun d hd => by
    obtain ⟨z, hz, rfl⟩ := List.mem_map.mp hd
    exact .int (h z hz) h0 h1
  exact k.list.shw (by decide) (by rw [List.length_map]; exact hw)
theorem sz_of {n : Nat} {i : Int} (h0 : 0 ≤ i) (h : i < 2 ^ n) : SzI n i := by
  show i.natAbs < 2 ^ n
  have : ((2 ^ n : Nat) : Int) = 2 ^ n := by rw [Int.natCast_pow]; rfl
  omega
section
variable {K : PySem.W.Frag} {H H1 : Hp} {a p : Addr} {xs : List V}
/-- comprehensions whose elements are new objects -/
theorem comp_news {J : It} {n : Nat} {Y : Nat → V → Hp → Prop} (w : Walks J H1 n Y) {te : TE} {σ : L2.St} {j : Nat} {Qd : Addr → Hp → Prop} (f : Nat → HO) (hn : n < sizeLine)
    (step : ∀ i x H2 (N : VK), i < n → Same H1 H2 → Y i x H2 → (∀ t H3, H2 t = none → Same H2 H3 → H3 t = some (f i) → N (.ref t) H3) → te ((wipe σ [j]).set j (some x)) H2 N)
    (kont : ∀ D (ts : List Addr) H', H1 D = none → Same H1 H' → H' D = some (.lst (ts.map V.ref)) → ts.length = n → (∀ i t, ts[i]? = some t → H' t = some (f i)) → Qd D H') :
    ∀ D, H1 D = none → ∃ W : Nat → Nat → Hp → Prop, (∃ m, W 0 m (upd H1 D (.lst []))) ∧ ∀ i m H, W i m H →
      (J.stop i H ∧ Qd D H) ∨ (J.go i H ∧ ∃ Nx : Hp → Prop, (∀ H', Nx H' → ∃ m', m' < m ∧ W (i + 1) m' H') ∧ ∀ x H', J.yld i H x H' → gName j x (wipe σ [j]) H' fun σ2 H2 => wipe σ2 [j] = wipe σ [j] ∧ tYes σ2 H2 fun b H3 =>
        if b = true then te σ2 H3 fun y H4 => ∃ acc, H4 D = some (.lst acc) ∧ acc.length < sizeLine ∧ Nx (upd H4 D (.lst (acc ++ [y]))) else Nx H3) := by
  refine comp_core w (fun i y H => ∃ t, y = .ref t ∧ H t = some (f i)) (fun _ _ _ _ s ⟨t, e, h⟩ => ⟨t, e, s _ _ h⟩) hn (fun D i x H2 N _ hi s hacc y h => step i x H2 N hi s y fun t H3 ht s3 h3 => ?_) fun D ys H' hD s hy hl hr => ?_
  · obtain ⟨acc, hacc⟩ := hacc
    have ne : D ≠ t := fun z => by rw [z, ht] at hacc; cases hacc
    refine h _ H3 (upd (fun _ => none) t (f i)) s3 (by rw [upd_ne ne]) (fun b u e => ?_) ⟨t, rfl, upd_same⟩
    by_cases hb : b = t
    · subst hb
      rw [upd_same] at e
      cases e
      exact h3
    · rw [upd_ne hb] at e
      cases e
  · have : ∀ m (ys : List V) , (∀ i y, ys[i]? = some y → ∃ t, y = .ref t ∧ H' t = some (f (m + i))) → ∃ ts : List Addr, ys = ts.map V.ref ∧ ∀ i t, ts[i]? = some t → H' t = some (f (m + i)) := by
      intro m ys
      induction ys generalizing m with
      | nil => exact fun _ => ⟨[], rfl, fun i t e => by cases e⟩
      | cons y ys ih =>
        intro h
        obtain ⟨t, e1, e2⟩ := h 0 y rfl
        obtain ⟨ts, e3, e4⟩ := ih (m + 1) fun i z e => by
          have := h (i + 1) z (by simpa using e)
          rwa [show m + 1 + i = m + (i + 1) by omega]
        refine ⟨t :: ts, by rw [e1, e3]; rfl, fun i u e => ?_⟩
        cases i with
        | zero =>
          have : t = u := by simpa using e
          rw [← this]
          exact e2
        | succ i =>
          have := e4 i u (by simpa using e)
          rwa [show m + 1 + i = m + (i + 1) by omega] at this
    obtain ⟨ts, e1, e2⟩ := this 0 ys fun i y e => by rw [Nat.zero_add]; exact hr i y e
    subst e1
    exact kont D ts H' hD s hy (by simpa using hl) fun i t e => by
      have := e2 i t e
      rwa [Nat.zero_add] at this
end
end OG


set_option Elab.async false
set_option linter.all false
set_option maxRecDepth 100000
set_option maxHeartbeats 2000000
/-! GM: t[::3] of a tuple. -/
namespace OG
open PySem PySem.Spec PyProof.Rows L2
/-- each third item -/
def thirds {α : Type} (xs : List α) : List α := (List.range ((xs.length + 2) / 3)).filterMap fun m => xs[3 * m]?
theorem thirds_length {α : Type} (xs : List α) : (thirds xs).length = (xs.length + 2) / 3 := by
  have : ∀ k, k ≤ (xs.length + 2) / 3 → ((List.range k).filterMap fun m => xs[3 * m]?).length = k := by
    intro k
    induction k with
    | zero => intro _; rfl
    | succ k ih =>
      intro h
      rw [List.range_succ, List.filterMap_append, List.length_append, ih (by omega)]
      have e : xs[3 * k]? = some xs[3 * k] := List.getElem?_eq_getElem (by omega)
      simp [e]
  exact this _ (Nat.le_refl _)
theorem vals_thirds {xs : List V} {us : List Value} (r : Vals xs us) : Vals (thirds xs) (thirds us) := by
  have hl := r.length
  unfold thirds
  rw [hl]
  generalize (us.length + 2) / 3 = k
  induction k with
  | zero => exact .nil
  | succ k ih =>
    rw [List.range_succ, List.filterMap_append, List.filterMap_append]
    refine ih.append ?_
    cases e : xs[3 * k]? with
    | none =>
      have : us[3 * k]? = none := by
        rw [List.getElem?_eq_none_iff] at e ⊢
        omega
      simp [e, this]
      exact .nil
    | some v =>
      obtain ⟨u, hu, ru⟩ := r.get e
      simp [e, hu]
      exact .cons ru .nil
theorem pick3 (xs : Array Value) (k : Nat) (hk : k = (xs.size + 2) / 3) : ((List.range k).filterMap fun (m : Nat) => xs[((0 : Int) + (m : Int) * 3).toNat]?).toArray = (thirds xs.toList).toArray := by
  subst hk
  unfold thirds
  rw [Array.length_toList]
  congr 1
  refine congrArg (fun f => List.filterMap f _) ?_
  funext m
  have : ((0 : Int) + (m : Int) * 3).toNat = 3 * m := by omega
  rw [this, Array.getElem?_toList]
section
variable {prog : Program} {w : World} {A : Around} {E : Value → Shared → Prop} {s : Shared}
theorem sliceApplied3 {sl : Addr} {tk : Tok} {n : Nat} {Q : Int × Int × Nat → Shared → Prop} (hs : s.heap.IsSliceOf sl .none .none (.int 3 tk)) (h : Q (0, 3, (n + 2) / 3) s) :
    wpAny (model prog w) A (Builtin.Slice.sliceApplied (.ref sl) (pure (n : Int))) Q E s := by
  obtain ⟨os, hos, hcs, hds⟩ := id hs
  unfold Builtin.Slice.sliceApplied Builtin.Slice.sliceFields
  refine wpAny_bind (wpAny_bind (wpAny_field hos hds (x := .none) rfl (wpAny_bind (wpAny_field hos hds (x := .none) rfl (wpAny_bind (wpAny_field hos hds (x := .int 3 tk) rfl (wpAny_pure ?_)))))))
  refine wpAny_bind (slicePart_int ?_)
  show wpAny _ _ (if ((3 : Int) == 0) = true then _ else _) _ _ s
  rw [if_neg (by decide)]
  refine wpAny_bind (slicePart_none (wpAny_bind (slicePart_none (wpAny_bind (wpAny_pure ?_)))))
  show wpAny _ _ (match Builtin.Slice.sliceAdjust none none 3 (n : Int) with | (lo, hi) => pure (lo, (3 : Int), Builtin.Slice.slicePlaces lo hi 3)) _ _ s
  have e1 : Builtin.Slice.sliceAdjust none none 3 (n : Int) = (0, (n : Int)) := by
    unfold Builtin.Slice.sliceAdjust
    simp
  rw [e1]
  show wpAny _ _ (pure ((0 : Int), (3 : Int), Builtin.Slice.slicePlaces 0 (n : Int) 3)) _ _ s
  have e2 : Builtin.Slice.slicePlaces 0 (n : Int) 3 = (n + 2) / 3 := by
    unfold Builtin.Slice.slicePlaces
    simp
    split <;> omega
  rw [e2]
  exact wpAny_pure h
theorem getItem_thirds {t sl : Addr} {tk : Tok} {items : Array Value} {Q : Value → Shared → Prop} (ht : IsTup s.heap t items) (hs : s.heap.IsSliceOf sl .none .none (.int 3 tk))
    (h : Q (.ref s.heap.objs.size) { s with heap := s.heap.push { cls := .type "tuple", data := .seq (thirds items.toList).toArray } }) (hsz : items.size ≤ sizeLine) : wpAny (model prog w) A (getItem (.ref t) (.ref sl)) Q E s := by
  have htake : sizeOk (.seq (thirds items.toList).toArray) := by
    show (thirds items.toList).toArray.size ≤ sizeLine
    rw [List.size_toArray, thirds_length, Array.length_toList]
    omega
  obtain ⟨os, hos, hcs, hds⟩ := id hs
  have hTs : s.TypeIs (.ref sl) "slice" := ⟨os, hos, hcs⟩
  unfold getItem
  try with_reducible refine wpAny_holding ?_
  first | refine wpAny_bind (wpAny_pure ?_) | skip
  refine wpAny_bind (wpAny_sequenceKey ht.typeIs (by decide) ?_)
  refine wpAny_bind (wpAny_callSpecial?_slot (name := Str.ofString "__getitem__") ht.typeIs PyProof.Rows.slot_tuple_getitem
    (wpAny_call_entry PyProof.Rows.slot_tuple_getitem ht.typeIs entry_tuple_getitem ?_ (args_tuple_getitem _ _)))
  show wpAny _ _ (Builtin.Tuple.tupleItemsOf (.ref t) >>= _) _ _ s
  refine wpAny_bind (tupleItemsOf_ ht ?_)
  refine wpAny_bind (wpAny_typeOf hTs ?_)
  rw [if_pos (by decide)]
  refine wpAny_bind (sliceApplied3 hs ?_)
  show wpAny _ _ (if (((0 : Int) == 0) && (3 : Int) == 1 && ((items.size + 2) / 3) == items.size) = true then _ else _) _ _ s
  rw [if_neg (by simp), pick3 _ _ rfl]
  first
    | exact wpAny_bind (m := Builtin.Tuple.tupleExact _) (wpAny_newObj_type (wpAny_pure ⟨_, rfl, wpAny_pure h⟩) htake)
    | exact wpAny_bind (m := Builtin.Tuple.tupleExact _) (wpAny_newObj_type (wpAny_bind (wpAny_pure (wpAny_pure ⟨_, rfl, wpAny_pure h⟩))) htake)
    | exact wpAny_bind (wpAny_bind (m := Builtin.Tuple.tupleExact _) (wpAny_newObj_type (wpAny_pure (wpAny_pure ⟨_, rfl, wpAny_pure h⟩)) htake))
    | exact wpAny_bind (wpAny_bind (m := Builtin.Tuple.tupleExact _) (wpAny_newObj_type (wpAny_pure ⟨_, rfl, wpAny_pure h⟩) htake))
end
def tThirds (K : PySem.W.Frag) (te : TE) : TE := fun σ H Q => te σ H fun x H1 => ∃ a xs, x = .ref a ∧ SqT K H1 a xs ∧ ∀ p, H1 p = none → Q (.ref p) (upd H1 p (.tup (thirds xs)))
theorem pe_thirds {X : Cx} {e : Expr} {te : TE} {k : Nat} {p1 p3 pos : Pos} (he : PE X e te) : PE X (.Subscript e (.Slice none none (some (.Constant (.int 3) k p1)) p3) pos) (tThirds X.K te) := by
  refine ⟨fun pins s σ H Q I h => ?_⟩
  refine Subscript_ (thn (he.run pins s σ H _ I h) fun v s1 ⟨x, H1, I1, r1, q1⟩ => ?_)
  obtain ⟨a, xs, ex, hx, q⟩ := q1
  subst ex
  cases r1
  have hst : PO X (some (.Constant (.int 3) k p1)) (tPart (tC (.int 3))) := po_some pe_int
  refine wpAny_Slice (thn (po_none.run pins s1 σ H1 (fun o H2 => o = none ∧ H2 = H1) I1 ⟨rfl, rfl⟩) fun vl s2 ⟨l, H2, I2, pl, el, e2⟩ => ?_)
  subst el e2
  refine thn (po_none.run pins s2 σ H2 (fun o H3 => o = none ∧ H3 = H2) I2 ⟨rfl, rfl⟩) fun vu s3 ⟨u, H3, I3, pu, eu, e3⟩ => ?_
  subst eu e3
  refine thn (hst.run pins s3 σ H3 (fun o H4 => o = some 3 ∧ H4 = H3) I3 ⟨3, rfl, rfl, rfl⟩) fun vs s4 ⟨o, H4, I4, ps, eo, e4⟩ => ?_
  subst eo e4
  cases pl
  cases pu
  cases ps
  have I5 : Inv X pins σ H4 { s4 with heap := s4.heap.push { cls := .type "slice", data := .fields #[.none, .none, .int 3 ‹_›] } } := I4.kept (t' := s4.toks) fun b ob q => Heap.get?_push_of_some _ q
  obtain ⟨its, r, ht, hz⟩ := I5.tuple hx
  have hlen := r.length
  refine tail_any (ops := [.ref a, .ref s4.heap.objs.size]) ht.typeIs (PyProof.Rows.slot_tuple_getitem.lookup) ?_ (by with_unfolding_all rfl)
  refine getItem_thirds ht (Heap.IsSliceOf.new _ _ _ _) ?_ (by rw [List.size_toArray]; omega)
  refine ⟨.ref _, _, I5.laid (t' := s4.toks) (o := .tup (thirds xs)) (fun b ob q => Heap.get?_push_of_some _ q) (Nat.le_refl _) ?_, rfl, q _ (I5.hok.fresh (Nat.le_refl _))⟩
  exact ⟨by rw [thirds_length]; omega, _, vals_thirds r, IsTup.new _ _⟩
end OG


set_option Elab.async false
set_option linter.all false
set_option maxRecDepth 100000
set_option maxHeartbeats 2000000
/-! GN: what is put beside the pen; enumerate of a list or a tuple. -/
namespace OG
open PySem PySem.Spec PyProof.Rows L2
section
variable {K : PySem.W.Frag} {H H' : Hp} {p l : Addr}
theorem but_put {o : HO} (h : But p H H') (hl : H l = none) : But p H (upd H' l o) := by
  have np := lst_new h.1 hl
  obtain ⟨h1, h2, h3, h4⟩ := h
  refine ⟨h1, by rw [upd_ne np.symm]; exact h2, fun b u n e => by rw [upd_ne (ne_of_none e hl)]; exact h3 b u n e, fun c e => ?_⟩
  unfold HeadIs
  rw [upd_ne np.symm]
  exact h4 c e
theorem pen_put {o : HO} {m n : Nat} (k : PenK H' p m) (e : But p H H') (k0 : PenK H p n) (hl : H l = none) : PenK (upd H' l o) p m := by
  obtain ⟨c0, z0, a0, r0, h1, h2, h3, _⟩ := k0
  obtain ⟨c, zs, at_, rest, g1, g2, g3, g4⟩ := k
  obtain ⟨r, hr⟩ := e.2.2.2 c0 ⟨_, h1⟩
  rw [g1] at hr
  cases hr
  have n1 : c0 ≠ l := ne_of_none h3 hl
  have n2 : p ≠ l := ne_of_none h1 hl
  exact ⟨c0, zs, at_, rest, by rw [upd_ne n2]; exact g1, g2, by rw [upd_ne n1]; exact g3, g4⟩
theorem tabs_put {TT : List (Addr × Str)} {xs : List V} {o : HO} (t : LamX.Tabs TT H') (h : H' l = some (.lst xs)) : LamX.Tabs TT (upd H' l o) := fun q hq => by
  obtain ⟨ps, h1, h2, h3⟩ := t q hq
  refine ⟨ps, by rw [upd_ne (fun z => by rw [z, h] at h1; cases h1)]; exact h1, h2, fun pos cv hc => ?_⟩
  obtain ⟨c, e1, e2⟩ := h3 pos cv hc
  exact ⟨c, e1, by rw [upd_ne (fun z => by rw [z, h] at e2; unfold LamX.CodeO at e2; cases e2)]; exact e2⟩
theorem core_l {a : Addr} {xs : List V} (n : a ≠ p) (q : SqL K H' a xs) : SqL K (core p H') a xs := by
  rcases q with (q | ⟨o, q⟩) | q
  · exact .inl (.inl (core_get n q (fun _ z => by cases z)))
  · exact .inl (.inr ⟨o, core_get n q (fun _ z => by cases z)⟩)
  · exact .inr q
theorem core_s {a : Addr} {xs : List V} (n : a ≠ p) (hp : ∃ ys, H' p = some (.lst ys)) (q : SqS K H' a xs) : SqS K (core p H') a xs := q.elim (fun h => .inl (core_l n h)) fun h => .inr (core_t hp h)
theorem erase_perm : ∀ (ls : List Int) (j : Nat) (h : j < ls.length), (ls[j] :: ls.eraseIdx j).Perm ls
  | x :: ls, 0, _ => List.Perm.refl _
  | x :: ls, j + 1, h => (List.Perm.swap _ _ _).trans ((erase_perm ls j (Nat.lt_of_succ_lt_succ h)).cons x)
theorem erase_map : ∀ (ls : List Int) (j : Nat), (ls.map V.int).eraseIdx j = (ls.eraseIdx j).map V.int
  | [], _ => rfl
  | _ :: _, 0 => rfl
  | x :: ls, j + 1 => by
    show _ :: (ls.map V.int).eraseIdx j = _
    rw [erase_map ls j]
    rfl
/-- a read of a place -/
theorem ixN_in {n : Nat} {i : Int} (h0 : 0 ≤ i) (h1 : i < (n : Int)) : ixN n i = some i.toNat := by
  unfold ixN
  rw [if_pos h0, if_pos h1]
theorem seq_in {n : Nat} {i : Int} (h0 : 0 ≤ i) (h1 : i < (n : Int)) : seqIndex? i n = some i.toNat := (ixN_seq (ixN_in h0 h1)).1
end
section
variable {K : PySem.W.Frag} {H1 : Hp} {a : Addr} {xs : List V}
theorem walks_enumL (hq : SqL K H1 a xs) : Walks (Ite K a) H1 xs.length (fun i x H2 => ∃ T y, x = .ref T ∧ H2 T = some (.tup [.int (i : Nat), y]) ∧ xs[i]? = some y) where
  go := fun i H' s h => ⟨xs, xs[i], s.seq hq, List.getElem?_eq_getElem h⟩
  stop := fun H' s => ⟨xs, s.seq hq, by first | rfl | exact Nat.le_refl _⟩
  yld := fun i x H' H2 s h y => by
    obtain ⟨T, y, rfl, hT, rfl, e⟩ := y
    exact ⟨same_new hT, T, y, rfl, upd_same, e xs (s.seq hq)⟩
/-- enumerate of a list or a tuple -/
def iEnumS (K : PySem.W.Frag) (ta : TA) : TI := fun σ H R => ta σ H fun vs H1 => ∃ a xs, vs = [.ref a] ∧ SqS K H1 a xs ∧ ∀ J, (∀ H0, H0 a = H1 a → Walks J H0 xs.length (fun i x H2 => ∃ T y, x = .ref T ∧ H2 T = some (.tup [.int (i : Nat), y]) ∧ xs[i]? = some y)) → R J H1
theorem pi_enumS {X : Cx} {e : Expr} {ta : TA} {p pos tpos : Pos} {elts : List Expr} {kk : Nat} (hg : Gl X "enumerate") (hm : X.mg "enumerate" = none) (ha : PA X [e] ta) (hs : starEach [e] X.env = [(false, eval e X.env)] := by rfl) :
    PI X (.Tuple elts kk tpos) (.Call (.Name "enumerate" p) [e] [] pos) (iEnumS X.K ta) := by
  refine ⟨fun pins s σ H R I h => ?_⟩
  refine Call_ (ld_blt I hg hm boot_enumerate (PyProof.Rows.callWith_type1 (thn (ha.run pos pins s σ H _ I h) fun us s1 ⟨vs, H1, I1, r1, q1⟩ => ?_) hs rfl))
  obtain ⟨a, xs, ex, hq, q⟩ := q1
  subst ex
  cases r1 with
  | cons r rr =>
    cases rr
    cases r
    rcases hq with hq | hq
    · obtain ⟨its, rv, p', hz⟩ := I1.list hq
      refine call_enumerate_list p'.isList fun h' he hit hsz hk => wpAny_pyIter_enum he ?_
      have I2 : Inv X pins σ H1 { s1 with heap := h' } := I1.kept (t' := s1.toks) hk
      refine ⟨s1.heap.objs.size + 1, [s1.heap.objs.size + 1, s1.heap.objs.size], _, _, H1, rfl, I2, turn_enum a (s1.heap.objs.size + 1) s1.heap.objs.size, ⟨⟨.none, he⟩, hit, Nat.succ_ne_self _⟩, fun b hb => ?_, q _ fun H0 e0 => walks_enumL (sql_at e0 hq)⟩
      have e' : b = s1.heap.objs.size + 1 ∨ b = s1.heap.objs.size := by simpa using hb
      have hle : s1.heap.objs.size ≤ b := by
        rcases e' with z | z
        · rw [z]; exact Nat.le_add_right _ _
        · rw [z]; exact Nat.le_refl _
      exact I1.fpOk hle (I1.hok.fresh hle)
    · obtain ⟨its, rv, p', hz⟩ := I1.tuple hq
      have hp : s1.heap.IsTuple a its.toArray := p'
      have hal : a < s1.heap.objs.size := by obtain ⟨_, q, _⟩ := hp; exact Heap.lt_size q
      refine call_enum_tup hp fun h' he hit hsz hk => wpAny_pyIter_enum he ?_
      have I2 : Inv X pins σ H1 { s1 with heap := h' } := I1.kept (t' := s1.toks) hk
      refine ⟨s1.heap.objs.size + 1, [s1.heap.objs.size + 1, s1.heap.objs.size], _, _, H1, rfl, I2, turn_enumT a (s1.heap.objs.size + 1) s1.heap.objs.size, ⟨⟨.none, he⟩, hit, Nat.succ_ne_self _, Nat.ne_of_lt hal, Nat.ne_of_lt (Nat.lt_succ_of_lt hal)⟩, fun b hb => ?_, q _ fun H0 e0 => walks_enumT (sqt_at e0 hq)⟩
      have e' : b = s1.heap.objs.size + 1 ∨ b = s1.heap.objs.size := by simpa using hb
      have hle : s1.heap.objs.size ≤ b := by
        rcases e' with z | z
        · rw [z]; exact Nat.le_add_right _ _
        · rw [z]; exact Nat.le_refl _
      exact I1.fpOk hle (I1.hok.fresh hle)
end
end OG


set_option Elab.async false
set_option linter.all false
set_option maxRecDepth 100000
set_option maxHeartbeats 3200000
/-! GO: set(xs) of a list of ints, sorted(set) of any number of ints. (call_set_listI turned from the hand layer's own set of a tuple to lists.) -/
namespace OG
open PySem PySem.Spec PyProof.Rows L2
section
variable {P : Program} {w : World} {A : Around} {E : Value → Shared → Prop} {s : Shared}
/-- sorted(a), a a set of ints -/
theorem sorted_setN {a : Addr} {S : Int → Bool} {n : Nat} {Q : Value → Shared → Prop} (R : SetR w s.heap a S n) (hh : A.handled = none)
    (hQ : ∀ s' p (out : Array Value) (c : Nat) (ns : List Int), (∀ b o, s.heap.get? b = some o → s'.heap.get? b = some o) → s'.gens = s.gens → s'.os = s.os → s.heap.objs.size ≤ p → s'.heap.get? p = some (seqObj "list" out c) → IntsAre out.toList ns →
      ns.Pairwise (· < ·) → (∀ k, k ∈ ns ↔ S k = true) → ns.length = n → Q (.ref p) s') : wpAny (model P w) A (call (.builtin "sorted") [.ref a]) Q E s := by
  obtain ⟨o, es, ep, t, ho, hex, hd, g, nd, hm, hb, hf, hn, hr, hl⟩ := R
  refine Calls.call_function_entry kind_sorted plain_sorted entry_sorted (args_sorted1 _) ?_
  unfold Builtin.«sorted»
  refine wpAny_bind (m := checkCount "sorted" 1 1 _) (wpAny_pure ?_)
  refine wpAny_bind (collect_set (A := A.in1) hh ⟨o, ho, hex.1, hd⟩ hf hb hr hl fun s1 vs k1 hz g1 o1 pm => ?_)
  have lvs : vs.length = n := by rw [pm.length_eq, List.length_map, Array.length_toList]; exact hn
  have hI : IntsAre vs (vs.map Builtin.Re.reRawOf) := ints_of vs fun v hv => by
    obtain ⟨e, he, q⟩ := List.mem_map.mp (pm.mem_iff.mp hv)
    obtain ⟨k, tk, h1, _⟩ := g e he
    exact ⟨k, tk, by rw [← q]; exact h1⟩
  have pk : (vs.map Builtin.Re.reRawOf).Perm (es.toList.map keyOf) := by
    have q := pm.map Builtin.Re.reRawOf
    rw [List.map_map] at q
    exact q
  have lsz : vs.length ≤ sizeLine := by
    rw [lvs, ← hn]
    exact Nat.le_trans (Nat.le_of_lt hb) (by decide)
  refine wpAny_bind (wpAny_newList ?_ lsz)
  have hoL : (s1.heap.push (seqObj "list" vs.toArray 0)).get? s1.heap.objs.size = some (seqObj "list" vs.toArray 0) := Heap.get?_push_size _ rfl
  refine wpAny_bind (wpAny_holding (wpAny_call_entry slot_list_sort ⟨_, hoL, rfl⟩ entry_list_sort (SrtO.list_sort_ord SrtO.swo_int hoL lsz (fun h2 => SrtO.ints_sortable hI h2) fun out a1 a2 => ⟨_, rfl, ?_⟩) (args_list_sort _)))
  obtain ⟨b1, b2, b3⟩ := SrtO.ints_out hI a1 a2
  obtain ⟨c, hc⟩ := sortedHeap_at (vs := vs) (out := out.toArray) hoL
  have pn : (out.map SrtO.iv).Perm (es.toList.map keyOf) := b2.trans pk
  refine wpAny_pure ⟨_, rfl, hQ _ s1.heap.objs.size out.toArray c (out.map SrtO.iv) (fun b u e => ?_) g1 o1 hz hc b1 (lt_of_le_nodup _ b3 (pn.nodup_iff.mpr nd)) (fun k => by rw [pn.mem_iff, ← hm k]) ?_⟩
  · have q := k1 b u e
    have hlt := Heap.lt_size q
    show (sortedHeap (s1.heap.push (seqObj "list" vs.toArray 0)) s1.heap.objs.size vs out.toArray).get? b = some u
    rw [sortedHeap_old (Nat.ne_of_lt hlt) (by rw [size_push']; exact Nat.lt_succ_of_lt hlt)]
    exact Heap.get?_push_of_some _ q
  · rw [pn.length_eq, List.length_map, Array.length_toList]
    exact hn
end
/-- sorted(found), found a set of ints -/
def rSortedSetN (w : World) : List V → Hp → VK → Prop := fun vs H Q => ∃ (a : Addr) (S : Int → Bool) (n : Nat), vs = [V.ref a] ∧ H a = some (SetO w a S n) ∧ n ≤ 4000 ∧
  ∀ (ns : List Int) (p : Addr), ns.Pairwise (· < ·) → (∀ k : Int, k ∈ ns ↔ S k = true) → ns.length = n → H p = none → Q (.ref p) (upd H p (.lst (ns.map V.int)))
theorem cr_sortedSetN {X : Cx} (hc : X.calm = true) : CallR X (.builtin "sorted") (rSortedSetN X.w) := by
  intro pins s σ H vs us Q I r h
  obtain ⟨a, S, n, rfl, ha, h64, q⟩ := h
  have R := setO_get I ha
  rw [Vals.ref1 r]
  refine sorted_setN R (I.ok.hd hc) fun s' p out c ns k g o hp hg hi hs hm hl => ?_
  have hlen : (ns.map V.int).length ≤ sizeLine := by
    rw [List.length_map, hl]
    exact Nat.le_trans h64 (by decide)
  have hn : H p = none := I.hok.fresh hp
  have J : Inv X pins σ (upd H p (.lst (ns.map V.int))) { s with heap := s'.heap, gens := s'.gens, drawn := s'.drawn, toks := s'.toks } :=
    I.call (ch := []) (Un.laid k hp hn) (I.hok.laid k hp ⟨hlen, out.toList, c, vals_of_ints hi, hg⟩) (by rw [g]; exact I.bare) (fun _ z => nomatch z)
  have e : s' = { s with heap := s'.heap, gens := s'.gens, drawn := s'.drawn, toks := s'.toks } := by
    cases s'
    cases s
    cases o
    rfl
  rw [e]
  exact ⟨.ref p, _, J, rfl, q ns p hs hm hl hn⟩
section
variable {P : Program} {w : World} {A : Around} {E : Value → Shared → Prop} {s : Shared}
/-- the new set, with nothing in it -/
abbrev noSet (w : World) : Obj := { cls := .type "set", dict := none, data := .set #[] 0 (.fresh 0 0 (!w.params.followText "set-order")) }
/-- set(xs) of a list of ints -/
theorem call_set_listI {l : Addr} {items : Array Value} (ns : List Int) {Q : Value → Shared → Prop} (hh : A.handled = none) (hl : s.heap.IsList l items) (hit : IntsAre items.toList ns) (hb : ns.length + 1 < scanBound)
    (h : ∀ (h' : Heap) (tk c : Nat), SetR w h' s.heap.objs.size (fun j => decide (j ∈ ns)) c → c ≤ ns.length → (∀ b o, s.heap.get? b = some o → h'.get? b = some o) → Q (.ref s.heap.objs.size) { s with heap := h', toks := tk }) :
    wpAny (model P w) A (call (.type "set") [.ref l]) Q E s := by
  obtain ⟨c0, tl, hmro⟩ := F.called_set.mro
  have made := F.called_set.made
  have hsub := F.called_set.sub
  have hsz : items.size = ns.length := (Array.length_toList (xs := items)).symm.trans (IntsAre.length hit)
  refine wpAny_call (codeAny_of_tree ?_)
  show wpAny _ _ (callAny (.type "set") _) _ _ _
  refine wpAny_pure ⟨Code.quiet_builtin _ (by decide +kernel), codeAny_builtin F.entry_type_call ?_⟩
  rw [Around.under_plain (weight_type_call_type "set" [.ref l] []) rfl]
  have u1 := F.called_set.notType
  have u2 := F.called_set.canCreate
  have u3 := F.typeCall_set_1 (.ref l)
  repeat (any_goals (first | assumption | wp_step))
  have old : ∀ b o, s.heap.get? b = some o → (s.heap.push (noSet w)).get? b = some o := fun b o e => Heap.get?_push_of_some _ e
  have hS : (s.heap.push (noSet w)).get? s.heap.objs.size = some (noSet w) := Heap.get?_push_size _ rfl
  refine codeAny_mono (code_set_led1 (.ref l) (E := E) (Q₁ := fun obj s₁ => obj = .ref s.heap.objs.size ∧ s₁ = { s with heap := s.heap.push (noSet w) }) ⟨rfl, rfl⟩) fun r s₁ hr => ?_
  match r, hr with
  | .error e, hr => exact hr
  | .ok .cont, hr => exact hr.elim
  | .ok .brk, hr => exact hr.elim
  | .ok .next, hr => exact hr.elim
  | .ok (.ret obj), hr =>
    obtain ⟨rfl, rfl⟩ := hr
    have hT : Shared.TypeIs { s with heap := s.heap.push (noSet w) } (.ref s.heap.objs.size) "set" := ⟨_, hS, rfl⟩
    have v1 := F.called_set.init.lookup
    have v2 := F.called_set.init.bind (.ref s.heap.objs.size)
    repeat (any_goals (first | assumption | wp_step))
    refine codeAny_mono (codeAny_call_builtin (R := wants (fun r s₂ => r = .none ∧ ∃ h' tk c, s₂ = { s with heap := h', toks := tk } ∧ SetR w h' s.heap.objs.size (fun j => decide (j ∈ ns)) c ∧ c ≤ ns.length ∧
        (∀ b o, s.heap.get? b = some o → h'.get? b = some o)) E) F.called_set.init.plain F.entry_set_init (check_set_init_1 hT ?_)) fun r₂ s₂ hr₂ => ?_
    · obtain ⟨⟨oc, od, odt, os⟩, hol, hcl, nl, hdl⟩ := hl
      simp only at hcl hdl
      subst hcl; subst hdl
      have hol' := old _ _ hol
      have x1 := F.sub_list_set
      have x2 := F.sub_list_frozenset
      have x3 : (Value.type "list" == Value.type "dict") = false := by decide
      have hl1 : (s.heap.push (noSet w)).IsList l items := ⟨_, hol', rfl, nl, rfl⟩
      have hlS : l < s.heap.objs.size := Heap.lt_size hol
      have hh3 : A.in1.in1.in1.handled = none := by simp [hh]
      have hneI : l ≠ (s.heap.push (noSet w)).objs.size := by
        rw [Heap.size_push]; exact Nat.ne_of_lt (Nat.lt_succ_of_lt hlS)
      have hSf : s.heap.objs.size ∉ [(s.heap.push (noSet w)).objs.size, l] := by
        rw [Heap.size_push]; simp only [List.mem_cons, List.mem_singleton, List.not_mem_nil, or_false, not_or]
        exact ⟨Nat.ne_of_lt (Nat.lt_succ_self _), Nat.ne_of_gt hlS⟩
      have hval : ∀ (i : Nat) (v : Value), items[i]? = some v → ∃ k t, ns[i]? = some k ∧ v = .int k t := fun i v hv => by
        have hi : i < ns.length := by rw [← hsz]; exact (Array.getElem?_eq_some_iff.mp hv).1
        obtain ⟨t, e⟩ := PyProof.Rows.IntsAre.int_at hit i v (by rw [Array.getElem?_toList]; exact hv)
        exact ⟨ns[i], t, List.getElem?_eq_getElem hi, by rw [e, List.getD_eq_getElem?_getD, List.getElem?_eq_getElem hi]; rfl⟩
      unfold Builtin.«set.__init__» noKeywords Builtin.Frozenset.updateFrom
      generalize hPI : pyIter = PI
      wp_walk
      subst hPI
      refine wpAny_pyIter_list hl1 (wpAny_bind (wpAny_runValue ?_))
      refine set_update_ints ((Walks.list hh3 _ l hneI items).toS) s.heap.objs.size hSf ns hsz hb hval (items.size - 0) 0 _ (by omega) (Nat.zero_le _)
        ⟨⟨_, Heap.get?_push_size _ rfl, rfl, rfl⟩, (hl1.push _)⟩ ⟨0, Nat.le_refl 0, setR_new_at (Heap.get?_push_of_some _ hS)⟩ ?_
      rintro ⟨h', g2, d', tk', os'⟩ c' hm hc' hS'
      have eg : g2 = s.gens := hm.gens
      have ed : d' = s.drawn := hm.drawn
      have eo : os' = s.os := hm.os
      subst eg; subst ed; subst eo
      show wpAny _ _ _ _ _ _
      refine wpAny_pure ?_
      show wpAny _ _ (ret Value.none) _ _ _
      refine wpAny_pure ⟨rfl, h', tk', c', rfl, hS', Nat.le_trans hc' (Nat.le_of_eq hsz), fun b o e => ?_⟩
      have hb0 : b < s.heap.objs.size := Heap.lt_size e
      refine hm.heap b o ?_ (Heap.get?_push_of_some _ (old _ _ e))
      simp only [List.mem_cons, List.mem_singleton, List.not_mem_nil, or_false, not_or]
      exact ⟨Nat.ne_of_lt hb0, by rw [Heap.size_push]; exact Nat.ne_of_lt (Nat.lt_succ_of_lt hb0)⟩
    · match r₂, hr₂ with
      | .error e, hr₂ => exact hr₂
      | .ok .cont, hr₂ => exact hr₂.elim
      | .ok .brk, hr₂ => exact hr₂.elim
      | .ok .next, hr₂ => exact hr₂.elim
      | .ok (.ret r), hr₂ =>
        obtain ⟨rfl, h', tk, c', rfl, hS', hc', hk'⟩ := hr₂
        repeat (any_goals (first | assumption | wp_step))
        exact h _ _ _ hS' hc' hk'
end
/-- set(xs) of a list of ints -/
def rSetOfL (K : PySem.W.Frag) (w : World) : List V → Hp → VK → Prop := fun vs H Q => ∃ (l : Addr) (ns : List Int), vs = [.ref l] ∧ SqL K H l (ns.map V.int) ∧ ns.length ≤ 4000 ∧
  ∀ (c : Nat) (p : Addr), c ≤ ns.length → H p = none → Q (.ref p) (upd H p (SetO w p (fun j => decide (j ∈ ns)) c))
theorem cr_setOfL {X : Cx} (hc : X.calm = true) : CallR X (.type "set") (rSetOfL X.K X.w) := by
  intro pins s σ H vs us Q I r h
  obtain ⟨l, ns, rfl, hq, hl, q⟩ := h
  rw [Vals.ref1 r]
  obtain ⟨its, rv, pt, hz⟩ := I.list hq
  have hi : IntsAre its.toArray.toList ns := ints_of_vals rv
  refine call_set_listI ns (I.ok.hd hc) (by obtain ⟨o, n, ho, hc1, _, hdat⟩ := pt; exact ⟨o, ho, hc1, n, hdat⟩) hi (by unfold scanBound; omega) fun h' tk c R1 hcn k => ?_
  have hn : H s.heap.objs.size = none := I.hok.fresh (Nat.le_refl _)
  have J : Inv X pins σ (upd H s.heap.objs.size (SetO X.w s.heap.objs.size (fun j => decide (j ∈ ns)) c)) { s with heap := h', toks := tk } :=
    I.laid k (Nat.le_refl _) (setO_new R1)
  exact ⟨.ref s.heap.objs.size, _, J, rfl, q c s.heap.objs.size hcn hn⟩
end OG


set_option Elab.async false
set_option linter.all false
set_option maxRecDepth 100000
set_option maxHeartbeats 3200000
/-! GP: comprehensions by an invariant of one's own (what it draws may change), comprehensions with a test. -/
namespace OG
open PySem PySem.Spec PyProof.Rows L2
section
variable {K : PySem.W.Frag} {H H1 H0 : Hp} {σ : L2.St}
theorem comp_inv {J : It} {n : Nat} {Hs : Hp} {Y : Nat → V → Hp → Prop} (w : Walks J Hs n Y) {g : TG} {tt : TT} {te : TE} {vs : List Nat} {D : Addr} {Qd : Hp → Prop} (Pv : Nat → Hp → Prop) (h0 : Pv 0 H0) (hl : ∀ i H, Pv i H → Same Hs H)
    (hs : ∀ i x H H', i < n → Pv i H → Same H H' → Y i x H' → g x (wipe σ vs) H' fun σ2 H2 => wipe σ2 vs = wipe σ vs ∧ tt σ2 H2 fun b H3 =>
      if b = true then te σ2 H3 fun y H4 => ∃ acc, H4 D = some (.lst acc) ∧ acc.length < sizeLine ∧ Pv (i + 1) (upd H4 D (.lst (acc ++ [y]))) else Pv (i + 1) H3) (hd : ∀ H, Pv n H → Qd H) :
    ∃ W : Nat → Nat → Hp → Prop, (∃ m, W 0 m H0) ∧ ∀ i m H, W i m H →
      (J.stop i H ∧ Qd H) ∨ (J.go i H ∧ ∃ Nx : Hp → Prop, (∀ H', Nx H' → ∃ m', m' < m ∧ W (i + 1) m' H') ∧ ∀ x H', J.yld i H x H' → g x (wipe σ vs) H' fun σ2 H2 => wipe σ2 vs = wipe σ vs ∧ tt σ2 H2 fun b H3 =>
        if b = true then te σ2 H3 fun y H4 => ∃ acc, H4 D = some (.lst acc) ∧ acc.length < sizeLine ∧ Nx (upd H4 D (.lst (acc ++ [y]))) else Nx H3) := by
  refine ⟨fun i m H => m = n - i ∧ i ≤ n ∧ Pv i H, ⟨n, by simp, Nat.zero_le _, h0⟩, ?_⟩
  rintro i m H ⟨rfl, hi, p⟩
  have q := hl i H p
  by_cases hlt : i < n
  · refine .inr ⟨w.go i H q hlt, Pv (i + 1), fun H' p' => ⟨n - (i + 1), by omega, rfl, hlt, p'⟩, fun x H' y => ?_⟩
    obtain ⟨s1, yy⟩ := w.yld i x H H' q hlt y
    exact hs i x H H' hlt p s1 yy
  · have e : i = n := by omega
    subst e
    exact .inl ⟨w.stop H q, hd H p⟩
/-- .. with a test; the items that pass, each made into a plain value -/
theorem comp_filt {J : It} {n : Nat} {Y : Nat → V → Hp → Prop} (w : Walks J H1 n Y) {tt : TT} {te : TE} {j : Nat} {Qd : Addr → Hp → Prop} (p : Nat → Bool) (f : Nat → V) (hY : ∀ i x H H', Same H H' → Y i x H → Y i x H') (hn : n < sizeLine)
    (test : ∀ i x H2 (N : Bool → Hp → Prop), i < n → Same H1 H2 → Y i x H2 → (∀ H3, Same H2 H3 → N (p i) H3) → tt ((wipe σ [j]).set j (some x)) H2 N)
    (step : ∀ i x H2 (N : VK), i < n → p i = true → Same H1 H2 → Y i x H2 → (∀ H3, Same H2 H3 → N (f i) H3) → te ((wipe σ [j]).set j (some x)) H2 N)
    (kont : ∀ D H', H1 D = none → Same H1 H' → H' D = some (.lst (((List.range n).filter p).map f)) → Qd D H') :
    ∀ D, H1 D = none → ∃ W : Nat → Nat → Hp → Prop, (∃ m, W 0 m (upd H1 D (.lst []))) ∧ ∀ i m H, W i m H →
      (J.stop i H ∧ Qd D H) ∨ (J.go i H ∧ ∃ Nx : Hp → Prop, (∀ H', Nx H' → ∃ m', m' < m ∧ W (i + 1) m' H') ∧ ∀ x H', J.yld i H x H' → gName j x (wipe σ [j]) H' fun σ2 H2 => wipe σ2 [j] = wipe σ [j] ∧ tt σ2 H2 fun b H3 =>
        if b = true then te σ2 H3 fun y H4 => ∃ acc, H4 D = some (.lst acc) ∧ acc.length < sizeLine ∧ Nx (upd H4 D (.lst (acc ++ [y]))) else Nx H3) := by
  intro D hD
  refine comp_inv (Hs := H1) w (g := gName j) (vs := [j]) (D := D) (Qd := Qd D) (fun i H => Same H1 H ∧ H D = some (.lst (((List.range i).filter p).map f))) ⟨same_new hD, upd_same⟩ (fun i H h => h.1) (fun i x H H' hi ⟨s, hd⟩ s' y => ?_) fun H ⟨s, hd⟩ => kont D H hD s hd
  refine ⟨wipe_set, ?_⟩
  have s1 := s.trans s'
  refine test i x H' _ hi s1 y fun H3 s3 => ?_
  have hd3 := s3 _ _ (s' _ _ hd)
  by_cases c : p i = true
  · rw [c]
    refine iteT (step i x H3 _ hi c (s1.trans s3) (hY _ _ _ _ s3 y) fun H4 s4 => ?_)
    refine ⟨_, s4 _ _ hd3, ?_, fun b u e => ?_, ?_⟩
    · rw [List.length_map]
      have := List.length_filter_le p (List.range i)
      rw [List.length_range] at this
      omega
    · rw [upd_ne (ne_of_none e hD)]
      exact s4 _ _ (s3 _ _ (s1 _ _ e))
    · rw [upd_same, List.range_succ, List.filter_append, List.map_append, List.filter_cons_of_pos c]
      rfl
  · have c' : p i = false := by simpa using c
    rw [c']
    refine iteF ⟨s1.trans s3, ?_⟩
    rw [List.range_succ, List.filter_append, List.filter_cons_of_neg c, List.filter_nil, List.append_nil]
    exact hd3
theorem refs_of {G : Nat → Addr → Prop} : ∀ (ys : List V) (m : Nat), (∀ i y, ys[i]? = some y → ∃ t, y = .ref t ∧ G (m + i) t) → ∃ ts : List Addr, ys = ts.map V.ref ∧ ∀ i t, ts[i]? = some t → G (m + i) t
  | [], m, _ => ⟨[], rfl, fun i t e => by cases e⟩
  | y :: ys, m, h => by
    obtain ⟨t, e1, e2⟩ := h 0 y rfl
    obtain ⟨ts, e3, e4⟩ := refs_of ys (m + 1) fun i z e => by
      have := h (i + 1) z (by simpa using e)
      rwa [show m + 1 + i = m + (i + 1) by omega]
    refine ⟨t :: ts, by rw [e1, e3]; rfl, fun i u e => ?_⟩
    cases i with
    | zero =>
      have : t = u := by simpa using e
      rw [← this]
      exact e2
    | succ i =>
      have := e4 i u (by simpa using e)
      rwa [show m + 1 + i = m + (i + 1) by omega] at this
/-- .. new objects, told as new -/
theorem comp_newsF {J : It} {n : Nat} {Y : Nat → V → Hp → Prop} (w : Walks J H1 n Y) {te : TE} {j : Nat} {Qd : Addr → Hp → Prop} (f : Nat → HO) (hn : n < sizeLine)
    (step : ∀ i x H2 (N : VK), i < n → Same H1 H2 → Y i x H2 → (∀ t H3, H2 t = none → Same H2 H3 → H3 t = some (f i) → N (.ref t) H3) → te ((wipe σ [j]).set j (some x)) H2 N)
    (kont : ∀ D (ts : List Addr) H', H1 D = none → Same H1 H' → H' D = some (.lst (ts.map V.ref)) → ts.length = n → (∀ i t, ts[i]? = some t → H1 t = none ∧ H' t = some (f i)) → Qd D H') :
    ∀ D, H1 D = none → ∃ W : Nat → Nat → Hp → Prop, (∃ m, W 0 m (upd H1 D (.lst []))) ∧ ∀ i m H, W i m H →
      (J.stop i H ∧ Qd D H) ∨ (J.go i H ∧ ∃ Nx : Hp → Prop, (∀ H', Nx H' → ∃ m', m' < m ∧ W (i + 1) m' H') ∧ ∀ x H', J.yld i H x H' → gName j x (wipe σ [j]) H' fun σ2 H2 => wipe σ2 [j] = wipe σ [j] ∧ tYes σ2 H2 fun b H3 =>
        if b = true then te σ2 H3 fun y H4 => ∃ acc, H4 D = some (.lst acc) ∧ acc.length < sizeLine ∧ Nx (upd H4 D (.lst (acc ++ [y]))) else Nx H3) := by
  have back : ∀ {H2 : Hp} {t : Addr}, Same H1 H2 → H2 t = none → H1 t = none := fun {H2 t} s h => by
    cases e : H1 t with
    | none => rfl
    | some u => rw [s _ _ e] at h; cases h
  refine comp_core w (fun i y H => ∃ t, y = .ref t ∧ H1 t = none ∧ H t = some (f i)) (fun _ _ _ _ s ⟨t, e, z, h⟩ => ⟨t, e, z, s _ _ h⟩) hn (fun D i x H2 N _ hi s hacc y h => step i x H2 N hi s y fun t H3 ht s3 h3 => ?_) fun D ys H' hD s hy hl hr => ?_
  · obtain ⟨acc, hacc⟩ := hacc
    have ne : D ≠ t := fun z => by rw [z, ht] at hacc; cases hacc
    refine h _ H3 (upd (fun _ => none) t (f i)) s3 (by rw [upd_ne ne]) (fun b u e => ?_) ⟨t, rfl, back s ht, upd_same⟩
    by_cases hb : b = t
    · subst hb
      rw [upd_same] at e
      cases e
      exact h3
    · rw [upd_ne hb] at e
      cases e
  · obtain ⟨ts, e1, e2⟩ := refs_of (G := fun i t => H1 t = none ∧ H' t = some (f i)) ys 0 fun i y e => by rw [Nat.zero_add]; exact hr i y e
    subst e1
    exact kont D ts H' hD s hy (by simpa using hl) fun i t e => by
      have := e2 i t e
      rwa [Nat.zero_add] at this
/-- comprehensions of plain values, any target -/
theorem comp_valG {J : It} {n : Nat} {Y : Nat → V → Hp → Prop} (w : Walks J H1 n Y) {g : TG} {te : TE} {vs : List Nat} {Qd : Addr → Hp → Prop} (f : Nat → V) (hn : n < sizeLine)
    (step : ∀ i x H2 (N : VK) (Z : Hp → Prop), i < n → Same H1 H2 → Y i x H2 → (∀ H3, Same H2 H3 → N (f i) H3) → g x (wipe σ vs) H2 fun σ2 H3 => wipe σ2 vs = wipe σ vs ∧ tYes σ2 H3 fun b H4 => if b = true then te σ2 H4 N else Z H4)
    (kont : ∀ D H', H1 D = none → Same H1 H' → H' D = some (.lst ((List.range n).map f)) → Qd D H') :
    ∀ D, H1 D = none → ∃ W : Nat → Nat → Hp → Prop, (∃ m, W 0 m (upd H1 D (.lst []))) ∧ ∀ i m H, W i m H →
      (J.stop i H ∧ Qd D H) ∨ (J.go i H ∧ ∃ Nx : Hp → Prop, (∀ H', Nx H' → ∃ m', m' < m ∧ W (i + 1) m' H') ∧ ∀ x H', J.yld i H x H' → g x (wipe σ vs) H' fun σ2 H2 => wipe σ2 vs = wipe σ vs ∧ tYes σ2 H2 fun b H3 =>
        if b = true then te σ2 H3 fun y H4 => ∃ acc, H4 D = some (.lst acc) ∧ acc.length < sizeLine ∧ Nx (upd H4 D (.lst (acc ++ [y]))) else Nx H3) := by
  intro D hD
  refine comp_inv (Hs := H1) w (g := g) (vs := vs) (D := D) (Qd := Qd D) (fun i H => Same H1 H ∧ H D = some (.lst ((List.range i).map f))) ⟨same_new hD, upd_same⟩ (fun i H h => h.1) (fun i x H H' hi ⟨s, hd⟩ s' y => ?_) fun H ⟨s, hd⟩ => kont D H hD s hd
  refine step i x H' _ _ hi (s.trans s') y fun H3 s3 => ?_
  refine ⟨_, s3 _ _ (s' _ _ hd), ?_, fun b u e => ?_, ?_⟩
  · rw [List.length_map, List.length_range]
    omega
  · rw [upd_ne (ne_of_none e hD)]
    exact s3 _ _ (s' _ _ (s _ _ e))
  · rw [upd_same, List.range_succ, List.map_append]
    rfl
end
end OG


set_option Elab.async false
set_option linter.all false
set_option maxRecDepth 100000
set_option maxHeartbeats 3200000
/-! GQ: zip of two sequences, each a list or a tuple (turned from the hand layer's zip of two tuples, with the kind of each told apart). -/
namespace OG
open PySem PySem.Spec PyProof.Rows L2
/-- what stands at a sequence, at its iterator; true: a tuple -/
def SeqK (b : Bool) (h : Heap) (l : Addr) (xs : Array Value) : Prop := match b with
  | true => h.IsTuple l xs
  | false => h.IsList l xs
def ItK (b : Bool) (h : Heap) (it l : Addr) (i : Nat) : Prop := match b with
  | true => h.IsTupleIter it l i
  | false => h.IsListIter it l i
theorem SeqK.at {b : Bool} {h h' : Heap} {l : Addr} {xs : Array Value} (q : SeqK b h l xs) (k : ∀ o, h.get? l = some o → h'.get? l = some o) : SeqK b h' l xs := by
  cases b with
  | true => obtain ⟨o, e, r⟩ := q; exact ⟨o, k o e, r⟩
  | false => obtain ⟨o, e, r⟩ := q; exact ⟨o, k o e, r⟩
theorem ItK.at {b : Bool} {h h' : Heap} {it l : Addr} {i : Nat} (q : ItK b h it l i) (k : ∀ o, h.get? it = some o → h'.get? it = some o) : ItK b h' it l i := by
  cases b with
  | true => obtain ⟨o, e, r⟩ := q; exact ⟨o, k o e, r⟩
  | false => obtain ⟨o, e, r⟩ := q; exact ⟨o, k o e, r⟩
theorem ItK.ob {b : Bool} {h : Heap} {it l : Addr} {i : Nat} (q : ItK b h it l i) : ∃ o, h.get? it = some o ∧ ∀ v, o.data ≠ .cell v := by
  cases b with
  | true => obtain ⟨o, e, _, d⟩ := q; exact ⟨o, e, fun v z => by rw [d] at z; cases z⟩
  | false => obtain ⟨o, e, _, d⟩ := q; exact ⟨o, e, fun v z => by rw [d] at z; cases z⟩
section
variable {prog : Program} {w : World} {A : Around} {E : Value → Shared → Prop} {s : Shared} {b b1 b2 : Bool}
theorem nextK_item {it l : Addr} {i : Nat} {xs : Array Value} {x : Value} {Q : Value → Shared → Prop} (hit : ItK b s.heap it l i) (hl : SeqK b s.heap l xs) (hx : xs[i]? = some x)
    (hQ : ∀ h', ItK b h' it l (i + 1) → Heap.SameBut it s.heap h' → Q x { s with heap := h' }) : wpAny (model prog w) A (Builtin.SmallTypes.nextOf (.ref it)) Q E s := by
  cases b with
  | true => exact RZ.nextOf_tuple_item hit hl hx hQ
  | false => exact wpAny_nextOf_list_item hit hl hx hQ
theorem nextK_end {it l : Addr} {i : Nat} {xs : Array Value} {Q : Value → Shared → Prop} (hh : A.handled = none) (hit : ItK b s.heap it l i) (hl : SeqK b s.heap l xs) (hx : xs[i]? = none)
    (hE : ∀ h' e, Heap.ExtBut it s.heap h' → (∃ o, h'.get? e = some o ∧ o.cls = .type "StopIteration") → E (.ref e) { s with heap := h' }) : wpAny (model prog w) A (Builtin.SmallTypes.nextOf (.ref it)) Q E s := by
  cases b with
  | true => exact RZ.nextOf_tuple_end hh hit hl hx hE
  | false => exact wpAny_nextOf_list_end hh hit hl hx hE
variable {z TI TO i1 i2 l1 l2 : Addr} {k1 k2 : Nat} {xs ys : Array Value} {x y a c : Value}
theorem zipK_next_item {Q : Value → Shared → Prop} (D : ZipApart z TI TO i1 i2 l1 l2) (hz : IsZip s.heap z TI TO .none) (hTI : IsPair s.heap TI (.ref i1) (.ref i2)) (hTO : IsPair s.heap TO a c)
    (h1 : ItK b1 s.heap i1 l1 k1) (h2 : ItK b2 s.heap i2 l2 k2) (hl1 : SeqK b1 s.heap l1 xs) (hl2 : SeqK b2 s.heap l2 ys) (hx : xs[k1]? = some x) (hy : ys[k2]? = some y)
    (hQ : ∀ h', IsZip h' z TI TO (rawInt s.heap.objs.size) → IsPair h' TO x y → ItK b1 h' i1 l1 (k1 + 1) → ItK b2 h' i2 l2 (k2 + 1) → IsPair h' s.heap.objs.size x y → h'.objs.size = s.heap.objs.size + 1 →
      (∀ c o, c ≠ z → c ≠ TO → c ≠ i1 → c ≠ i2 → s.heap.get? c = some o → h'.get? c = some o) → Q (.ref s.heap.objs.size) { s with heap := h' }) :
    wpAny (model prog w) A (Builtin.«zip.__next__» ⟨[.ref z], []⟩) (fun fin s' => ∃ v, fin = .done (.ret v) ∧ Q v s') E s := by
  show wpAny _ _ (field (.ref z) 2 >>= _) _ _ _
  refine wpAny_bind (wpAny_field hz rfl (x := .bool false) rfl ?_)
  show wpAny _ _ (field (.ref z) 3 >>= _) _ _ _
  refine wpAny_bind (wpAny_field hz rfl (x := .ref TI) rfl (wpAny_bind (wpAny_seqItems hTI rfl ?_)))
  show wpAny _ _ (Builtin.SmallTypes.ownedTupleIsFree (.ref z) >>= _) _ _ _
  unfold Builtin.SmallTypes.ownedTupleIsFree
  refine wpAny_bind (wpAny_bind (wpAny_field hz rfl (x := .none) rfl (wpAny_pure ?_)))
  simp only [if_true]
  refine wpAny_bind (wpAny_rule (wpAny_bind (wpAny_field hz rfl (x := .ref TO) rfl ?_)))
  refine wpAny_bind (wpAny_setField_rec hz (by simp) fun h₁ hz₁ hs₁ => wpAny_bind ?_)
  replace hz₁ : IsZip h₁ z TI TO .ellipsis := hz₁
  simp only [List.zipIdx_cons, List.zipIdx_nil, List.forIn_cons, List.forIn_nil]
  refine wpAny_bind (wpAny_bind (wpAny_onRaise ?_))
  show wpAny _ _ (Builtin.SmallTypes.nextOf (.ref i1) >>= _) _ _ _
  refine wpAny_bind (nextK_item (b := b1) (h1.at fun o e => hs₁.extBut _ _ D.i1z e) (hl1.at fun o e => hs₁.extBut _ _ D.l1z e) hx fun h₂ h1₂ hs₂ => wpAny_pure ?_)
  have hTO₂ : IsPair h₂ TO a c := hs₂.extBut _ _ D.TOi1 (hs₁.extBut _ _ D.TOz hTO)
  refine wpAny_bind (wpAny_seqItems hTO₂ rfl (wpAny_bind (wpAny_updateSeq_pair hTO₂ fun h₃ hTO₃ hs₃ => wpAny_bind (wpAny_letGo (wpAny_pure ?_)))))
  replace hTO₃ : IsPair h₃ TO x c := hTO₃
  refine wpAny_bind (wpAny_bind (wpAny_onRaise ?_))
  show wpAny _ _ (Builtin.SmallTypes.nextOf (.ref i2) >>= _) _ _ _
  refine wpAny_bind (nextK_item (b := b2) (h2.at fun o e => hs₃.extBut _ _ D.TOi2.symm (hs₂.extBut _ _ D.i12.symm (hs₁.extBut _ _ D.i2z e))) (hl2.at fun o e => hs₃.extBut _ _ D.l2TO (hs₂.extBut _ _ D.l2i1 (hs₁.extBut _ _ D.l2z e))) hy fun h₄ h2₄ hs₄ => wpAny_pure ?_)
  have hTO₄ : IsPair h₄ TO x c := hs₄.extBut _ _ D.TOi2 hTO₃
  refine wpAny_bind (wpAny_seqItems hTO₄ rfl (wpAny_bind (wpAny_updateSeq_pair hTO₄ fun h₅ hTO₅ hs₅ => wpAny_bind (wpAny_letGo (wpAny_pure (wpAny_pure ?_))))))
  replace hTO₅ : IsPair h₅ TO x y := hTO₅
  refine wpAny_bind (wpAny_seqItems hTO₅ rfl (wpAny_bind (wpAny_newTuple ?_)))
  have hsz : h₅.objs.size = s.heap.objs.size := by rw [hs₅.1, hs₄.1, hs₃.1, hs₂.1, hs₁.1]
  have hz₅ : IsZip h₅ z TI TO .ellipsis := hs₅.extBut _ _ D.TOz.symm (hs₄.extBut _ _ D.i2z.symm (hs₃.extBut _ _ D.TOz.symm (hs₂.extBut _ _ D.i1z.symm hz₁)))
  have hk₅ : ∀ c o, c ≠ z → c ≠ TO → c ≠ i1 → c ≠ i2 → s.heap.get? c = some o → h₅.get? c = some o := fun c o c1 c2 c3 c4 e =>
    hs₅.extBut _ _ c2 (hs₄.extBut _ _ c4 (hs₃.extBut _ _ c2 (hs₂.extBut _ _ c3 (hs₁.extBut _ _ c1 e))))
  have h1₅ : ItK b1 h₅ i1 l1 (k1 + 1) := h1₂.at fun o e => hs₅.extBut _ _ D.TOi1.symm (hs₄.extBut _ _ D.i12 (hs₃.extBut _ _ D.TOi1.symm e))
  have h2₅ : ItK b2 h₅ i2 l2 (k2 + 1) := h2₄.at fun o e => hs₅.extBut _ _ D.TOi2.symm e
  have hzlt : z < h₅.objs.size := Heap.lt_size hz₅
  show wpAny _ _ (Builtin.SmallTypes.ownedTupleHandOut (.ref z) (.ref h₅.objs.size) >>= _) _ _ _
  unfold Builtin.SmallTypes.ownedTupleHandOut
  have hz₆ : IsZip (h₅.push { cls := .type "tuple", data := .seq #[x, y] }) z TI TO .ellipsis := Heap.get?_push_of_some _ hz₅
  refine wpAny_bind (wpAny_bind (wpAny_setField_rec hz₆ (by simp) fun h₇ hz₇ hs₇ => ?_))
  replace hz₇ : IsZip h₇ z TI TO (rawInt h₅.objs.size) := hz₇
  refine wpAny_setField_rec hz₇ (by simp) fun h₈ hz₈ hs₈ => ?_
  replace hz₈ : IsZip h₈ z TI TO (rawInt h₅.objs.size) := hz₈
  have up : ∀ c o, c ≠ z → h₅.get? c = some o → h₈.get? c = some o := fun c o c1 e => hs₈.extBut _ _ c1 (hs₇.extBut _ _ c1 (Heap.get?_push_of_some _ e))
  have hT₈ : IsPair h₈ h₅.objs.size x y := hs₈.extBut _ _ (Nat.ne_of_gt hzlt) (hs₇.extBut _ _ (Nat.ne_of_gt hzlt) (Heap.get?_push_size _ rfl))
  have hz8 : h₈.objs.size = h₅.objs.size + 1 := by rw [hs₈.1, hs₇.1, Heap.size_push]
  rw [hsz] at hz₈ hT₈ hz8
  refine wpAny_pure ⟨_, rfl, ?_⟩
  show Q (.ref h₅.objs.size) _
  rw [hsz]
  exact hQ h₈ hz₈ (up _ _ D.TOz hTO₅) (h1₅.at fun o e => up _ o D.i1z e) (h2₅.at fun o e => up _ o D.i2z e) hT₈ hz8 fun c o c1 c2 c3 c4 e => up c o c1 (hk₅ c o c1 c2 c3 c4 e)
theorem zipK_next_end {Q : Fin → Shared → Prop} (hh : A.handled = none) (D : ZipApart z TI TO i1 i2 l1 l2) (hz : IsZip s.heap z TI TO .none) (hTI : IsPair s.heap TI (.ref i1) (.ref i2)) (hTO : IsPair s.heap TO a c)
    (h1 : ItK b1 s.heap i1 l1 k1) (h2 : ItK b2 s.heap i2 l2 k2) (hl1 : SeqK b1 s.heap l1 xs) (hl2 : SeqK b2 s.heap l2 ys) (hend : xs[k1]? = none ∨ ys[k2]? = none)
    (hE : ∀ h' e, (∀ c o, c ≠ z → c ≠ TO → c ≠ i1 → c ≠ i2 → s.heap.get? c = some o → h'.get? c = some o) → (∃ o, h'.get? e = some o ∧ o.cls = .type "StopIteration") → E (.ref e) { s with heap := h' }) :
    wpAny (model prog w) A (Builtin.«zip.__next__» ⟨[.ref z], []⟩) Q E s := by
  show wpAny _ _ (field (.ref z) 2 >>= _) _ _ _
  refine wpAny_bind (wpAny_field hz rfl (x := .bool false) rfl ?_)
  show wpAny _ _ (field (.ref z) 3 >>= _) _ _ _
  refine wpAny_bind (wpAny_field hz rfl (x := .ref TI) rfl (wpAny_bind (wpAny_seqItems hTI rfl ?_)))
  show wpAny _ _ (Builtin.SmallTypes.ownedTupleIsFree (.ref z) >>= _) _ _ _
  unfold Builtin.SmallTypes.ownedTupleIsFree
  refine wpAny_bind (wpAny_bind (wpAny_field hz rfl (x := .none) rfl (wpAny_pure ?_)))
  simp only [if_true]
  refine wpAny_bind (wpAny_rule (wpAny_bind (wpAny_field hz rfl (x := .ref TO) rfl ?_)))
  refine wpAny_bind (wpAny_setField_rec hz (by simp) fun h₁ hz₁ hs₁ => wpAny_bind ?_)
  replace hz₁ : IsZip h₁ z TI TO .ellipsis := hz₁
  simp only [List.zipIdx_cons, List.zipIdx_nil, List.forIn_cons, List.forIn_nil]
  refine wpAny_bind (wpAny_bind (wpAny_onRaise ?_))
  show wpAny _ _ (Builtin.SmallTypes.nextOf (.ref i1) >>= _) _ _ _
  have a1 : ItK b1 h₁ i1 l1 k1 := h1.at fun o e => hs₁.extBut _ _ D.i1z e
  have b1' : SeqK b1 h₁ l1 xs := hl1.at fun o e => hs₁.extBut _ _ D.l1z e
  cases hx : xs[k1]? with
  | none =>
    refine wpAny_bind (nextK_end (b := b1) hh a1 b1' hx fun h₂ e hs₂ he => ?_)
    obtain ⟨oe, hoe, hce⟩ := he
    have hz₂ : IsZip h₂ z TI TO .ellipsis := hs₂ _ _ D.i1z.symm hz₁
    have hez : e ≠ z := fun x => by subst x; rw [hz₂] at hoe; cases hoe; simp at hce
    exact wpAny_setField_rec hz₂ (by simp) fun h₃ _ hs₃ => hE h₃ e (fun c o c1 _ c3 _ x => hs₃.extBut _ _ c1 (hs₂ _ _ c3 (hs₁.extBut _ _ c1 x))) ⟨oe, hs₃.extBut _ _ hez hoe, hce⟩
  | some x =>
    have hy : ys[k2]? = none := by rcases hend with h | h; rw [hx] at h; cases h; exact h
    refine wpAny_bind (nextK_item (b := b1) a1 b1' hx fun h₂ h1₂ hs₂ => wpAny_pure ?_)
    have hTO₂ : IsPair h₂ TO a c := hs₂.extBut _ _ D.TOi1 (hs₁.extBut _ _ D.TOz hTO)
    refine wpAny_bind (wpAny_seqItems hTO₂ rfl (wpAny_bind (wpAny_updateSeq_pair hTO₂ fun h₃ hTO₃ hs₃ => wpAny_bind (wpAny_letGo (wpAny_pure ?_)))))
    refine wpAny_bind (wpAny_bind (wpAny_onRaise ?_))
    show wpAny _ _ (Builtin.SmallTypes.nextOf (.ref i2) >>= _) _ _ _
    refine wpAny_bind (nextK_end (b := b2) hh (h2.at fun o e => hs₃.extBut _ _ D.TOi2.symm (hs₂.extBut _ _ D.i12.symm (hs₁.extBut _ _ D.i2z e))) (hl2.at fun o e => hs₃.extBut _ _ D.l2TO (hs₂.extBut _ _ D.l2i1 (hs₁.extBut _ _ D.l2z e))) hy fun h₄ e hs₄ he => ?_)
    obtain ⟨oe, hoe, hce⟩ := he
    have hz₄ : IsZip h₄ z TI TO .ellipsis := hs₄ _ _ D.i2z.symm (hs₃.extBut _ _ D.TOz.symm (hs₂.extBut _ _ D.i1z.symm hz₁))
    have hez : e ≠ z := fun x => by subst x; rw [hz₄] at hoe; cases hoe; simp at hce
    exact wpAny_setField_rec hz₄ (by simp) fun h₅ _ hs₅ => hE h₅ e (fun c o c1 c2 c3 c4 x => hs₅.extBut _ _ c1 (hs₄ _ _ c4 (hs₃.extBut _ _ c2 (hs₂.extBut _ _ c3 (hs₁.extBut _ _ c1 x))))) ⟨oe, hs₅.extBut _ _ hez hoe, hce⟩
theorem pyNextK_item {Q : Option Value → Shared → Prop} (D : ZipApart z TI TO i1 i2 l1 l2) (hz : IsZip s.heap z TI TO .none) (hTI : IsPair s.heap TI (.ref i1) (.ref i2)) (hTO : IsPair s.heap TO a c)
    (h1 : ItK b1 s.heap i1 l1 k1) (h2 : ItK b2 s.heap i2 l2 k2) (hl1 : SeqK b1 s.heap l1 xs) (hl2 : SeqK b2 s.heap l2 ys) (hx : xs[k1]? = some x) (hy : ys[k2]? = some y)
    (hQ : ∀ h', IsZip h' z TI TO (rawInt s.heap.objs.size) → IsPair h' TO x y → ItK b1 h' i1 l1 (k1 + 1) → ItK b2 h' i2 l2 (k2 + 1) → IsPair h' s.heap.objs.size x y → h'.objs.size = s.heap.objs.size + 1 →
      (∀ c o, c ≠ z → c ≠ TO → c ≠ i1 → c ≠ i2 → s.heap.get? c = some o → h'.get? c = some o) → Q (some (.ref s.heap.objs.size)) { s with heap := h' }) : wpAny (model prog w) A (pyNext (.ref z)) Q E s := by
  have hT : s.TypeIs (.ref z) "zip" := ⟨_, hz, rfl⟩
  unfold pyNext
  exact wpAny_bind (wpAny_attempt (wpAny_callSpecial?_slot (name := Str.ofString "__next__") hT F.slot_zip_next
    (wpAny_call_entry F.slot_zip_next hT F.entry_zip_next (zipK_next_item D hz hTI hTO h1 h2 hl1 hl2 hx hy fun h' a1 a2 a3 a4 a5 a6 a7 => wpAny_pure (hQ h' a1 a2 a3 a4 a5 a6 a7)) (F.args_zip_next_1 _))))
theorem pyNextK_end {Q : Option Value → Shared → Prop} (hh : A.handled = none) (D : ZipApart z TI TO i1 i2 l1 l2) (hz : IsZip s.heap z TI TO .none) (hTI : IsPair s.heap TI (.ref i1) (.ref i2)) (hTO : IsPair s.heap TO a c)
    (h1 : ItK b1 s.heap i1 l1 k1) (h2 : ItK b2 s.heap i2 l2 k2) (hl1 : SeqK b1 s.heap l1 xs) (hl2 : SeqK b2 s.heap l2 ys) (hend : xs[k1]? = none ∨ ys[k2]? = none)
    (hQ : ∀ h', (∀ c o, c ≠ z → c ≠ TO → c ≠ i1 → c ≠ i2 → s.heap.get? c = some o → h'.get? c = some o) → Q none { s with heap := h' }) : wpAny (model prog w) A (pyNext (.ref z)) Q E s := by
  have hT : s.TypeIs (.ref z) "zip" := ⟨_, hz, rfl⟩
  unfold pyNext
  refine wpAny_bind (wpAny_attempt (wpAny_callSpecial?_slot (name := Str.ofString "__next__") hT F.slot_zip_next
    (wpAny_call_entry F.slot_zip_next hT F.entry_zip_next (zipK_next_end hh D hz hTI hTO h1 h2 hl1 hl2 hend fun h' e hk he => ?_) (F.args_zip_next_1 _))))
  obtain ⟨o, ho, hc⟩ := he
  exact wpAny_bind (wpAny_isInstance (T := "StopIteration") (b := true) ⟨o, ho, hc⟩ isSubtype_stop (wpAny_pure (hQ _ hk)))
/-- a new iterator of the kind -/
def newIt (b : Bool) (l : Addr) : Obj := { cls := .type (match b with | true => "tuple_iterator" | false => "list_iterator"), data := .fields #[.ref l, .int 0 0] }
theorem newIt_at {h h' : Heap} {l : Addr} (g : h'.get? h.objs.size = some (newIt b l)) : ItK b h' h.objs.size l 0 := by
  cases b with
  | true => exact ⟨_, g, rfl, rfl⟩
  | false => exact ⟨_, g, rfl, rfl⟩
theorem pyIterK {l : Addr} {Q : Value → Shared → Prop} (hl : SeqK b s.heap l xs) (h : Q (.ref s.heap.objs.size) { s with heap := s.heap.push (newIt b l) }) : wpAny (model prog w) A (pyIter (.ref l)) Q E s := by
  cases b with
  | true => exact wpAny_pyIter_tuple hl h
  | false => exact wpAny_pyIter_list hl h
end
abbrev zK1 (b1 : Bool) (h : Heap) (l1 : Addr) : Heap := h.push (newIt b1 l1)
abbrev zK2 (b1 b2 : Bool) (h : Heap) (l1 l2 : Addr) : Heap := (zK1 b1 h l1).push (newIt b2 l2)
abbrev zK3 (b1 b2 : Bool) (h : Heap) (l1 l2 : Addr) : Heap := (zK2 b1 b2 h l1 l2).push { cls := .type "tuple", data := .seq #[.ref h.objs.size, .ref (zK1 b1 h l1).objs.size] }
abbrev zK4 (b1 b2 : Bool) (h : Heap) (l1 l2 : Addr) : Heap := (zK3 b1 b2 h l1 l2).push { cls := .type "tuple", data := .seq #[.none, .none] }
abbrev zK5 (b1 b2 : Bool) (h : Heap) (l1 l2 : Addr) : Heap := (zK4 b1 b2 h l1 l2).push { cls := .type "zip", data := .fields #[.none, .bool false, .bool false, .ref (zK2 b1 b2 h l1 l2).objs.size, .ref (zK3 b1 b2 h l1 l2).objs.size] }
theorem meets_zipK (b1 b2 : Bool) (l1 l2 : Addr) (xs ys : Array Value) :
    Meets (Builtin.«zip.__new__» ⟨[.type "zip", .ref l1, .ref l2], []⟩) (fun _ R s => SeqK b1 s.heap l1 xs ∧ SeqK b2 s.heap l2 ys ∧ R (.ok (.ret (.ref (zK4 b1 b2 s.heap l1 l2).objs.size))) { s with heap := zK5 b1 b2 s.heap l1 l2 }) :=
  .of_wp fun prog w A R s h => by
    obtain ⟨hp, g, d, tk, os⟩ := s
    obtain ⟨hl1, hl2, h⟩ := h
    have hsub := sub_zip
    have hL1 : SeqK b1 (Shared.heap ⟨hp, g, d, tk, os⟩) l1 xs := hl1
    have hL2 : SeqK b2 (Shared.heap ⟨hp.push (newIt b1 l1), g, d, tk, os⟩) l2 ys := hl2.at fun o e => Heap.get?_push_of_some _ e
    wp_walk using pyIterK hL1, pyIterK hL2
    exact ⟨_, rfl, h⟩
section
variable {prog : Program} {w : World} {A : Around} {E : Value → Shared → Prop} {s : Shared} {b1 b2 : Bool}
theorem call_zipK {l1 l2 : Addr} {xs ys : Array Value} {Q : Value → Shared → Prop} (hl1 : SeqK b1 s.heap l1 xs) (hl2 : SeqK b2 s.heap l2 ys)
    (h : ∀ h', IsZip h' (s.heap.objs.size + 4) (s.heap.objs.size + 2) (s.heap.objs.size + 3) .none → IsPair h' (s.heap.objs.size + 2) (.ref s.heap.objs.size) (.ref (s.heap.objs.size + 1)) →
      IsPair h' (s.heap.objs.size + 3) .none .none → ItK b1 h' s.heap.objs.size l1 0 → ItK b2 h' (s.heap.objs.size + 1) l2 0 → h'.objs.size = s.heap.objs.size + 5 →
      (∀ c o, s.heap.get? c = some o → h'.get? c = some o) → Q (.ref (s.heap.objs.size + 4)) { s with heap := h' }) : wpAny (model prog w) A (call (.type "zip") [.ref l1, .ref l2]) Q E s := by
  refine callType_new F.called_zip (by decide) (F.typeCall_zip_2 _ _) (F.newCall_zip_2 _ _) (fun obj => F.args_object_init_3 obj _ _) F.entry_zip_new (meets_zipK b1 b2 l1 l2 xs ys) ⟨hl1, hl2, ?_⟩
  have z1 : (zK1 b1 s.heap l1).objs.size = s.heap.objs.size + 1 := Heap.size_push ..
  have z2 : (zK2 b1 b2 s.heap l1 l2).objs.size = s.heap.objs.size + 2 := by rw [Heap.size_push, z1]
  have z3 : (zK3 b1 b2 s.heap l1 l2).objs.size = s.heap.objs.size + 3 := by rw [Heap.size_push, z2]
  have z4 : (zK4 b1 b2 s.heap l1 l2).objs.size = s.heap.objs.size + 4 := by rw [Heap.size_push, z3]
  have z5 : (zK5 b1 b2 s.heap l1 l2).objs.size = s.heap.objs.size + 5 := by rw [Heap.size_push, z4]
  have g5 : (zK5 b1 b2 s.heap l1 l2).get? (zK4 b1 b2 s.heap l1 l2).objs.size = some _ := Heap.get?_push_size _ rfl
  have g4 : (zK5 b1 b2 s.heap l1 l2).get? (zK3 b1 b2 s.heap l1 l2).objs.size = some _ := Heap.get?_push_of_some _ (Heap.get?_push_size _ rfl)
  have g3 : (zK5 b1 b2 s.heap l1 l2).get? (zK2 b1 b2 s.heap l1 l2).objs.size = some _ := Heap.get?_push_of_some _ (Heap.get?_push_of_some _ (Heap.get?_push_size _ rfl))
  have g2 : (zK5 b1 b2 s.heap l1 l2).get? (zK1 b1 s.heap l1).objs.size = some (newIt b2 l2) := Heap.get?_push_of_some _ (Heap.get?_push_of_some _ (Heap.get?_push_of_some _ (Heap.get?_push_size _ rfl)))
  have g1 : (zK5 b1 b2 s.heap l1 l2).get? s.heap.objs.size = some (newIt b1 l1) := Heap.get?_push_of_some _ (Heap.get?_push_of_some _ (Heap.get?_push_of_some _ (Heap.get?_push_of_some _ (Heap.get?_push_size _ rfl))))
  show _ ∧ _
  have i2 := newIt_at g2
  rw [z2, z3, z4] at g5
  rw [z1, z2] at g3
  rw [z3] at g4
  rw [z1] at i2
  rw [z4]
  exact ⟨⟨_, g5, rfl⟩, h _ g5 g3 g4 (newIt_at g1) i2 z5 fun c o x => Heap.get?_push_of_some _ (Heap.get?_push_of_some _ (Heap.get?_push_of_some _ (Heap.get?_push_of_some _ (Heap.get?_push_of_some _ x))))⟩
end
/-! ### as an iteration -/
def SqB (b : Bool) (K : PySem.W.Frag) (H : Hp) (a : Addr) (xs : List V) : Prop := match b with
  | true => SqT K H a xs
  | false => SqL K H a xs
theorem SqB.of {K : PySem.W.Frag} {H : Hp} {a : Addr} {xs : List V} (h : SqS K H a xs) : ∃ b, SqB b K H a xs := h.elim (fun h => ⟨false, h⟩) fun h => ⟨true, h⟩
theorem SqB.same {b : Bool} {K : PySem.W.Frag} {H H' : Hp} {a : Addr} {xs : List V} (e : Same H H') (h : SqB b K H a xs) : SqB b K H' a xs := by
  cases b with
  | true => exact same_t e h
  | false => exact e.seq h
theorem SqB.at {b : Bool} {K : PySem.W.Frag} {H H0 : Hp} {a : Addr} {xs : List V} (e : H0 a = H a) (h : SqB b K H a xs) : SqB b K H0 a xs := by
  cases b with
  | true => exact sqt_at e h
  | false => exact sql_at e h
section
variable {X : Cx} {pins : List (Addr × Obj)} {σ : L2.St} {H : Hp} {s : Shared} {b : Bool} {a : Addr} {xs ys : List V}
theorem SqB.get (I : Inv X pins σ H s) (h : SqB b X.K H a xs) : ∃ its : List Value, Vals xs its ∧ SeqK b s.heap a its.toArray := by
  cases b with
  | true => obtain ⟨its, rv, p, _⟩ := I.tuple h; exact ⟨its, rv, p⟩
  | false => obtain ⟨its, rv, p, _⟩ := I.list h; exact ⟨its, rv, p.isList⟩
theorem SqB.inj (I : Inv X pins σ H s) (h : SqB b X.K H a xs) (k : SqB b X.K H a ys) : xs = ys := by
  cases b with
  | true => exact I.tuple_inj h k
  | false => exact I.list_inj h k
theorem SeqK.lt {h : Heap} {l : Addr} {vs : Array Value} (q : SeqK b h l vs) : l < h.objs.size := by
  cases b with
  | true => obtain ⟨_, e, _⟩ := q; exact Heap.lt_size e
  | false => obtain ⟨_, e, _⟩ := q; exact Heap.lt_size e
end
def ItzK (b1 b2 : Bool) (K : PySem.W.Frag) (a b : Addr) : It :=
  ⟨fun i H => ∃ (xs ys : List V) (x y : V), SqB b1 K H a xs ∧ SqB b2 K H b ys ∧ xs[i]? = some x ∧ ys[i]? = some y,
    fun i H v H' => ∃ T x y, v = .ref T ∧ H T = none ∧ H' = upd H T (.tup [x, y]) ∧ (∀ xs, SqB b1 K H a xs → xs[i]? = some x) ∧ ∀ ys, SqB b2 K H b ys → ys[i]? = some y,
    fun i H => ∃ xs ys : List V, SqB b1 K H a xs ∧ SqB b2 K H b ys ∧ (xs.length ≤ i ∨ ys.length ≤ i)⟩
theorem turn_zipK {P : Program} {w : World} {K : PySem.W.Frag} {elts : List Expr} {kk : Nat} {tpos : Pos} {b1 b2 : Bool} {a b z TI TO i1 i2 : Addr} (D : ZipApart z TI TO i1 i2 a b) :
    Turn P w K (.Tuple elts kk tpos) (ItzK b1 b2 K a b) [z, TI, TO, i1, i2] z (fun i h => IsZip h z TI TO .none ∧ IsPair h TI (.ref i1) (.ref i2) ∧ (∃ x y, IsPair h TO x y) ∧ ItK b1 h i1 a i ∧ ItK b2 h i2 b i) where
  mem := by simp
  obj := fun i h st c hc => by
    obtain ⟨hz, hTI, ⟨x, y, hTO⟩, h1, h2⟩ := st
    have e' : c = z ∨ c = TI ∨ c = TO ∨ c = i1 ∨ c = i2 := by simpa using hc
    rcases e' with q | q | q | q | q
    · rw [q]; exact ⟨_, hz, fun v q => nomatch q⟩
    · rw [q]; exact ⟨_, hTI, fun v q => nomatch q⟩
    · rw [q]; exact ⟨_, hTO, fun v q => nomatch q⟩
    · rw [q]; exact h1.ob
    · rw [q]; exact h2.ob
  keep := fun i h h' st k => by
    obtain ⟨hz, hTI, ⟨x, y, hTO⟩, h1, h2⟩ := st
    exact ⟨k z (by simp) _ hz, k TI (by simp) _ hTI, ⟨x, y, k TO (by simp) _ hTO⟩, h1.at fun o q => k i1 (by simp) o q, h2.at fun o q => k i2 (by simp) o q⟩
  item := by
    intro X hP hw hK hc i pins s σ H E I hf st hg
    subst hP hw hK
    obtain ⟨hz, hTI, ⟨x0, y0, hTO⟩, h1, h2⟩ := st
    obtain ⟨xs, ys, x, y, hqx, hqy, hx, hy⟩ := hg
    obtain ⟨its, rv, p⟩ := hqx.get I
    obtain ⟨its2, rv2, p2⟩ := hqy.get I
    obtain ⟨u, hu, ru⟩ := rv.get hx
    obtain ⟨u2, hu2, ru2⟩ := rv2.get hy
    have hzl : z < s.heap.objs.size := Heap.lt_size hz
    refine pyNextK_item D hz hTI hTO h1 h2 p p2 (x := u) (y := u2) (by simpa using hu) (by simpa using hu2) fun h' z' TO' h1' h2' hT hsz hk => ?_
    refine ⟨_, rfl, wpAny_letOwnedTupleGo_zip (s := { s with heap := h' }) z' fun h'' z'' sb => ?_⟩
    have hT2 : h''.get? s.heap.objs.size = some { cls := .type "tuple", data := .seq #[u, u2] } := (sb.2 _ (Nat.ne_of_gt hzl)).trans hT
    have new : ObjOk X.prog X.w (upd H s.heap.objs.size (.tup [x, y])) h'' s.heap.objs.size (.tup [x, y]) := ⟨by show 2 ≤ sizeLine; decide, [u, u2], .cons ru (.cons ru2 .nil), ⟨_, hT2, rfl, _, rfl⟩⟩
    have I1 : Inv X pins σ (upd H s.heap.objs.size (.tup [x, y])) { s with heap := h'' } :=
      I.turnedNew (t' := s.toks) (ch := [z, TI, TO, i1, i2]) (fun c o hb q => (sb.2 c (fun q' => hb (by simp [q']))).trans (hk c o (fun q' => hb (by simp [q'])) (fun q' => hb (by simp [q'])) (fun q' => hb (by simp [q'])) (fun q' => hb (by simp [q'])) q)) hf (Nat.le_refl _) new
    refine ⟨.ref s.heap.objs.size, _, I1, rfl, ⟨_, x, y, rfl, I.hok.fresh (Nat.le_refl _), rfl, fun l hl => by rw [hl.inj I hqx]; exact hx, fun l hl => by rw [hl.inj I hqy]; exact hy⟩, ⟨z'', ?_, ⟨u, u2, ?_⟩, ?_, ?_⟩, fun c hcm => ?_⟩
    · exact (sb.2 _ D.TIz).trans (hk _ _ D.TIz D.TITO D.TIi1 D.TIi2 hTI)
    · exact (sb.2 _ D.TOz).trans TO'
    · exact h1'.at fun o q => (sb.2 _ D.i1z).trans q
    · exact h2'.at fun o q => (sb.2 _ D.i2z).trans q
    · have hlt : c < s.heap.objs.size := by
        have e' : c = z ∨ c = TI ∨ c = TO ∨ c = i1 ∨ c = i2 := by simpa using hcm
        rcases e' with q | q | q | q | q
        · rw [q]; exact hzl
        · rw [q]; exact Heap.lt_size hTI
        · rw [q]; exact Heap.lt_size hTO
        · rw [q]; obtain ⟨_, e1, _⟩ := h1.ob; exact Heap.lt_size e1
        · rw [q]; obtain ⟨_, e2, _⟩ := h2.ob; exact Heap.lt_size e2
      rw [upd_ne (Nat.ne_of_lt hlt)]
      exact (hf c hcm).1
  done := by
    intro X hP hw hK hc i pins s σ H E I hf st hg
    subst hP hw hK
    obtain ⟨hz, hTI, ⟨x0, y0, hTO⟩, h1, h2⟩ := st
    obtain ⟨xs, ys, hqx, hqy, hend⟩ := hg
    obtain ⟨its, rv, p⟩ := hqx.get I
    obtain ⟨its2, rv2, p2⟩ := hqy.get I
    have l1 := rv.length
    have l2 := rv2.length
    have he : its.toArray[i]? = none ∨ its2.toArray[i]? = none := by
      rcases hend with q | q
      · exact .inl (by simp; omega)
      · exact .inr (by simp; omega)
    exact pyNextK_end (I.ok.hd hc) D hz hTI hTO h1 h2 p p2 he fun h' hk => ⟨rfl, I.turnedL (t' := s.toks) (ch := [z, TI, TO, i1, i2]) (fun c o hb q =>
      hk c o (fun q' => hb (by simp [q'])) (fun q' => hb (by simp [q'])) (fun q' => hb (by simp [q'])) (fun q' => hb (by simp [q'])) q) hf⟩
  self := fun A i s Q E st h => wpAny_pyIter_zip st.1 h
theorem walks_zipK {K : PySem.W.Frag} {H1 : Hp} {b1 b2 : Bool} {a b : Addr} {xs ys : List V} (hx : SqB b1 K H1 a xs) (hy : SqB b2 K H1 b ys) (hl : xs.length = ys.length) :
    Walks (ItzK b1 b2 K a b) H1 xs.length (fun i x H2 => ∃ T y z, x = .ref T ∧ H2 T = some (.tup [y, z]) ∧ xs[i]? = some y ∧ ys[i]? = some z) where
  go := fun i H' s h => ⟨xs, ys, xs[i], ys[i]'(by omega), hx.same s, hy.same s, List.getElem?_eq_getElem h, List.getElem?_eq_getElem (by omega)⟩
  stop := fun H' s => ⟨xs, ys, hx.same s, hy.same s, .inl (Nat.le_refl _)⟩
  yld := fun i x H' H2 s h y => by
    obtain ⟨T, x, y, rfl, hT, rfl, e1, e2⟩ := y
    exact ⟨same_new hT, T, x, y, rfl, upd_same, e1 xs (hx.same s), e2 ys (hy.same s)⟩
/-- zip of two sequences of one length -/
def iZipS (K : PySem.W.Frag) (ta : TA) : TI := fun σ H R => ta σ H fun vs H1 => ∃ a b xs ys, vs = [.ref a, .ref b] ∧ SqS K H1 a xs ∧ SqS K H1 b ys ∧ xs.length = ys.length ∧
  ∀ J, (∀ H0, H0 a = H1 a → H0 b = H1 b → Walks J H0 xs.length (fun i x H2 => ∃ T y z, x = .ref T ∧ H2 T = some (.tup [y, z]) ∧ xs[i]? = some y ∧ ys[i]? = some z)) → R J H1
theorem pi_zipS {X : Cx} {e e2 : Expr} {ta : TA} {p pos tpos : Pos} {elts : List Expr} {kk : Nat} (hg : Gl X "zip") (hm : X.mg "zip" = none) (ha : PA X [e, e2] ta)
    (hs : starEach [e, e2] X.env = (false, eval e X.env) :: starEach [e2] X.env := by rfl) (hpl : (backTo pos (starEach [e2] X.env)).any (·.1) = false := by rfl) :
    PI X (.Tuple elts kk tpos) (.Call (.Name "zip" p) [e, e2] [] pos) (iZipS X.K ta) := by
  refine ⟨fun pins s σ H R I h => ?_⟩
  refine Call_ (ld_blt I hg hm PyProof.Rows.boot_zip (PyProof.Rows.callWith_type1 (thn (ha.run pos pins s σ H _ I h) fun us s1 ⟨vs, H1, I1, r1, q1⟩ => ?_) hs hpl))
  obtain ⟨a, b, xs, ys, ex, hqx, hqy, hll, q⟩ := q1
  subst ex
  cases r1 with
  | cons r rr =>
    cases rr with
    | cons r' rr =>
      cases rr
      cases r
      cases r'
      obtain ⟨b1, hqx⟩ := SqB.of hqx
      obtain ⟨b2, hqy⟩ := SqB.of hqy
      obtain ⟨its, rv, p1⟩ := hqx.get I1
      obtain ⟨its2, rv2, p2⟩ := hqy.get I1
      refine call_zipK p1 p2 fun h' hz hTI hTO h1 h2 hsz hk => wpAny_pyIter_zip hz ?_
      have I2 : Inv X pins σ H1 { s1 with heap := h' } := I1.kept (t' := s1.toks) hk
      refine ⟨s1.heap.objs.size + 4, [s1.heap.objs.size + 4, s1.heap.objs.size + 2, s1.heap.objs.size + 3, s1.heap.objs.size, s1.heap.objs.size + 1], _, _, H1, rfl, I2, turn_zipK (PySem.W.ktu_apart s1.heap.objs.size a b p1.lt p2.lt), ⟨hz, hTI, ⟨_, _, hTO⟩, h1, h2⟩, fun c hcm => ?_, q _ fun H0 e1 e2 => walks_zipK (hqx.at e1) (hqy.at e2) hll⟩
      have e' : c = s1.heap.objs.size + 4 ∨ c = s1.heap.objs.size + 2 ∨ c = s1.heap.objs.size + 3 ∨ c = s1.heap.objs.size ∨ c = s1.heap.objs.size + 1 := by simpa using hcm
      have hle : s1.heap.objs.size ≤ c := by
        rcases e' with z | z | z | z | z
        · rw [z]; exact Nat.le_add_right _ _
        · rw [z]; exact Nat.le_add_right _ _
        · rw [z]; exact Nat.le_add_right _ _
        · rw [z]; exact Nat.le_refl _
        · rw [z]; exact Nat.le_add_right _ _
      exact I1.fpOk hle (I1.hok.fresh hle)
end OG


set_option Elab.async false
set_option linter.all false
set_option maxRecDepth 100000
set_option maxHeartbeats 4000000
namespace KP
open PySem PySem.Spec PyProof.Rows L2 ClX OG
def top (i : Nat) : Stmt := PySem.Challenge.pw_otherdiagonal_k00_plans_made_and_compare.main.body.getD i (.Pass ⟨0, 0, 0, 0⟩)
abbrev s_BadValue_init : Stmt := inClass (top 2) 0
abbrev N_BadValue_init : List Str := ["self", "part"]
theorem sc_BadValue_init : FnScope ["self", "part"] ["self", "part"] (defScope s_BadValue_init) := ⟨rfl, rfl, rfl, by decide +kernel, rfl, by decide +kernel, by decide +kernel⟩
abbrev s_BadPlan_init : Stmt := inClass (top 4) 0
abbrev N_BadPlan_init : List Str := ["self", "reason", "place"]
theorem sc_BadPlan_init : FnScope ["self", "reason", "place"] ["self", "reason", "place"] (defScope s_BadPlan_init) := ⟨rfl, rfl, rfl, by decide +kernel, rfl, by decide +kernel, by decide +kernel⟩
abbrev s_need_row : Stmt := top 12
abbrev N_need_row : List Str := ["part", "value", "one"]
theorem sc_need_row : FnScope ["part", "value", "one"] ["part", "value"] (defScope s_need_row) := ⟨rfl, rfl, rfl, by decide +kernel, rfl, by decide +kernel, by decide +kernel⟩
abbrev s_next_in : Stmt := top 16
abbrev N_next_in : List Str := ["place"]
theorem sc_next_in : FnScope ["place"] ["place"] (defScope s_next_in) := ⟨rfl, rfl, rfl, by decide +kernel, rfl, by decide +kernel, by decide +kernel⟩
abbrev s_prev_in : Stmt := top 17
abbrev N_prev_in : List Str := ["place"]
theorem sc_prev_in : FnScope ["place"] ["place"] (defScope s_prev_in) := ⟨rfl, rfl, rfl, by decide +kernel, rfl, by decide +kernel, by decide +kernel⟩
abbrev s_Plan_init : Stmt := inClass (top 18) 1
abbrev N_Plan_init : List Str := ["self", "mates", "bent", "orders"]
theorem sc_Plan_init : FnScope ["self", "mates", "bent", "orders"] ["self", "mates", "bent", "orders"] (defScope s_Plan_init) := ⟨rfl, rfl, rfl, by decide +kernel, rfl, by decide +kernel, by decide +kernel⟩
abbrev s_Plan_of : Stmt := inClass (top 18) 2
abbrev N_Plan_of : List Str := ["cls", "parts"]
theorem sc_Plan_of : FnScope ["cls", "parts"] ["cls", "parts"] (defScope s_Plan_of) := ⟨rfl, rfl, rfl, by decide +kernel, rfl, by decide +kernel, by decide +kernel⟩
abbrev s_Plan_is_mirror : Stmt := inClass (top 18) 3
abbrev N_Plan_is_mirror : List Str := ["self", "place"]
theorem sc_Plan_is_mirror : FnScope ["self", "place"] ["self", "place"] (defScope s_Plan_is_mirror) := ⟨rfl, rfl, rfl, by decide +kernel, rfl, by decide +kernel, by decide +kernel⟩
abbrev s_Plan_is_border : Stmt := inClass (top 18) 4
abbrev N_Plan_is_border : List Str := ["self", "place"]
theorem sc_Plan_is_border : FnScope ["self", "place"] ["self", "place"] (defScope s_Plan_is_border) := ⟨rfl, rfl, rfl, by decide +kernel, rfl, by decide +kernel, by decide +kernel⟩
abbrev s_Plan_across : Stmt := inClass (top 18) 5
abbrev N_Plan_across : List Str := ["self", "corner", "found", "mate", "side"]
theorem sc_Plan_across : FnScope ["self", "corner", "found", "mate", "side"] ["self", "corner"] (defScope s_Plan_across) := ⟨rfl, rfl, rfl, by decide +kernel, rfl, by decide +kernel, by decide +kernel⟩
abbrev s_Plan_len : Stmt := inClass (top 18) 6
abbrev N_Plan_len : List Str := ["self"]
theorem sc_Plan_len : FnScope ["self"] ["self"] (defScope s_Plan_len) := ⟨rfl, rfl, rfl, by decide +kernel, rfl, by decide +kernel, by decide +kernel⟩
abbrev s_Plan_eq : Stmt := inClass (top 18) 7
abbrev N_Plan_eq : List Str := ["self", "other"]
theorem sc_Plan_eq : FnScope ["self", "other"] ["self", "other"] (defScope s_Plan_eq) := ⟨rfl, rfl, rfl, by decide +kernel, rfl, by decide +kernel, by decide +kernel⟩
abbrev s_need_size : Stmt := top 19
abbrev N_need_size : List Str := ["plan", "size", "reason", "row"]
theorem sc_need_size : FnScope ["plan", "size", "reason", "row"] ["plan"] (defScope s_need_size) := ⟨rfl, rfl, rfl, by decide +kernel, rfl, by decide +kernel, by decide +kernel⟩
abbrev s_need_mates : Stmt := top 20
abbrev N_need_mates : List Str := ["plan", "mates", "bent", "place", "mate"]
theorem sc_need_mates : FnScope ["plan", "mates", "bent", "place", "mate"] ["plan"] (defScope s_need_mates) := ⟨rfl, rfl, rfl, by decide +kernel, rfl, by decide +kernel, by decide +kernel⟩
abbrev s_need_orders : Stmt := top 21
abbrev N_need_orders : List Str := ["plan", "corner", "order", "other"]
theorem sc_need_orders : FnScope ["plan", "corner", "order", "other"] ["plan"] (defScope s_need_orders) := ⟨rfl, rfl, rfl, by decide +kernel, rfl, by decide +kernel, by decide +kernel⟩
abbrev s_need_whole : Stmt := top 22
abbrev N_need_whole : List Str := ["plan", "known", "line", "triangle", "side", "other", "lost"]
theorem sc_need_whole : FnScope ["plan", "known", "line", "triangle", "side", "other", "lost"] ["plan"] (defScope s_need_whole) := ⟨rfl, rfl, rfl, by decide +kernel, rfl, by decide +kernel, by decide +kernel⟩

/-! ### where the defs stand -/
structure Ad where
  f_BadValue_init : Addr
  d_BadValue_init : FuncData
  f_BadPlan_init : Addr
  d_BadPlan_init : FuncData
  f_need_row : Addr
  d_need_row : FuncData
  f_next_in : Addr
  d_next_in : FuncData
  f_prev_in : Addr
  d_prev_in : FuncData
  f_Plan_init : Addr
  d_Plan_init : FuncData
  f_Plan_of : Addr
  d_Plan_of : FuncData
  f_Plan_is_mirror : Addr
  d_Plan_is_mirror : FuncData
  f_Plan_is_border : Addr
  d_Plan_is_border : FuncData
  f_Plan_across : Addr
  d_Plan_across : FuncData
  f_Plan_len : Addr
  d_Plan_len : FuncData
  f_Plan_eq : Addr
  d_Plan_eq : FuncData
  f_need_size : Addr
  d_need_size : FuncData
  f_need_mates : Addr
  d_need_mates : FuncData
  f_need_orders : Addr
  d_need_orders : FuncData
  f_need_whole : Addr
  d_need_whole : FuncData
  f_law_pen : Addr
  d_law_pen : FuncData
  f_law_draw : Addr
  d_law_draw : FuncData
  f_law_pick : Addr
  d_law_pick : FuncData
  f_law_joined : Addr
  d_law_joined : FuncData
  f_law_glued : Addr
  d_law_glued : FuncData
  f_law_next : Addr
  d_law_next : FuncData
  f_law_lots : Addr
  d_law_lots : FuncData
  f_law_marked : Addr
  d_law_marked : FuncData
  f_law_drawn : Addr
  d_law_drawn : FuncData
  f_law_heard : Addr
  d_law_heard : FuncData
  f_law_made_right : Addr
  d_law_made_right : FuncData
  f_law : Addr
  d_law : FuncData
  c_PlanError : Addr
  c_BadValue : Addr
  c_BadNumber : Addr
  c_BadPlan : Addr
  c_BadPaper : Addr
  c_BadText : Addr
  c_BadCommand : Addr
  c_Misfit : Addr
  c_NoTurn : Addr
  c_Nothing : Addr
  c_TooMany : Addr
  c_Plan : Addr
  cd_law : Addr
  tb_law : Addr
  m_PE : Value
  m_Plan : Value
  p_of : Addr
  tk_MT : Tok
  tk_MO : Tok

structure Txt (K : PySem.W.Frag) (mg : Str → Option Value) (A : Ad) : Prop where
  F_BadValue_init : Fun K "__init__" "BadValue.__init__" s_BadValue_init A.f_BadValue_init A.d_BadValue_init
  F_BadPlan_init : Fun K "__init__" "BadPlan.__init__" s_BadPlan_init A.f_BadPlan_init A.d_BadPlan_init
  F_need_row : Fun K "need_row" "need_row" s_need_row A.f_need_row A.d_need_row
  F_next_in : Fun K "next_in" "next_in" s_next_in A.f_next_in A.d_next_in
  F_prev_in : Fun K "prev_in" "prev_in" s_prev_in A.f_prev_in A.d_prev_in
  F_Plan_init : Fun K "__init__" "Plan.__init__" s_Plan_init A.f_Plan_init A.d_Plan_init
  F_Plan_of : Fun K "of" "Plan.of" s_Plan_of A.f_Plan_of A.d_Plan_of
  F_Plan_is_mirror : Fun K "is_mirror" "Plan.is_mirror" s_Plan_is_mirror A.f_Plan_is_mirror A.d_Plan_is_mirror
  F_Plan_is_border : Fun K "is_border" "Plan.is_border" s_Plan_is_border A.f_Plan_is_border A.d_Plan_is_border
  F_Plan_across : Fun K "across" "Plan.across" s_Plan_across A.f_Plan_across A.d_Plan_across
  F_Plan_len : Fun K "__len__" "Plan.__len__" s_Plan_len A.f_Plan_len A.d_Plan_len
  F_Plan_eq : Fun K "__eq__" "Plan.__eq__" s_Plan_eq A.f_Plan_eq A.d_Plan_eq
  F_need_size : Fun K "need_size" "need_size" s_need_size A.f_need_size A.d_need_size
  F_need_mates : Fun K "need_mates" "need_mates" s_need_mates A.f_need_mates A.d_need_mates
  F_need_orders : Fun K "need_orders" "need_orders" s_need_orders A.f_need_orders A.d_need_orders
  F_need_whole : Fun K "need_whole" "need_whole" s_need_whole A.f_need_whole A.d_need_whole
  g_need_row : mg "need_row" = some (.ref A.f_need_row)
  g_next_in : mg "next_in" = some (.ref A.f_next_in)
  g_prev_in : mg "prev_in" = some (.ref A.f_prev_in)
  g_need_size : mg "need_size" = some (.ref A.f_need_size)
  g_need_mates : mg "need_mates" = some (.ref A.f_need_mates)
  g_need_orders : mg "need_orders" = some (.ref A.f_need_orders)
  g_need_whole : mg "need_whole" = some (.ref A.f_need_whole)
  n_isinstance : mg "isinstance" = none
  n_int : mg "int" = none
  n_bool : mg "bool" = none
  n_list : mg "list" = none
  n_tuple : mg "tuple" = none
  n_len : mg "len" = none
  n_all : mg "all" = none
  n_range : mg "range" = none
  n_enumerate : mg "enumerate" = none
  m_is_mirror : Meth K A.c_Plan "is_mirror" A.f_Plan_is_mirror
  m_is_border : Meth K A.c_Plan "is_border" A.f_Plan_is_border
  m_across : Meth K A.c_Plan "across" A.f_Plan_across
  g_MOST_TRIANGLES : mg "MOST_TRIANGLES" = some (.int 60 A.tk_MT)
  g_MOST_ORDER : mg "MOST_ORDER" = some (.int 120 A.tk_MO)
  g_Plan : mg "Plan" = some (.ref A.c_Plan)
  i_Plan : InsC K A.c_Plan
  mk_Plan : Mk K A.c_Plan A.f_Plan_init
  cr_Plan : CRead K A.c_Plan A.m_Plan
  cm_of : CMet K A.c_Plan A.m_Plan "of" A.p_of A.f_Plan_of
  na_mates : NoAttr K A.c_Plan "mates"
  na_bent : NoAttr K A.c_Plan "bent"
  na_orders : NoAttr K A.c_Plan "orders"
  na_parts : NoAttr K A.c_Plan "parts"
  l_Plan : PySem.W.findIn K (.ref A.c_Plan) "__len__" = some (some (.ref A.f_Plan_len))
  fn_Plan_len : PySem.W.isFn K (.ref A.f_Plan_len) = true
  e_Plan : PySem.W.findIn K (.ref A.c_Plan) "__eq__" = some (some (.ref A.f_Plan_eq))
  fn_Plan_eq : PySem.W.isFn K (.ref A.f_Plan_eq) = true
  ne_Plan : NeC K A.c_Plan A.f_Plan_eq
  g_PlanError : mg "PlanError" = some (.ref A.c_PlanError)
  base : BaseC K A.c_PlanError A.m_PE
  g_BadValue : mg "BadValue" = some (.ref A.c_BadValue)
  o_BadValue : OexC K A.c_BadValue
  i_BadValue : PySem.W.findIn K (.ref A.c_BadValue) "__init__" = some (some (.ref A.f_BadValue_init))
  t_BadValue : PySem.W.typeIn K (.ref A.f_BadValue_init) = some (.type "function")
  n_BadValue_part : PySem.W.findIn K (.ref A.c_BadValue) "part" = some none
  g_BadPlan : mg "BadPlan" = some (.ref A.c_BadPlan)
  o_BadPlan : OexC K A.c_BadPlan
  i_BadPlan : PySem.W.findIn K (.ref A.c_BadPlan) "__init__" = some (some (.ref A.f_BadPlan_init))
  t_BadPlan : PySem.W.typeIn K (.ref A.f_BadPlan_init) = some (.type "function")
  n_BadPlan_reason : PySem.W.findIn K (.ref A.c_BadPlan) "reason" = some none
  n_BadPlan_place : PySem.W.findIn K (.ref A.c_BadPlan) "place" = some none

section
variable {P : Program} {w : World} {K : PySem.W.Frag} {mg : Str → Option Value} {base : Heap} {A : Ad}
theorem b_BadValue_init {f : Addr} {fd : FuncData} (F : Fun K "__init__" "BadValue.__init__" s_BadValue_init f fd) : L2.Binds K fd ["self", "part"] [] := F.binds (ps := ["self", "part"]) fun _ _ _ _ _ _ us hl => match us, hl with | [_, _], _ => rfl
theorem b_BadPlan_init {f : Addr} {fd : FuncData} (F : Fun K "__init__" "BadPlan.__init__" s_BadPlan_init f fd) : L2.Binds K fd ["self", "reason", "place"] [] := F.binds (ps := ["self", "reason", "place"]) fun _ _ _ _ _ _ us hl => match us, hl with | [_, _, _], _ => rfl
theorem b_need_row {f : Addr} {fd : FuncData} (F : Fun K "need_row" "need_row" s_need_row f fd) : L2.Binds K fd ["part", "value"] [] := F.binds (ps := ["part", "value"]) fun _ _ _ _ _ _ us hl => match us, hl with | [_, _], _ => rfl
theorem b_next_in {f : Addr} {fd : FuncData} (F : Fun K "next_in" "next_in" s_next_in f fd) : L2.Binds K fd ["place"] [] := F.binds (ps := ["place"]) fun _ _ _ _ _ _ us hl => match us, hl with | [_], _ => rfl
theorem b_prev_in {f : Addr} {fd : FuncData} (F : Fun K "prev_in" "prev_in" s_prev_in f fd) : L2.Binds K fd ["place"] [] := F.binds (ps := ["place"]) fun _ _ _ _ _ _ us hl => match us, hl with | [_], _ => rfl
theorem b_Plan_init {f : Addr} {fd : FuncData} (F : Fun K "__init__" "Plan.__init__" s_Plan_init f fd) : L2.Binds K fd ["self", "mates", "bent", "orders"] [] := F.binds (ps := ["self", "mates", "bent", "orders"]) fun _ _ _ _ _ _ us hl => match us, hl with | [_, _, _, _], _ => rfl
theorem b_Plan_of {f : Addr} {fd : FuncData} (F : Fun K "of" "Plan.of" s_Plan_of f fd) : L2.Binds K fd ["cls", "parts"] [] := F.binds (ps := ["cls", "parts"]) fun _ _ _ _ _ _ us hl => match us, hl with | [_, _], _ => rfl
theorem b_Plan_is_mirror {f : Addr} {fd : FuncData} (F : Fun K "is_mirror" "Plan.is_mirror" s_Plan_is_mirror f fd) : L2.Binds K fd ["self", "place"] [] := F.binds (ps := ["self", "place"]) fun _ _ _ _ _ _ us hl => match us, hl with | [_, _], _ => rfl
theorem b_Plan_is_border {f : Addr} {fd : FuncData} (F : Fun K "is_border" "Plan.is_border" s_Plan_is_border f fd) : L2.Binds K fd ["self", "place"] [] := F.binds (ps := ["self", "place"]) fun _ _ _ _ _ _ us hl => match us, hl with | [_, _], _ => rfl
theorem b_Plan_across {f : Addr} {fd : FuncData} (F : Fun K "across" "Plan.across" s_Plan_across f fd) : L2.Binds K fd ["self", "corner"] [] := F.binds (ps := ["self", "corner"]) fun _ _ _ _ _ _ us hl => match us, hl with | [_, _], _ => rfl
theorem b_Plan_len {f : Addr} {fd : FuncData} (F : Fun K "__len__" "Plan.__len__" s_Plan_len f fd) : L2.Binds K fd ["self"] [] := F.binds (ps := ["self"]) fun _ _ _ _ _ _ us hl => match us, hl with | [_], _ => rfl
theorem b_Plan_eq {f : Addr} {fd : FuncData} (F : Fun K "__eq__" "Plan.__eq__" s_Plan_eq f fd) : L2.Binds K fd ["self", "other"] [] := F.binds (ps := ["self", "other"]) fun _ _ _ _ _ _ us hl => match us, hl with | [_, _], _ => rfl
theorem b_need_size {f : Addr} {fd : FuncData} (F : Fun K "need_size" "need_size" s_need_size f fd) : L2.Binds K fd ["plan"] [] := F.binds (ps := ["plan"]) fun _ _ _ _ _ _ us hl => match us, hl with | [_], _ => rfl
theorem b_need_mates {f : Addr} {fd : FuncData} (F : Fun K "need_mates" "need_mates" s_need_mates f fd) : L2.Binds K fd ["plan"] [] := F.binds (ps := ["plan"]) fun _ _ _ _ _ _ us hl => match us, hl with | [_], _ => rfl
theorem b_need_orders {f : Addr} {fd : FuncData} (F : Fun K "need_orders" "need_orders" s_need_orders f fd) : L2.Binds K fd ["plan"] [] := F.binds (ps := ["plan"]) fun _ _ _ _ _ _ us hl => match us, hl with | [_], _ => rfl
theorem b_need_whole {f : Addr} {fd : FuncData} (F : Fun K "need_whole" "need_whole" s_need_whole f fd) : L2.Binds K fd ["plan"] [] := F.binds (ps := ["plan"]) fun _ _ _ _ _ _ us hl => match us, hl with | [_], _ => rfl
theorem un64 {k : Nat} {A : Around} (r : Room k A) : A.units + 64 < cLine := by have := r.un; omega
theorem two_line : (2 : Nat) ≤ sizeLine := by decide
theorem three_line : (3 : Nat) ≤ sizeLine := by decide
/-! ### the errors' __init__ -/
theorem ok_BadValue_init (T : Txt K mg A) : FnOk P w K mg base CX0 1 A.f_BadValue_init A.d_BadValue_init ["self", "part"] (spInit A.c_BadValue) := by
  refine T.F_BadValue_init.ok sc_BadValue_init (fun vs H Q E h => ?_) (fun cdv Ar outer s H vs Q E hr h => ?_)
  · obtain ⟨a, v, rfl, _⟩ := h
    rfl
  · obtain ⟨a, v, rfl, ha, k⟩ := h
    refine ⟨_, (pss_cons (ps_expr (pe_binit T.base rfl T.g_PlanError (pa_cons (pv 0) (pa_cons (pv 1) pa_nil))))
      (pss_one (ps_ost (pv 0) (pv 1)))), ?_⟩
    exact ⟨_, rfl, _, rfl, a, A.c_BadValue, [v], rfl, by show 1 ≤ 1000; decide, T.o_BadValue, ha, _, rfl, _, rfl, a, A.c_BadValue, rfl, T.o_BadValue, T.n_BadValue_part, .inl ⟨ha, k⟩⟩
/-- the __init__ of an error with a reason and a place -/
def spInit2 (C : Addr) : Sp := fun vs H Q _ => ∃ (a : Addr) (v u : V), vs = [.ref a, v, u] ∧ H a = some (exo a C none) ∧ ∀ dx, H dx = none → dx ≠ a → Q .non (upd (upd (upd H dx (exd dx [("reason", v)])) a (exo a C (some dx))) dx (exd dx [("place", u), ("reason", v)]))
theorem ok_BadPlan_init (T : Txt K mg A) : FnOk P w K mg base CX0 1 A.f_BadPlan_init A.d_BadPlan_init ["self", "reason", "place"] (spInit2 A.c_BadPlan) := by
  refine T.F_BadPlan_init.ok sc_BadPlan_init (fun vs H Q E h => ?_) (fun cdv Ar outer s H vs Q E hr h => ?_)
  · obtain ⟨a, v, u, rfl, _⟩ := h
    rfl
  · obtain ⟨a, v, u, rfl, ha, k⟩ := h
    refine ⟨_, (pss_cons (ps_expr (pe_binit T.base rfl T.g_PlanError (pa_cons (pv 0) (pa_cons (pv 1) pa_nil))))
      (pss_cons (ps_ost (pv 0) (pv 1))
      (pss_one (ps_ost (pv 0) (pv 2))))), ?_⟩
    refine ⟨_, rfl, _, rfl, a, A.c_BadPlan, [v], rfl, by show 1 ≤ 1000; decide, T.o_BadPlan, ha, _, rfl, _, rfl, a, A.c_BadPlan, rfl, T.o_BadPlan, T.n_BadPlan_reason, .inl ⟨ha, fun dx hd hn => ?_⟩⟩
    exact ⟨_, rfl, _, rfl, a, A.c_BadPlan, rfl, T.o_BadPlan, T.n_BadPlan_place, .inr ⟨dx, _, upd_same, by rw [upd_ne hn]; exact upd_same, by show 1 ≤ 900; decide, k dx hd hn⟩⟩
/-- an exception that tells a reason and a place -/
def BadP (C : Addr) (r : Str) (p : Int) (H : Hp) (E : XK) : Prop := ∀ d H', Same H H' → H' d = some (.xd [("place", .int p), ("reason", .str r)]) → E (.ref C) (some d) H'
theorem BadP.mono {C : Addr} {r : Str} {p : Int} {H H' : Hp} {E : XK} (e : Same H H') (h : BadP C r p H E) : BadP C r p H' E := fun d H2 s h2 => h d H2 (e.trans s) h2
/-- the reading of raise C(reason, place) -/
theorem raise_go2 {C : Addr} {v u : V} {H : Hp} {Q : XK} (h : ∀ d H', Same H H' → H' d = some (.xd [("place", u), ("reason", v)]) → Q (.ref C) (some d) H') :
    [v, u].length ≤ 1000 ∧ ∀ a, H a = none → spInit2 C (.ref a :: ([v, u] ++ [])) (upd H a (exo a C none))
      (fun x H2 => x = .non ∧ ∃ (d : Addr) (fs : List (Str × V)), H2 a = some (exo a C (some d)) ∧ H2 d = some (exd d fs) ∧ H d = none ∧ Q (.ref C) (some d) (upd (del H2 a) d (.xd fs))) (fun _ _ _ => False) := by
  refine ⟨by show 2 ≤ 1000; decide, fun a ha => ⟨a, v, u, rfl, upd_same, fun dx hdx nda => ?_⟩⟩
  have hd0 : H dx = none := by
    rw [upd_ne nda] at hdx
    exact hdx
  refine ⟨rfl, dx, _, by rw [upd_ne nda.symm]; exact upd_same, upd_same, hd0, h dx _ (fun b o e => ?_) upd_same⟩
  have n1 := ne_of_none e ha
  have n2 := ne_of_none e hd0
  rw [upd_ne n2, del_ne n1, upd_ne n2, upd_ne n1, upd_ne n2, upd_ne n1]
  exact e
end
end KP


set_option Elab.async false
set_option linter.all false
set_option maxRecDepth 100000
set_option maxHeartbeats 4000000
namespace KP
open PySem PySem.Spec PyProof.Rows L2 ClX OG
/-! ### rows of ints -/
/-- neither a list nor a tuple -/
def Oth (K : PySem.W.Frag) (H : Hp) (x : V) : Prop := ∀ H', Same H H' → ∃ t, TyX K H' x t ∧ PySem.W.kitAny K t [.type "list", .type "tuple"] = some false
def toI : V → Int
  | .int i => i
  | _ => 0
def intsOf (xs : List V) : Option (List Int) := if (xs.map isI).all id = true then some (xs.map toI) else none
theorem ints_back {xs : List V} (h : (xs.map isI).all id = true) : (xs.map toI).map V.int = xs := by
  induction xs with
  | nil => rfl
  | cons x xs ih =>
    rw [List.map_cons, List.all_cons, Bool.and_eq_true] at h
    cases x with
    | int i => rw [List.map_cons, List.map_cons, ih h.2]; rfl
    | _ => cases h.1
theorem intsOf_ints (ns : List Int) : intsOf (ns.map V.int) = some ns := by
  have e : ((ns.map V.int).map isI).all id = true := by
    rw [List.map_map, List.all_map]
    exact List.all_eq_true.mpr fun _ _ => rfl
  unfold intsOf
  rw [if_pos e, List.map_map]
  congr 1
  conv => rhs; rw [← List.map_id ns]
  rfl
/-- v told as a row of ints -/
inductive RowV (K : PySem.W.Frag) (H : Hp) : V → Option (List Int) → Prop
  | oth {x : V} (h : Oth K H x) : RowV K H x none
  | seq {a : Addr} {xs : List V} (h : SqS K H a xs) (hk : ∀ x ∈ xs, Knd K H x) (hl : xs.length ≤ 1000) : RowV K H (.ref a) (intsOf xs)
section
variable {P : Program} {w : World} {K : PySem.W.Frag} {mg : Str → Option Value} {base : Heap} {A : Ad} {H H' : Hp} {x : V} {r : Option (List Int)}
theorem Oth.mono (e : Same H H') (h : Oth K H x) : Oth K H' x := fun H2 s => h H2 (e.trans s)
theorem RowV.mono (e : Same H H') (h : RowV K H x r) : RowV K H' x r := by
  cases h with
  | oth h => exact .oth (h.mono e)
  | seq h hk hl => exact .seq (same_s e h) (fun y hy => (hk y hy).mono e) hl
theorem RowV.ints {a : Addr} {ns : List Int} (h : SqS K H a (ns.map V.int)) (hl : ns.length ≤ 1000) : RowV K H (.ref a) (some ns) := by
  rw [← intsOf_ints]
  exact .seq h (fun x hx => by
    obtain ⟨n, _, rfl⟩ := List.mem_map.mp hx
    exact .int n) (by rw [List.length_map]; exact hl)
theorem pcl2 : Paired ClsV [.ty "list", .ty "tuple"] [.type "list", .type "tuple"] := .cons (.ty _) (.cons (.ty _) .nil)
def spRow (K : PySem.W.Frag) (A : Ad) : Sp := fun vs H Q E => ∃ (part : Str) (x : V) (r : Option (List Int)), vs = [.str part, x] ∧ RowV K H x r ∧ (r = none → BadE A.c_BadValue part H E) ∧
  ∀ ns, r = some ns → ns.length ≤ 1000 → ∀ t H', Same H H' → SqT K H' t (ns.map V.int) → Q (.ref t) H'
theorem ok_need_row (T : Txt K mg A) : FnOk P w K mg base (L2.CX P w) 3 A.f_need_row A.d_need_row ["part", "value"] (spRow K A) := by
  refine T.F_need_row.okX sc_need_row (fun vs H Q E h => ?_) (fun cdv Ar outer s H vs Q E hr h => ?_)
  · obtain ⟨_, _, _, rfl, _⟩ := h
    rfl
  · obtain ⟨part, x, r, rfl, hx, qb, qg⟩ := h
    refine ⟨_, (pss_cons (ps_if (pt_not (pt_val (pe_callB (id := "isinstance") (r := rIsiT K) call_isiT (by rfl) T.n_isinstance (by decide +kernel) (pa_cons (pv 1) (pa_cons (pe_tup (pa_cons (pe_bltn (v := .ty "list") (by rfl) T.n_list (by decide +kernel) rfl) (pa_cons (pe_bltn (v := .ty "tuple") (by rfl) T.n_tuple (by decide +kernel) rfl) pa_nil))) pa_nil))))) (pss_one (ps_raise rfl (takes_of rfl rfl rfl rfl) (pmk_oex T.o_BadValue T.i_BadValue T.t_BadValue (ok_BadValue_init T) (hr.mono (by decide)) (b_BadValue_init T.F_BadValue_init) .nil pass0 rfl T.g_BadValue (pa_cons (pv 0) pa_nil)))) pss_nil)
      (pss_cons (ps_if (pt_not (pt_val (pe_callB (cr_all rfl) (by rfl) T.n_all (by decide +kernel) (pa_cons (pe_lc (own := [("one", 2)]) (g := gName 2) (by rfl) sc_need_row.nd (pi_seqW (pv 1)) (blkOk_by (own := [("one", 2)]) (N := N_need_row) (sc := defScope s_need_row) (by decide +kernel)) (fun _ _ _ _ _ => pg_name (i := 2) sc_need_row.nd rfl (Or.inl rfl)) (fun _ _ _ _ _ => pts_nil) (fun _ _ _ _ _ => (pe_and (pe_callB (id := "isinstance") (r := rIsi K) call_isi (by rfl) T.n_isinstance (by decide +kernel) (pa_cons (pv 2) (pa_cons (pe_bltn (v := .ty "int") (by rfl) T.n_int (by decide +kernel) rfl) pa_nil))) (pe_one (pe_not (pe_callB (id := "isinstance") (r := rIsi K) call_isi (by rfl) T.n_isinstance (by decide +kernel) (pa_cons (pv 2) (pa_cons (pe_bltn (v := .ty "bool") (by rfl) T.n_bool (by decide +kernel) rfl) pa_nil)))))))) pa_nil)))) (pss_one (ps_raise rfl (takes_of rfl rfl rfl rfl) (pmk_oex T.o_BadValue T.i_BadValue T.t_BadValue (ok_BadValue_init T) (hr.mono (by decide)) (b_BadValue_init T.F_BadValue_init) .nil pass0 rfl T.g_BadValue (pa_cons (pv 0) pa_nil)))) pss_nil)
      (pss_one (ps_ret (pe_callTy call_tuple_of (by rfl) T.n_tuple (by decide +kernel) (pa_cons (pv 1) pa_nil)))))), ?_⟩
    refine ⟨_, rfl, two_line, fun tp htp => ?_⟩
    have s1 : Same H (upd H tp (.tup [.ty "list", .ty "tuple"])) := same_new htp
    generalize hH1 : upd H tp (.tup [.ty "list", .ty "tuple"]) = H1 at s1
    have htp1 : H1 tp = some (.tup [.ty "list", .ty "tuple"]) := by rw [← hH1]; exact upd_same
    have bad : ∀ H', Same H H' → r = none → [V.str part].length ≤ 1000 ∧ ∀ a, H' a = none → spInit A.c_BadValue (.ref a :: ([.str part] ++ [])) (upd H' a (exo a A.c_BadValue none))
        (fun u H2 => u = .non ∧ ∃ (d : Addr) (fs : List (Str × V)), H2 a = some (exo a A.c_BadValue (some d)) ∧ H2 d = some (exd d fs) ∧ H' d = none ∧ E (.ref A.c_BadValue) (some d) (upd (del H2 a) d (.xd fs))) (fun _ _ _ => False) := fun H' sH hn => raise_go ((qb hn).mono sH)
    cases hx with
    | oth h =>
      obtain ⟨t, ty, ka⟩ := h H1 s1
      exact ⟨_, tp, _, t, _, _, rfl, htp1, pcl2, ty, ka, _, rfl, iteT ⟨_, rfl, bad _ s1 rfl⟩⟩
    | @seq a xs hq hk hl =>
      have hq1 := same_s s1 hq
      obtain ⟨t, ty, ka⟩ := seq_kit hq1
      refine ⟨_, tp, _, t, _, _, rfl, htp1, pcl2, ty, ka, _, rfl, iteF ?_⟩
      refine ⟨_, rfl, a, xs, rfl, hq1, fun J w => comp_val (w H1 rfl) (fun i => .bl (isI (xs.getD i .non))) (Nat.lt_of_le_of_lt hl (by decide)) (fun i x H2 N hi s2 hx k => ?_) (fun D H2 _ s2 hD => ?_)⟩
      · obtain ⟨t, ht, h1, h2⟩ := ((hk x (List.mem_of_getElem? hx)).mono (s1.trans s2)).isint
        have ex : xs.getD i .non = x := by rw [List.getD_eq_getElem?_getD, hx]; rfl
        rw [ex] at k
        refine ⟨_, rfl, x, .ty "int", t, .type "int", _, rfl, .ty _, ht, h1, _, rfl, ?_⟩
        cases x with
        | int i => exact iteT ⟨_, rfl, _, .ty "bool", t, .type "bool", _, rfl, .ty _, ht, h2, _, rfl, k _ (Same.refl _)⟩
        | bl b => exact iteT ⟨_, rfl, _, .ty "bool", t, .type "bool", _, rfl, .ty _, ht, h2, _, rfl, k _ (Same.refl _)⟩
        | _ => exact iteF (k _ (Same.refl _))
      · rw [map_range xs (fun x => V.bl (isI x)) .non] at hD
        have s3 := s1.trans s2
        refine ⟨D, xs.map isI, rfl, SqL.of (by rw [List.map_map]; exact hD), _, rfl, ?_⟩
        by_cases hb : (xs.map isI).all id = true
        · rw [hb]
          refine iteF ?_
          have hn : intsOf xs = some (xs.map toI) := if_pos hb
          have eb := ints_back hb
          have hz := qg _ hn (by rw [List.length_map]; exact hl)
          rw [eb] at hz
          refine ⟨_, rfl, a, xs, rfl, ?_⟩
          rcases same_s s3 hq with h | h
          · exact .inl ⟨h, fun l hl2 => hz l _ (s3.trans (same_new hl2)) (SqT.of upd_same)⟩
          · exact .inr ⟨h, hz a _ s3 h⟩
        · rw [Bool.eq_false_iff.mpr hb]
          exact iteT ⟨_, rfl, bad _ s3 (if_neg hb)⟩
/-! ### places -/
def nx (p : Int) : Int := if p % 3 = 2 then p - 2 else p + 1
def pv3 (p : Int) : Int := if p % 3 = 0 then p + 2 else p - 1
def spI1 (f : Int → Int) : Sp := fun vs H Q _ => ∃ p : Int, vs = [.int p] ∧ Q (.int (f p)) H
theorem ok_next_in (T : Txt K mg A) : FnOk P w K mg base CX0 1 A.f_next_in A.d_next_in ["place"] (spI1 nx) := by
  refine T.F_next_in.ok sc_next_in (fun vs H Q E h => ?_) (fun cdv Ar outer s H vs Q E hr h => ?_)
  · obtain ⟨_, rfl, _⟩ := h
    rfl
  · obtain ⟨p, rfl, q⟩ := h
    refine ⟨_, (pss_one (ps_ret (pe_ifExp (pt_cmpR op_eq (pe_op op_mod (pv 0) pe_int) pe_int (nomark _)) (pe_op op_sub (pv 0) pe_int) (pe_op op_add (pv 0) pe_int)))), ?_⟩
    refine ⟨_, rfl, _, _, rfl, rfl, (by show (0 : Int) < 3; decide), rfl, _, rfl, ?_⟩
    unfold nx at q
    by_cases c : p % 3 = 2
    · rw [if_pos c] at q
      rw [show decide (V.int (p % 3) = V.int 2) = true from decide_eq_true (by rw [c])]
      exact iteT ⟨_, rfl, _, _, rfl, rfl, q⟩
    · rw [if_neg c] at q
      rw [show decide (V.int (p % 3) = V.int 2) = false from decide_eq_false fun z => c (by injection z)]
      exact iteF ⟨_, rfl, _, _, rfl, rfl, q⟩
theorem ok_prev_in (T : Txt K mg A) : FnOk P w K mg base CX0 1 A.f_prev_in A.d_prev_in ["place"] (spI1 pv3) := by
  refine T.F_prev_in.ok sc_prev_in (fun vs H Q E h => ?_) (fun cdv Ar outer s H vs Q E hr h => ?_)
  · obtain ⟨_, rfl, _⟩ := h
    rfl
  · obtain ⟨p, rfl, q⟩ := h
    refine ⟨_, (pss_one (ps_ret (pe_ifExp (pt_cmpR op_eq (pe_op op_mod (pv 0) pe_int) pe_int (nomark _)) (pe_op op_add (pv 0) pe_int) (pe_op op_sub (pv 0) pe_int)))), ?_⟩
    refine ⟨_, rfl, _, _, rfl, rfl, (by show (0 : Int) < 3; decide), rfl, _, rfl, ?_⟩
    unfold pv3 at q
    by_cases c : p % 3 = 0
    · rw [if_pos c] at q
      rw [show decide (V.int (p % 3) = V.int 0) = true from decide_eq_true (by rw [c])]
      exact iteT ⟨_, rfl, _, _, rfl, rfl, q⟩
    · rw [if_neg c] at q
      rw [show decide (V.int (p % 3) = V.int 0) = false from decide_eq_false fun z => c (by injection z)]
      exact iteF ⟨_, rfl, _, _, rfl, rfl, q⟩
end
end KP


set_option Elab.async false
set_option linter.all false
set_option maxRecDepth 100000
set_option maxHeartbeats 4000000
namespace KP
open PySem PySem.Spec PyProof.Rows L2 ClX OG
/-! ### a plan's rows; its small methods -/
def flds (t1 t2 t3 t4 : Addr) : List (Str × V) := [("mates", .ref t1), ("bent", .ref t2), ("orders", .ref t3), ("parts", .ref t4)]
/-- a filled plan: its rows, be they right or not -/
def PlanR (K : PySem.W.Frag) (C : Addr) (H : Hp) (a : Addr) (ms bs os : List Int) : Prop := ∃ dx t1 t2 t3 t4, H a = some (.ins C dx (flds t1 t2 t3 t4)) ∧ SqT K H t1 (ms.map V.int) ∧ SqT K H t2 (bs.map V.int) ∧ SqT K H t3 (os.map V.int) ∧ H t4 = some (.tup [.ref t1, .ref t2, .ref t3]) ∧
  ms.length ≤ 1000 ∧ bs.length ≤ 1000 ∧ os.length ≤ 1000
def atM (ms : List Int) (p : Int) : Int := ms.getD p.toNat 0
theorem atM_at {ms : List Int} {p : Int} (h0 : 0 ≤ p) (h1 : p < (ms.length : Int)) : atI (ms.map V.int) p = some (.int (atM ms p)) := by
  obtain ⟨n, rfl⟩ : ∃ n : Nat, p = (n : Int) := ⟨p.toNat, by omega⟩
  refine atI_nat ?_
  unfold atM
  rw [Int.toNat_natCast, List.getElem?_map, List.getD_eq_getElem?_getD, List.getElem?_eq_getElem (show n < ms.length by omega)]
  rfl
/-- the corners that meet a corner across its sides -/
def acr (ms bs : List Int) (c : Int) : List Int :=
  (if atM ms c = c then [] else [if atM bs c = 1 then atM ms c else nx (atM ms c)]) ++
    (if atM ms (pv3 c) = pv3 c then [] else [if atM bs (pv3 c) = 1 then nx (atM ms (pv3 c)) else atM ms (pv3 c)])
section
variable {P : Program} {w : World} {K : PySem.W.Frag} {mg : Str → Option Value} {base : Heap} {A : Ad} {H H' : Hp} {x : V} {a : Addr} {ms bs os : List Int}
theorem PlanR.mono {C : Addr} (e : Same H H') (h : PlanR K C H a ms bs os) : PlanR K C H' a ms bs os := by
  obtain ⟨dx, t1, t2, t3, t4, h1, h2, h3, h4, h5, h6⟩ := h
  exact ⟨dx, t1, t2, t3, t4, e _ _ h1, same_t e h2, same_t e h3, same_t e h4, e _ _ h5, h6⟩
def spIs (K : PySem.W.Frag) (A : Ad) (f : List Int → Int → Bool) : Sp := fun vs H Q _ => ∃ (a : Addr) (ms bs os : List Int) (p : Int), vs = [.ref a, .int p] ∧ PlanR K A.c_Plan H a ms bs os ∧ 0 ≤ p ∧ p < (ms.length : Int) ∧ Q (.bl (f ms p)) H
theorem ok_Plan_is_mirror (T : Txt K mg A) : FnOk P w K mg base CX0 1 A.f_Plan_is_mirror A.d_Plan_is_mirror ["self", "place"] (spIs K A fun ms p => decide (atM ms p = p)) := by
  refine T.F_Plan_is_mirror.ok sc_Plan_is_mirror (fun vs H Q E h => ?_) (fun cdv Ar outer s H vs Q E hr h => ?_)
  · obtain ⟨_, _, _, _, _, rfl, _⟩ := h
    rfl
  · obtain ⟨a, ms, bs, os, p, rfl, ⟨dx, t1, t2, t3, t4, h1, h2, h3, h4, h5, h6⟩, p0, p1, q⟩ := h
    refine ⟨_, (pss_one (ps_ret (pe_cmpR op_eq (pe_ix ix_tup (pe_fld (pv 0) rfl) (pv 1) (fun _ _ => rfl)) (pv 1) (nomark _)))), ?_⟩
    refine ⟨_, rfl, a, A.c_Plan, dx, _, _, rfl, h1, T.i_Plan.cl, T.na_mates, rfl, _, rfl, _, _, _, _, rfl, rfl, h2, atM_at p0 p1, _, rfl, rfl, ?_⟩
    have e : decide (V.int (atM ms p) = V.int p) = decide (atM ms p = p) := by
      rw [Bool.eq_iff_iff, decide_eq_true_iff, decide_eq_true_iff]
      exact ⟨fun h => by injection h, fun h => by rw [h]⟩
    rw [e]
    exact q
theorem ok_Plan_is_border (T : Txt K mg A) : FnOk P w K mg base CX0 1 A.f_Plan_is_border A.d_Plan_is_border ["self", "place"] (spIs K A fun ms p => decide (atM ms p / 3 ≠ p / 3)) := by
  refine T.F_Plan_is_border.ok sc_Plan_is_border (fun vs H Q E h => ?_) (fun cdv Ar outer s H vs Q E hr h => ?_)
  · obtain ⟨_, _, _, _, _, rfl, _⟩ := h
    rfl
  · obtain ⟨a, ms, bs, os, p, rfl, ⟨dx, t1, t2, t3, t4, h1, h2, h3, h4, h5, h6⟩, p0, p1, q⟩ := h
    refine ⟨_, (pss_one (ps_ret (pe_cmpR op_ne (pe_op op_fdiv (pe_ix ix_tup (pe_fld (pv 0) rfl) (pv 1) (fun _ _ => rfl)) pe_int) (pe_op op_fdiv (pv 1) pe_int) (nomark _)))), ?_⟩
    refine ⟨_, rfl, a, A.c_Plan, dx, _, _, rfl, h1, T.i_Plan.cl, T.na_mates, rfl, _, rfl, _, _, _, _, rfl, rfl, h2, atM_at p0 p1, _, _, rfl, rfl, ⟨by decide, by decide⟩, _, rfl, _, _, rfl, rfl, ⟨by decide, by decide⟩, rfl, ?_⟩
    have e : (!decide (V.int (atM ms p / 3) = V.int (p / 3))) = decide (atM ms p / 3 ≠ p / 3) := by
      by_cases c : atM ms p / 3 = p / 3 <;> simp [c]
    rw [e]
    exact q
def spAcross (K : PySem.W.Frag) (A : Ad) : Sp := fun vs H Q _ => ∃ (a : Addr) (ms bs os : List Int) (c : Int), vs = [.ref a, .int c] ∧ PlanR K A.c_Plan H a ms bs os ∧ 0 ≤ c ∧ c < (ms.length : Int) ∧ ms.length % 3 = 0 ∧ bs.length = ms.length ∧
  ∀ l H', Same H H' → H l = none → H' l = some (.lst ((acr ms bs c).map V.int)) → Q (.ref l) H'
theorem ok_Plan_across (T : Txt K mg A) : FnOk P w K mg base CX0 2 A.f_Plan_across A.d_Plan_across ["self", "corner"] (spAcross K A) := by
  refine T.F_Plan_across.ok sc_Plan_across (fun vs H Q E h => ?_) (fun cdv Ar outer s H vs Q E hr h => ?_)
  · obtain ⟨_, _, _, _, _, rfl, _⟩ := h
    rfl
  · obtain ⟨a, ms, bs, os, c, rfl, ⟨dx, t1, t2, t3, t4, h1, h2, h3, h4, h5, h6⟩, p0, p1, l3, lb, q⟩ := h
    refine ⟨_, (pss_cons (ps_set (i := 2) sc_Plan_across.nd rfl (Or.inl rfl) (pe_lst pa_nil))
      (pss_cons (ps_par (i := 3) (j := 4) (by rfl) sc_Plan_across.nd rfl rfl (by decide) rfl rfl (pa_cons (pe_ix ix_tup (pe_fld (pv 0) rfl) (pv 1) (fun _ _ => rfl)) (pa_cons (pe_call (ok_prev_in T) (hr.mono (by decide)) rfl T.g_prev_in T.F_prev_in.kp (b_prev_in T.F_prev_in) .nil pass0 (pa_cons (pv 1) pa_nil)) pa_nil)) (by rfl))
      (pss_cons (ps_if (pt_cmpR op_ne (pv 3) (pv 1) (nomark _)) (pss_one (ps_expr (pe_bm PySem.F.plainAttrs_list PySem.F.slot_list_append PySem.F.type_list_append mt_append (pv 2) (pa_cons (pe_ifExp (pt_cmpR op_eq (pe_ix ix_tup (pe_fld (pv 0) rfl) (pv 1) (fun _ _ => rfl)) pe_int (nomark _)) (pv 3) (pe_call (ok_next_in T) (hr.mono (by decide)) rfl T.g_next_in T.F_next_in.kp (b_next_in T.F_next_in) .nil pass0 (pa_cons (pv 3) pa_nil))) pa_nil)))) pss_nil)
      (pss_cons (ps_set (i := 3) sc_Plan_across.nd rfl (Or.inl rfl) (pe_ix ix_tup (pe_fld (pv 0) rfl) (pv 4) (fun _ _ => rfl)))
      (pss_cons (ps_if (pt_cmpR op_ne (pv 3) (pv 4) (nomark _)) (pss_one (ps_expr (pe_bm PySem.F.plainAttrs_list PySem.F.slot_list_append PySem.F.type_list_append mt_append (pv 2) (pa_cons (pe_ifExp (pt_cmpR op_eq (pe_ix ix_tup (pe_fld (pv 0) rfl) (pv 4) (fun _ _ => rfl)) pe_int (nomark _)) (pe_call (ok_next_in T) (hr.mono (by decide)) rfl T.g_next_in T.F_next_in.kp (b_next_in T.F_next_in) .nil pass0 (pa_cons (pv 3) pa_nil)) (pv 3)) pa_nil)))) pss_nil)
      (pss_one (ps_ret (pv 2)))))))), ?_⟩
    have hs0 : 0 ≤ pv3 c := by unfold pv3; split <;> omega
    have hs1 : pv3 c < (ms.length : Int) := by unfold pv3; split <;> omega
    refine ⟨by show 0 ≤ sizeLine; decide, fun F hF => ?_⟩
    have sF := same_new (o := .lst []) hF
    have hF1 : upd H F (.lst []) F = some (.lst []) := upd_same
    generalize upd H F (.lst []) = H1 at sF hF1
    refine ⟨_, rfl, a, A.c_Plan, dx, _, _, rfl, sF _ _ h1, T.i_Plan.cl, T.na_mates, rfl, _, rfl, _, _, _, _, rfl, rfl, same_t sF h2, atM_at p0 p1, _, rfl, c, rfl, _, _, rfl, ?_⟩
    refine ⟨_, rfl, _, rfl, rfl, _, rfl, ?_⟩
    unfold acr at q
    generalize hL1 : (if atM ms c = c then [] else [if atM bs c = 1 then atM ms c else nx (atM ms c)]) = L1 at q
    have next : ∀ z : Int, L1 = [z] → Same H (upd H1 F (.lst ([] ++ [.int z]))) ∧ upd H1 F (.lst ([] ++ [.int z])) F = some (.lst (L1.map V.int)) := fun z e => by
      refine ⟨fun b u h => ?_, by rw [upd_same, e]; rfl⟩
      rw [upd_ne (ne_of_none h hF)]
      exact sF _ _ h
    by_cases c1 : atM ms c = c
    rw [show decide (V.int (atM ms c) = V.int c) = true from decide_eq_true (by rw [c1])]
    refine iteF ?_
    rw [if_pos c1] at hL1
    have s2 := sF
    have hF2 : H1 F = some (.lst (L1.map V.int)) := by rw [← hL1]; exact hF1
    generalize H1 = H2 at s2 hF2 ⊢
    rotate_left
    rw [show decide (V.int (atM ms c) = V.int c) = false from decide_eq_false fun z => c1 (by injection z)]
    refine iteT ?_
    rw [if_neg c1] at hL1
    refine ⟨_, rfl, .inl ⟨rfl, _, SqL.of hF1⟩, _, rfl, a, A.c_Plan, dx, _, _, rfl, sF _ _ h1, T.i_Plan.cl, T.na_bent, rfl, _, rfl, _, _, _, _, rfl, rfl, same_t sF h3, atM_at p0 (by omega), rfl, _, rfl, ?_⟩
    by_cases c2 : atM bs c = 1
    rw [show decide (V.int (atM bs c) = V.int 1) = true from decide_eq_true (by rw [c2])]
    rw [if_pos c2] at hL1
    refine iteT ⟨_, rfl, F, [], _, rfl, rfl, hF1, by show 0 < sizeLine; decide, ?_⟩
    obtain ⟨s2, hF2⟩ := next _ hL1.symm
    generalize upd H1 F (.lst ([] ++ [.int (atM ms c)])) = H2 at s2 hF2 ⊢
    rotate_left
    rw [show decide (V.int (atM bs c) = V.int 1) = false from decide_eq_false fun z => c2 (by injection z)]
    rw [if_neg c2] at hL1
    refine iteF ⟨_, rfl, _, rfl, F, [], _, rfl, rfl, hF1, by show 0 < sizeLine; decide, ?_⟩
    obtain ⟨s2, hF2⟩ := next _ hL1.symm
    generalize upd H1 F (.lst ([] ++ [.int (nx (atM ms c))])) = H2 at s2 hF2 ⊢
    all_goals
      have hl1 : L1.length ≤ 1 := by
        rw [← hL1]
        first | exact Nat.zero_le _ | exact Nat.le_refl _
      clear hL1 next
      refine ⟨_, rfl, a, A.c_Plan, dx, _, _, rfl, s2 _ _ h1, T.i_Plan.cl, T.na_mates, rfl, _, rfl, _, _, _, _, rfl, rfl, same_t s2 h2, atM_at hs0 hs1, ?_⟩
      refine ⟨_, rfl, _, rfl, rfl, _, rfl, ?_⟩
      have next : ∀ z : Int, Same H (upd H2 F (.lst (L1.map V.int ++ [.int z]))) ∧ upd H2 F (.lst (L1.map V.int ++ [.int z])) F = some (.lst ((L1 ++ [z]).map V.int)) := fun z => by
        refine ⟨fun b u h => ?_, by rw [upd_same, List.map_append]; rfl⟩
        rw [upd_ne (ne_of_none h hF)]
        exact s2 _ _ h
      have hlen : (L1.map V.int).length < sizeLine := by rw [List.length_map]; exact Nat.lt_of_le_of_lt hl1 (by decide)
      by_cases c3 : atM ms (pv3 c) = pv3 c
      · rw [show decide (V.int (atM ms (pv3 c)) = V.int (pv3 c)) = true from decide_eq_true (by rw [c3])]
        rw [if_pos c3, List.append_nil] at q
        exact iteF ⟨_, rfl, q F H2 s2 hF hF2⟩
      · rw [show decide (V.int (atM ms (pv3 c)) = V.int (pv3 c)) = false from decide_eq_false fun z => c3 (by injection z)]
        rw [if_neg c3] at q
        refine iteT ?_
        refine ⟨_, rfl, .inl ⟨rfl, _, SqL.of hF2⟩, _, rfl, a, A.c_Plan, dx, _, _, rfl, s2 _ _ h1, T.i_Plan.cl, T.na_bent, rfl, _, rfl, _, _, _, _, rfl, rfl, same_t s2 h3, atM_at hs0 (by omega), rfl, _, rfl, ?_⟩
        by_cases c4 : atM bs (pv3 c) = 1
        · rw [show decide (V.int (atM bs (pv3 c)) = V.int 1) = true from decide_eq_true (by rw [c4])]
          rw [if_pos c4] at q
          exact iteT ⟨_, rfl, _, rfl, F, _, _, rfl, rfl, hF2, hlen, _, rfl, q F _ (next _).1 hF (next _).2⟩
        · rw [show decide (V.int (atM bs (pv3 c)) = V.int 1) = false from decide_eq_false fun z => c4 (by injection z)]
          rw [if_neg c4] at q
          exact iteF ⟨_, rfl, F, _, _, rfl, rfl, hF2, hlen, _, rfl, q F _ (next _).1 hF (next _).2⟩
def spLen (K : PySem.W.Frag) (A : Ad) : Sp := fun vs H Q _ => ∃ (a : Addr) (ms bs os : List Int), vs = [.ref a] ∧ PlanR K A.c_Plan H a ms bs os ∧ ∀ H', Same H H' → Q (.int (((ms.length + 2) / 3 : Nat))) H'
theorem ok_Plan_len (T : Txt K mg A) : FnOk P w K mg base CX0 1 A.f_Plan_len A.d_Plan_len ["self"] (spLen K A) := by
  refine T.F_Plan_len.ok sc_Plan_len (fun vs H Q E h => ?_) (fun cdv Ar outer s H vs Q E hr h => ?_)
  · obtain ⟨_, _, _, _, rfl, _⟩ := h
    rfl
  · obtain ⟨a, ms, bs, os, rfl, ⟨dx, t1, t2, t3, t4, h1, h2, h3, h4, h5, h6⟩, q⟩ := h
    refine ⟨_, (pss_one (ps_ret (pe_callB call_len (by rfl) T.n_len (by decide +kernel) (pa_cons (pe_thirds (pe_fld (pv 0) rfl)) pa_nil)))), ?_⟩
    refine ⟨_, rfl, a, A.c_Plan, dx, _, _, rfl, h1, T.i_Plan.cl, T.na_mates, rfl, t1, _, rfl, h2, fun t ht => ⟨_, (thirds (ms.map V.int)).length, rfl, len_s (.inr (SqT.of upd_same)), ?_⟩⟩
    rw [thirds_length, List.length_map]
    exact q _ (same_new ht)
end
end KP


set_option Elab.async false
set_option linter.all false
set_option maxRecDepth 100000
set_option maxHeartbeats 4000000
namespace KP
open PySem PySem.Spec PyProof.Rows L2 ClX OG
/-! ### what is wrong with rows: the first place -/
def firstBad (f : Nat → Bool) (n : Nat) : Option Nat := (List.range n).find? fun i => !f i
theorem firstBad_none {f : Nat → Bool} {n : Nat} (h : ∀ i < n, f i = true) : firstBad f n = none := by
  unfold firstBad
  rw [List.find?_eq_none]
  intro i hi
  rw [h i (List.mem_range.mp hi)]
  decide
theorem firstBad_some {f : Nat → Bool} {n i : Nat} (h : ∀ k < i, f k = true) (hi : i < n) (hb : f i = false) : firstBad f n = some i := by
  unfold firstBad
  rw [List.find?_eq_some_iff_append]
  refine ⟨by rw [hb]; rfl, List.range i, (List.range' (i + 1) (n - i - 1)), ?_, fun k hk => by rw [h k (List.mem_range.mp hk)]; rfl⟩
  rw [List.range_eq_range', List.range_eq_range']
  have e1 : n = i + (1 + (n - i - 1)) := by omega
  conv => lhs; rw [e1]
  rw [← List.range'_append_1, ← List.range'_append_1]
  simp
theorem firstBad_all {f : Nat → Bool} {n : Nat} (h : firstBad f n = none) : ∀ i < n, f i = true := by
  intro i hi
  unfold firstBad at h
  rw [List.find?_eq_none] at h
  have := h i (List.mem_range.mpr hi)
  simpa using this
def sizeErr (ms bs os : List Int) : Option (Str × Int) :=
  if ms.length % 3 = 0 ∧ 1 ≤ ms.length / 3 ∧ ms.length / 3 ≤ 60 then
    if bs.length = ms.length then if os.length = ms.length then none else some ("orders", (os.length : Nat)) else some ("bent", (bs.length : Nat))
  else some ("mates", (ms.length : Nat))
def ok1 (ms : List Int) (i : Nat) : Bool := decide (0 ≤ atM ms i ∧ atM ms i < (ms.length : Int) ∧ atM ms (atM ms i) = (i : Int))
def ok2 (ms bs : List Int) (i : Nat) : Bool := decide ((atM bs i = 0 ∨ atM bs i = 1) ∧ atM bs (atM ms i) = atM bs i ∧ ¬ (atM ms i = (i : Int) ∧ atM bs i = 1))
def matesErr (ms bs : List Int) : Option (Str × Int) := match firstBad (ok1 ms) ms.length with
  | some i => some ("mates", (i : Nat))
  | none => match firstBad (ok2 ms bs) ms.length with
    | some i => some ("bent", (i : Nat))
    | none => none
def ok3 (os : List Int) (i : Nat) : Bool := decide (1 ≤ atM os i ∧ atM os i ≤ 120)
def ok4 (ms bs os : List Int) (i : Nat) : Bool := (acr ms bs i).all fun o => decide (atM os o = atM os i)
def ordersErr (ms bs os : List Int) : Option (Str × Int) := match firstBad (ok3 os) os.length with
  | some i => some ("orders", (i : Nat))
  | none => match firstBad (ok4 ms bs os) os.length with
    | some i => some ("orders", (i : Nat))
    | none => none
/-- a need: what it tells -/
def spNeed (K : PySem.W.Frag) (A : Ad) (pre : List Int → List Int → List Int → Prop) (err : List Int → List Int → List Int → Option (Str × Int)) : Sp := fun vs H Q E => ∃ (a : Addr) (ms bs os : List Int), vs = [.ref a] ∧ PlanR K A.c_Plan H a ms bs os ∧ pre ms bs os ∧
  (∀ r p, err ms bs os = some (r, p) → BadP A.c_BadPlan r p H E) ∧ (err ms bs os = none → ∀ H', Same H H' → Q .non H')
section
variable {P : Program} {w : World} {K : PySem.W.Frag} {mg : Str → Option Value} {base : Heap} {A : Ad} {H H' : Hp} {x : V} {a : Addr} {ms bs os : List Int}
theorem sizeErr_none (h : sizeErr ms bs os = none) : ms.length % 3 = 0 ∧ 1 ≤ ms.length / 3 ∧ ms.length / 3 ≤ 60 ∧ bs.length = ms.length ∧ os.length = ms.length := by
  unfold sizeErr at h
  split at h
  · rename_i c
    split at h
    · rename_i c2
      split at h
      · rename_i c3
        exact ⟨c.1, c.2.1, c.2.2, c2, c3⟩
      · cases h
    · cases h
  · cases h
theorem ok_need_size (T : Txt K mg A) : FnOk P w K mg base (L2.CX P w) 3 A.f_need_size A.d_need_size ["plan"] (spNeed K A (fun _ _ _ => True) sizeErr) := by
  refine T.F_need_size.okX sc_need_size (fun vs H Q E h => ?_) (fun cdv Ar outer s H vs Q E hr h => ?_)
  · obtain ⟨_, _, _, _, rfl, _⟩ := h
    rfl
  · obtain ⟨a, ms, bs, os, rfl, hp, _, qb, qg⟩ := h
    refine ⟨_, (pss_cons (ps_set (i := 1) sc_need_size.nd rfl (Or.inl rfl) (pe_callB call_len (by rfl) T.n_len (by decide +kernel) (pa_cons (pe_fld (pv 0) rfl) pa_nil)))
      (pss_cons (ps_if (PW.pt (pw_or (pt_cmpR op_ne (pe_op op_mod (pv 1) pe_int) pe_int (nomark _)) (pw_or1 (pt_not (pt_chain op_le op_le pe_int (pe_op op_fdiv (pv 1) pe_int) (pe_glob (v := .int 60) rfl T.g_MOST_TRIANGLES ⟨_, rfl⟩)))))) (pss_one (ps_raise rfl (takes_of rfl rfl rfl rfl) (pmk_oex T.o_BadPlan T.i_BadPlan T.t_BadPlan (ok_BadPlan_init T) (hr.mono (by decide)) (b_BadPlan_init T.F_BadPlan_init) .nil pass0 rfl T.g_BadPlan (pa_cons pe_str (pa_cons (pv 1) pa_nil))))) pss_nil)
      (pss_one (ps_for (passes_of rfl) rfl (pi_seqW (pe_tup (pa_cons (pe_tup (pa_cons pe_str (pa_cons (pe_fld (pv 0) rfl) pa_nil))) (pa_cons (pe_tup (pa_cons pe_str (pa_cons (pe_fld (pv 0) rfl) pa_nil))) pa_nil)))) (pg_tup rfl (pgs_cons (pg_name (i := 2) sc_need_size.nd rfl (Or.inl rfl)) (pgs_cons (pg_name (i := 3) sc_need_size.nd rfl (Or.inl rfl)) pgs_nil))) (pss_one (ps_if (pt_cmpR op_ne (pe_callB call_len (by rfl) T.n_len (by decide +kernel) (pa_cons (pv 3) pa_nil)) (pv 1) (nomark _)) (pss_one (ps_raise rfl (takes_of rfl rfl rfl rfl) (pmk_oex T.o_BadPlan T.i_BadPlan T.t_BadPlan (ok_BadPlan_init T) (hr.mono (by decide)) (b_BadPlan_init T.F_BadPlan_init) .nil pass0 rfl T.g_BadPlan (pa_cons (pv 2) (pa_cons (pe_callB call_len (by rfl) T.n_len (by decide +kernel) (pa_cons (pv 3) pa_nil)) pa_nil))))) pss_nil)))))), ?_⟩
    obtain ⟨dx, t1, t2, t3, t4, h1, h2, h3, h4, h5, h6⟩ := hp
    have bad : ∀ r p H', Same H H' → sizeErr ms bs os = some (r, p) → [V.str r, V.int p].length ≤ 1000 ∧ ∀ a, H' a = none → spInit2 A.c_BadPlan (.ref a :: ([V.str r, V.int p] ++ [])) (upd H' a (exo a A.c_BadPlan none))
        (fun x H2 => x = .non ∧ ∃ (d : Addr) (fs : List (Str × V)), H2 a = some (exo a A.c_BadPlan (some d)) ∧ H2 d = some (exd d fs) ∧ H' d = none ∧ E (.ref A.c_BadPlan) (some d) (upd (del H2 a) d (.xd fs))) (fun _ _ _ => False) := fun r p H' sH e => raise_go2 ((qb r p e).mono sH)
    have len1 : ∀ {H' : Hp} {t : Addr} {ns : List Int}, SqT K H' t (ns.map V.int) → LenV K (.ref t) H' ns.length := fun {H' t ns} h => by
      have := len_s (K := K) (.inr h)
      rwa [List.length_map] at this
    refine ⟨_, rfl, a, A.c_Plan, dx, _, _, rfl, h1, T.i_Plan.cl, T.na_mates, rfl, _, ms.length, rfl, len1 h2, ?_⟩
    refine ⟨_, rfl, _, _, rfl, rfl, (by show (0 : Int) < 3; decide), rfl, _, rfl, ?_⟩
    unfold sizeErr at qg bad
    by_cases c1 : ms.length % 3 = 0
    · rw [show decide (V.int (((ms.length : Nat) : Int) % 3) = V.int 0) = true from decide_eq_true (by rw [show ((ms.length : Nat) : Int) % 3 = 0 by omega])]
      refine iteF ⟨_, rfl, _, _, rfl, rfl, ⟨by decide, by decide⟩, _, _, rfl, rfl, _, rfl, ?_⟩
      by_cases c2 : 1 ≤ ms.length / 3
      · rw [decide_eq_true (show (1 : Int) ≤ ((ms.length : Nat) : Int) / 3 by omega)]
        refine iteT ⟨_, _, rfl, rfl, _, rfl, ?_⟩
        by_cases c3 : ms.length / 3 ≤ 60
        · rw [decide_eq_true (show ((ms.length : Nat) : Int) / 3 ≤ 60 by omega)]
          refine iteF ?_
          rw [if_pos ⟨c1, c2, c3⟩] at qg bad
          refine ⟨_, rfl, a, A.c_Plan, dx, _, _, rfl, h1, T.i_Plan.cl, T.na_bent, rfl, two_line, fun t5 q5 => ⟨_, rfl, a, A.c_Plan, dx, _, _, rfl, same_new q5 _ _ h1, T.i_Plan.cl, T.na_orders, rfl, two_line, fun t6 q6 => ⟨two_line, fun t7 q7 => ⟨t7, _, rfl, .inr (SqT.of upd_same), fun J wk => ?_⟩⟩⟩⟩
          have s5 := same_new (o := .tup [.str "bent", .ref t2]) q5
          have s6 := same_new (o := .tup [.str "orders", .ref t3]) q6
          have s7 := same_new (o := .tup [.ref t5, .ref t6]) q7
          have g5 := s7 _ _ (s6 _ _ (upd_same (H := H) (a := t5) (o := .tup [.str "bent", .ref t2])))
          have g6 := s7 _ _ (upd_same (H := upd H t5 (.tup [.str "bent", .ref t2])) (a := t6) (o := .tup [.str "orders", .ref t3]))
          have s0 := s5.trans (s6.trans s7)
          have wk := wk _ rfl
          generalize upd (upd (upd H t5 (.tup [.str "bent", .ref t2])) t6 (.tup [.str "orders", .ref t3])) t7 (.tup [.ref t5, .ref t6]) = H1 at *
          refine for_core wk (fun i σ H2 => Same H1 H2 ∧ (1 ≤ i → bs.length = ms.length) ∧ (2 ≤ i → os.length = ms.length) ∧ ∃ w2 w3, σ = [some (.ref a), some (.int (ms.length : Nat)), w2, w3]) ⟨Same.refl _, fun h => by omega, fun h => by omega, _, _, rfl⟩ (fun _ _ _ h => h.1) ?_ ?_
          · rintro i x σ H2 H3 hi ⟨s2, b1, b2, w2, w3, rfl⟩ s3 hx
            have s23 := s2.trans s3
            match i, hi, hx with
            | 0, _, hx =>
              cases hx
              refine ⟨t5, _, rfl, SqT.of (s23 _ _ g5), rfl, _, _, rfl, _, _, rfl, rfl, ?_⟩
              refine ⟨_, rfl, _, bs.length, rfl, len1 (same_t (s0.trans s23) h3), _, rfl, rfl, _, rfl, ?_⟩
              by_cases c4 : bs.length = ms.length
              · rw [show decide (V.int ((bs.length : Nat) : Int) = V.int ((ms.length : Nat) : Int)) = true from decide_eq_true (by rw [c4])]
                exact iteF ⟨s23, fun _ => c4, fun h => by omega, _, _, rfl⟩
              · rw [show decide (V.int ((bs.length : Nat) : Int) = V.int ((ms.length : Nat) : Int)) = false from decide_eq_false fun z => c4 (by injection z with z; omega)]
                rw [if_neg c4] at bad
                exact iteT ⟨_, rfl, _, rfl, _, bs.length, rfl, len1 (same_t (s0.trans s23) h3), bad _ _ _ (s0.trans s23) rfl⟩
            | 1, _, hx =>
              cases hx
              have c4 := b1 (Nat.le_refl _)
              rw [if_pos c4] at bad
              refine ⟨t6, _, rfl, SqT.of (s23 _ _ g6), rfl, _, _, rfl, _, _, rfl, rfl, ?_⟩
              refine ⟨_, rfl, _, os.length, rfl, len1 (same_t (s0.trans s23) h4), _, rfl, rfl, _, rfl, ?_⟩
              by_cases c5 : os.length = ms.length
              · rw [show decide (V.int ((os.length : Nat) : Int) = V.int ((ms.length : Nat) : Int)) = true from decide_eq_true (by rw [c5])]
                exact iteF ⟨s23, fun _ => c4, fun _ => c5, _, _, rfl⟩
              · rw [show decide (V.int ((os.length : Nat) : Int) = V.int ((ms.length : Nat) : Int)) = false from decide_eq_false fun z => c5 (by injection z with z; omega)]
                rw [if_neg c5] at bad
                exact iteT ⟨_, rfl, _, rfl, _, os.length, rfl, len1 (same_t (s0.trans s23) h4), bad _ _ _ (s0.trans s23) rfl⟩
          · rintro σ H2 ⟨s2, b1, b2, w2, w3, rfl⟩
            rw [if_pos (b1 (show 1 ≤ 2 by decide)), if_pos (b2 (show 2 ≤ 2 by decide))] at qg
            exact qg rfl _ (s0.trans s2)
        · rw [decide_eq_false (show ¬ ((ms.length : Nat) : Int) / 3 ≤ 60 by omega)]
          rw [if_neg (fun z => c3 z.2.2)] at bad
          exact iteT ⟨_, rfl, bad _ _ _ (Same.refl _) rfl⟩
      · rw [decide_eq_false (show ¬ (1 : Int) ≤ ((ms.length : Nat) : Int) / 3 by omega)]
        rw [if_neg (fun z => c2 z.2.1)] at bad
        exact iteF ⟨_, rfl, iteT ⟨_, rfl, bad _ _ _ (Same.refl _) rfl⟩⟩
    · rw [show decide (V.int (((ms.length : Nat) : Int) % 3) = V.int 0) = false from decide_eq_false fun z => c1 (by injection z with z; omega)]
      rw [if_neg (fun z => c1 z.1)] at bad
      exact iteT (iteT ⟨_, rfl, bad _ _ _ (Same.refl _) rfl⟩)
theorem ok_need_mates (T : Txt K mg A) : FnOk P w K mg base (L2.CX P w) 3 A.f_need_mates A.d_need_mates ["plan"] (spNeed K A (fun ms bs os => sizeErr ms bs os = none) fun ms bs _ => matesErr ms bs) := by
  refine T.F_need_mates.okX sc_need_mates (fun vs H Q E h => ?_) (fun cdv Ar outer s H vs Q E hr h => ?_)
  · obtain ⟨_, _, _, _, rfl, _⟩ := h
    rfl
  · obtain ⟨a, ms, bs, os, rfl, hp, hpre, qb, qg⟩ := h
    refine ⟨_, (pss_cons (ps_par (i := 1) (j := 2) (by rfl) sc_need_mates.nd rfl rfl (by decide) rfl rfl (pa_cons (pe_fld (pv 0) rfl) (pa_cons (pe_fld (pv 0) rfl) pa_nil)) (by rfl))
      (pss_cons (ps_for (passes_of rfl) rfl (pi_enumW (by rfl) T.n_enumerate (pa_cons (pv 1) pa_nil)) (pg_tup rfl (pgs_cons (pg_name (i := 3) sc_need_mates.nd rfl (Or.inl rfl)) (pgs_cons (pg_name (i := 4) sc_need_mates.nd rfl (Or.inl rfl)) pgs_nil))) (pss_one (ps_if (PW.pt (pw_or (pt_not (pt_chain op_le op_lt pe_int (pv 4) (pe_callB call_len (by rfl) T.n_len (by decide +kernel) (pa_cons (pv 1) pa_nil)))) (pw_or1 (pt_cmpR op_ne (pe_ix ix_tup (pv 1) (pv 4) (fun _ _ => rfl)) (pv 3) (nomark _))))) (pss_one (ps_raise rfl (takes_of rfl rfl rfl rfl) (pmk_oex T.o_BadPlan T.i_BadPlan T.t_BadPlan (ok_BadPlan_init T) (hr.mono (by decide)) (b_BadPlan_init T.F_BadPlan_init) .nil pass0 rfl T.g_BadPlan (pa_cons pe_str (pa_cons (pv 3) pa_nil))))) pss_nil)))
      (pss_one (ps_for (passes_of rfl) rfl (pi_enumW (by rfl) T.n_enumerate (pa_cons (pv 1) pa_nil)) (pg_tup rfl (pgs_cons (pg_name (i := 3) sc_need_mates.nd rfl (Or.inl rfl)) (pgs_cons (pg_name (i := 4) sc_need_mates.nd rfl (Or.inl rfl)) pgs_nil))) (pss_one (ps_if (PW.pt (pw_or (pt_cmpR op_notIn_seq (pe_ix ix_tup (pv 2) (pv 3) (fun _ _ => rfl)) (pe_tup (pa_cons pe_int (pa_cons pe_int pa_nil))) (by with_unfolding_all rfl)) (pw_or (pt_cmpR op_ne (pe_ix ix_tup (pv 2) (pv 4) (fun _ _ => rfl)) (pe_ix ix_tup (pv 2) (pv 3) (fun _ _ => rfl)) (nomark _)) (pw_or1 (PW.pt (pw_and (pt_cmpR op_eq (pv 4) (pv 3) (nomark _)) (pw_and1 (pt_cmpR op_eq (pe_ix ix_tup (pv 2) (pv 3) (fun _ _ => rfl)) pe_int (nomark _))))))))) (pss_one (ps_raise rfl (takes_of rfl rfl rfl rfl) (pmk_oex T.o_BadPlan T.i_BadPlan T.t_BadPlan (ok_BadPlan_init T) (hr.mono (by decide)) (b_BadPlan_init T.F_BadPlan_init) .nil pass0 rfl T.g_BadPlan (pa_cons pe_str (pa_cons (pv 3) pa_nil))))) pss_nil)))))), ?_⟩
    obtain ⟨dx, t1, t2, t3, t4, h1, h2, h3, h4, h5, h6⟩ := hp
    obtain ⟨lm, lm1, lm2, lb, lo⟩ := sizeErr_none hpre
    have bad : ∀ r p H', Same H H' → matesErr ms bs = some (r, p) → [V.str r, V.int p].length ≤ 1000 ∧ ∀ a, H' a = none → spInit2 A.c_BadPlan (.ref a :: ([V.str r, V.int p] ++ [])) (upd H' a (exo a A.c_BadPlan none))
        (fun x H2 => x = .non ∧ ∃ (d : Addr) (fs : List (Str × V)), H2 a = some (exo a A.c_BadPlan (some d)) ∧ H2 d = some (exd d fs) ∧ H' d = none ∧ E (.ref A.c_BadPlan) (some d) (upd (del H2 a) d (.xd fs))) (fun _ _ _ => False) := fun r p H' sH e => raise_go2 ((qb r p e).mono sH)
    refine ⟨_, rfl, a, A.c_Plan, dx, _, _, rfl, h1, T.i_Plan.cl, T.na_mates, rfl, _, rfl, a, A.c_Plan, dx, _, _, rfl, h1, T.i_Plan.cl, T.na_bent, rfl, _, _, rfl, ?_⟩
    have item : ∀ {i : Nat} {y : V}, (ms.map V.int)[i]? = some y → i < ms.length ∧ y = .int (atM ms i) := fun {i y} h => by
      rw [List.getElem?_map] at h
      obtain ⟨n, hn, rfl⟩ := Option.map_eq_some_iff.mp h
      refine ⟨(List.getElem?_eq_some_iff.mp hn).1, ?_⟩
      unfold atM
      rw [Int.toNat_natCast, List.getD_eq_getElem?_getD, hn]
      rfl
    refine ⟨_, rfl, t1, _, rfl, h2, fun J wk => for_core (wk H rfl) (fun i σ H2 => Same H H2 ∧ (∀ k < i, ok1 ms k = true) ∧ ∃ w3 w4, σ = [some (.ref a), some (.ref t1), some (.ref t2), w3, w4]) ⟨Same.refl _, fun k h => by omega, _, _, rfl⟩ (fun _ _ _ h => h.1) ?_ ?_⟩
    · rintro i x σ H2 H3 hi ⟨s2, ok, w3, w4, rfl⟩ s3 ⟨T', y, rfl, hT, hy⟩
      obtain ⟨hin, rfl⟩ := item hy
      have s23 := s2.trans s3
      have no : ok1 ms i = false → matesErr ms bs = (some ("mates", (i : Int)) : Option (Str × Int)) := fun e => by
        unfold matesErr
        rw [firstBad_some ok hin e]
      have lenm : LenV K (.ref t1) H3 ms.length := by
        have := len_s (K := K) (.inr (same_t s23 h2))
        rwa [List.length_map] at this
      refine ⟨T', _, rfl, .inl (.inl hT), rfl, _, _, rfl, _, _, rfl, rfl, ?_⟩
      refine ⟨_, rfl, _, _, rfl, rfl, _, rfl, ?_⟩
      by_cases c1 : 0 ≤ atM ms i
      · rw [decide_eq_true c1]
        refine iteT ⟨_, rfl, _, ms.length, rfl, lenm, _, _, rfl, rfl, _, rfl, ?_⟩
        by_cases c2 : atM ms i < (ms.length : Int)
        · rw [decide_eq_true c2]
          refine iteF ⟨_, rfl, _, rfl, _, _, _, _, rfl, rfl, same_t s23 h2, atM_at c1 c2, _, rfl, rfl, _, rfl, ?_⟩
          by_cases c3 : atM ms (atM ms i) = (i : Int)
          · rw [show decide (V.int (atM ms (atM ms i)) = V.int ((i : Nat) : Int)) = true from decide_eq_true (by rw [c3])]
            refine iteF ⟨s23, fun k hk => ?_, _, _, rfl⟩
            by_cases ck : k = i
            · subst ck
              exact decide_eq_true ⟨c1, c2, c3⟩
            · exact ok k (by omega)
          · rw [show decide (V.int (atM ms (atM ms i)) = V.int ((i : Nat) : Int)) = false from decide_eq_false fun z => c3 (by injection z)]
            exact iteT ⟨_, rfl, bad _ _ _ s23 (no (decide_eq_false fun z => c3 z.2.2))⟩
        · rw [decide_eq_false c2]
          exact iteT ⟨_, rfl, bad _ _ _ s23 (no (decide_eq_false fun z => c2 z.2.1))⟩
      · rw [decide_eq_false c1]
        exact iteF ⟨_, rfl, iteT ⟨_, rfl, bad _ _ _ s23 (no (decide_eq_false fun z => c1 z.1))⟩⟩
    · rintro σ H2 ⟨s2, okA, w3, w4, rfl⟩
      rw [List.length_map] at okA
      have n1 := firstBad_none okA
      refine ⟨_, rfl, t1, _, rfl, same_t s2 h2, fun J wk => for_core (wk H2 rfl) (fun i σ H3 => Same H2 H3 ∧ (∀ k < i, ok2 ms bs k = true) ∧ ∃ w3 w4, σ = [some (.ref a), some (.ref t1), some (.ref t2), w3, w4]) ⟨Same.refl _, fun k h => by omega, _, _, rfl⟩ (fun _ _ _ h => h.1) ?_ ?_⟩
      · rintro i x σ H3 H4 hi ⟨s3, ok, w3, w4, rfl⟩ s4 ⟨T', y, rfl, hT, hy⟩
        obtain ⟨hin, rfl⟩ := item hy
        have s24 := s2.trans (s3.trans s4)
        have o1 := okA i hin
        unfold ok1 at o1
        obtain ⟨m0, m1, m2⟩ := of_decide_eq_true o1
        have no : ok2 ms bs i = false → matesErr ms bs = (some ("bent", (i : Int)) : Option (Str × Int)) := fun e => by
          unfold matesErr
          rw [n1, firstBad_some ok hin e]
        refine ⟨T', _, rfl, .inl (.inl hT), rfl, _, _, rfl, _, _, rfl, rfl, ?_⟩
        have ip : (0 : Int) ≤ (i : Nat) := by omega
        have ib : ((i : Nat) : Int) < (bs.length : Int) := by omega
        refine ⟨_, rfl, _, rfl, _, _, _, _, rfl, rfl, same_t s24 h3, atM_at ip ib, two_line, fun t ht => ⟨t, _, rfl, .inr (.inl (.inl upd_same)), rfl, rfl, _, rfl, ?_⟩⟩
        have s5 := same_new (o := .tup [.int 0, .int 1]) ht
        have s25 := s24.trans s5
        have s35 := (s3.trans s4).trans s5
        have g3 := same_t s25 h3
        generalize upd H4 t (.tup [.int 0, .int 1]) = H5 at s25 s35 g3 ⊢
        by_cases c1 : atM bs i = 0 ∨ atM bs i = 1
        · have e : (if true = true then !inV (V.int (atM bs (i : Nat))) [V.int 0, V.int 1] else inV (V.int (atM bs (i : Nat))) [V.int 0, V.int 1]) = false := by
            rcases c1 with c1 | c1 <;> rw [c1] <;> rfl
          rw [e]
          refine iteF ⟨_, rfl, _, rfl, _, _, _, _, rfl, rfl, g3, atM_at m0 (by omega), _, rfl, _, rfl, _, _, _, _, rfl, rfl, g3, atM_at ip ib, rfl, _, rfl, ?_⟩
          by_cases c2 : atM bs (atM ms i) = atM bs i
          · rw [show decide (V.int (atM bs (atM ms i)) = V.int (atM bs i)) = true from decide_eq_true (by rw [c2])]
            refine iteF ⟨_, rfl, _, rfl, rfl, _, rfl, ?_⟩
            by_cases c3 : atM ms i = (i : Int)
            · rw [show decide (V.int (atM ms i) = V.int ((i : Nat) : Int)) = true from decide_eq_true (by rw [c3])]
              refine iteT ⟨_, rfl, _, rfl, _, _, _, _, rfl, rfl, g3, atM_at ip ib, rfl, _, rfl, ?_⟩
              by_cases c4 : atM bs i = 1
              · rw [show decide (V.int (atM bs i) = V.int 1) = true from decide_eq_true (by rw [c4])]
                exact iteT ⟨_, rfl, bad _ _ _ s25 (no (decide_eq_false fun z => z.2.2 ⟨c3, c4⟩))⟩
              · rw [show decide (V.int (atM bs i) = V.int 1) = false from decide_eq_false fun z => c4 (by injection z)]
                refine iteF ⟨s35, fun k hk => ?_, _, _, rfl⟩
                by_cases ck : k = i
                · subst ck
                  exact decide_eq_true ⟨c1, c2, fun z => c4 z.2⟩
                · exact ok k (by omega)
            · rw [show decide (V.int (atM ms i) = V.int ((i : Nat) : Int)) = false from decide_eq_false fun z => c3 (by injection z)]
              refine iteF (iteF ⟨s35, fun k hk => ?_, _, _, rfl⟩)
              by_cases ck : k = i
              · subst ck
                exact decide_eq_true ⟨c1, c2, fun z => c3 z.1⟩
              · exact ok k (by omega)
          · rw [show decide (V.int (atM bs (atM ms i)) = V.int (atM bs i)) = false from decide_eq_false fun z => c2 (by injection z)]
            exact iteT (iteT ⟨_, rfl, bad _ _ _ s25 (no (decide_eq_false fun z => c2 z.2.1))⟩)
        · have e : (if true = true then !inV (V.int (atM bs (i : Nat))) [V.int 0, V.int 1] else inV (V.int (atM bs (i : Nat))) [V.int 0, V.int 1]) = true := by
            rw [if_pos rfl, show [V.int 0, V.int 1] = [(0 : Int), 1].map V.int from rfl, inV_ints]
            simpa using c1
          rw [e]
          exact iteT ⟨_, rfl, bad _ _ _ s25 (no (decide_eq_false fun z => c1 z.1))⟩
      · rintro σ H3 ⟨s3, okB, w3, w4, rfl⟩
        rw [List.length_map] at okB
        refine qg ?_ _ (s2.trans s3)
        show matesErr ms bs = none
        unfold matesErr
        rw [n1, firstBad_none okB]
end
end KP


set_option Elab.async false
set_option linter.all false
set_option maxRecDepth 100000
set_option maxHeartbeats 4000000
namespace KP
open PySem PySem.Spec PyProof.Rows L2 ClX OG
section
variable {P : Program} {w : World} {K : PySem.W.Frag} {mg : Str → Option Value} {base : Heap} {A : Ad} {H H' : Hp} {x : V} {a : Addr} {ms bs os : List Int}
theorem matesErr_none (h : matesErr ms bs = none) : (∀ i < ms.length, ok1 ms i = true) ∧ ∀ i < ms.length, ok2 ms bs i = true := by
  unfold matesErr at h
  cases e : firstBad (ok1 ms) ms.length with
  | some i =>
    rw [e] at h
    cases h
  | none =>
    rw [e] at h
    cases e2 : firstBad (ok2 ms bs) ms.length with
    | some i =>
      rw [e2] at h
      cases h
    | none => exact ⟨firstBad_all e, firstBad_all e2⟩
theorem nx_range {n p : Int} (h : n % 3 = 0) (h0 : 0 ≤ p) (h1 : p < n) : 0 ≤ nx p ∧ nx p < n := by
  unfold nx
  split <;> omega
theorem pv_range {n p : Int} (h : n % 3 = 0) (h0 : 0 ≤ p) (h1 : p < n) : 0 ≤ pv3 p ∧ pv3 p < n := by
  unfold pv3
  split <;> omega
theorem ms_range (h : ∀ i < ms.length, ok1 ms i = true) {p : Int} (h0 : 0 ≤ p) (h1 : p < (ms.length : Int)) : 0 ≤ atM ms p ∧ atM ms p < (ms.length : Int) ∧ atM ms (atM ms p) = p := by
  have := of_decide_eq_true (h p.toNat (by omega))
  rw [show ((p.toNat : Nat) : Int) = p by omega] at this
  exact this
theorem acr_range (h3 : ms.length % 3 = 0) (h : ∀ i < ms.length, ok1 ms i = true) {c : Int} (h0 : 0 ≤ c) (h1 : c < (ms.length : Int)) : ∀ o ∈ acr ms bs c, 0 ≤ o ∧ o < (ms.length : Int) := by
  have a1 := ms_range h h0 h1
  have p1 := pv_range (n := (ms.length : Int)) (by omega) h0 h1
  have a2 := ms_range h p1.1 p1.2
  have n1 := nx_range (n := (ms.length : Int)) (by omega) a1.1 a1.2.1
  have n2 := nx_range (n := (ms.length : Int)) (by omega) a2.1 a2.2.1
  intro o ho
  unfold acr at ho
  rcases List.mem_append.mp ho with ho | ho
  · split at ho
    · cases ho
    · rcases List.mem_singleton.mp ho with rfl
      split
      · exact ⟨a1.1, a1.2.1⟩
      · exact n1
  · split at ho
    · cases ho
    · rcases List.mem_singleton.mp ho with rfl
      split
      · exact n2
      · exact ⟨a2.1, a2.2.1⟩
theorem acr_len (c : Int) : (acr ms bs c).length ≤ 2 := by
  unfold acr
  rw [List.length_append]
  have : (if atM ms c = c then [] else [if atM bs c = 1 then atM ms c else nx (atM ms c)] : List Int).length ≤ 1 := by split <;> simp
  have : (if atM ms (pv3 c) = pv3 c then [] else [if atM bs (pv3 c) = 1 then nx (atM ms (pv3 c)) else atM ms (pv3 c)] : List Int).length ≤ 1 := by split <;> simp
  omega
theorem itemM {ns : List Int} {i : Nat} {y : V} (h : (ns.map V.int)[i]? = some y) : i < ns.length ∧ y = .int (atM ns i) := by
  rw [List.getElem?_map] at h
  obtain ⟨n, hn, rfl⟩ := Option.map_eq_some_iff.mp h
  refine ⟨(List.getElem?_eq_some_iff.mp hn).1, ?_⟩
  unfold atM
  rw [Int.toNat_natCast, List.getD_eq_getElem?_getD, hn]
  rfl
theorem ok_need_orders (T : Txt K mg A) : FnOk P w K mg base (L2.CX P w) 3 A.f_need_orders A.d_need_orders ["plan"] (spNeed K A (fun ms bs os => sizeErr ms bs os = none ∧ matesErr ms bs = none) ordersErr) := by
  refine T.F_need_orders.okX sc_need_orders (fun vs H Q E h => ?_) (fun cdv Ar outer s H vs Q E hr h => ?_)
  · obtain ⟨_, _, _, _, rfl, _⟩ := h
    rfl
  · obtain ⟨a, ms, bs, os, rfl, hp, ⟨hs, hm⟩, qb, qg⟩ := h
    refine ⟨_, (pss_cons (ps_for (passes_of rfl) rfl (pi_enumW (by rfl) T.n_enumerate (pa_cons (pe_fld (pv 0) rfl) pa_nil)) (pg_tup rfl (pgs_cons (pg_name (i := 1) sc_need_orders.nd rfl (Or.inl rfl)) (pgs_cons (pg_name (i := 2) sc_need_orders.nd rfl (Or.inr rfl)) pgs_nil))) (pss_one (ps_if (pt_not (pt_chain op_le op_le pe_int (pv 2) (pe_glob (v := .int 120) rfl T.g_MOST_ORDER ⟨_, rfl⟩))) (pss_one (ps_raise rfl (takes_of rfl rfl rfl rfl) (pmk_oex T.o_BadPlan T.i_BadPlan T.t_BadPlan (ok_BadPlan_init T) (hr.mono (by decide)) (b_BadPlan_init T.F_BadPlan_init) .nil pass0 rfl T.g_BadPlan (pa_cons pe_str (pa_cons (pv 1) pa_nil))))) pss_nil)))
      (pss_one (ps_for (passes_of rfl) rfl (pi_enumW (by rfl) T.n_enumerate (pa_cons (pe_fld (pv 0) rfl) pa_nil)) (pg_tup rfl (pgs_cons (pg_name (i := 1) sc_need_orders.nd rfl (Or.inl rfl)) (pgs_cons (pg_name (i := 2) sc_need_orders.nd rfl (Or.inr rfl)) pgs_nil))) (pss_one (ps_if (pt_not (pt_val (pe_callB (cr_all rfl) (by rfl) T.n_all (by decide +kernel) (pa_cons (pe_lc (own := [("other", 3)]) (g := gName 3) (by rfl) sc_need_orders.nd (pi_seqW (pe_meth (pv 0) T.i_Plan.cl T.m_across (ok_Plan_across T) (hr.mono (by decide)) (b_Plan_across T.F_Plan_across) .nil pass0 (pa_cons (pv 1) pa_nil))) (blkOk_by (own := [("other", 3)]) (N := N_need_orders) (sc := defScope s_need_orders) (by decide +kernel)) (fun _ _ _ _ _ => pg_name (i := 3) sc_need_orders.nd rfl (Or.inl rfl)) (fun _ _ _ _ _ => pts_nil) (fun _ _ _ _ _ => (pe_cmpR op_eq (pe_ix (r := rIxT K) ix_tup (show PE _ _ (tFld K (tVar 0) "orders") from pe_fld (pv 0) rfl) (pv 3) (fun _ _ => rfl)) (pv 2) (nomark _)))) pa_nil)))) (pss_one (ps_raise rfl (takes_of rfl rfl rfl rfl) (pmk_oex T.o_BadPlan T.i_BadPlan T.t_BadPlan (ok_BadPlan_init T) (hr.mono (by decide)) (b_BadPlan_init T.F_BadPlan_init) .nil pass0 rfl T.g_BadPlan (pa_cons pe_str (pa_cons (pv 1) pa_nil))))) pss_nil))))), ?_⟩
    obtain ⟨dx, t1, t2, t3, t4, h1, h2, h3, h4, h5, h6⟩ := id hp
    obtain ⟨lm, lm1, lm2, lb, lo⟩ := sizeErr_none hs
    obtain ⟨okA, okB⟩ := matesErr_none hm
    have bad : ∀ r p H', Same H H' → ordersErr ms bs os = some (r, p) → [V.str r, V.int p].length ≤ 1000 ∧ ∀ a, H' a = none → spInit2 A.c_BadPlan (.ref a :: ([V.str r, V.int p] ++ [])) (upd H' a (exo a A.c_BadPlan none))
        (fun x H2 => x = .non ∧ ∃ (d : Addr) (fs : List (Str × V)), H2 a = some (exo a A.c_BadPlan (some d)) ∧ H2 d = some (exd d fs) ∧ H' d = none ∧ E (.ref A.c_BadPlan) (some d) (upd (del H2 a) d (.xd fs))) (fun _ _ _ => False) := fun r p H' sH e => raise_go2 ((qb r p e).mono sH)
    refine ⟨_, rfl, a, A.c_Plan, dx, _, _, rfl, h1, T.i_Plan.cl, T.na_orders, rfl, t3, _, rfl, h4, fun J wk => for_core (wk H rfl) (fun i σ H2 => Same H H2 ∧ (∀ k < i, ok3 os k = true) ∧ ∃ w1 w2 w3, σ = [some (.ref a), w1, w2, w3]) ⟨Same.refl _, fun k h => by omega, _, _, _, rfl⟩ (fun _ _ _ h => h.1) ?_ ?_⟩
    · rintro i x σ H2 H3 hi ⟨s2, ok, w1, w2, w3, rfl⟩ s3 ⟨T', y, rfl, hT, hy⟩
      obtain ⟨hin, rfl⟩ := itemM hy
      have s23 := s2.trans s3
      have no : ok3 os i = false → ordersErr ms bs os = (some ("orders", (i : Int)) : Option (Str × Int)) := fun e => by
        unfold ordersErr
        rw [firstBad_some ok hin e]
      refine ⟨T', _, rfl, .inl (.inl hT), rfl, _, _, rfl, _, _, rfl, rfl, ?_⟩
      refine ⟨_, rfl, _, _, rfl, rfl, _, rfl, ?_⟩
      by_cases c1 : 1 ≤ atM os i
      · rw [decide_eq_true c1]
        refine iteT ⟨_, _, rfl, rfl, _, rfl, ?_⟩
        by_cases c2 : atM os i ≤ 120
        · rw [decide_eq_true c2]
          refine iteF ⟨s23, fun k hk => ?_, _, _, _, rfl⟩
          by_cases ck : k = i
          · subst ck
            exact decide_eq_true ⟨c1, c2⟩
          · exact ok k (by omega)
        · rw [decide_eq_false c2]
          exact iteT ⟨_, rfl, bad _ _ _ s23 (no (decide_eq_false fun z => c2 z.2))⟩
      · rw [decide_eq_false c1]
        exact iteF ⟨_, rfl, iteT ⟨_, rfl, bad _ _ _ s23 (no (decide_eq_false fun z => c1 z.1))⟩⟩
    · rintro σ H2 ⟨s2, okC, w1, w2, w3, rfl⟩
      rw [List.length_map] at okC
      have n1 := firstBad_none okC
      refine ⟨_, rfl, a, A.c_Plan, dx, _, _, rfl, s2 _ _ h1, T.i_Plan.cl, T.na_orders, rfl, t3, _, rfl, same_t s2 h4, fun J wk => for_core (wk H2 rfl) (fun i σ H3 => Same H2 H3 ∧ (∀ k < i, ok4 ms bs os k = true) ∧ ∃ w1 w2 w3, σ = [some (.ref a), w1, w2, w3]) ⟨Same.refl _, fun k h => by omega, _, _, _, rfl⟩ (fun _ _ _ h => h.1) ?_ ?_⟩
      · rintro i x σ H3 H4 hi ⟨s3, ok, w1, w2, w3, rfl⟩ s4 ⟨T', y, rfl, hT, hy⟩
        obtain ⟨hin, rfl⟩ := itemM hy
        have s34 := s3.trans s4
        have s24 := s2.trans s34
        have no : ok4 ms bs os i = false → ordersErr ms bs os = (some ("orders", (i : Int)) : Option (Str × Int)) := fun e => by
          unfold ordersErr
          rw [n1, firstBad_some ok hin e]
        refine ⟨T', _, rfl, .inl (.inl hT), rfl, _, _, rfl, _, _, rfl, rfl, ?_⟩
        have ip : (0 : Int) ≤ (i : Nat) := by omega
        have im : ((i : Nat) : Int) < (ms.length : Int) := by omega
        have hrg := acr_range (bs := bs) lm okA ip im
        refine ⟨_, rfl, a, dx, _, rfl, s24 _ _ h1, rfl, _, rfl, a, ms, bs, os, (i : Nat), rfl, hp.mono s24, ip, im, lm, lb, fun l H5 s5 hl0 hl => ⟨l, _, rfl, .inl (SqL.of hl), fun J2 wk2 => ?_⟩⟩
        refine comp_val (wk2 H5 rfl) (fun j => .bl (decide (atM os ((acr ms bs i).getD j 0) = atM os i))) (by rw [List.length_map]; exact Nat.lt_of_le_of_lt (acr_len _) (by decide)) (fun j x H6 N hj s6 hx k => ?_) (fun D H6 hD0 s6 hD => ?_)
        · rw [List.getElem?_map] at hx
          obtain ⟨o, ho, rfl⟩ := Option.map_eq_some_iff.mp hx
          have e : (acr ms bs i).getD j 0 = o := by rw [List.getD_eq_getElem?_getD, ho]; rfl
          rw [e] at k
          have ro := hrg o (List.mem_of_getElem? ho)
          have s26 := s24.trans (s5.trans s6)
          refine ⟨_, rfl, a, A.c_Plan, dx, _, _, rfl, s26 _ _ h1, T.i_Plan.cl, T.na_orders, rfl, _, rfl, _, _, _, _, rfl, rfl, same_t s26 h4, atM_at ro.1 (by omega), _, rfl, rfl, ?_⟩
          have ee : decide (V.int (atM os o) = V.int (atM os i)) = decide (atM os o = atM os i) := by
            rw [Bool.eq_iff_iff, decide_eq_true_iff, decide_eq_true_iff]
            exact ⟨fun h => by injection h, fun h => by rw [h]⟩
          rw [ee]
          exact k _ (Same.refl _)
        · rw [List.length_map, map_range (acr ms bs i) (fun o => V.bl (decide (atM os o = atM os i))) 0] at hD
          refine ⟨D, (acr ms bs i).map fun o => decide (atM os o = atM os i), rfl, SqL.of (by rw [List.map_map]; exact hD), _, rfl, ?_⟩
          have e4 : ((acr ms bs i).map fun o => decide (atM os o = atM os i)).all id = ok4 ms bs os i := by
            unfold ok4
            rw [List.all_map]
            rfl
          rw [e4]
          cases hok : ok4 ms bs os i with
          | true =>
            refine iteF ⟨s34.trans (s5.trans s6), fun k hk => ?_, _, _, _, rfl⟩
            by_cases ck : k = i
            · subst ck
              exact hok
            · exact ok k (by omega)
          | false => exact iteT ⟨_, rfl, bad _ _ _ (s24.trans (s5.trans s6)) (no hok)⟩
      · rintro σ H3 ⟨s3, okD, w1, w2, w3, rfl⟩
        rw [List.length_map] at okD
        refine qg ?_ _ (s2.trans s3)
        unfold ordersErr
        rw [n1, firstBad_none okD]
end
end KP


set_option Elab.async false
set_option linter.all false
set_option maxRecDepth 100000
set_option maxHeartbeats 4000000
namespace KP
open PySem PySem.Spec PyProof.Rows L2 ClX OG
theorem un1 {k : Nat} {A : Around} (r : Room k A) : A.units + 1 < cLine := by have := r.un; omega
/-! ### which triangles hang together -/
inductive Reach (ms : List Int) : Nat → Prop
  | zero : Reach ms 0
  | step {t : Nat} (h : Reach ms t) (s : Nat) (hs : s < 3) : Reach ms (atM ms (3 * (t : Int) + s) / 3).toNat
/-- a known triangle -/
def kd (k : Nat) : Key × V := (.inl (k : Int), .bl true)
theorem kd_val (ks : List Nat) (k : Nat) : valV (ks.map kd) (.inl (k : Int)) = if k ∈ ks then some (.bl true) else none := by
  induction ks with
  | nil => rfl
  | cons j ks ih =>
    by_cases h : j = k
    · subst h
      rw [if_pos List.mem_cons_self, List.map_cons]
      exact valV_pos (p := kd j) (k := (.inl (j : Int) : Key)) rfl
    · have hne : (kd j).1 ≠ (.inl (k : Int) : Key) := fun z => h (by injection z with z; omega)
      have e : valV ((j :: ks).map kd) (.inl (k : Int)) = valV (ks.map kd) (.inl (k : Int)) := by
        unfold valV
        rw [List.map_cons, List.find?_cons, decide_eq_false hne]
      rw [e, ih]
      by_cases h2 : k ∈ ks
      · rw [if_pos h2, if_pos (List.mem_cons_of_mem _ h2)]
      · rw [if_neg h2, if_neg (fun z => by
          rcases List.mem_cons.mp z with z | z
          · exact h z.symm
          · exact h2 z)]
theorem kd_put {ks : List Nat} {k : Nat} (h : k ∉ ks) : putK (ks.map kd) (.inl (k : Int)) (.bl true) = (ks ++ [k]).map kd := by
  unfold putK
  rw [if_neg, List.map_append]
  · rfl
  · rw [List.any_map, List.any_eq_true]
    rintro ⟨j, hj, e⟩
    have e := of_decide_eq_true e
    have : (kd j).1 = (.inl (k : Int) : Key) := e
    injection this with this
    have : j = k := by omega
    exact h (by rw [← this]; exact hj)
/-- the triangle beside one -/
def nb (ms : List Int) (t s : Nat) : Nat := (atM ms (3 * (t : Int) + s) / 3).toNat
theorem nodup_le {ks : List Nat} {n : Nat} (h : ks.Nodup) (hb : ∀ k ∈ ks, k < n) : ks.length ≤ n := by
  have := List.Nodup.length_le_of_subset h (l₂ := List.range n) fun k hk => List.mem_range.mpr (hb k hk)
  rwa [List.length_range] at this
section
variable {P : Program} {w : World} {K : PySem.W.Frag} {mg : Str → Option Value} {base : Heap} {A : Ad} {H H' : Hp} {x : V} {a : Addr} {ms bs os : List Int}
/-- the first triangle that hangs not with the first one -/
def Whl (ms : List Int) : Option (Str × Int) → Prop
  | none => ∀ t, t < ms.length / 3 → Reach ms t
  | some (r, p) => r = "apart" ∧ ∃ t : Nat, p = 3 * (t : Int) ∧ t < ms.length / 3 ∧ ¬ Reach ms t ∧ ∀ k < t, Reach ms k
def spWhole (K : PySem.W.Frag) (A : Ad) : Sp := fun vs H Q E => ∃ (a : Addr) (ms bs os : List Int), vs = [.ref a] ∧ PlanR K A.c_Plan H a ms bs os ∧ sizeErr ms bs os = none ∧ matesErr ms bs = none ∧
  (∀ r p, Whl ms (some (r, p)) → BadP A.c_BadPlan r p H E) ∧ (Whl ms none → ∀ H', Same H H' → Q .non H')
theorem ok_need_whole (T : Txt K mg A) : FnOk P w K mg base (L2.CX P w) 3 A.f_need_whole A.d_need_whole ["plan"] (spWhole K A) := by
  refine T.F_need_whole.okX sc_need_whole (fun vs H Q E h => ?_) (fun cdv Ar outer s H vs Q E hr h => ?_)
  · obtain ⟨_, _, _, _, rfl, _⟩ := h
    rfl
  · obtain ⟨a, ms, bs, os, rfl, hp, hs, hm, qb, qg⟩ := h
    refine ⟨_, (pss_cons (ps_asg (pe_tup (pa_cons (pe_disp (pps_cons pe_int pe_bl pps_nil) rfl rfl (by decide) (by decide)) (pa_cons (pe_lst (pa_cons pe_int pa_nil)) pa_nil))) (pg_tup rfl (pgs_cons (pg_name (i := 1) sc_need_whole.nd rfl (Or.inr rfl)) (pgs_cons (pg_name (i := 2) sc_need_whole.nd rfl (Or.inl rfl)) pgs_nil))))
      (pss_cons (ps_while (passes_of rfl) (pt_cmpR (op_neD (un64 hr)) (pv 2) (pe_lst pa_nil) (nomark _)) (pss_cons (ps_set (i := 3) sc_need_whole.nd rfl (Or.inl rfl) (pe_bm0 PySem.F.plainAttrs_list PySem.F.slot_list_pop PySem.F.type_list_pop mt_pop (pv 2)))
      (pss_one (ps_for (passes_of rfl) rfl (pi_range1 (by rfl) T.n_range (pa_cons pe_int pa_nil)) (pg_name (i := 4) sc_need_whole.nd rfl (Or.inl rfl)) (pss_cons (ps_set (i := 5) sc_need_whole.nd rfl (Or.inl rfl) (pe_op op_fdiv (pe_ix ix_tup (pe_fld (pv 0) rfl) (pe_op op_add (pe_op op_mul pe_int (pv 3)) (pv 4)) (fun _ _ => rfl)) pe_int))
      (pss_one (ps_if (show PT _ _ (tB (tDNotIn (tVar 5) (tVar 1))) from by refine pt_cmp (pc_dnotin ?_ ?_ ?_); exact un1 hr; exact (pv 5); exact (pv 1)) (pss_cons (ps_dput (un1 hr) (pv 1) (pv 5) pe_bl (by rfl))
      (pss_one (ps_expr (pe_bm PySem.F.plainAttrs_list PySem.F.slot_list_append PySem.F.type_list_append mt_append (pv 2) (pa_cons (pv 5) pa_nil))))) pss_nil)))))))
      (pss_cons (ps_setLc (i := 6) (own := [("triangle", 3)]) (g := gName 3) (by rfl) sc_need_whole.nd rfl rfl (sw_true rfl rfl rfl (by decide +kernel)) (pi_range1 (by rfl) T.n_range (pa_cons (pe_callB (call_lenO (C := A.c_Plan) (E := E0) (ok_Plan_len T) (hr.mono (by decide)) T.l_Plan T.fn_Plan_len (b_Plan_len T.F_Plan_len) pass0) (by rfl) T.n_len (by decide +kernel) (pa_cons (pv 0) pa_nil)) pa_nil)) (blkOk_by (own := [("triangle", 3)]) (N := N_need_whole) (sc := defScope s_need_whole) (by decide +kernel)) (fun _ _ _ _ _ => pg_name (i := 3) sc_need_whole.nd rfl (Or.inl rfl)) (fun _ _ _ _ _ => pts_one (show PT _ _ (tB (tDNotIn (tVar 3) (tVar 1))) from by refine pt_cmp (pc_dnotin ?_ ?_ ?_); exact un1 hr; exact (pv 3); exact (pv 1))) (fun _ _ _ _ _ => (pv 3)))
      (pss_one (ps_if (pt_cmpR (op_neD (un64 hr)) (pv 6) (pe_lst pa_nil) (nomark _)) (pss_one (ps_raise rfl (takes_of rfl rfl rfl rfl) (pmk_oex T.o_BadPlan T.i_BadPlan T.t_BadPlan (ok_BadPlan_init T) (hr.mono (by decide)) (b_BadPlan_init T.F_BadPlan_init) .nil pass0 rfl T.g_BadPlan (pa_cons pe_str (pa_cons (pe_op op_mul pe_int (pe_ix ix_list (pv 6) pe_int (fun _ _ => rfl))) pa_nil))))) pss_nil))))), ?_⟩
    obtain ⟨dx, t1, t2, t3, t4, h1, h2, h3, h4, h5, h6⟩ := id hp
    obtain ⟨lm, lm1, lm2, lb, lo⟩ := sizeErr_none hs
    obtain ⟨okA, okB⟩ := matesErr_none hm
    obtain ⟨nT, hnT⟩ : ∃ nT, nT = ms.length / 3 := ⟨_, rfl⟩
    have nbr : ∀ {t s' : Nat}, t < nT → s' < 3 → nb ms t s' < nT ∧ ((nb ms t s' : Nat) : Int) = atM ms (3 * (t : Int) + s') / 3 ∧ 0 ≤ 3 * (t : Int) + s' ∧ 3 * (t : Int) + (s' : Int) < (ms.length : Int) := fun {t s'} ht hs' => by
      have r := ms_range okA (p := 3 * (t : Int) + s') (by omega) (by omega)
      unfold nb
      omega
    have bad : ∀ r p H', Same H H' → Whl ms (some (r, p)) → [V.str r, V.int p].length ≤ 1000 ∧ ∀ a, H' a = none → spInit2 A.c_BadPlan (.ref a :: ([V.str r, V.int p] ++ [])) (upd H' a (exo a A.c_BadPlan none))
        (fun x H2 => x = .non ∧ ∃ (d : Addr) (fs : List (Str × V)), H2 a = some (exo a A.c_BadPlan (some d)) ∧ H2 d = some (exd d fs) ∧ H' d = none ∧ E (.ref A.c_BadPlan) (some d) (upd (del H2 a) d (.xd fs))) (fun _ _ _ => False) := fun r p H' sH e => raise_go2 ((qb r p e).mono sH)
    refine fun KD hKD => ⟨upd_same, [(.inl 0, .bl true)], rfl, by decide, by show 1 ≤ sizeLine; decide, fun LN hLN => ⟨two_line, fun t ht => ⟨t, _, rfl, SqT.of upd_same, rfl, _, _, rfl, _, _, rfl, rfl, ?_⟩⟩⟩
    have sK : Same H (upd (upd H KD (.dK [])) KD (.dK (mergeK [] [(.inl 0, .bl true)]))) := fun b u e => by
      rw [upd_ne (ne_of_none e hKD), upd_ne (ne_of_none e hKD)]
      exact e
    have eK : upd (upd H KD (.dK [])) KD (.dK (mergeK [] [(.inl 0, .bl true)])) KD = some (.dK ([0].map kd)) := upd_same
    generalize upd (upd H KD (.dK [])) KD (.dK (mergeK [] [(.inl 0, .bl true)])) = H1 at sK eK hLN ht ⊢
    have sL := same_new (o := .lst [.int 0]) hLN
    have sT := same_new (o := .tup [.ref KD, .ref LN]) ht
    have hLN0 : H LN = none := by
      cases e : H LN with
      | none => rfl
      | some u => rw [sK _ _ e] at hLN; cases hLN
    have nKL : KD ≠ LN := fun z => by rw [z, hLN] at eK; cases eK
    have eK2 := sT _ _ (sL _ _ eK)
    have eL2 := sT _ _ (upd_same (H := H1) (a := LN) (o := .lst [.int 0]))
    have s02 := sK.trans (sL.trans sT)
    generalize upd (upd H1 LN (.lst [.int 0])) t (.tup [.ref KD, .ref LN]) = H2 at s02 eK2 eL2 ⊢
    clear sL sT ht hLN sK eK
    let lv : List Nat → List V := fun ls => (ls.map fun k : Nat => (k : Int)).map V.int
    let Inv0 : List Nat → List Nat → Hp → Prop := fun ks ls H' => Same H H' ∧ H' KD = some (.dK (ks.map kd)) ∧ H' LN = some (.lst (lv ls)) ∧ 0 ∈ ks ∧ (∀ k ∈ ks, k < nT ∧ Reach ms k) ∧ ks.Nodup ∧ (∀ l ∈ ls, l ∈ ks) ∧ 2 * (nT - ks.length) + ls.length ≤ 2 * nT
    refine ⟨fun m σ H' => ∃ ks ls, Inv0 ks ls H' ∧ (∀ k ∈ ks, k ∉ ls → ∀ s' < 3, nb ms k s' ∈ ks) ∧ m = 2 * (nT - ks.length) + ls.length ∧ ∃ w3 w4 w5 w6, σ = [some (.ref a), some (.ref KD), some (.ref LN), w3, w4, w5, w6],
      ⟨_, [0], [0], ⟨s02, eK2, eL2, List.mem_singleton.mpr rfl, fun k hk => ?_, by simp, fun l hl => hl, by show 2 * (nT - 1) + 1 ≤ 2 * nT; omega⟩, fun k hk hn => absurd hk hn, rfl, _, _, _, _, rfl⟩, ?_⟩
    · rcases List.mem_singleton.mp hk with rfl
      exact ⟨by omega, .zero⟩
    rintro m σ H3 ⟨ks, ls, ⟨s3, kK, kL, k0, kb, knd, kl, kn⟩, kc, rfl, w3, w4, w5, w6, rfl⟩
    refine ⟨_, rfl, by show 0 ≤ sizeLine; decide, fun l0 hl0 => ?_⟩
    have sl0 := same_new (o := .lst []) hl0
    refine ⟨.list ((ls.map fun k : Nat => (k : Int)).map PyData.int), .list [], .lst (SqL.of (sl0 _ _ kL)) (dpa_ints _), .lst (SqL.of upd_same) .nil, shaped_ints _, rfl, _, rfl, ?_⟩
    rw [eqv_nil]
    replace s3 := s3.trans sl0
    replace kK := sl0 _ _ kK
    replace kL := sl0 _ _ kL
    generalize upd H3 l0 (.lst []) = H4 at s3 kK kL ⊢
    clear sl0 hl0
    by_cases hls : ls = []
    · subst hls
      rw [show (!decide (([] : List Nat).map (fun k : Nat => (k : Int)) = [])) = false from rfl]
      refine iteF ?_
      have all : ∀ t, Reach ms t → t ∈ ks := fun t h => by
        induction h with
        | zero => exact k0
        | step h s' hs' ih => exact kc _ ih (by simp) s' hs'
      have eT : (ms.length + 2) / 3 = nT := by omega
      refine ⟨_, rfl, a, dx, _, rfl, s3 _ _ h1, a, ms, bs, os, rfl, hp.mono s3, fun H5 s5 => ⟨_, rfl, by omega, by omega, _, rfl, by omega, by omega, fun LD hLD => ?_⟩⟩
      rw [eT, show ((nT : Nat) : Int).toNat = nT by omega]
      have kK5 := s5 _ _ kK
      have s05 := s3.trans s5
      have sD := same_new (o := .lst []) hLD
      have nDK : LD ≠ KD := fun z => by rw [z, kK5] at hLD; cases hLD
      have hLD0 : H LD = none := by
        cases e : H LD with
        | none => rfl
        | some u => rw [s05 _ _ e] at hLD; cases hLD
      refine lc_range (lo := 0) (n := nT) (fun j H' => Same H H' ∧ H' KD = some (.dK (ks.map kd)) ∧ H' LD = some (.lst (lv ((List.range j).filter fun k => decide (k ∉ ks))))) ⟨s05.trans sD, sD _ _ kK5, upd_same⟩ (fun j H6 hj k => ?_) (fun H6 k => ?_)
      · obtain ⟨s6, q1, q2⟩ := k
        rw [show (0 : Int) + ((j : Nat) : Int) = ((j : Nat) : Int) by omega]
        refine ⟨rfl, _, rfl, _, rfl, KD, _, rfl, DGet.k (k := .inl ((j : Nat) : Int)) q1, _, rfl, ?_⟩
        rw [kd_val]
        by_cases hin : j ∈ ks
        · rw [if_pos hin]
          refine iteF ⟨s6, q1, ?_⟩
          rw [List.range_succ, List.filter_append, List.filter_cons_of_neg (by simpa using hin)]
          rw [show List.filter (fun k => decide (k ∉ ks)) [] = [] from rfl, List.append_nil]
          exact q2
        · rw [if_neg hin]
          refine iteT ⟨_, rfl, _, q2, ?_, fun b u e => ?_, by rw [upd_ne nDK.symm]; exact q1, ?_⟩
          · show ((List.map _ _).map _).length < sizeLine
            rw [List.length_map, List.length_map]
            refine Nat.lt_of_le_of_lt (List.length_filter_le _ _) ?_
            rw [List.length_range]
            exact Nat.lt_of_lt_of_le (show j < 64 by omega) (by decide)
          · rw [upd_ne (ne_of_none e hLD0)]
            exact s6 _ _ e
          · rw [upd_same, List.range_succ, List.filter_append, List.filter_cons_of_pos (by simpa using hin)]
            show some (HO.lst ((List.map _ _).map _ ++ [_])) = some (HO.lst ((List.map _ (_ ++ _)).map _))
            rw [List.map_append, List.map_append]
            rfl
      · obtain ⟨s6, q1, q2⟩ := k
        have hL : ∀ k, k ∈ (List.range nT).filter (fun k => decide (k ∉ ks)) ↔ k < nT ∧ k ∉ ks := fun k => by
          rw [List.mem_filter, List.mem_range]
          simp
        have hP : ((List.range nT).filter fun k => decide (k ∉ ks)).Pairwise (· < ·) := List.Pairwise.filter _ List.pairwise_lt_range
        generalize (List.range nT).filter (fun k => decide (k ∉ ks)) = L at q2 hL hP
        refine ⟨_, rfl, by show 0 ≤ sizeLine; decide, fun l1 hl1 => ?_⟩
        have s7 := same_new (o := .lst []) hl1
        have q3 := s7 _ _ q2
        refine ⟨.list ((L.map fun k : Nat => (k : Int)).map PyData.int), .list [], .lst (SqL.of q3) (dpa_ints _), .lst (SqL.of upd_same) .nil, shaped_ints _, rfl, _, rfl, ?_⟩
        rw [eqv_nil]
        cases L with
        | nil =>
          rw [show (!decide (([] : List Nat).map (fun k : Nat => (k : Int)) = [])) = false from rfl]
          refine iteF (qg (fun t ht => ?_) _ (s6.trans s7))
          by_cases c : t ∈ ks
          · exact (kb t c).2
          · exact absurd ((hL t).mpr ⟨by omega, c⟩) (by simp)
        | cons t0 rest =>
          rw [show (!decide ((t0 :: rest).map (fun k : Nat => (k : Int)) = [])) = true from by rw [decide_eq_false (by simp)]; rfl]
          refine iteT ⟨_, rfl, LD, _, 0, .int (t0 : Nat), rfl, rfl, SqL.of q3, atI_nat (j := 0) rfl, _, _, rfl, rfl, .inl ⟨by decide, by decide⟩, ?_⟩
          have h0 := (hL t0).mp List.mem_cons_self
          exact bad "apart" (3 * (t0 : Int)) _ (s6.trans s7) ⟨rfl, t0, rfl, by omega, fun z => h0.2 (all _ z), fun k hk => by
            by_cases c : k ∈ ks
            · exact (kb k c).2
            · rcases List.mem_cons.mp ((hL k).mpr ⟨by omega, c⟩) with z | z
              · omega
              · have := List.rel_of_pairwise_cons hP z
                omega⟩
    · have hz : decide (ls.map (fun k : Nat => (k : Int)) = []) = false := decide_eq_false fun z => hls (List.map_eq_nil_iff.mp z)
      rw [hz]
      refine iteT ?_
      obtain ⟨l1, t, rfl⟩ : ∃ l1 t, ls = l1 ++ [t] := ⟨ls.dropLast, ls.getLast hls, (List.dropLast_concat_getLast hls).symm⟩
      have tk : t ∈ ks := kl t (by simp)
      have tT := (kb t tk).1
      have elv : lv (l1 ++ [t]) = lv l1 ++ [.int (t : Nat)] := by
        show ((l1 ++ [t]).map _).map _ = _
        rw [List.map_append, List.map_append]
        rfl
      rw [elv] at kL
      refine ⟨fun σ' H' => ∃ m', m' < 2 * (nT - ks.length) + (l1 ++ [t]).length ∧ ∃ ks ls, Inv0 ks ls H' ∧ (∀ k ∈ ks, k ∉ ls → ∀ s' < 3, nb ms k s' ∈ ks) ∧ m' = 2 * (nT - ks.length) + ls.length ∧ ∃ w3 w4 w5 w6, σ' = [some (.ref a), some (.ref KD), some (.ref LN), w3, w4, w5, w6], fun σ' H' h => h, ?_⟩
      refine ⟨_, rfl, .inl ⟨rfl, _, SqL.of kL⟩, LN, _, .int (t : Nat), rfl, rfl, kL, by simp, ?_⟩
      rw [show (lv l1 ++ [V.int ((t : Nat) : Int)]).dropLast = lv l1 by simp]
      have s5 : Same H (upd H4 LN (.lst (lv l1))) := fun b u e => by
        rw [upd_ne (ne_of_none e hLN0)]
        exact s3 _ _ e
      have kK5 : upd H4 LN (.lst (lv l1)) KD = some (.dK (ks.map kd)) := by rw [upd_ne nKL]; exact kK
      have kL5 : upd H4 LN (.lst (lv l1)) LN = some (.lst (lv l1)) := upd_same
      generalize upd H4 LN (.lst (lv l1)) = H5 at s5 kK5 kL5 ⊢
      refine ⟨3, rfl, by decide, by decide, ?_⟩
      refine for_range (lo := 0) (n := 3) (fun j σ' H' => ∃ ks' ls', Inv0 ks' ls' H' ∧ t ∈ ks' ∧ (∀ k ∈ ks', k ∉ ls' → k ≠ t → ∀ s' < 3, nb ms k s' ∈ ks') ∧ (∀ s' < j, nb ms t s' ∈ ks') ∧ 2 * (nT - ks'.length) + ls'.length ≤ 2 * (nT - ks.length) + l1.length ∧
          ∃ w4 w5 w6, σ' = [some (.ref a), some (.ref KD), some (.ref LN), some (.int (t : Nat)), w4, w5, w6]) ⟨ks, l1, ⟨s5, kK5, kL5, k0, kb, knd, fun l hl => kl l (by simp [hl]), by rw [List.length_append, List.length_singleton] at kn; omega⟩, tk, fun k hk hn hne => kc k hk (by simp [hn, hne]), fun s' h => by omega, Nat.le_refl _, _, _, _, rfl⟩ (fun j σ' H6 hj k => ?_) (fun σ' H6 k => ?_)
      · obtain ⟨ks', ls', ⟨s6, q1, q2, q3, q4, q5, q6, q7⟩, q8, q9, q10, q11, w4, w5, w6, rfl⟩ := k
        obtain ⟨n1, n2, n3, n4⟩ := nbr tT hj
        have e0 : (0 : Int) + (j : Nat) = (j : Nat) := by omega
        rw [e0]
        refine ⟨_, rfl, a, A.c_Plan, dx, _, _, rfl, s6 _ _ h1, T.i_Plan.cl, T.na_mates, rfl, _, rfl, _, _, rfl, rfl, .inl ⟨by decide, by decide⟩, _, rfl, _, _, rfl, rfl, _, _, _, _, rfl, rfl, same_t s6 h2, atM_at n3 n4, _, _, rfl, rfl, ⟨by decide, by decide⟩, ?_⟩
        show gName 5 (V.int (atM ms (3 * (t : Int) + (j : Nat)) / 3)) _ _ _
        rw [← n2]
        refine ⟨_, rfl, _, rfl, KD, _, rfl, DGet.k (k := .inl ((nb ms t j : Nat) : Int)) q1, _, rfl, ?_⟩
        rw [kd_val]
        by_cases hin : nb ms t j ∈ ks'
        · rw [if_pos hin]
          refine iteF ⟨ks', ls', ⟨s6, q1, q2, q3, q4, q5, q6, q7⟩, q8, q9, fun s' h => ?_, q11, _, _, _, rfl⟩
          by_cases c : s' = j
          · subst c
            exact hin
          · exact q10 s' (by omega)
        · rw [if_neg hin]
          refine iteT ?_
          have nd : (ks' ++ [nb ms t j]).Nodup := by
            rw [List.nodup_append]
            exact ⟨q5, by simp, fun x hx y hy z => by
              rcases List.mem_singleton.mp hy with rfl
              exact hin (z ▸ hx)⟩
          have bd : ∀ k ∈ ks' ++ [nb ms t j], k < nT ∧ Reach ms k := fun k hk => by
            rcases List.mem_append.mp hk with hk | hk
            · exact q4 k hk
            · rcases List.mem_singleton.mp hk with rfl
              exact ⟨n1, .step (q4 t q8).2 j hj⟩
          have hle := nodup_le nd fun k hk => (bd k hk).1
          rw [List.length_append, List.length_singleton] at hle
          have hlk : (ks'.map kd).length < sizeLine := by rw [List.length_map]; exact Nat.lt_of_lt_of_le (show ks'.length < 64 by omega) (by decide)
          refine ⟨_, rfl, _, rfl, KD, _, rfl, DPut.k (k := .inl ((nb ms t j : Nat) : Int)) q1 hlk, ?_⟩
          rw [kd_put hin]
          have q2' : upd H6 KD (.dK ((ks' ++ [nb ms t j]).map kd)) LN = some (.lst (lv ls')) := by rw [upd_ne nKL.symm]; exact q2
          refine ⟨_, rfl, .inl ⟨rfl, _, SqL.of q2'⟩, _, rfl, LN, _, _, rfl, rfl, q2', ?_, ?_⟩
          · show ((ls'.map _).map _).length < sizeLine
            rw [List.length_map, List.length_map]
            exact Nat.lt_of_lt_of_le (show ls'.length < 128 by omega) (by decide)
          · refine ⟨ks' ++ [nb ms t j], ls' ++ [nb ms t j], ⟨fun b u e => ?_, by rw [upd_ne nKL, upd_same], ?_, by simp [q3], bd, nd, fun l hl => ?_, ?_⟩, by simp [q8], fun k hk hn hne s' hs' => ?_, fun s' h => ?_, ?_, _, _, _, rfl⟩
            · rw [upd_ne (ne_of_none e hLN0), upd_ne (ne_of_none e hKD)]
              exact s6 _ _ e
            · rw [upd_same]
              show some (HO.lst ((ls'.map _).map _ ++ [_])) = some (HO.lst (((ls' ++ [_]).map _).map _))
              rw [List.map_append, List.map_append]
              rfl
            · rcases List.mem_append.mp hl with hl | hl
              · exact List.mem_append_left _ (q6 l hl)
              · exact List.mem_append_right _ hl
            · rw [List.length_append, List.length_append, List.length_singleton]
              omega
            · rcases List.mem_append.mp hk with hk | hk
              · exact List.mem_append_left _ (q9 k hk (fun z => hn (List.mem_append_left _ z)) hne s' hs')
              · exact absurd (List.mem_append_right _ hk) hn
            · by_cases c : s' = j
              · subst c
                simp
              · exact List.mem_append_left _ (q10 s' (by omega))
            · simp only [List.length_append, List.length_singleton]
              omega
      · obtain ⟨ks', ls', q1, q8, q9, q10, q11, w4, w5, w6, rfl⟩ := k
        refine ⟨2 * (nT - ks'.length) + ls'.length, by rw [List.length_append, List.length_singleton]; omega, ks', ls', q1, fun k hk hn => ?_, rfl, _, _, _, _, rfl⟩
        by_cases c : k = t
        · subst c
          exact fun s' hs' => q10 s' hs'
        · exact q9 k hk hn c
end
end KP


set_option Elab.async false
set_option linter.all false
set_option maxRecDepth 100000
set_option maxHeartbeats 4000000
namespace KP
open PySem PySem.Spec PyProof.Rows L2 ClX OG
/-! ### plans made -/
def PErr (ms bs os : List Int) : Option (Str × Int) → Prop
  | some e => sizeErr ms bs os = some e ∨ (sizeErr ms bs os = none ∧ matesErr ms bs = some e) ∨ (sizeErr ms bs os = none ∧ matesErr ms bs = none ∧ ordersErr ms bs os = some e) ∨ (sizeErr ms bs os = none ∧ matesErr ms bs = none ∧ ordersErr ms bs os = none ∧ Whl ms (some e))
  | none => sizeErr ms bs os = none ∧ matesErr ms bs = none ∧ ordersErr ms bs os = none ∧ Whl ms none
def GoodP (ms bs os : List Int) : Prop := PErr ms bs os none
/-- a made plan -/
def PlanA (K : PySem.W.Frag) (C : Addr) (H : Hp) (a : Addr) (ms bs os : List Int) : Prop := PlanR K C H a ms bs os ∧ GoodP ms bs os
/-- exceptions, all but the new instance standing -/
def BadB (C : Addr) (p : Addr) (w : Str) (H : Hp) (E : XK) : Prop := ∀ d H', SameBut p H H' → H' d = some (.xd [("part", .str w)]) → E (.ref C) (some d) H'
def BadPB (C : Addr) (p : Addr) (r : Str) (i : Int) (H : Hp) (E : XK) : Prop := ∀ d H', SameBut p H H' → H' d = some (.xd [("place", .int i), ("reason", .str r)]) → E (.ref C) (some d) H'
section
variable {P : Program} {w : World} {K : PySem.W.Frag} {mg : Str → Option Value} {base : Heap} {A : Ad} {H H' : Hp} {x : V} {a : Addr} {ms bs os : List Int}
theorem PlanA.mono {C : Addr} (e : Same H H') (h : PlanA K C H a ms bs os) : PlanA K C H' a ms bs os := ⟨h.1.mono e, h.2⟩
def spPlanInit (K : PySem.W.Frag) (A : Ad) : Sp := fun vs H Q E => ∃ (p dx : Addr) (x1 x2 x3 : V) (r1 r2 r3 : Option (List Int)) (H0 : Hp), vs = [.ref p, x1, x2, x3] ∧ H p = some (.ins A.c_Plan dx []) ∧ H0 p = none ∧ Same H0 H ∧ RowV K H0 x1 r1 ∧ RowV K H0 x2 r2 ∧ RowV K H0 x3 r3 ∧
  (r1 = none → BadB A.c_BadValue p "mates" H E) ∧ (r1 ≠ none → r2 = none → BadB A.c_BadValue p "bent" H E) ∧ (r1 ≠ none → r2 ≠ none → r3 = none → BadB A.c_BadValue p "orders" H E) ∧
  ∀ ms bs os, r1 = some ms → r2 = some bs → r3 = some os → (∀ r i, PErr ms bs os (some (r, i)) → BadPB A.c_BadPlan p r i H E) ∧ (GoodP ms bs os → ∀ H', SameBut p H H' → PlanR K A.c_Plan H' p ms bs os → Q .non H')
theorem ok_Plan_init (T : Txt K mg A) : FnOk P w K mg base (L2.CX P w) 4 A.f_Plan_init A.d_Plan_init ["self", "mates", "bent", "orders"] (spPlanInit K A) := by
  refine T.F_Plan_init.okX sc_Plan_init (fun vs H Q E h => ?_) (fun cdv Ar outer s H vs Q E hr h => ?_)
  · obtain ⟨_, _, _, _, _, _, _, _, _, rfl, _⟩ := h
    rfl
  · obtain ⟨p, dx, x1, x2, x3, r1, r2, r3, H0, rfl, hp, hp0, s0, v1, v2, v3, b1, b2, b3, k⟩ := h
    refine ⟨_, (pss_cons (ps_fld (pv 0) (pe_call (ok_need_row T) (hr.mono (by decide)) rfl T.g_need_row T.F_need_row.kp (b_need_row T.F_need_row) .nil (passes_call (takes_of rfl rfl rfl rfl) fun _ _ _ _ h => h) (pa_cons pe_str (pa_cons (pv 1) pa_nil))) rfl)
      (pss_cons (ps_fld (pv 0) (pe_call (ok_need_row T) (hr.mono (by decide)) rfl T.g_need_row T.F_need_row.kp (b_need_row T.F_need_row) .nil (passes_call (takes_of rfl rfl rfl rfl) fun _ _ _ _ h => h) (pa_cons pe_str (pa_cons (pv 2) pa_nil))) rfl)
      (pss_cons (ps_fld (pv 0) (pe_call (ok_need_row T) (hr.mono (by decide)) rfl T.g_need_row T.F_need_row.kp (b_need_row T.F_need_row) .nil (passes_call (takes_of rfl rfl rfl rfl) fun _ _ _ _ h => h) (pa_cons pe_str (pa_cons (pv 3) pa_nil))) rfl)
      (pss_cons (ps_fld (pv 0) (pe_tup (pa_cons (pe_fld (pv 0) rfl) (pa_cons (pe_fld (pv 0) rfl) (pa_cons (pe_fld (pv 0) rfl) pa_nil)))) rfl)
      (pss_cons (ps_expr (pe_call (ok_need_size T) (hr.mono (by decide)) rfl T.g_need_size T.F_need_size.kp (b_need_size T.F_need_size) .nil (passes_call (takes_of rfl rfl rfl rfl) fun _ _ _ _ h => h) (pa_cons (pv 0) pa_nil)))
      (pss_cons (ps_expr (pe_call (ok_need_mates T) (hr.mono (by decide)) rfl T.g_need_mates T.F_need_mates.kp (b_need_mates T.F_need_mates) .nil (passes_call (takes_of rfl rfl rfl rfl) fun _ _ _ _ h => h) (pa_cons (pv 0) pa_nil)))
      (pss_cons (ps_expr (pe_call (ok_need_orders T) (hr.mono (by decide)) rfl T.g_need_orders T.F_need_orders.kp (b_need_orders T.F_need_orders) .nil (passes_call (takes_of rfl rfl rfl rfl) fun _ _ _ _ h => h) (pa_cons (pv 0) pa_nil)))
      (pss_one (ps_expr (pe_call (ok_need_whole T) (hr.mono (by decide)) rfl T.g_need_whole T.F_need_whole.kp (b_need_whole T.F_need_whole) .nil (passes_call (takes_of rfl rfl rfl rfl) fun _ _ _ _ h => h) (pa_cons (pv 0) pa_nil))))))))))), ?_⟩
    have put : ∀ {H1 : Hp} {fs : List (Str × V)} {f : Str} {v : V}, SameBut p H H1 → Same H0 H1 → SameBut p H (upd H1 p (.ins A.c_Plan dx (putF f v fs))) ∧ Same H0 (upd H1 p (.ins A.c_Plan dx (putF f v fs))) := fun {H1 fs f v} b s => ⟨b.trans sameBut_upd, fun c u e => by rw [upd_ne (ne_of_none e hp0)]; exact s _ _ e⟩
    refine ⟨_, rfl, "mates", x1, r1, rfl, v1.mono s0, fun hn => fun d H' s h => b1 hn d H' s.but h, fun ms e1 l1 t1 H1 s1 q1 => ?_⟩
    refine ⟨_, rfl, p, A.c_Plan, dx, [], rfl, s1 _ _ hp, T.i_Plan.cl, T.na_mates, by show 0 < 1000; decide, ?_⟩
    obtain ⟨u1, z1⟩ := put (fs := []) (f := "mates") (v := .ref t1) s1.but (s0.trans s1)
    have g1 := sqt_but (sameBut_upd (p := p) (o := .ins A.c_Plan dx (putF "mates" (.ref t1) []))) (s1 _ _ hp) q1
    have p1 : upd H1 p (.ins A.c_Plan dx (putF "mates" (.ref t1) [])) p = some (.ins A.c_Plan dx [("mates", .ref t1)]) := upd_same
    generalize upd H1 p (.ins A.c_Plan dx (putF "mates" (.ref t1) [])) = H2 at u1 z1 g1 p1 ⊢
    refine ⟨_, rfl, "bent", x2, r2, rfl, v2.mono z1, fun hn => fun d H' s h => b2 (by rw [e1]; exact fun z => nomatch z) hn d H' (u1.trans s.but) h, fun bs e2 l2 t2 H3 s3 q2 => ?_⟩
    refine ⟨_, rfl, p, A.c_Plan, dx, _, rfl, s3 _ _ p1, T.i_Plan.cl, T.na_bent, by show 1 < 1000; decide, ?_⟩
    obtain ⟨u2, z2⟩ := put (fs := [("mates", .ref t1)]) (f := "bent") (v := .ref t2) (u1.trans s3.but) (z1.trans s3)
    have g1 := sqt_but (sameBut_upd (p := p) (o := .ins A.c_Plan dx (putF "bent" (.ref t2) [("mates", .ref t1)]))) (s3 _ _ p1) (same_t s3 g1)
    have g2 := sqt_but (sameBut_upd (p := p) (o := .ins A.c_Plan dx (putF "bent" (.ref t2) [("mates", .ref t1)]))) (s3 _ _ p1) q2
    have p2 : upd H3 p (.ins A.c_Plan dx (putF "bent" (.ref t2) [("mates", .ref t1)])) p = some (.ins A.c_Plan dx [("mates", .ref t1), ("bent", .ref t2)]) := upd_same
    generalize upd H3 p (.ins A.c_Plan dx (putF "bent" (.ref t2) [("mates", .ref t1)])) = H4 at u2 z2 g1 g2 p2 ⊢
    refine ⟨_, rfl, "orders", x3, r3, rfl, v3.mono z2, fun hn => fun d H' s h => b3 (by rw [e1]; exact fun z => nomatch z) (by rw [e2]; exact fun z => nomatch z) hn d H' (u2.trans s.but) h, fun os e3 l3 t3 H5 s5 q3 => ?_⟩
    refine ⟨_, rfl, p, A.c_Plan, dx, _, rfl, s5 _ _ p2, T.i_Plan.cl, T.na_orders, by show 2 < 1000; decide, ?_⟩
    obtain ⟨u3, z3⟩ := put (fs := [("mates", .ref t1), ("bent", .ref t2)]) (f := "orders") (v := .ref t3) (u2.trans s5.but) (z2.trans s5)
    have g1 := sqt_but (sameBut_upd (p := p) (o := .ins A.c_Plan dx (putF "orders" (.ref t3) [("mates", .ref t1), ("bent", .ref t2)]))) (s5 _ _ p2) (same_t s5 g1)
    have g2 := sqt_but (sameBut_upd (p := p) (o := .ins A.c_Plan dx (putF "orders" (.ref t3) [("mates", .ref t1), ("bent", .ref t2)]))) (s5 _ _ p2) (same_t s5 g2)
    have g3 := sqt_but (sameBut_upd (p := p) (o := .ins A.c_Plan dx (putF "orders" (.ref t3) [("mates", .ref t1), ("bent", .ref t2)]))) (s5 _ _ p2) q3
    have p3 : upd H5 p (.ins A.c_Plan dx (putF "orders" (.ref t3) [("mates", .ref t1), ("bent", .ref t2)])) p = some (.ins A.c_Plan dx [("mates", .ref t1), ("bent", .ref t2), ("orders", .ref t3)]) := upd_same
    generalize upd H5 p (.ins A.c_Plan dx (putF "orders" (.ref t3) [("mates", .ref t1), ("bent", .ref t2)])) = H6 at u3 z3 g1 g2 g3 p3 ⊢
    refine ⟨_, rfl, p, A.c_Plan, dx, _, _, rfl, p3, T.i_Plan.cl, T.na_mates, rfl, _, rfl, p, A.c_Plan, dx, _, _, rfl, p3, T.i_Plan.cl, T.na_bent, rfl, _, rfl, p, A.c_Plan, dx, _, _, rfl, p3, T.i_Plan.cl, T.na_orders, rfl, three_line, fun t4 h4 => ?_⟩
    have s4 := same_new (o := .tup [.ref t1, .ref t2, .ref t3]) h4
    refine ⟨_, rfl, p, A.c_Plan, dx, _, rfl, s4 _ _ p3, T.i_Plan.cl, T.na_parts, by show 3 < 1000; decide, ?_⟩
    have n4 : t4 ≠ p := fun z => by rw [z, p3] at h4; cases h4
    obtain ⟨u4, z4⟩ := put (fs := [("mates", .ref t1), ("bent", .ref t2), ("orders", .ref t3)]) (f := "parts") (v := .ref t4) (u3.trans s4.but) (z3.trans s4)
    have bu := sameBut_upd (p := p) (H := upd H6 t4 (.tup [.ref t1, .ref t2, .ref t3])) (o := .ins A.c_Plan dx (putF "parts" (.ref t4) [("mates", .ref t1), ("bent", .ref t2), ("orders", .ref t3)]))
    have g1 := sqt_but bu (s4 _ _ p3) (same_t s4 g1)
    have g2 := sqt_but bu (s4 _ _ p3) (same_t s4 g2)
    have g3 := sqt_but bu (s4 _ _ p3) (same_t s4 g3)
    have g4 := bu _ _ n4 upd_same
    have p4 : upd (upd H6 t4 (.tup [.ref t1, .ref t2, .ref t3])) p (.ins A.c_Plan dx (putF "parts" (.ref t4) [("mates", .ref t1), ("bent", .ref t2), ("orders", .ref t3)])) p = some (.ins A.c_Plan dx (flds t1 t2 t3 t4)) := upd_same
    generalize upd (upd H6 t4 (.tup [.ref t1, .ref t2, .ref t3])) p (.ins A.c_Plan dx (putF "parts" (.ref t4) [("mates", .ref t1), ("bent", .ref t2), ("orders", .ref t3)])) = H7 at u4 z4 g1 g2 g3 g4 p4 ⊢
    have hP : PlanR K A.c_Plan H7 p ms bs os := ⟨dx, t1, t2, t3, t4, p4, g1, g2, g3, g4, l1, l2, l3⟩
    obtain ⟨kb, kg⟩ := k ms bs os e1 e2 e3
    have bad : ∀ {H8 : Hp} {r : Str} {i : Int}, Same H7 H8 → PErr ms bs os (some (r, i)) → BadP A.c_BadPlan r i H8 E := fun {H8 r i} s8 h d H' s h' => kb r i h d H' (u4.trans (s8.trans s).but) h'
    refine ⟨_, rfl, p, ms, bs, os, rfl, hP, trivial, fun r i e => bad (Same.refl _) (.inl e), fun es H8 s8 => ?_⟩
    refine ⟨_, rfl, p, ms, bs, os, rfl, hP.mono s8, es, fun r i e => bad s8 (.inr (.inl ⟨es, e⟩)), fun em H9 s9 => ?_⟩
    have s89 := s8.trans s9
    refine ⟨_, rfl, p, ms, bs, os, rfl, hP.mono s89, ⟨es, em⟩, fun r i e => bad s89 (.inr (.inr (.inl ⟨es, em, e⟩))), fun eo H10 s10 => ?_⟩
    have s810 := s89.trans s10
    exact ⟨_, rfl, p, ms, bs, os, rfl, hP.mono s810, es, em, fun r i e => bad s810 (.inr (.inr (.inr ⟨es, em, eo, e⟩))), fun ew H11 s11 => kg ⟨es, em, eo, ew⟩ H11 (u4.trans (s810.trans s11).but) (hP.mono (s810.trans s11))⟩
/-- Plan(x1, x2, x3): what is wished of it -/
theorem make_go {Q : VK} {E : XK} {r1 r2 r3 : Option (List Int)} {x1 x2 x3 : V} {a dx : Addr} (ha : H a = none) (hd : H dx = none) (hn : dx ≠ a) (v1 : RowV K H x1 r1) (v2 : RowV K H x2 r2) (v3 : RowV K H x3 r3)
    (b1 : r1 = none → BadE A.c_BadValue "mates" H E) (b2 : r1 ≠ none → r2 = none → BadE A.c_BadValue "bent" H E) (b3 : r1 ≠ none → r2 ≠ none → r3 = none → BadE A.c_BadValue "orders" H E)
    (k : ∀ ms bs os, r1 = some ms → r2 = some bs → r3 = some os → (∀ r i, PErr ms bs os (some (r, i)) → BadP A.c_BadPlan r i H E) ∧ (GoodP ms bs os → ∀ H', Same H H' → PlanA K A.c_Plan H' a ms bs os → Q .non H')) :
    spPlanInit K A (.ref a :: ([x1, x2, x3] ++ [])) (upd (upd H dx (.own a)) a (.ins A.c_Plan dx [])) Q E := by
  refine ⟨a, dx, x1, x2, x3, r1, r2, r3, H, rfl, upd_same, ha, fun b u e => ?_, v1, v2, v3, fun h d H' sb h' => b1 h d H' (sb.made ha hd) h', fun h h2 d H' sb h' => b2 h h2 d H' (sb.made ha hd) h', fun h h2 h3 d H' sb h' => b3 h h2 h3 d H' (sb.made ha hd) h', fun ms bs os e1 e2 e3 => ?_⟩
  · rw [upd_ne (ne_of_none e ha), upd_ne (ne_of_none e hd)]
    exact e
  · obtain ⟨kb, kg⟩ := k ms bs os e1 e2 e3
    exact ⟨fun r i h d H' sb h' => kb r i h d H' (sb.made ha hd) h', fun g H' sb hP => kg g H' (sb.made ha hd) ⟨hP, g⟩⟩
/-- .. of right rows -/
theorem make_good {Q : VK} {E : XK} {x1 x2 x3 : V} {a dx : Addr} (ha : H a = none) (hd : H dx = none) (hn : dx ≠ a) (v1 : RowV K H x1 (some ms)) (v2 : RowV K H x2 (some bs)) (v3 : RowV K H x3 (some os)) (g : GoodP ms bs os)
    (k : ∀ H', Same H H' → PlanA K A.c_Plan H' a ms bs os → Q .non H') : spPlanInit K A (.ref a :: ([x1, x2, x3] ++ [])) (upd (upd H dx (.own a)) a (.ins A.c_Plan dx [])) Q E :=
  make_go ha hd hn v1 v2 v3 nofun (fun _ => nofun) (fun _ _ => nofun) fun ms' bs' os' e1 e2 e3 => by
    cases e1
    cases e2
    cases e3
    refine ⟨fun r i h => ?_, fun _ => k⟩
    exfalso
    obtain ⟨g1, g2, g3, g4⟩ := g
    rcases h with h | ⟨_, h⟩ | ⟨_, _, h⟩ | ⟨_, _, _, h⟩
    · rw [g1] at h
      cases h
    · rw [g2] at h
      cases h
    · rw [g3] at h
      cases h
    · obtain ⟨_, t, _, h1, h2, _⟩ := h
      exact h2 (g4 t h1)
def spOf (K : PySem.W.Frag) (A : Ad) : Sp := fun vs H Q _ => ∃ (l : Addr) (x1 x2 x3 : V) (ms bs os : List Int), vs = [.ref A.c_Plan, .ref l] ∧ SqS K H l [x1, x2, x3] ∧ RowV K H x1 (some ms) ∧ RowV K H x2 (some bs) ∧ RowV K H x3 (some os) ∧ GoodP ms bs os ∧
  ∀ a H', Same H H' → PlanA K A.c_Plan H' a ms bs os → Q (.ref a) H'
theorem ok_Plan_of (T : Txt K mg A) : FnOk P w K mg base (L2.CX P w) 6 A.f_Plan_of A.d_Plan_of ["cls", "parts"] (spOf K A) := by
  refine T.F_Plan_of.okX sc_Plan_of (fun vs H Q E h => ?_) (fun cdv Ar outer s H vs Q E hr h => ?_)
  · obtain ⟨_, _, _, _, _, _, _, rfl, _⟩ := h
    rfl
  · obtain ⟨l, x1, x2, x3, ms, bs, os, rfl, hq, v1, v2, v3, g, q⟩ := h
    refine ⟨_, (pss_cons (ps_if (PW.pt (pw_or (pt_not (pt_val (pe_callB (id := "isinstance") (r := rIsiT K) call_isiT (by rfl) T.n_isinstance (by decide +kernel) (pa_cons (pv 1) (pa_cons (pe_tup (pa_cons (pe_bltn (v := .ty "list") (by rfl) T.n_list (by decide +kernel) rfl) (pa_cons (pe_bltn (v := .ty "tuple") (by rfl) T.n_tuple (by decide +kernel) rfl) pa_nil))) pa_nil))))) (pw_or1 (pt_cmpR op_ne (pe_callB call_len (by rfl) T.n_len (by decide +kernel) (pa_cons (pv 1) pa_nil)) pe_int (nomark _))))) (pss_one (ps_raise rfl (takes_of rfl rfl rfl rfl) (pmk_oex T.o_BadValue T.i_BadValue T.t_BadValue (ok_BadValue_init T) (hr.mono (by decide)) (b_BadValue_init T.F_BadValue_init) .nil pass0 rfl T.g_BadValue (pa_cons pe_str pa_nil)))) pss_nil)
      (pss_one (ps_ret (pe_makeL (i := 0) T.mk_Plan (ok_Plan_init T) (hr.mono (by decide)) rfl (Or.inl rfl) (b_Plan_init T.F_Plan_init) (passes_call (takes_of rfl rfl rfl rfl) fun _ _ _ _ h => h) (pa_cons (pe_ix ix_seq (pv 1) pe_int (fun _ _ => rfl)) (pa_cons (pe_ix ix_seq (pv 1) pe_int (fun _ _ => rfl)) (pa_cons (pe_ix ix_seq (pv 1) pe_int (fun _ _ => rfl)) pa_nil))))))), ?_⟩
    refine ⟨_, rfl, two_line, fun tp htp => ?_⟩
    have s1 : Same H (upd H tp (.tup [.ty "list", .ty "tuple"])) := same_new htp
    generalize hH1 : upd H tp (.tup [.ty "list", .ty "tuple"]) = H1 at s1
    have htp1 : H1 tp = some (.tup [.ty "list", .ty "tuple"]) := by rw [← hH1]; exact upd_same
    have hq1 := same_s s1 hq
    obtain ⟨t, ty, ka⟩ := seq_kit hq1
    refine ⟨_, tp, _, t, _, _, rfl, htp1, pcl2, ty, ka, _, rfl, iteF ⟨_, rfl, _, 3, rfl, len_s hq1, rfl, _, rfl, ?_⟩⟩
    rw [show decide (V.int ((3 : Nat) : Int) = V.int 3) = true from decide_eq_true rfl]
    refine iteF ⟨rfl, _, rfl, rix_s hq1 (atI_nat (j := 0) rfl) ⟨_, rfl, rix_s hq1 (atI_nat (j := 1) rfl) ⟨_, rfl, rix_s hq1 (atI_nat (j := 2) rfl) fun a dx ha hd hn => ?_⟩⟩⟩
    exact make_good ha hd hn (v1.mono s1) (v2.mono s1) (v3.mono s1) g fun H' s' hP => ⟨rfl, q a H' (s1.trans s') hP⟩
/-! ### plans compared -/
inductive IsPlan (K : PySem.W.Frag) (A : Ad) (H : Hp) : V → Option (List Int × List Int × List Int) → Prop
  | plan {a : Addr} {ms bs os : List Int} (h : PlanR K A.c_Plan H a ms bs os) : IsPlan K A H (.ref a) (some (ms, bs, os))
  | no {x : V} {t : Value} (h : TyX K H x t) (k : PySem.W.kitOne K t (.ref A.c_Plan) = some false) : IsPlan K A H x none
def dRow (ns : List Int) : PyData := .tuple (ns.map PyData.int)
def dP (ms bs os : List Int) : PyData := .tuple [dRow ms, dRow bs, dRow os]
theorem eqv_dP (ms bs os ms' bs' os' : List Int) : PyData.eqv (dP ms bs os) (dP ms' bs' os') = decide ((ms, bs, os) = (ms', bs', os')) := by
  have e : ∀ xs ys : List Int, PyData.eqv (dRow xs) (dRow ys) = decide (xs = ys) := fun xs ys => eqv_ints xs ys
  show (PyData.eqv (dRow ms) (dRow ms') && (PyData.eqv (dRow bs) (dRow bs') && (PyData.eqv (dRow os) (dRow os') && true))) = _
  rw [e, e, e, Bool.eq_iff_iff, decide_eq_true_iff]
  simp
theorem shaped_dP (ms bs os : List Int) : SeqAt.shaped (dP ms bs os) = true := by
  have l : ∀ xs : List Int, PyData.canLay0 (dRow xs) = true := fun xs => lay_ints xs
  have d : ∀ xs : List Int, PyData.depth (dRow xs) = 1 := fun xs => by
    show PyData.depthAll _ + 1 = 1
    rw [depth_ints]
  refine Bool.and_eq_true_iff.mpr ⟨?_, decide_eq_true ?_⟩
  · show (PyData.canLay0 (dRow ms) && (PyData.canLay0 (dRow bs) && (PyData.canLay0 (dRow os) && true))) = true
    rw [l, l, l]
    rfl
  · show Nat.max (PyData.depth (dRow ms)) (Nat.max (PyData.depth (dRow bs)) (Nat.max (PyData.depth (dRow os)) 0)) + 1 ≤ 64
    rw [d, d, d]
    decide
theorem dp_row {t : Addr} {ns : List Int} (h : SqT K H t (ns.map V.int)) : Dp K H (.ref t) (dRow ns) := .tup h (dpa_ints ns)
def spEq (K : PySem.W.Frag) (A : Ad) : Sp := fun vs H Q _ => ∃ (a : Addr) (ms bs os : List Int) (y : V) (r : Option (List Int × List Int × List Int)), vs = [.ref a, y] ∧ PlanR K A.c_Plan H a ms bs os ∧ IsPlan K A H y r ∧ Q (.bl (decide (some (ms, bs, os) = r))) H
theorem ok_Plan_eq (T : Txt K mg A) : FnOk P w K mg base CX0 1 A.f_Plan_eq A.d_Plan_eq ["self", "other"] (spEq K A) := by
  refine T.F_Plan_eq.ok sc_Plan_eq (fun vs H Q E h => ?_) (fun cdv Ar outer s H vs Q E hr h => ?_)
  · obtain ⟨_, _, _, _, _, _, rfl, _⟩ := h
    rfl
  · obtain ⟨a, ms, bs, os, y, r, rfl, hm, hy, q⟩ := h
    refine ⟨_, (pss_one (ps_ret (pe_and (pe_callB (id := "isinstance") (r := rIsi K) call_isi (by rfl) T.n_isinstance (by decide +kernel) (pa_cons (pv 1) (pa_cons (pe_glob (v := .ref A.c_Plan) rfl T.g_Plan rfl) pa_nil))) (pe_one (pe_cmpR (op_eqD (un64 hr)) (pe_fld (pv 0) rfl) (pe_fld (pv 1) rfl) (nomark _)))))), ?_⟩
    cases hy with
    | no h k =>
      rw [decide_eq_false (fun z => nomatch z)] at q
      exact ⟨_, rfl, _, .ref A.c_Plan, _, .ref A.c_Plan, _, rfl, .own _, h, k, _, rfl, iteF q⟩
    | @plan b ms' bs' os' hb =>
      obtain ⟨dx, t1, t2, t3, t4, h1, h2, h3, h4, h5, h6⟩ := hm
      obtain ⟨dy, u1, u2, u3, u4, g1, g2, g3, g4, g5, g6⟩ := hb
      refine ⟨_, rfl, _, .ref A.c_Plan, _, .ref A.c_Plan, true, rfl, .own _, T.i_Plan.ty g1, ?_, _, rfl, iteT ?_⟩
      · unfold PySem.W.kitOne
        rw [if_pos (by simp)]
      · refine ⟨_, rfl, a, A.c_Plan, dx, _, _, rfl, h1, T.i_Plan.cl, T.na_parts, rfl, _, rfl, b, A.c_Plan, dy, _, _, rfl, g1, T.i_Plan.cl, T.na_parts, rfl, dP ms bs os, dP ms' bs' os', .tup (.inl (.inl h5)) (.cons (dp_row h2) (.cons (dp_row h3) (.cons (dp_row h4) .nil))), .tup (.inl (.inl g5)) (.cons (dp_row g2) (.cons (dp_row g3) (.cons (dp_row g4) .nil))), shaped_dP _ _ _, shaped_dP _ _ _, ?_⟩
        rw [eqv_dP]
        have e : decide (some (ms, bs, os) = some (ms', bs', os')) = decide ((ms, bs, os) = (ms', bs', os')) := by
          rw [Bool.eq_iff_iff, decide_eq_true_iff, decide_eq_true_iff]
          exact ⟨fun h => Option.some.inj h, fun h => congrArg some h⟩
        rw [← e]
        exact q
end
end KP


set_option Elab.async false
set_option linter.all false
set_option maxRecDepth 100000
set_option maxHeartbeats 4000000
set_option exponentiation.threshold 10000
namespace KP
open PySem PySem.Spec PyProof.Rows L2 ClX OG
abbrev s_law_pen : Stmt := top 24
abbrev N_law_pen : List Str := ["script", "cell"]
theorem sc_law_pen : FnScope ["script", "cell"] ["script"] (defScope s_law_pen) := ⟨rfl, rfl, rfl, by decide +kernel, rfl, by decide +kernel, by decide +kernel⟩
abbrev s_law_draw : Stmt := top 25
abbrev N_law_draw : List Str := ["pen", "many", "rest", "at", "cell", "mixed"]
theorem sc_law_draw : FnScope ["pen", "many", "rest", "at", "cell", "mixed"] ["pen", "many"] (defScope s_law_draw) := ⟨rfl, rfl, rfl, by decide +kernel, rfl, by decide +kernel, by decide +kernel⟩
abbrev s_law_pick : Stmt := top 26
abbrev N_law_pick : List Str := ["pen", "some"]
theorem sc_law_pick : FnScope ["pen", "some"] ["pen", "some"] (defScope s_law_pick) := ⟨rfl, rfl, rfl, by decide +kernel, rfl, by decide +kernel, by decide +kernel⟩
abbrev s_law_joined : Stmt := top 27
abbrev N_law_joined : List Str := ["pen", "rows", "one", "other"]
theorem sc_law_joined : FnScope ["pen", "rows", "one", "other"] ["pen", "rows", "one", "other"] (defScope s_law_joined) := ⟨rfl, rfl, rfl, by decide +kernel, rfl, by decide +kernel, by decide +kernel⟩
abbrev s_law_glued : Stmt := top 28
abbrev N_law_glued : List Str := ["pen", "many", "bends", "walls", "rows", "free", "piece", "one", "fresh"]
theorem sc_law_glued : FnScope ["pen", "many", "bends", "walls", "rows", "free", "piece", "one", "fresh"] ["pen", "many", "bends", "walls"] (defScope s_law_glued) := ⟨rfl, rfl, rfl, by decide +kernel, rfl, by decide +kernel, by decide +kernel⟩
abbrev s_law_next : Stmt := top 29
abbrev N_law_next : List Str := ["spot"]
theorem sc_law_next : FnScope ["spot"] ["spot"] (defScope s_law_next) := ⟨rfl, rfl, rfl, by decide +kernel, rfl, by decide +kernel, by decide +kernel⟩
abbrev s_law_lots : Stmt := top 30
abbrev N_law_lots : List Str := ["mates", "bent", "found", "old", "one", "other", "tips", "first", "last", "low"]
theorem sc_law_lots : FnScope ["mates", "bent", "found", "old", "one", "other", "tips", "first", "last", "low"] ["mates", "bent"] (defScope s_law_lots) := ⟨rfl, rfl, rfl, by decide +kernel, rfl, by decide +kernel, by decide +kernel⟩
abbrev s_law_marked : Stmt := top 31
abbrev N_law_marked : List Str := ["pen", "lots", "menu", "told", "lot"]
theorem sc_law_marked : FnScope ["pen", "lots", "menu", "told", "lot"] ["pen", "lots", "menu"] (defScope s_law_marked) := ⟨rfl, rfl, rfl, by decide +kernel, rfl, by decide +kernel, by decide +kernel⟩
abbrev s_law_drawn : Stmt := top 32
abbrev N_law_drawn : List Str := ["pen", "most", "many", "mates", "bent"]
theorem sc_law_drawn : FnScope ["pen", "most", "many", "mates", "bent"] ["pen", "most"] (defScope s_law_drawn) := ⟨rfl, rfl, rfl, by decide +kernel, rfl, by decide +kernel, by decide +kernel⟩
abbrev s_law_heard : Stmt := top 33
abbrev N_law_heard : List Str := ["ask_it", "found", "caught", "error"]
theorem sc_law_heard : FnScope ["ask_it", "found", "caught", "error"] ["ask_it"] (defScope s_law_heard) := ⟨rfl, rfl, rfl, by decide +kernel, rfl, by decide +kernel, by decide +kernel⟩
abbrev s_law_made_right : Stmt := top 34
abbrev N_law_made_right : List Str := ["rows", "row", "passed", "plan", "other", "walls", "edges", "spot"]
theorem sc_law_made_right : FnScope ["rows", "row", "passed", "plan", "other", "walls", "edges", "spot"] ["rows"] (defScope s_law_made_right) := ⟨rfl, rfl, rfl, by decide +kernel, rfl, by decide +kernel, by decide +kernel⟩
abbrev s_law : Stmt := top 35
abbrev N_law : List Str := ["script", "pen", "turn", "rows", "plan", "lots", "spot", "others", "mate", "bends", "other", "steps", "swaps", "at", "bend", "order", "lot"]
theorem sc_law : FnScope ["script", "pen", "turn", "rows", "plan", "lots", "spot", "others", "mate", "bends", "other", "steps", "swaps", "at", "bend", "order", "lot"] ["script"] (defScope s_law) := ⟨rfl, rfl, rfl, by decide +kernel, rfl, by decide +kernel, by decide +kernel⟩

structure LawT (K : PySem.W.Frag) (mg : Str → Option Value) (A : Ad) : Prop extends Txt K mg A where
  F_law_pen : Fun K "_law_pen" "_law_pen" s_law_pen A.f_law_pen A.d_law_pen
  g_law_pen : mg "_law_pen" = some (.ref A.f_law_pen)
  F_law_draw : Fun K "_law_draw" "_law_draw" s_law_draw A.f_law_draw A.d_law_draw
  g_law_draw : mg "_law_draw" = some (.ref A.f_law_draw)
  F_law_pick : Fun K "_law_pick" "_law_pick" s_law_pick A.f_law_pick A.d_law_pick
  g_law_pick : mg "_law_pick" = some (.ref A.f_law_pick)
  F_law_joined : Fun K "_law_joined" "_law_joined" s_law_joined A.f_law_joined A.d_law_joined
  g_law_joined : mg "_law_joined" = some (.ref A.f_law_joined)
  F_law_glued : Fun K "_law_glued" "_law_glued" s_law_glued A.f_law_glued A.d_law_glued
  g_law_glued : mg "_law_glued" = some (.ref A.f_law_glued)
  F_law_next : Fun K "_law_next" "_law_next" s_law_next A.f_law_next A.d_law_next
  g_law_next : mg "_law_next" = some (.ref A.f_law_next)
  F_law_lots : Fun K "_law_lots" "_law_lots" s_law_lots A.f_law_lots A.d_law_lots
  g_law_lots : mg "_law_lots" = some (.ref A.f_law_lots)
  F_law_marked : Fun K "_law_marked" "_law_marked" s_law_marked A.f_law_marked A.d_law_marked
  g_law_marked : mg "_law_marked" = some (.ref A.f_law_marked)
  F_law_drawn : Fun K "_law_drawn" "_law_drawn" s_law_drawn A.f_law_drawn A.d_law_drawn
  g_law_drawn : mg "_law_drawn" = some (.ref A.f_law_drawn)
  F_law_heard : Fun K "_law_heard" "_law_heard" s_law_heard A.f_law_heard A.d_law_heard
  g_law_heard : mg "_law_heard" = some (.ref A.f_law_heard)
  F_law_made_right : Fun K "_law_made_right" "_law_made_right" s_law_made_right A.f_law_made_right A.d_law_made_right
  g_law_made_right : mg "_law_made_right" = some (.ref A.f_law_made_right)
  n_abs : mg "abs" = none
  n_repr : mg "repr" = none
  n_min : mg "min" = none
  n_sorted : mg "sorted" = none
  n_set : mg "set" = none
  n_dict : mg "dict" = none
  n_zip : mg "zip" = none
  nf_Plan : PySem.W.notFirst K A.c_Plan (.ref A.c_Plan) = true
  nf_list : PySem.W.notFirst K A.c_Plan (.type "list") = true
  nf_tuple : PySem.W.notFirst K A.c_Plan (.type "tuple") = true
  nf_none : PySem.W.notFirst K A.c_Plan (.type "NoneType") = true

section
variable {P : Program} {w : World} {K : PySem.W.Frag} {mg : Str → Option Value} {base : Heap} {A : Ad}
theorem b_law_pen {f : Addr} {fd : FuncData} (F : Fun K "_law_pen" "_law_pen" s_law_pen f fd) : L2.Binds K fd ["script"] [] := F.binds (ps := ["script"]) fun _ _ _ _ _ _ us hl => match us, hl with | [_], _ => rfl
theorem b_law_draw {f : Addr} {fd : FuncData} (F : Fun K "_law_draw" "_law_draw" s_law_draw f fd) : L2.Binds K fd ["pen", "many"] [] := F.binds (ps := ["pen", "many"]) fun _ _ _ _ _ _ us hl => match us, hl with | [_, _], _ => rfl
theorem b_law_pick {f : Addr} {fd : FuncData} (F : Fun K "_law_pick" "_law_pick" s_law_pick f fd) : L2.Binds K fd ["pen", "some"] [] := F.binds (ps := ["pen", "some"]) fun _ _ _ _ _ _ us hl => match us, hl with | [_, _], _ => rfl
theorem b_law_joined {f : Addr} {fd : FuncData} (F : Fun K "_law_joined" "_law_joined" s_law_joined f fd) : L2.Binds K fd ["pen", "rows", "one", "other"] [] := F.binds (ps := ["pen", "rows", "one", "other"]) fun _ _ _ _ _ _ us hl => match us, hl with | [_, _, _, _], _ => rfl
theorem b_law_glued {f : Addr} {fd : FuncData} (F : Fun K "_law_glued" "_law_glued" s_law_glued f fd) : L2.Binds K fd ["pen", "many", "bends", "walls"] [] := F.binds (ps := ["pen", "many", "bends", "walls"]) fun _ _ _ _ _ _ us hl => match us, hl with | [_, _, _, _], _ => rfl
theorem b_law_next {f : Addr} {fd : FuncData} (F : Fun K "_law_next" "_law_next" s_law_next f fd) : L2.Binds K fd ["spot"] [] := F.binds (ps := ["spot"]) fun _ _ _ _ _ _ us hl => match us, hl with | [_], _ => rfl
theorem b_law_lots {f : Addr} {fd : FuncData} (F : Fun K "_law_lots" "_law_lots" s_law_lots f fd) : L2.Binds K fd ["mates", "bent"] [] := F.binds (ps := ["mates", "bent"]) fun _ _ _ _ _ _ us hl => match us, hl with | [_, _], _ => rfl
theorem b_law_marked {f : Addr} {fd : FuncData} (F : Fun K "_law_marked" "_law_marked" s_law_marked f fd) : L2.Binds K fd ["pen", "lots", "menu"] [] := F.binds (ps := ["pen", "lots", "menu"]) fun _ _ _ _ _ _ us hl => match us, hl with | [_, _, _], _ => rfl
theorem b_law_drawn {f : Addr} {fd : FuncData} (F : Fun K "_law_drawn" "_law_drawn" s_law_drawn f fd) : L2.Binds K fd ["pen", "most"] [] := F.binds (ps := ["pen", "most"]) fun _ _ _ _ _ _ us hl => match us, hl with | [_, _], _ => rfl
theorem b_law_heard {f : Addr} {fd : FuncData} (F : Fun K "_law_heard" "_law_heard" s_law_heard f fd) : L2.Binds K fd ["ask_it"] [] := F.binds (ps := ["ask_it"]) fun _ _ _ _ _ _ us hl => match us, hl with | [_], _ => rfl
theorem b_law_made_right {f : Addr} {fd : FuncData} (F : Fun K "_law_made_right" "_law_made_right" s_law_made_right f fd) : L2.Binds K fd ["rows"] [] := F.binds (ps := ["rows"]) fun _ _ _ _ _ _ us hl => match us, hl with | [_], _ => rfl
def spPen (K : PySem.W.Frag) : Sp := fun vs H Q _ => ∃ (a : Addr) (ns : List Int), vs = [.ref a] ∧ SqL K H a (ns.map V.int) ∧ ∀ p H', Same H H' → H p = none → PenK H' p 0 → Q (.ref p) H'
theorem ok_law_pen (T : LawT K mg A) : FnOk P w K mg base CX0 1 A.f_law_pen A.d_law_pen ["script"] (spPen K) := by
  refine T.F_law_pen.ok sc_law_pen (fun vs H Q E h => ?_) (fun cdv Ar outer s H vs Q E hr h => ?_)
  · obtain ⟨_, _, rfl, _⟩ := h
    rfl
  · obtain ⟨a, ns, rfl, hq, q⟩ := h
    refine ⟨_, (pss_one (ps_ret (pe_lst (pa_cons (pe_lc (own := [("cell", 1)]) (g := gName 1) (by rfl) sc_law_pen.nd (pi_seqW (pe_slice sl_list (pv 0) po_none (po_some pe_int))) (blkOk_by (own := [("cell", 1)]) (N := N_law_pen) (sc := defScope s_law_pen) (by decide +kernel)) (fun _ _ _ _ _ => pg_name (i := 1) sc_law_pen.nd rfl (Or.inl rfl)) (fun _ _ _ _ _ => pts_nil) (fun _ _ _ _ _ => (pe_callTy (T := "int") call_int1 (by rfl) T.n_int (by decide +kernel) (pa_cons (pv 1) pa_nil)))) (pa_cons pe_int (pa_cons pe_int pa_nil)))))), ?_⟩
    refine ⟨_, rfl, _, rfl, a, _, rfl, hq, fun p1 h1 => ⟨p1, _, rfl, .inl (SqL.of upd_same), fun J wk => ?_⟩⟩
    have e1 := same_new (o := .lst (cutV (ns.map V.int) none (some 63))) h1
    have hz : (cutV (ns.map V.int) none (some 63)).length ≤ 63 := by
      rw [cutI_is, List.length_map]
      unfold cutI
      rw [List.length_take]
      have : HT.sIx (ns.map V.int).length (ns.map V.int).length (some 63) ≤ 63 := by
        have e : HT.sIx (ns.map V.int).length (ns.map V.int).length (some ((63 : Nat) : Int)) = min 63 (ns.map V.int).length := HT.sIx_nat _ _ 63
        exact Nat.le_trans (Nat.le_of_eq e) (Nat.min_le_left _ _)
      omega
    refine comp_val (wk _ rfl) (fun i => V.int ((cutI ns).getD i 0)) (Nat.lt_of_le_of_lt hz (by decide)) (fun i x H2 N hi s2 hx k => ?_) (fun D H2 hD s2 hD2 => ?_)
    · rw [cutI_is, List.getElem?_map] at hx
      obtain ⟨z, hz, rfl⟩ := Option.map_eq_some_iff.mp hx
      refine ⟨_, rfl, .inl ⟨_, rfl, ?_⟩⟩
      have e : (cutI ns).getD i 0 = z := by rw [List.getD_eq_getElem?_getD, hz]; rfl
      have := k H2 (Same.refl _)
      rw [e] at this
      exact this
    · rw [cutI_is, List.length_map, map_range (cutI ns) V.int 0] at hD2
      refine ⟨by show 3 ≤ sizeLine; decide, fun p3 h3 => ?_⟩
      have e3 := same_new (o := .lst [.ref D, .int 0, .int 0]) h3
      have h03 : H p3 = none := by
        cases z : H p3 with
        | none => rfl
        | some u =>
          have := s2 _ _ (e1 _ _ z)
          rw [h3] at this
          cases this
      refine q p3 _ (e1.trans (s2.trans e3)) h03 ⟨D, cutI ns, 0, 0, upd_same, fun z => ?_, e3 _ _ hD2, Int.le_refl 0, Int.le_refl 0, Int.le_refl 0⟩
      rw [z, h3] at hD2
      cases hD2
end

section
variable {P : Program} {w : World} {K : PySem.W.Frag} {mg : Str → Option Value} {base : Heap} {A : Ad}
def spDraw (K : PySem.W.Frag) : Sp := fun vs H Q _ => ∃ (p : Addr) (many : Int) (n : Nat), vs = [.ref p, .int many] ∧ PenK H p n ∧ n ≤ 100000 ∧ 0 < many ∧ SzI 100 many ∧
  ∀ r H', 0 ≤ r → r < many → But p H H' → PenK H' p (n + 1) → Q (.int r) H'
theorem ok_law_draw (T : LawT K mg A) : FnOk P w K mg base CX0 1 A.f_law_draw A.d_law_draw ["pen", "many"] (spDraw K) := by
  refine T.F_law_draw.ok sc_law_draw (fun vs H Q E h => ?_) (fun cdv Ar outer s H vs Q E hr h => ?_)
  · obtain ⟨_, _, _, rfl, _⟩ := h
    rfl
  · obtain ⟨p, many, n, rfl, ⟨c, zs, at_, rest, hp, ncp, hc, a0, an, r0⟩, hn, m0, mz, q⟩ := h
    refine ⟨_, (pss_cons (ps_if (pt_cmpR op_gt (pe_ix ix_list (pv 0) pe_int (fun _ _ => rfl)) pe_int (nomark _)) (pss_cons (ps_set (i := 2) sc_law_draw.nd rfl (Or.inl rfl) (pe_callTy call_int1 (by rfl) T.n_int (by decide +kernel) (pa_cons (pe_ix ix_list (pv 0) pe_int (fun _ _ => rfl)) pa_nil)))
      (pss_cons (ps_asg (pe_op op_fdivW (pv 2) (pv 1)) (pg_sub (pv 0) pe_int set_list))
      (pss_one (ps_ret (pe_op op_modN (pe_callTy call_int1 (by rfl) T.n_int (by decide +kernel) (pa_cons (pv 2) pa_nil)) (pv 1)))))) pss_nil)
      (pss_cons (ps_set (i := 3) sc_law_draw.nd rfl (Or.inl rfl) (pe_ix ix_list (pv 0) pe_int (fun _ _ => rfl)))
      (pss_cons (ps_asg (pe_op op_add (pv 3) pe_int) (pg_sub (pv 0) pe_int set_list))
      (pss_cons (ps_set (i := 4) sc_law_draw.nd rfl (Or.inl rfl) (pe_op op_add (pe_op op_mul pe_int (pv 3)) pe_int))
      (pss_cons (ps_if (pt_cmpR (op_neD (un64 hr)) (pe_ix ix_list (pv 0) pe_int (fun _ _ => rfl)) (pe_lst pa_nil) (nomark _)) (pss_one (ps_set (i := 4) sc_law_draw.nd rfl (Or.inl rfl) (pe_ix ix_list (pe_ix ix_list (pv 0) pe_int (fun _ _ => rfl)) (pe_op op_modN (pe_callTy call_int1 (by rfl) T.n_int (by decide +kernel) (pa_cons (pv 3) pa_nil)) (pe_callB call_len (by rfl) T.n_len (by decide +kernel) (pa_cons (pe_ix ix_list (pv 0) pe_int (fun _ _ => rfl)) pa_nil))) (fun _ _ => rfl)))) pss_nil)
      (pss_cons (ps_if (PW.pt (pw_and (pt_cmpR op_lt (pv 3) (pe_callB call_len (by rfl) T.n_len (by decide +kernel) (pa_cons (pe_ix ix_list (pv 0) pe_int (fun _ _ => rfl)) pa_nil)) (nomark _)) (pw_and1 (pt_cmpR op_ge (pe_callB call_abs (by rfl) T.n_abs (by decide +kernel) (pa_cons (pv 4) pa_nil)) (pe_op op_pow pe_int pe_int) (nomark _))))) (pss_cons (ps_set (i := 2) sc_law_draw.nd rfl (Or.inl rfl) (pe_op op_add (pe_op op_mul pe_int (pe_op op_sub (pe_callB call_abs (by rfl) T.n_abs (by decide +kernel) (pa_cons (pv 4) pa_nil)) (pe_op op_pow pe_int pe_int))) (pe_callTy call_int1 (by rfl) T.n_int (by decide +kernel) (pa_cons (pe_cmpR op_lt (pv 4) pe_int (nomark _)) pa_nil))))
      (pss_cons (ps_asg (pe_op op_fdivW (pe_callTy call_int1 (by rfl) T.n_int (by decide +kernel) (pa_cons (pv 2) pa_nil)) (pv 1)) (pg_sub (pv 0) pe_int set_list))
      (pss_one (ps_ret (pe_op op_modN (pe_callTy call_int1 (by rfl) T.n_int (by decide +kernel) (pa_cons (pv 2) pa_nil)) (pv 1)))))) pss_nil)
      (pss_cons (ps_set (i := 5) sc_law_draw.nd rfl (Or.inl rfl) (pe_op op_modN (pe_callTy call_int1 (by rfl) T.n_int (by decide +kernel) (pa_cons (pe_op op_pow (pe_op op_add (pe_op op_add (pe_op op_modN (pe_callTy call_int1 (by rfl) T.n_int (by decide +kernel) (pa_cons (pv 4) pa_nil)) pe_int) (pe_op op_mul pe_int (pv 3))) pe_int) pe_int) pa_nil)) pe_int))
      (pss_cons (ps_set (i := 5) sc_law_draw.nd rfl (Or.inl rfl) (pe_op op_modN (pe_callTy call_int1 (by rfl) T.n_int (by decide +kernel) (pa_cons (pe_op op_pow (pe_op op_add (pe_op op_add (pe_op op_mul (pv 5) (pe_op op_add (pe_op op_mul pe_int (pv 3)) pe_int)) (pe_op op_mul (pe_op op_mul pe_int (pv 3)) (pv 3))) pe_int) pe_int) pa_nil)) pe_int))
      (pss_one (ps_ret (pe_op op_modN (pe_callTy call_int1 (by rfl) T.n_int (by decide +kernel) (pa_cons (pe_op op_fdivW (pv 5) pe_int) pa_nil)) (pv 1)))))))))))), ?_⟩
    have qp : SqL K H p [.ref c, .int at_, .int rest] := SqL.of hp
    have hd : ∀ i, CDivW i many := fun i => divW m0 mz (by decide) (by decide)
    refine ⟨_, rfl, _, _, _, _, rfl, rfl, qp, rfl, _, _, rfl, rfl, _, rfl, ?_⟩
    by_cases c1 : 0 < rest
    · rw [decide_eq_true c1]
      have hm := fmod_in rest m0
      obtain ⟨e1, k1⟩ := pen_set (n := n + 1) (at_ := at_) (rest := rest / many) hp ncp hc a0 (by omega) (Int.ediv_nonneg r0 (by omega))
      exact iteT ⟨_, rfl, _, _, _, _, rfl, rfl, qp, rfl, .inl ⟨_, rfl, _, rfl, _, rfl, _, _, rfl, rfl, hd _, _, rfl, p, _, 2, 2, rfl, rfl, hp, rfl, _, rfl, .inl ⟨_, rfl, _, rfl, _, _, rfl, rfl, by omega, q _ _ hm.1 hm.2 e1 k1⟩⟩⟩
    · rw [decide_eq_false c1]
      refine iteF ?_
      refine ⟨_, rfl, _, _, _, _, rfl, rfl, qp, rfl, ?_⟩
      refine ⟨_, rfl, _, _, rfl, rfl, _, rfl, p, _, 1, 1, rfl, rfl, hp, rfl, ?_⟩
      obtain ⟨e1, k1⟩ := pen_set (n := n + 1) (at_ := at_ + 1) (rest := rest) hp ncp hc (by omega) (by omega) r0
      have hp1 : upd H p (.lst [.ref c, .int (at_ + 1), .int rest]) p = some (.lst [.ref c, .int (at_ + 1), .int rest]) := upd_same
      have hc1 : upd H p (.lst [.ref c, .int (at_ + 1), .int rest]) c = some (.lst (zs.map V.int)) := by
        rw [upd_ne ncp]
        exact hc
      show tSeq _ _ _ _ (upd H p (.lst [.ref c, .int (at_ + 1), .int rest]))
      generalize upd H p (.lst [.ref c, .int (at_ + 1), .int rest]) = H1 at *
      have qp1 : SqL K H1 p [.ref c, .int (at_ + 1), .int rest] := SqL.of hp1
      have qc1 : SqL K H1 c (zs.map V.int) := SqL.of hc1
      refine ⟨_, rfl, _, _, rfl, rfl, .inl ⟨by decide, by decide⟩, _, _, rfl, rfl, ?_⟩
      show tSeq _ _ _ (List.set _ 4 (some (V.int (52361 * at_ + 1907)))) _
      generalize 52361 * at_ + 1907 = cell0
      refine ⟨_, rfl, _, _, _, _, rfl, rfl, qp1, rfl, by show 0 ≤ sizeLine; decide, fun t ht => ?_⟩
      have e2 := same_new (o := .lst []) ht
      refine ⟨.list (zs.map PyData.int), .list [], .lst ((e2.seq qc1)) (dp_ints zs), .lst (SqL.of upd_same) .nil, shaped_ints zs, rfl, _, rfl, ?_⟩
      rw [eqv_nil]
      have hp2 := e2 _ _ hp1
      have qp2 := e2.seq qp1
      have qc2 := (e2.seq qc1)
      have e12 : But p H (upd H1 t (.lst [])) := e1.same e2
      have k2 : PenK (upd H1 t (.lst [])) p (n + 1) := k1.same e2
      have hc2 := e2 _ _ hc1
      generalize upd H1 t (.lst []) = H2 at hp2 qp2 qc2 e12 k2 hc2 ⊢
      have hle : (zs.map V.int).length = zs.length := List.length_map ..
      by_cases h0 : zs = []
      rw [show (!decide (zs = [])) = false from by rw [decide_eq_true h0]; rfl]
      refine iteF ?_
      obtain ⟨cell, rfl⟩ : ∃ c, c = cell0 := ⟨_, rfl⟩
      rotate_left
      rw [show (!decide (zs = [])) = true from by rw [decide_eq_false h0]; rfl]
      have hz : 0 < (zs.length : Int) := by
        cases zs with
        | nil => exact absurd rfl h0
        | cons z zs => show (0 : Int) < ((zs.length + 1 : Nat) : Int); omega
      have hm := fmod_in at_ hz
      obtain ⟨j, hj⟩ : ∃ j : Nat, at_.fmod (zs.length : Int) = (j : Int) := ⟨(at_.fmod (zs.length : Int)).toNat, by omega⟩
      have hj2 : j < zs.length := by omega
      have hget : (zs.map V.int)[j]? = some (.int zs[j]) := by rw [List.getElem?_map, List.getElem?_eq_getElem hj2]; rfl
      refine iteT ⟨_, rfl, _, _, _, _, rfl, rfl, qp2, rfl, _, rfl, .inl ⟨_, rfl, _, rfl, _, _, _, _, rfl, rfl, qp2, rfl, _, (zs.map V.int).length, rfl, len_s (.inl qc2), _, _, rfl, rfl, by rw [hle]; omega, c, zs.map V.int, _, .int zs[j], rfl, rfl, qc2, by rw [hle, hj]; exact atI_nat hget, ?_⟩⟩
      generalize zs[j] = cell
      all_goals
        refine ⟨_, rfl, _, rfl, _, _, _, _, rfl, rfl, qp2, rfl, _, (zs.map V.int).length, rfl, len_s (.inl qc2), _, _, rfl, rfl, _, rfl, ?_⟩
        by_cases c2 : at_ < ((zs.map V.int).length : Int)
        rw [decide_eq_true c2]
        refine iteT ⟨_, rfl, cell, rfl, _, _, rfl, rfl, ⟨by decide, by decide, by decide⟩, _, _, rfl, rfl, _, rfl, ?_⟩
        by_cases hb2 : (10 : Int) ^ (18 : Int).toNat ≤ (if cell < 0 then -cell else cell)
        · rw [decide_eq_true hb2]
          refine iteT ?_
          refine ⟨_, rfl, cell, rfl, _, _, rfl, rfl, ⟨by decide, by decide, by decide⟩, _, _, rfl, rfl, _, _, rfl, rfl, .inl ⟨by decide, by decide⟩, _, rfl, _, _, rfl, rfl, .inr ⟨_, rfl, _, _, rfl, rfl, ?_⟩⟩
          have hG : 0 ≤ 2 * ((if cell < 0 then -cell else cell) - 10 ^ (18 : Int).toNat) + (if decide (cell < 0) = true then (1 : Int) else 0) := by
            generalize (10 : Int) ^ (18 : Int).toNat = PP at *
            have : (0 : Int) ≤ if decide (cell < 0) = true then 1 else 0 := by split <;> decide
            omega
          have pk := fun (G : Int) (hG : 0 ≤ G) => pen_set (n := n + 1) (at_ := at_ + 1) (rest := G / many) hp2 ncp hc2 (by omega) (by omega) (Int.ediv_nonneg hG (by omega))
          exact ⟨_, rfl, .inl ⟨_, rfl, _, rfl, _, _, rfl, rfl, hd _, _, rfl, p, _, 2, 2, rfl, rfl, hp2, rfl, _, rfl, .inl ⟨_, rfl, _, rfl, _, _, rfl, rfl, by omega, q _ _ (fmod_in _ m0).1 (fmod_in _ m0).2 (e12.trans (pk _ hG).1) (pk _ hG).2⟩⟩⟩
        rw [decide_eq_false hb2]
        refine iteF ?_
        rotate_left
        rw [decide_eq_false c2]
        refine iteF (iteF ?_)
        all_goals
          have b1 : 0 ≤ cell.fmod 2147483563 ∧ cell.fmod 2147483563 < 2147483563 := fmod_in cell (by decide)
          have key1 : ∀ m : Int, 0 ≤ m ∧ m < 2147483549 → -(2 ^ 64) < m ∧ m < 2 ^ 64 := fun m hm => by omega
          have key2 : ∀ m : Int, 0 ≤ m ∧ m < 2147483549 → (m * (2 * at_ + 1907) + 52361 * at_ * at_ + 60521).natAbs < 2 ^ 64 := fun m hm => by
            have g1 : 0 ≤ m * (2 * at_ + 1907) := Int.mul_nonneg hm.1 (by omega)
            have g2 : m * (2 * at_ + 1907) ≤ 2147483549 * 201907 := Int.mul_le_mul (by omega) (by omega) (by omega) (by decide)
            have g3 : 0 ≤ 52361 * at_ * at_ := Int.mul_nonneg (by omega) a0
            have g4 : 52361 * at_ * at_ ≤ 5236100000 * 100000 := Int.mul_le_mul (by omega) (by omega) a0 (by decide)
            omega
          have m32 : ∀ i : Int, CDivW i 64 := fun i => divW (n := 7) (by decide) (by show (64 : Int).natAbs < 2 ^ 7; decide) (by decide) (by decide)
          refine ⟨_, rfl, .inl ⟨_, rfl, _, _, rfl, rfl, (by decide : (2147483563 : Int) ≠ 0), _, rfl, _, _, rfl, rfl, .inl ⟨by decide, by decide⟩, _, _, rfl, rfl, _, _, rfl, rfl, _, _, rfl, rfl, ⟨by decide, by decide, by omega⟩, .inl ⟨_, rfl, _, _, rfl, rfl, (by decide : (2147483549 : Int) ≠ 0), ?_⟩⟩⟩
          refine ⟨_, rfl, _, rfl, _, _, rfl, rfl, .inl ⟨by decide, by decide⟩, _, _, rfl, rfl, _, _, rfl, rfl, .inl (key1 _ (fmod_in _ (by decide))), _, rfl, _, _, rfl, rfl, .inl ⟨by decide, by decide⟩, _, rfl, _, _, rfl, rfl, .inl ⟨by omega, by omega⟩, _, _, rfl, rfl, _, _, rfl, rfl, _, _, rfl, rfl, ⟨by decide, by decide, key2 _ (fmod_in _ (by decide))⟩, .inl ⟨_, rfl, _, _, rfl, rfl, (by decide : (2147483579 : Int) ≠ 0), ?_⟩⟩
          exact ⟨_, rfl, _, _, rfl, rfl, m32 _, .inl ⟨_, rfl, _, rfl, _, _, rfl, rfl, by omega, q _ _ (fmod_in _ m0).1 (fmod_in _ m0).2 e12 k2⟩⟩
end

section
variable {P : Program} {w : World} {K : PySem.W.Frag} {mg : Str → Option Value} {base : Heap} {A : Ad}
def spPick (K : PySem.W.Frag) : Sp := fun vs H Q _ => ∃ (p a : Addr) (xs : List V) (n : Nat), vs = [.ref p, .ref a] ∧ PenK H p n ∧ n ≤ 99999 ∧ SqL K H a xs ∧ a ≠ p ∧ 0 < xs.length ∧ xs.length ≤ 1000 ∧
  ∀ x H', x ∈ xs → But p H H' → PenK H' p (n + 1) → Q x H'
theorem ok_law_pick (T : LawT K mg A) : FnOk P w K mg base CX0 2 A.f_law_pick A.d_law_pick ["pen", "some"] (spPick K) := by
  refine T.F_law_pick.ok sc_law_pick (fun vs H Q E h => ?_) (fun cdv Ar outer s H vs Q E hr h => ?_)
  · obtain ⟨_, _, _, _, rfl, _⟩ := h
    rfl
  · obtain ⟨p, a, xs, n, rfl, k, hn, qx, nap, h0, h1, q⟩ := h
    refine ⟨_, (pss_one (ps_ret (pe_ix ix_list (pv 1) (pe_call (ok_law_draw T) (hr.mono (by decide)) rfl T.g_law_draw T.F_law_draw.kp (b_law_draw T.F_law_draw) .nil pass0 (pa_cons (pv 0) (pa_cons (pe_callB call_len (by rfl) T.n_len (by decide +kernel) (pa_cons (pv 1) pa_nil)) pa_nil))) (fun _ _ => rfl)))), ?_⟩
    refine ⟨_, rfl, _, rfl, _, rfl, _, xs.length, rfl, len_s (.inl qx), p, (xs.length : Int), n, rfl, k, by omega, by omega, (szI_nat (k := 10) (by omega)).mono (by decide), fun r H' r0 r1 e k' => ?_⟩
    obtain ⟨j, rfl⟩ : ∃ j : Nat, r = (j : Int) := ⟨r.toNat, by omega⟩
    have hj : j < xs.length := by omega
    exact ⟨a, xs, _, xs[j], rfl, rfl, e.l nap qx, atI_nat (List.getElem?_eq_getElem hj), q _ _ (List.getElem_mem hj) e k'⟩
def nx3 (p : Int) : Int := 3 * (p / 3) + (p + 1) % 3
theorem ok_law_next (T : LawT K mg A) : FnOk P w K mg base CX0 1 A.f_law_next A.d_law_next ["spot"] (spI1 nx3) := by
  refine T.F_law_next.ok sc_law_next (fun vs H Q E h => ?_) (fun cdv Ar outer s H vs Q E hr h => ?_)
  · obtain ⟨_, rfl, _⟩ := h
    rfl
  · obtain ⟨p, rfl, q⟩ := h
    refine ⟨_, (pss_one (ps_ret (pe_op op_add (pe_op op_mul pe_int (pe_op op_fdiv (pv 0) pe_int)) (pe_op op_mod (pe_callTy call_int1 (by rfl) T.n_int (by decide +kernel) (pa_cons (pe_op op_add (pv 0) pe_int) pa_nil)) pe_int)))), ?_⟩
    refine ⟨_, rfl, _, _, rfl, rfl, ⟨by decide, by decide⟩, _, _, rfl, rfl, .inl ⟨by decide, by decide⟩, _, rfl, _, _, rfl, rfl, .inl ⟨_, rfl, _, _, rfl, rfl, (by show (0 : Int) < 3; decide), _, _, rfl, rfl, q⟩⟩
end
end KP


set_option Elab.async false
set_option linter.all false
set_option maxRecDepth 100000
set_option maxHeartbeats 4000000
set_option exponentiation.threshold 10000
namespace KP
open PySem PySem.Spec PyProof.Rows L2 ClX OG
/-! ### drawn rows: two sides joined -/
def join (ms : List Int) (i j : Int) : List Int := (ms.set i.toNat j).set j.toNat i
def both (bs : List Int) (i j d : Int) : List Int := (bs.set i.toNat d).set j.toNat d
section
variable {P : Program} {w : World} {K : PySem.W.Frag} {mg : Str → Option Value} {base : Heap} {A : Ad}
theorem set_map (ms : List Int) (i : Nat) (v : Int) : (ms.map V.int).set i (.int v) = (ms.set i v).map V.int := by rw [List.map_set]
/-- rows under way: a list of mates, of bends, how they are drawn; H0 is what stood before they were made -/
structure RowsD (p R M B : Addr) (d : Int) (H0 H : Hp) (ms bs : List Int) (n : Nat) : Prop where
  e : But p H0 H
  hR : H R = some (.lst [.ref M, .ref B, .int d])
  hM : H M = some (.lst (ms.map V.int))
  hB : H B = some (.lst (bs.map V.int))
  R0 : H0 R = none
  M0 : H0 M = none
  B0 : H0 B = none
  nMB : M ≠ B
  nRM : R ≠ M
  nRB : R ≠ B
  lm : ms.length = n
  lb : bs.length = n
section
variable {p R M B : Addr} {d : Int} {H0 H H' : Hp} {ms bs : List Int} {n : Nat}
/-- all but the pen, the two rows stay -/
def Rest (p M B : Addr) (H H' : Hp) : Prop := ∀ c u, c ≠ p → c ≠ M → c ≠ B → H c = some u → H' c = some u
theorem Rest.trans {H'' : Hp} (a : Rest p M B H H') (b : Rest p M B H' H'') : Rest p M B H H'' := fun c u h1 h2 h3 h => b c u h1 h2 h3 (a c u h1 h2 h3 h)
theorem RowsD.same (D : RowsD p R M B d H0 H ms bs n) (s : Same H H') : RowsD p R M B d H0 H' ms bs n := ⟨D.e.same s, s _ _ D.hR, s _ _ D.hM, s _ _ D.hB, D.R0, D.M0, D.B0, D.nMB, D.nRM, D.nRB, D.lm, D.lb⟩
theorem RowsD.np (D : RowsD p R M B d H0 H ms bs n) : R ≠ p ∧ M ≠ p ∧ B ≠ p := ⟨lst_new D.e.1 D.R0, lst_new D.e.1 D.M0, lst_new D.e.1 D.B0⟩
theorem RowsD.but (D : RowsD p R M B d H0 H ms bs n) (e : But p H H') : RowsD p R M B d H0 H' ms bs n := ⟨D.e.trans e, e.2.2.1 _ _ D.np.1 D.hR, e.2.2.1 _ _ D.np.2.1 D.hM, e.2.2.1 _ _ D.np.2.2 D.hB, D.R0, D.M0, D.B0, D.nMB, D.nRM, D.nRB, D.lm, D.lb⟩
theorem RowsD.putM (D : RowsD p R M B d H0 H ms bs n) {ms' : List Int} (hl : ms'.length = n) : RowsD p R M B d H0 (upd H M (.lst (ms'.map V.int))) ms' bs n := ⟨but_put D.e D.M0, by rw [upd_ne D.nRM]; exact D.hR, upd_same, by rw [upd_ne D.nMB.symm]; exact D.hB, D.R0, D.M0, D.B0, D.nMB, D.nRM, D.nRB, hl, D.lb⟩
theorem RowsD.putB (D : RowsD p R M B d H0 H ms bs n) {bs' : List Int} (hl : bs'.length = n) : RowsD p R M B d H0 (upd H B (.lst (bs'.map V.int))) ms bs' n := ⟨but_put D.e D.B0, by rw [upd_ne D.nRB]; exact D.hR, by rw [upd_ne D.nMB]; exact D.hM, upd_same, D.R0, D.M0, D.B0, D.nMB, D.nRM, D.nRB, D.lm, hl⟩
/-- .. and a list more -/
theorem RowsD.put (D : RowsD p R M B d H0 H ms bs n) {l : Addr} {o : HO} (hl : H0 l = none) (n1 : l ≠ R) (n2 : l ≠ M) (n3 : l ≠ B) : RowsD p R M B d H0 (upd H l o) ms bs n := ⟨but_put D.e hl, by rw [upd_ne n1.symm]; exact D.hR, by rw [upd_ne n2.symm]; exact D.hM, by rw [upd_ne n3.symm]; exact D.hB, D.R0, D.M0, D.B0, D.nMB, D.nRM, D.nRB, D.lm, D.lb⟩
end
def spJoined (K : PySem.W.Frag) : Sp := fun vs H Q _ => ∃ (p R M B : Addr) (d one other : Int) (H0 : Hp) (ms bs : List Int) (n m m0 : Nat), vs = [.ref p, .ref R, .int one, .int other] ∧ PenK H0 p m0 ∧ PenK H p m ∧ m ≤ 90000 ∧ RowsD p R M B d H0 H ms bs n ∧ 0 ≤ one ∧ one < (n : Int) ∧ 0 ≤ other ∧ other < (n : Int) ∧ 0 ≤ d ∧ d ≤ 2 ∧
  ∀ b H', (b = 0 ∨ b = 1) → PenK H' p (m + 1) → RowsD p R M B d H0 H' (join ms one other) (both bs one other b) n → Rest p M B H H' → Q .non H'
theorem ok_law_joined (T : LawT K mg A) : FnOk P w K mg base CX0 2 A.f_law_joined A.d_law_joined ["pen", "rows", "one", "other"] (spJoined K) := by
  refine T.F_law_joined.ok sc_law_joined (fun vs H Q E h => ?_) (fun cdv Ar outer s H vs Q E hr h => ?_)
  · obtain ⟨_, _, _, _, _, _, _, _, _, _, _, _, _, rfl, _⟩ := h
    rfl
  · obtain ⟨p, R, M, B, d, one, other, H0, ms, bs, n, m, m0, rfl, k0, k, hm, D, i0, i1, j0, j1, d0, d2, q⟩ := h
    refine ⟨_, (pss_cons (ps_asg (pe_tup (pa_cons (pv 3) (pa_cons (pv 2) pa_nil))) (pg_tup rfl (pgs_cons (pg_sub (pe_ix ix_list (pv 1) pe_int (fun _ _ => rfl)) (pv 2) set_list) (pgs_cons (pg_sub (pe_ix ix_list (pv 1) pe_int (fun _ _ => rfl)) (pv 3) set_list) pgs_nil))))
      (pss_cons (ps_asg (pe_ifExp (pt_cmpR op_eq (pe_ix ix_list (pv 1) pe_int (fun _ _ => rfl)) pe_int (nomark _)) (pe_call (ok_law_draw T) (hr.mono (by decide)) rfl T.g_law_draw T.F_law_draw.kp (b_law_draw T.F_law_draw) .nil pass0 (pa_cons (pv 0) (pa_cons pe_int pa_nil))) (pe_ix ix_list (pv 1) pe_int (fun _ _ => rfl))) (pg_sub (pe_ix ix_list (pv 1) pe_int (fun _ _ => rfl)) (pv 2) set_list))
      (pss_one (ps_asg (pe_ix ix_list (pe_ix ix_list (pv 1) pe_int (fun _ _ => rfl)) (pv 2) (fun _ _ => rfl)) (pg_sub (pe_ix ix_list (pv 1) pe_int (fun _ _ => rfl)) (pv 3) set_list))))), ?_⟩
    refine ⟨_, rfl, _, rfl, two_line, fun t ht => ?_⟩
    have st := same_new (o := .tup [.int other, .int one]) ht
    have gt : SqT K (upd H t (.tup [.int other, .int one])) t [.int other, .int one] := SqT.of upd_same
    have D1 := D.same st
    have k1 := k.same st
    have F1 : Rest p M B H (upd H t (.tup [.int other, .int one])) := fun c u _ _ _ h => st c u h
    generalize upd H t (.tup [.int other, .int one]) = H1 at gt D1 k1 F1 ⊢
    have lm := D.lm
    have lb := D.lb
    refine ⟨t, _, rfl, gt, rfl, _, _, rfl, _, rfl, R, _, 0, .ref M, rfl, rfl, SqL.of D1.hR, atI_nat (j := 0) rfl, _, rfl, M, _, one, one.toNat, rfl, rfl, D1.hM, by rw [List.length_map, lm]; exact ixN_in i0 i1, ?_⟩
    rw [set_map]
    have D2 := D1.putM (ms' := ms.set one.toNat other) (by rw [List.length_set]; exact lm)
    have k2 := pen_put (o := .lst ((ms.set one.toNat other).map V.int)) k1 D1.e k0 D.M0
    have F2 : Rest p M B H (upd H1 M (.lst ((ms.set one.toNat other).map V.int))) := fun c u a1 a2 a3 h => by rw [upd_ne a2]; exact F1 c u a1 a2 a3 h
    generalize upd H1 M (.lst ((ms.set one.toNat other).map V.int)) = H2 at D2 k2 F2 ⊢
    refine ⟨_, _, rfl, _, rfl, R, _, 0, .ref M, rfl, rfl, SqL.of D2.hR, atI_nat (j := 0) rfl, _, rfl, M, _, other, other.toNat, rfl, rfl, D2.hM, by rw [List.length_map, List.length_set, lm]; exact ixN_in j0 j1, rfl, ?_⟩
    rw [set_map]
    have D3 := D2.putM (ms' := join ms one other) (by show ((ms.set _ _).set _ _).length = n; rw [List.length_set, List.length_set]; exact lm)
    have k3 := pen_put (o := .lst ((join ms one other).map V.int)) k2 D2.e k0 D.M0
    have F3 : Rest p M B H (upd H2 M (.lst ((join ms one other).map V.int))) := fun c u a1 a2 a3 h => by rw [upd_ne a2]; exact F2 c u a1 a2 a3 h
    show tSeq _ _ _ _ (upd H2 M (.lst ((join ms one other).map V.int)))
    generalize upd H2 M (.lst ((join ms one other).map V.int)) = H3 at D3 k3 F3 ⊢
    refine ⟨_, rfl, R, _, 2, .int d, rfl, rfl, SqL.of D3.hR, atI_nat (j := 2) rfl, rfl, _, rfl, ?_⟩
    have fin : ∀ (v : Int) (H4 : Hp), (v = 0 ∨ v = 1) → PenK H4 p (m + 1) → RowsD p R M B d H0 H4 (join ms one other) bs n → Rest p M B H H4 → True := fun _ _ _ _ _ _ => trivial
    by_cases c : d = 2
    rw [show decide (V.int d = V.int 2) = true from decide_eq_true (by rw [c])]
    refine iteT ⟨_, rfl, p, 2, m, rfl, k3, by omega, by decide, (szI_nat (k := 10) (n := 2) (by decide)).mono (by decide), fun v H4 v0 v1 e4 k4 => ?_⟩
    have hv : v = 0 ∨ v = 1 := by omega
    have D4 := D3.but e4
    have F4 : Rest p M B H H4 := F3.trans fun c u a1 _ _ h => e4.2.2.1 c u a1 h
    rotate_left
    rw [show decide (V.int d = V.int 2) = false from decide_eq_false fun z => c (by injection z)]
    obtain ⟨v, rfl⟩ : ∃ v, v = d := ⟨_, rfl⟩
    refine iteF ⟨_, rfl, R, _, 2, .int v, rfl, rfl, SqL.of D3.hR, atI_nat (j := 2) rfl, ?_⟩
    have hv : v = 0 ∨ v = 1 := by omega
    have k4 := k3.mono (show m ≤ m + 1 by omega)
    have D4 := D3
    have F4 := F3
    generalize H3 = H4 at k4 D4 F4 ⊢
    all_goals
      refine ⟨_, rfl, R, _, 1, .ref B, rfl, rfl, SqL.of D4.hR, atI_nat (j := 1) rfl, _, rfl, B, _, one, one.toNat, rfl, rfl, D4.hB, by rw [List.length_map, lb]; exact ixN_in i0 i1, ?_⟩
      rw [set_map]
      have D5 := D4.putB (bs' := bs.set one.toNat v) (by rw [List.length_set]; exact lb)
      have k5 := pen_put (o := .lst ((bs.set one.toNat v).map V.int)) k4 D4.e k0 D.B0
      have F5 : Rest p M B H (upd H4 B (.lst ((bs.set one.toNat v).map V.int))) := fun c u a1 a2 a3 h => by rw [upd_ne a3]; exact F4 c u a1 a2 a3 h
      generalize upd H4 B (.lst ((bs.set one.toNat v).map V.int)) = H5 at D5 k5 F5 ⊢
      have hat : atI ((bs.set one.toNat v).map V.int) one = some (.int v) := by
        obtain ⟨o, rfl⟩ : ∃ o : Nat, one = (o : Int) := ⟨one.toNat, by omega⟩
        refine atI_nat ?_
        rw [Int.toNat_natCast, List.getElem?_map, List.getElem?_set_self (by omega)]
        rfl
      refine ⟨_, rfl, R, _, 1, .ref B, rfl, rfl, SqL.of D5.hR, atI_nat (j := 1) rfl, _, rfl, B, _, one, .int v, rfl, rfl, SqL.of D5.hB, hat, ?_⟩
      refine ⟨_, rfl, R, _, 1, .ref B, rfl, rfl, SqL.of D5.hR, atI_nat (j := 1) rfl, _, rfl, B, _, other, other.toNat, rfl, rfl, D5.hB, by rw [List.length_map, List.length_set, lb]; exact ixN_in j0 j1, ?_⟩
      rw [set_map]
      have D6 := D5.putB (bs' := both bs one other v) (by show ((bs.set _ _).set _ _).length = n; rw [List.length_set, List.length_set]; exact lb)
      have k6 := pen_put (o := .lst ((both bs one other v).map V.int)) k5 D5.e k0 D.B0
      have F6 : Rest p M B H (upd H5 B (.lst ((both bs one other v).map V.int))) := fun c u a1 a2 a3 h => by rw [upd_ne a3]; exact F5 c u a1 a2 a3 h
      exact q v _ hv k6 D6 F6
end
end KP


set_option Elab.async false
set_option linter.all false
set_option maxRecDepth 100000
set_option maxHeartbeats 4000000
set_option exponentiation.threshold 10000
namespace KP
open PySem PySem.Spec PyProof.Rows L2 ClX OG
/-! ### gluing, in plain -/
theorem atM_set {ms : List Int} {i p v : Int} (i0 : 0 ≤ i) (i1 : i < (ms.length : Int)) (p0 : 0 ≤ p) : atM (ms.set i.toNat v) p = if p = i then v else atM ms p := by
  unfold atM
  rw [List.getD_eq_getElem?_getD, List.getD_eq_getElem?_getD]
  by_cases c : p = i
  · subst c
    rw [if_pos rfl, List.getElem?_set_self (by omega)]
    rfl
  · rw [if_neg c, List.getElem?_set_ne (by omega)]
theorem atM_join {ms : List Int} {i j p : Int} (i0 : 0 ≤ i) (i1 : i < (ms.length : Int)) (j0 : 0 ≤ j) (j1 : j < (ms.length : Int)) (p0 : 0 ≤ p) : atM (join ms i j) p = if p = j then i else if p = i then j else atM ms p := by
  unfold join
  rw [atM_set j0 (by rw [List.length_set]; exact j1) p0, atM_set i0 i1 p0]
theorem atM_both {ms : List Int} {i j p d : Int} (i0 : 0 ≤ i) (i1 : i < (ms.length : Int)) (j0 : 0 ≤ j) (j1 : j < (ms.length : Int)) (p0 : 0 ≤ p) : atM (both ms i j d) p = if p = j then d else if p = i then d else atM ms p := by
  unfold both
  rw [atM_set j0 (by rw [List.length_set]; exact j1) p0, atM_set i0 i1 p0]
/-- rows as they are glued: n triangles in all, k of them hanging together, free sides -/
structure Glu (ms bs : List Int) (n k : Nat) (free : List Int) : Prop where
  lm : ms.length = 3 * n
  lb : bs.length = 3 * n
  r : ∀ i : Int, 0 ≤ i → i < 3 * (n : Int) → 0 ≤ atM ms i ∧ atM ms i < 3 * (n : Int) ∧ atM ms (atM ms i) = i
  b : ∀ i : Int, 0 ≤ i → i < 3 * (n : Int) → (atM bs i = 0 ∨ atM bs i = 1) ∧ atM bs (atM ms i) = atM bs i ∧ (atM ms i = i → atM bs i = 0)
  f : ∀ x ∈ free, 0 ≤ x ∧ x < 3 * (k : Int) ∧ atM ms x = x
  nd : free.Nodup
  rest : ∀ i : Int, 3 * (k : Int) ≤ i → i < 3 * (n : Int) → atM ms i = i
  rch : ∀ t < k, Reach ms t
  kn : k ≤ n
theorem Reach.more {ms ms' : List Int} {t : Nat} (h : Reach ms t) (same : ∀ i : Int, 0 ≤ i → atM ms i = i ∨ atM ms' i = atM ms i) : Reach ms' t := by
  induction h with
  | zero => exact .zero
  | @step t h s hs ih =>
    rcases same (3 * (t : Int) + s) (by omega) with e | e
    · rw [e, show ((3 * (t : Int) + s) / 3).toNat = t by omega]
      exact ih
    · rw [← e]
      exact ih.step s hs
/-- two free sides joined -/
theorem Glu.join {ms bs : List Int} {n k : Nat} {free free' : List Int} (g : Glu ms bs n k free) {i j d : Int} (i0 : 0 ≤ i) (i1 : i < 3 * (n : Int)) (j0 : 0 ≤ j) (j1 : j < 3 * (n : Int)) (hi : atM ms i = i) (hj : atM ms j = j) (hij : i ≠ j) (hd : d = 0 ∨ d = 1)
    (k' : Nat) (hk : k ≤ k') (hkn : k' ≤ n) (hf : ∀ x ∈ free', 0 ≤ x ∧ x < 3 * (k' : Int) ∧ atM ms x = x ∧ x ≠ i ∧ x ≠ j) (nd : free'.Nodup) (hj3 : j < 3 * (k' : Int)) (hi3 : i < 3 * (k' : Int)) (hr : ∀ t < k', t < k ∨ ((i / 3).toNat < k ∧ t = (j / 3).toNat)) :
    Glu (KP.join ms i j) (both bs i j d) n k' free' := by
  have lm := g.lm
  have lb := g.lb
  have aj : ∀ p : Int, 0 ≤ p → atM (KP.join ms i j) p = if p = j then i else if p = i then j else atM ms p := fun p h => atM_join i0 (by omega) j0 (by omega) h
  have ab : ∀ p : Int, 0 ≤ p → atM (both bs i j d) p = if p = j then d else if p = i then d else atM bs p := fun p h => atM_both i0 (by omega) j0 (by omega) h
  have keep : ∀ t, Reach ms t → Reach (KP.join ms i j) t := fun t h => h.more fun p p0 => by
    rw [aj p p0]
    by_cases c : p = j
    · exact .inl (by rw [c]; exact hj)
    · by_cases c2 : p = i
      · exact .inl (by rw [c2]; exact hi)
      · exact .inr (by rw [if_neg c, if_neg c2])
  refine ⟨by unfold KP.join; rw [List.length_set, List.length_set]; exact lm, by unfold both; rw [List.length_set, List.length_set]; exact lb, fun p p0 p1 => ?_, fun p p0 p1 => ?_, fun x hx => ?_, nd, fun p p0 p1 => ?_, fun t ht => ?_, hkn⟩
  · have := g.r p p0 p1
    rw [aj p p0]
    by_cases c : p = j
    · rw [if_pos c, aj i i0, if_neg hij, if_pos rfl]
      exact ⟨i0, i1, c.symm⟩
    · rw [if_neg c]
      by_cases c2 : p = i
      · rw [if_pos c2, aj j j0, if_pos rfl]
        exact ⟨j0, j1, c2.symm⟩
      · rw [if_neg c2, aj _ this.1]
        have n1 : atM ms p ≠ j := fun z => c (by rw [← this.2.2, z]; exact hj)
        have n2 : atM ms p ≠ i := fun z => c2 (by rw [← this.2.2, z]; exact hi)
        rw [if_neg n1, if_neg n2]
        exact this
  · have hr := g.r p p0 p1
    have hb := g.b p p0 p1
    rw [aj p p0, ab p p0]
    by_cases c : p = j
    · rw [if_pos c, if_pos c, ab i i0, if_neg hij, if_pos rfl]
      exact ⟨hd, rfl, fun z => absurd (z.trans c) hij⟩
    · rw [if_neg c, if_neg c]
      by_cases c2 : p = i
      · rw [if_pos c2, if_pos c2, ab j j0, if_pos rfl]
        exact ⟨hd, rfl, fun z => absurd z (fun z => hij (by rw [← c2]; exact z.symm))⟩
      · rw [if_neg c2, if_neg c2, ab _ hr.1]
        have n1 : atM ms p ≠ j := fun z => c (by rw [← hr.2.2, z]; exact hj)
        have n2 : atM ms p ≠ i := fun z => c2 (by rw [← hr.2.2, z]; exact hi)
        rw [if_neg n1, if_neg n2]
        exact hb
  · obtain ⟨h1, h2, h3, h4, h5⟩ := hf x hx
    refine ⟨h1, h2, ?_⟩
    rw [aj x h1, if_neg h5, if_neg h4]
    exact h3
  · rw [aj p (by omega), if_neg (by omega), if_neg (by omega)]
    exact g.rest p (by omega) p1
  · rcases hr t ht with h | ⟨h, rfl⟩
    · exact keep t (g.rch t h)
    · have := (keep _ (g.rch _ h)).step (i % 3).toNat (by omega)
      rw [show 3 * (((i / 3).toNat : Nat) : Int) + ((i % 3).toNat : Nat) = i by omega, aj i i0, if_neg hij, if_pos rfl] at this
      exact this
end KP


set_option Elab.async false
set_option linter.all false
set_option maxRecDepth 100000
set_option maxHeartbeats 4000000
set_option exponentiation.threshold 10000
namespace KP
open PySem PySem.Spec PyProof.Rows L2 ClX OG
section
variable {P : Program} {w : World} {K : PySem.W.Frag} {mg : Str → Option Value} {base : Heap} {A : Ad}
theorem atM_id {n : Nat} {p : Int} (h0 : 0 ≤ p) (h1 : p < (n : Int)) : atM ((List.range n).map fun i : Nat => (i : Int)) p = p := by
  unfold atM
  rw [List.getD_eq_getElem?_getD, List.getElem?_map, List.getElem?_range (by omega)]
  show ((p.toNat : Nat) : Int) = p
  omega
theorem atM_zero {n : Nat} {p : Int} (h0 : 0 ≤ p) (h1 : p < (n : Int)) : atM (List.replicate n 0) p = 0 := by
  unfold atM
  rw [List.getD_eq_getElem?_getD, List.getElem?_replicate, if_pos (by omega)]
  rfl
theorem glu_one {n : Nat} (h : 1 ≤ n) : Glu ((List.range (3 * n)).map fun i : Nat => (i : Int)) (List.replicate (3 * n) 0) n 1 [0, 1, 2] where
  lm := by rw [List.length_map, List.length_range]
  lb := List.length_replicate
  r := fun i h0 h1 => by
    rw [atM_id h0 (by omega), atM_id h0 (by omega)]
    exact ⟨h0, h1, rfl⟩
  b := fun i h0 h1 => by
    rw [atM_id h0 (by omega), atM_zero h0 (by omega)]
    exact ⟨.inl rfl, rfl, fun _ => rfl⟩
  f := fun x hx => by
    have : 0 ≤ x ∧ x < 3 := by
      rcases List.mem_cons.mp hx with rfl | hx
      · decide
      · rcases List.mem_cons.mp hx with rfl | hx
        · decide
        · rcases List.mem_cons.mp hx with rfl | hx
          · decide
          · cases hx
    exact ⟨this.1, by omega, atM_id this.1 (by omega)⟩
  nd := by decide
  rest := fun i h0 h1 => atM_id (by omega) (by omega)
  rch := fun t ht => by
    obtain rfl : t = 0 := by omega
    exact .zero
  kn := h
def spGlued (K : PySem.W.Frag) : Sp := fun vs H Q _ => ∃ (p : Addr) (n m : Nat) (d wl : Int), vs = [.ref p, .int n, .int d, .int wl] ∧ PenK H p m ∧ m ≤ 80000 ∧ 1 ≤ n ∧ n ≤ 60 ∧ 0 ≤ d ∧ d ≤ 2 ∧
  ∀ t M B ms bs fs H', But p H H' → PenK H' p (m + 600) → H M = none → H B = none → M ≠ B → H' t = some (.tup [.ref M, .ref B]) → H' M = some (.lst (ms.map V.int)) → H' B = some (.lst (bs.map V.int)) → Glu ms bs n n fs → Q (.ref t) H'
theorem ok_law_glued (T : LawT K mg A) : FnOk P w K mg base CX0 3 A.f_law_glued A.d_law_glued ["pen", "many", "bends", "walls"] (spGlued K) := by
  refine T.F_law_glued.ok sc_law_glued (fun vs H Q E h => ?_) (fun cdv Ar outer s H vs Q E hr h => ?_)
  · obtain ⟨_, _, _, _, _, rfl, _⟩ := h
    rfl
  · obtain ⟨p, n, m, d, wl, rfl, k0, hm, n1, n60, d0, d2, q⟩ := h
    refine ⟨_, (pss_cons (ps_par (i := 4) (j := 5) (by rfl) sc_law_glued.nd rfl rfl (by decide) rfl rfl (pa_cons (pe_lst (pa_cons (pe_listRg (by rfl) (by rfl) T.n_list (prg_1 (by rfl) T.n_range (pe_op op_mul pe_int (pv 1)))) (pa_cons (pe_op op_rep (pe_lst (pa_cons pe_int pa_nil)) (pe_op op_mul pe_int (pv 1))) (pa_cons (pv 2) pa_nil)))) (pa_cons (pe_lst (pa_cons pe_int (pa_cons pe_int (pa_cons pe_int pa_nil)))) pa_nil)) (by rfl))
      (pss_cons (ps_for PassesOwn.never rfl (pi_range2 (by rfl) T.n_range (pa_cons pe_int (pa_cons (pv 1) pa_nil))) (pg_name (i := 6) sc_law_glued.nd rfl (Or.inl rfl)) (pss_cons (ps_par (i := 7) (j := 8) (by rfl) sc_law_glued.nd rfl rfl (by decide) rfl rfl (pa_cons (pe_bm PySem.F.plainAttrs_list PySem.F.slot_list_pop PySem.F.type_list_pop mt_popAt (pv 5) (pa_cons (pe_call (ok_law_draw T) (hr.mono (by decide)) rfl T.g_law_draw T.F_law_draw.kp (b_law_draw T.F_law_draw) .nil pass0 (pa_cons (pv 0) (pa_cons (pe_callB call_len (by rfl) T.n_len (by decide +kernel) (pa_cons (pv 5) pa_nil)) pa_nil))) pa_nil)) (pa_cons (pe_lst (pa_cons (pe_op op_mul pe_int (pv 6)) (pa_cons (pe_op op_add (pe_op op_mul pe_int (pv 6)) pe_int) (pa_cons (pe_op op_add (pe_op op_mul pe_int (pv 6)) pe_int) pa_nil)))) pa_nil)) (by rfl))
      (pss_cons (ps_expr (pe_call (ok_law_joined T) (hr.mono (by decide)) rfl T.g_law_joined T.F_law_joined.kp (b_law_joined T.F_law_joined) .nil pass0 (pa_cons (pv 0) (pa_cons (pv 4) (pa_cons (pv 7) (pa_cons (pe_bm PySem.F.plainAttrs_list PySem.F.slot_list_pop PySem.F.type_list_pop mt_popAt (pv 8) (pa_cons (pe_call (ok_law_draw T) (hr.mono (by decide)) rfl T.g_law_draw T.F_law_draw.kp (b_law_draw T.F_law_draw) .nil pass0 (pa_cons (pv 0) (pa_cons pe_int pa_nil))) pa_nil)) pa_nil))))))
      (pss_one (ps_set (i := 5) sc_law_glued.nd rfl (Or.inl rfl) (pe_op op_cat (pv 5) (pv 8)))))))
      (pss_cons (ps_while PassesOwn.never (pt_cmpR op_gt (pe_callB call_len (by rfl) T.n_len (by decide +kernel) (pa_cons (pv 5) pa_nil)) pe_int (nomark _)) (pss_cons (ps_set (i := 7) sc_law_glued.nd rfl (Or.inl rfl) (pe_bm PySem.F.plainAttrs_list PySem.F.slot_list_pop PySem.F.type_list_pop mt_popAt (pv 5) (pa_cons (pe_call (ok_law_draw T) (hr.mono (by decide)) rfl T.g_law_draw T.F_law_draw.kp (b_law_draw T.F_law_draw) .nil pass0 (pa_cons (pv 0) (pa_cons (pe_callB call_len (by rfl) T.n_len (by decide +kernel) (pa_cons (pv 5) pa_nil)) pa_nil))) pa_nil)))
      (pss_one (ps_if (pt_cmpR op_ge (pe_call (ok_law_draw T) (hr.mono (by decide)) rfl T.g_law_draw T.F_law_draw.kp (b_law_draw T.F_law_draw) .nil pass0 (pa_cons (pv 0) (pa_cons pe_int pa_nil))) (pv 3) (nomark _)) (pss_one (ps_expr (pe_call (ok_law_joined T) (hr.mono (by decide)) rfl T.g_law_joined T.F_law_joined.kp (b_law_joined T.F_law_joined) .nil pass0 (pa_cons (pv 0) (pa_cons (pv 4) (pa_cons (pv 7) (pa_cons (pe_bm PySem.F.plainAttrs_list PySem.F.slot_list_pop PySem.F.type_list_pop mt_popAt (pv 5) (pa_cons (pe_call (ok_law_draw T) (hr.mono (by decide)) rfl T.g_law_draw T.F_law_draw.kp (b_law_draw T.F_law_draw) .nil pass0 (pa_cons (pv 0) (pa_cons (pe_callB call_len (by rfl) T.n_len (by decide +kernel) (pa_cons (pv 5) pa_nil)) pa_nil))) pa_nil)) pa_nil))))))) pss_nil))))
      (pss_one (ps_ret (pe_tup (pa_cons (pe_ix ix_list (pv 4) pe_int (fun _ _ => rfl)) (pa_cons (pe_ix ix_list (pv 4) pe_int (fun _ _ => rfl)) pa_nil)))))))), ?_⟩
    have n3 : 3 * (n : Int) = ((3 * n : Nat) : Int) := by omega
    refine ⟨_, rfl, _, _, rfl, rfl, .inl ⟨by decide, by decide⟩, _, rfl, RgOk.of_le (by omega) (by omega) (by omega) (by omega), fun M hM => ⟨by show 1 ≤ sizeLine; decide, fun z hz => ⟨_, rfl, _, _, rfl, rfl, .inl ⟨by decide, by decide⟩, z, 3 * (n : Int), [V.int 0], rfl, rfl, upd_same, by omega, by omega, ?_, fun B hB => ⟨_, rfl, three_line, fun R hR => ⟨three_line, fun F hF => ⟨_, _, rfl, ?_⟩⟩⟩⟩⟩⟩
    · show 1 * (3 * (n : Int)).toNat ≤ sizeLine
      exact Nat.le_trans (by omega : 1 * (3 * (n : Int)).toNat ≤ 180) (by decide)
    rw [n3, rgV_ints] at hz hB hR hF ⊢
    rw [show ((3 * n : Nat) : Int).toNat = 3 * n by omega] at hR hF ⊢
    have eB : (List.replicate (3 * n) [V.int 0]).flatten = (List.replicate (3 * n) (0 : Int)).map V.int := by
      have : ∀ k, (List.replicate k [V.int 0]).flatten = (List.replicate k (0 : Int)).map V.int := fun k => by
        induction k with
        | zero => rfl
        | succ k ih => rw [List.replicate_succ, List.flatten_cons, ih]; rfl
      exact this _
    rw [eB] at hR hF ⊢
    have g0 := glu_one n1
    generalize (List.range (3 * n)).map (fun i : Nat => (i : Int)) = ms0 at *
    generalize List.replicate (3 * n) (0 : Int) = bs0 at *
    have fr : ∀ {Ha Hb : Hp} {t : Addr}, Same Ha Hb → Hb t = none → Ha t = none := fun {Ha Hb t} s h => by
      cases e : Ha t with
      | none => rfl
      | some u => rw [s _ _ e] at h; cases h
    have q1 : upd H M (.lst (ms0.map V.int)) M = some (.lst (ms0.map V.int)) := upd_same
    have s1 := same_new (o := .lst (ms0.map V.int)) hM
    generalize upd H M (.lst (ms0.map V.int)) = H1 at *
    have s2 := same_new (o := .lst [.int 0]) hz
    have nzM : z ≠ M := fun z' => by rw [z', q1] at hz; cases hz
    have q1 := s2 _ _ q1
    replace s2 := s1.trans s2
    generalize upd H1 z (.lst [.int 0]) = H2 at *
    have nBM : B ≠ M := fun z' => by rw [z', q1] at hB; cases hB
    have s3 := same_new (o := .lst (bs0.map V.int)) hB
    have q2 : upd H2 B (.lst (bs0.map V.int)) B = some (.lst (bs0.map V.int)) := upd_same
    have q1 := s3 _ _ q1
    have hB0 := fr s2 hB
    replace s3 := s2.trans s3
    generalize upd H2 B (.lst (bs0.map V.int)) = H3 at *
    have nRM : R ≠ M := fun z' => by rw [z', q1] at hR; cases hR
    have nRB : R ≠ B := fun z' => by rw [z', q2] at hR; cases hR
    have s4 := same_new (o := .lst [.ref M, .ref B, .int d]) hR
    have q3 : upd H3 R (.lst [.ref M, .ref B, .int d]) R = some (.lst [.ref M, .ref B, .int d]) := upd_same
    have q1 := s4 _ _ q1
    have q2 := s4 _ _ q2
    have hR0 := fr s3 hR
    replace s4 := s3.trans s4
    generalize upd H3 R (.lst [.ref M, .ref B, .int d]) = H4 at *
    have nFM : F ≠ M := fun z' => by rw [z', q1] at hF; cases hF
    have nFB : F ≠ B := fun z' => by rw [z', q2] at hF; cases hF
    have nFR : F ≠ R := fun z' => by rw [z', q3] at hF; cases hF
    have s5 := same_new (o := .lst [.int 0, .int 1, .int 2]) hF
    have hF0 := fr s4 hF
    have D5 : RowsD p R M B d H (upd H4 F (.lst [.int 0, .int 1, .int 2])) ms0 bs0 (3 * n) := ⟨but_same (s4.trans s5) k0.lst, s5 _ _ q3, s5 _ _ q1, s5 _ _ q2, hR0, hM, hB0, nBM.symm, nRM, nRB, g0.lm, g0.lb⟩
    have k5 := k0.same (s4.trans s5)
    have q5 : upd H4 F (.lst [.int 0, .int 1, .int 2]) F = some (.lst (([0, 1, 2] : List Int).map V.int)) := upd_same
    generalize upd H4 F (.lst [.int 0, .int 1, .int 2]) = H5 at D5 k5 q5 ⊢
    clear s1 s2 s3 s4 s5 q1 q2 q3 hz hB hR hF nzM
    have szi : ∀ k : Nat, k < 1000 → SzI 100 (k : Int) := fun k h => (szI_nat (k := 10) (by omega)).mono (by decide)
    refine ⟨_, rfl, 1, n, rfl, ⟨by decide, by decide, by omega, by omega⟩, ?_⟩
    rw [show ((n : Int) - 1).toNat = n - 1 by omega]
    refine for_range (lo := 1) (n := n - 1) (fun i σ H' => ∃ F ms bs fs, (∃ w6 w7 w8, σ = [some (.ref p), some (.int n), some (.int d), some (.int wl), some (.ref R), some (.ref F), w6, w7, w8]) ∧ RowsD p R M B d H H' ms bs (3 * n) ∧ PenK H' p (m + 3 * i) ∧ H F = none ∧ F ≠ R ∧ F ≠ M ∧ F ≠ B ∧
      H' F = some (.lst (fs.map V.int)) ∧ fs.length = i + 3 ∧ Glu ms bs n (i + 1) fs) ⟨F, ms0, bs0, [0, 1, 2], ⟨_, _, _, rfl⟩, D5, k5, hF0, nFR, nFM, nFB, q5, rfl, g0⟩ (fun i σ H6 hi k => ?_) (fun σ H6 k => ?_)
    · clear D5 k5 q5 g0 nFR nFM nFB hF0 fr
      obtain ⟨F, ms, bs, fs, ⟨w6, w7, w8, rfl⟩, D, k6, hF0, nFR, nFM, nFB, hF, hfl, g⟩ := k
      have npF := lst_new k0.lst hF0
      refine ⟨_, rfl, .inl ⟨rfl, _, SqL.of hF⟩, _, rfl, _, rfl, _, (fs.map V.int).length, rfl, len_s (.inl (SqL.of hF)), ?_⟩
      rw [List.length_map]
      refine ⟨p, fs.length, m + 3 * i, rfl, k6, by omega, by omega, szi _ (by omega), fun r H7 r0 r1 e7 k7 => ?_⟩
      obtain ⟨j, rfl⟩ : ∃ j : Nat, r = (j : Int) := ⟨r.toNat, by omega⟩
      have hj : j < fs.length := by omega
      have D7 := D.but e7
      have hF7 := e7.2.2.1 _ _ npF hF
      refine ⟨F, fs.map V.int, (j : Int), j, .int fs[j], rfl, rfl, hF7, by omega, by omega, by rw [List.length_map]; exact seq_in (by omega) (by omega), by rw [List.getElem?_map, List.getElem?_eq_getElem hj]; rfl, ?_⟩
      rw [erase_map]
      have D8 := D7.put (o := .lst ((fs.eraseIdx j).map V.int)) hF0 nFR nFM nFB
      have k8 := pen_put (o := .lst ((fs.eraseIdx j).map V.int)) k7 D7.e k0 hF0
      have hF8 : upd H7 F (.lst ((fs.eraseIdx j).map V.int)) F = some (.lst ((fs.eraseIdx j).map V.int)) := upd_same
      generalize upd H7 F (.lst ((fs.eraseIdx j).map V.int)) = H8 at D8 k8 hF8 ⊢
      refine ⟨_, rfl, _, _, rfl, rfl, .inl ⟨by decide, by decide⟩, _, rfl, _, _, rfl, rfl, .inl ⟨by decide, by decide⟩, _, _, rfl, rfl, _, rfl, _, _, rfl, rfl, .inl ⟨by decide, by decide⟩, _, _, rfl, rfl, three_line, fun G hG => ⟨_, _, rfl, ?_⟩⟩
      have hG0 : H G = none := by
        cases e : H G with
        | none => rfl
        | some u =>
          have nGp : G ≠ p := lst_new k8.lst hG
          rw [D8.e.2.2.1 _ _ nGp e] at hG
          cases hG
      have npG := lst_new k0.lst hG0
      have nGF : G ≠ F := fun z' => by rw [z', hF8] at hG; cases hG
      have nGR : G ≠ R := fun z' => by rw [z', D8.hR] at hG; cases hG
      have nGM : G ≠ M := fun z' => by rw [z', D8.hM] at hG; cases hG
      have nGB : G ≠ B := fun z' => by rw [z', D8.hB] at hG; cases hG
      have sG := same_new (o := .lst [.int (3 * (1 + (i : Nat))), .int (3 * (1 + (i : Nat)) + 1), .int (3 * (1 + (i : Nat)) + 2)]) hG
      obtain ⟨gs, hgs⟩ : ∃ gs : List Int, gs = [3 * (1 + (i : Int)), 3 * (1 + (i : Int)) + 1, 3 * (1 + (i : Int)) + 2] := ⟨_, rfl⟩
      have hG9 : upd H8 G (.lst [.int (3 * (1 + (i : Nat))), .int (3 * (1 + (i : Nat)) + 1), .int (3 * (1 + (i : Nat)) + 2)]) G = some (.lst (gs.map V.int)) := by rw [upd_same, hgs]; rfl
      have D9 := D8.same sG
      have k9 := k8.same sG
      have hF9 := sG _ _ hF8
      generalize upd H8 G (.lst [.int (3 * (1 + (i : Nat))), .int (3 * (1 + (i : Nat)) + 1), .int (3 * (1 + (i : Nat)) + 2)]) = H9 at hG9 D9 k9 hF9 ⊢
      have hgl : gs.length = 3 := by rw [hgs]; rfl
      have hgr : ∀ x ∈ gs, 3 * ((i : Int) + 1) ≤ x ∧ x < 3 * ((i : Int) + 2) := fun x hx => by
        rw [hgs] at hx
        rcases List.mem_cons.mp hx with rfl | hx
        · omega
        · rcases List.mem_cons.mp hx with rfl | hx
          · omega
          · rcases List.mem_cons.mp hx with rfl | hx
            · omega
            · cases hx
      have hgn : gs.Nodup := by
        rw [hgs]
        simp
        omega
      refine ⟨_, rfl, _, rfl, _, rfl, _, rfl, .inl ⟨rfl, _, SqL.of hG9⟩, _, rfl, p, 3, m + 3 * i + 1, rfl, k9, by omega, by decide, szi 3 (by decide), fun r3 H10 a0 a1 e10 k10 => ?_⟩
      obtain ⟨j3, rfl⟩ : ∃ j3 : Nat, r3 = (j3 : Int) := ⟨r3.toNat, by omega⟩
      have hj3 : j3 < gs.length := by omega
      have D10 := D9.but e10
      have hG10 := e10.2.2.1 _ _ npG hG9
      have hF10 := e10.2.2.1 _ _ npF hF9
      refine ⟨G, gs.map V.int, (j3 : Int), j3, .int gs[j3], rfl, rfl, hG10, by omega, by omega, by rw [List.length_map]; exact seq_in (by omega) (by omega), by rw [List.getElem?_map, List.getElem?_eq_getElem hj3]; rfl, ?_⟩
      rw [erase_map]
      have D11 := D10.put (o := .lst ((gs.eraseIdx j3).map V.int)) hG0 nGR nGM nGB
      have k11 := pen_put (o := .lst ((gs.eraseIdx j3).map V.int)) k10 D10.e k0 hG0
      have hG11 : upd H10 G (.lst ((gs.eraseIdx j3).map V.int)) G = some (.lst ((gs.eraseIdx j3).map V.int)) := upd_same
      have hF11 : upd H10 G (.lst ((gs.eraseIdx j3).map V.int)) F = some (.lst ((fs.eraseIdx j).map V.int)) := by rw [upd_ne nGF.symm]; exact hF10
      generalize upd H10 G (.lst ((gs.eraseIdx j3).map V.int)) = H11 at D11 k11 hG11 hF11 ⊢
      have f1 := g.f _ (List.getElem_mem hj)
      have v1 := hgr _ (List.getElem_mem hj3)
      have kn := g.kn
      refine ⟨p, R, M, B, d, fs[j], gs[j3], H, ms, bs, 3 * n, m + 3 * i + 2, m, rfl, k0, k11, by omega, D11, f1.1, by omega, by omega, by omega, d0, d2, fun b H12 hb k12 D12 F12 => ?_⟩
      have hF12 := F12 _ _ npF nFM nFB hF11
      have hG12 := F12 _ _ npG nGM nGB hG11
      have pf := erase_perm fs j hj
      have pg := erase_perm gs j3 hj3
      have ndf := pf.nodup_iff.mpr g.nd
      have ndg := pg.nodup_iff.mpr hgn
      rw [List.nodup_cons] at ndf ndg
      have lf : (fs.eraseIdx j).length = i + 2 := by
        have := pf.length_eq
        rw [List.length_cons] at this
        omega
      have lg : (gs.eraseIdx j3).length = 2 := by
        have := pg.length_eq
        rw [List.length_cons] at this
        omega
      refine ⟨_, rfl, _, rfl, F, G, _, _, rfl, rfl, hF12, hG12, ?_, fun l hl => ?_⟩
      · rw [List.length_map, List.length_map, lf, lg]
        exact Nat.le_trans (show i + 2 + 2 ≤ 64 by omega) (by decide)
      · have hl0 : H l = none := by
          cases e : H l with
          | none => rfl
          | some u =>
            have nlp : l ≠ p := lst_new k12.lst hl
            rw [D12.e.2.2.1 _ _ nlp e] at hl
            cases hl
        have sl := same_new (o := .lst ((fs.eraseIdx j).map V.int ++ (gs.eraseIdx j3).map V.int)) hl
        refine ⟨l, join ms fs[j] gs[j3], both bs fs[j] gs[j3] b, fs.eraseIdx j ++ gs.eraseIdx j3, ⟨_, _, _, rfl⟩, D12.same sl, (k12.same sl).mono (by omega), hl0, fun z' => (by rw [z', D12.hR] at hl; cases hl), fun z' => (by rw [z', D12.hM] at hl; cases hl), fun z' => (by rw [z', D12.hB] at hl; cases hl), by rw [upd_same, List.map_append], by rw [List.length_append, lf, lg], ?_⟩
        refine g.join f1.1 (by omega) (by omega) (by omega) f1.2.2 (g.rest _ (by omega) (by omega)) (by omega) hb (i + 1 + 1) (by omega) (by omega) (fun x hx => ?_) ?_ (by omega) (by omega) (fun t ht => ?_)
        · rcases List.mem_append.mp hx with hx | hx
          · have hx' : x ∈ fs := pf.mem_iff.mp (List.mem_cons_of_mem _ hx)
            have := g.f x hx'
            exact ⟨this.1, by omega, this.2.2, fun z' => ndf.1 (z' ▸ hx), by omega⟩
          · have hx' : x ∈ gs := pg.mem_iff.mp (List.mem_cons_of_mem _ hx)
            have := hgr x hx'
            exact ⟨by omega, by omega, g.rest x (by omega) (by omega), by omega, fun z' => ndg.1 (z' ▸ hx)⟩
        · rw [List.nodup_append]
          refine ⟨ndf.2, ndg.2, fun x hx y hy z' => ?_⟩
          have h1 := g.f x (pf.mem_iff.mp (List.mem_cons_of_mem _ hx))
          have h2 := hgr y (pg.mem_iff.mp (List.mem_cons_of_mem _ hy))
          omega
        · by_cases c : t < i + 1
          · exact .inl c
          · refine .inr ⟨by omega, by omega⟩
    · clear D5 k5 q5 g0 nFR nFM nFB hF0 fr
      obtain ⟨F, ms, bs, fs, ⟨w6, w7, w8, rfl⟩, D, k6, hF0, nFR, nFM, nFB, hF, hfl, g⟩ := k
      rw [show n - 1 + 1 = n by omega] at g
      have npF := lst_new k0.lst hF0
      refine ⟨fun mm σ H' => ∃ ms bs fs, (∃ w6 w7 w8, σ = [some (.ref p), some (.int n), some (.int d), some (.int wl), some (.ref R), some (.ref F), w6, w7, w8]) ∧ RowsD p R M B d H H' ms bs (3 * n) ∧ PenK H' p (m + 190 + 4 * (70 - fs.length)) ∧ H' F = some (.lst (fs.map V.int)) ∧ fs.length = mm ∧ fs.length ≤ 64 ∧ Glu ms bs n n fs,
        ⟨_, ms, bs, fs, ⟨_, _, _, rfl⟩, D, k6.mono (by omega), hF, rfl, by omega, g⟩, ?_⟩
      clear D k6 hF hfl g
      rintro mm σ H6 ⟨ms, bs, fs, ⟨w6, w7, w8, rfl⟩, D, k6, hF, rfl, hfl, g⟩
      refine ⟨_, rfl, _, (fs.map V.int).length, rfl, len_s (.inl (SqL.of hF)), _, _, rfl, rfl, _, rfl, ?_⟩
      rw [List.length_map]
      by_cases c : 1 < fs.length
      · rw [decide_eq_true (show (1 : Int) < ((fs.length : Nat) : Int) by omega)]
        refine iteT ?_
        refine ⟨fun σ' H' => ∃ m', m' < fs.length ∧ ∃ ms bs fs, (∃ w6 w7 w8, σ' = [some (.ref p), some (.int n), some (.int d), some (.int wl), some (.ref R), some (.ref F), w6, w7, w8]) ∧ RowsD p R M B d H H' ms bs (3 * n) ∧ PenK H' p (m + 190 + 4 * (70 - fs.length)) ∧ H' F = some (.lst (fs.map V.int)) ∧ fs.length = m' ∧ fs.length ≤ 64 ∧ Glu ms bs n n fs, fun σ' H' h => h, ?_⟩
        refine ⟨_, rfl, .inl ⟨rfl, _, SqL.of hF⟩, _, rfl, _, rfl, _, (fs.map V.int).length, rfl, len_s (.inl (SqL.of hF)), ?_⟩
        rw [List.length_map]
        refine ⟨p, fs.length, m + 190 + 4 * (70 - fs.length), rfl, k6, by omega, by omega, szi _ (by omega), fun r H7 r0 r1 e7 k7 => ?_⟩
        obtain ⟨j, rfl⟩ : ∃ j : Nat, r = (j : Int) := ⟨r.toNat, by omega⟩
        have hj : j < fs.length := by omega
        have D7 := D.but e7
        have hF7 := e7.2.2.1 _ _ npF hF
        refine ⟨F, fs.map V.int, (j : Int), j, .int fs[j], rfl, rfl, hF7, by omega, by omega, by rw [List.length_map]; exact seq_in (by omega) (by omega), by rw [List.getElem?_map, List.getElem?_eq_getElem hj]; rfl, ?_⟩
        rw [erase_map]
        have D8 := D7.put (o := .lst ((fs.eraseIdx j).map V.int)) hF0 nFR nFM nFB
        have k8 := pen_put (o := .lst ((fs.eraseIdx j).map V.int)) k7 D7.e k0 hF0
        have hF8 : upd H7 F (.lst ((fs.eraseIdx j).map V.int)) F = some (.lst ((fs.eraseIdx j).map V.int)) := upd_same
        generalize upd H7 F (.lst ((fs.eraseIdx j).map V.int)) = H8 at D8 k8 hF8 ⊢
        have pf := erase_perm fs j hj
        have ndf := pf.nodup_iff.mpr g.nd
        rw [List.nodup_cons] at ndf
        have lf : (fs.eraseIdx j).length = fs.length - 1 := by
          have := pf.length_eq
          rw [List.length_cons] at this
          omega
        have f1 := g.f _ (List.getElem_mem hj)
        have hfs : ∀ x ∈ fs.eraseIdx j, x ∈ fs := fun x hx => pf.mem_iff.mp (List.mem_cons_of_mem _ hx)
        generalize hone : fs[j] = one at *
        generalize hgs : fs.eraseIdx j = gs at *
        refine ⟨_, rfl, p, 7, m + 190 + 4 * (70 - fs.length) + 1, rfl, k8, by omega, by decide, szi 7 (by decide), fun r2 H9 b0 b1 e9 k9 => ⟨_, rfl, _, _, rfl, rfl, _, rfl, ?_⟩⟩
        have D9 := D8.but e9
        have hF9 := e9.2.2.1 _ _ npF hF8
        by_cases c2 : wl ≤ r2
        · rw [decide_eq_true c2]
          refine iteT ?_
          refine ⟨_, rfl, _, rfl, _, rfl, _, rfl, .inl ⟨rfl, _, SqL.of hF9⟩, _, rfl, _, rfl, _, (gs.map V.int).length, rfl, len_s (.inl (SqL.of hF9)), ?_⟩
          rw [List.length_map]
          refine ⟨p, gs.length, m + 190 + 4 * (70 - fs.length) + 2, rfl, k9, by omega, by omega, szi _ (by omega), fun r3 H10 a0 a1 e10 k10 => ?_⟩
          obtain ⟨j3, rfl⟩ : ∃ j3 : Nat, r3 = (j3 : Int) := ⟨r3.toNat, by omega⟩
          have hj3 : j3 < gs.length := by omega
          have D10 := D9.but e10
          have hF10 := e10.2.2.1 _ _ npF hF9
          refine ⟨F, gs.map V.int, (j3 : Int), j3, .int gs[j3], rfl, rfl, hF10, by omega, by omega, by rw [List.length_map]; exact seq_in (by omega) (by omega), by rw [List.getElem?_map, List.getElem?_eq_getElem hj3]; rfl, ?_⟩
          rw [erase_map]
          have D11 := D10.put (o := .lst ((gs.eraseIdx j3).map V.int)) hF0 nFR nFM nFB
          have k11 := pen_put (o := .lst ((gs.eraseIdx j3).map V.int)) k10 D10.e k0 hF0
          have hF11 : upd H10 F (.lst ((gs.eraseIdx j3).map V.int)) F = some (.lst ((gs.eraseIdx j3).map V.int)) := upd_same
          generalize upd H10 F (.lst ((gs.eraseIdx j3).map V.int)) = H11 at D11 k11 hF11 ⊢
          have pg := erase_perm gs j3 hj3
          have ndg := pg.nodup_iff.mpr ndf.2
          rw [List.nodup_cons] at ndg
          have lg : (gs.eraseIdx j3).length = gs.length - 1 := by
            have := pg.length_eq
            rw [List.length_cons] at this
            omega
          have hv := List.getElem_mem hj3
          have v1 := g.f _ (hfs _ hv)
          have nov : one ≠ gs[j3] := fun z' => ndf.1 (z' ▸ hv)
          refine ⟨p, R, M, B, d, one, gs[j3], H, ms, bs, 3 * n, m + 190 + 4 * (70 - fs.length) + 3, m, rfl, k0, k11, by omega, D11, f1.1, by omega, v1.1, by omega, d0, d2, fun b H12 hb k12 D12 F12 => ?_⟩
          refine ⟨fs.length - 2, by omega, join ms one gs[j3], both bs one gs[j3] b, gs.eraseIdx j3, ⟨_, _, _, rfl⟩, D12, k12.mono (by omega), F12 _ _ npF nFM nFB hF11, by omega, by omega, ?_⟩
          refine g.join f1.1 (by omega) v1.1 (by omega) f1.2.2 v1.2.2 nov hb n (Nat.le_refl _) (Nat.le_refl _) (fun x hx => ?_) ndg.2 (by omega) (by omega) fun t ht => .inl ht
          have hx' : x ∈ gs := pg.mem_iff.mp (List.mem_cons_of_mem _ hx)
          have := g.f x (hfs x hx')
          exact ⟨this.1, this.2.1, this.2.2, fun z' => ndf.1 (z' ▸ hx'), fun z' => ndg.1 (z' ▸ hx)⟩
        · rw [decide_eq_false c2]
          refine iteF ⟨fs.length - 1, by omega, ms, bs, gs, ⟨_, _, _, rfl⟩, D9, k9.mono (by omega), hF9, by omega, by omega, ?_⟩
          exact ⟨g.lm, g.lb, g.r, g.b, fun x hx => g.f x (hfs x hx), ndf.2, g.rest, g.rch, g.kn⟩
      · rw [decide_eq_false (show ¬ (1 : Int) < ((fs.length : Nat) : Int) by omega)]
        refine iteF ?_
        refine ⟨_, rfl, R, _, 0, .ref M, rfl, rfl, SqL.of D.hR, atI_nat (j := 0) rfl, _, rfl, R, _, 1, .ref B, rfl, rfl, SqL.of D.hR, atI_nat (j := 1) rfl, two_line, fun t ht => ?_⟩
        have st := same_new (o := .tup [.ref M, .ref B]) ht
        exact q t M B ms bs fs _ (D.e.same st) ((k6.same st).mono (by omega)) D.M0 D.B0 D.nMB upd_same (st _ _ D.hM) (st _ _ D.hB) g
end
end KP


set_option Elab.async false
set_option linter.all false
set_option maxRecDepth 100000
set_option maxHeartbeats 4000000
set_option exponentiation.threshold 10000
namespace KP
open PySem PySem.Spec PyProof.Rows L2 ClX OG
/-! ### lots, in plain -/
inductive LeL : List Int → List Int → Prop
  | nil : LeL [] []
  | cons {x y : Int} {xs ys : List Int} (h : x ≤ y) (k : LeL xs ys) : LeL (x :: xs) (y :: ys)
theorem LeL.refl : ∀ xs : List Int, LeL xs xs
  | [] => .nil
  | x :: xs => .cons (Int.le_refl x) (LeL.refl xs)
theorem LeL.trans {xs ys zs : List Int} (a : LeL xs ys) (b : LeL ys zs) : LeL xs zs := by
  induction a generalizing zs with
  | nil => cases b; exact .nil
  | cons h k ih =>
    cases b with
    | cons h2 k2 => exact .cons (Int.le_trans h h2) (ih k2)
theorem LeL.anti {xs ys : List Int} (a : LeL xs ys) (b : LeL ys xs) : xs = ys := by
  induction a with
  | nil => rfl
  | cons h k ih =>
    cases b with
    | cons h2 k2 => rw [ih k2, Int.le_antisymm h h2]
theorem LeL.length {xs ys : List Int} (a : LeL xs ys) : xs.length = ys.length := by
  induction a with
  | nil => rfl
  | cons h k ih => rw [List.length_cons, List.length_cons, ih]
theorem LeL.sum {xs ys : List Int} (a : LeL xs ys) : xs.sum ≤ ys.sum ∧ (xs ≠ ys → xs.sum < ys.sum) := by
  induction a with
  | nil => exact ⟨Int.le_refl _, fun h => absurd rfl h⟩
  | @cons x y xs ys h k ih =>
    rw [List.sum_cons, List.sum_cons]
    refine ⟨by omega, fun hn => ?_⟩
    by_cases c : xs = ys
    · have : x ≠ y := fun z => hn (by rw [c, z])
      have := ih.1
      omega
    · have := ih.2 c
      omega
theorem LeL.set {xs : List Int} {i : Nat} {v : Int} (h : ∀ x, xs[i]? = some x → v ≤ x) : LeL (xs.set i v) xs := by
  induction xs generalizing i with
  | nil => exact .nil
  | cons x xs ih =>
    cases i with
    | zero => exact .cons (h x rfl) (LeL.refl xs)
    | succ i => exact .cons (Int.le_refl x) (ih fun y hy => h y (by simpa using hy))
/-- two places brought to the lesser of both -/
def lower (xs : List Int) (f l : Int) : List Int := (xs.set f.toNat (min (atM xs f) (atM xs l))).set l.toNat (min (atM xs f) (atM xs l))
theorem atM_get {xs : List Int} {p x : Int} (h : xs[p.toNat]? = some x) : atM xs p = x := by
  unfold atM
  rw [List.getD_eq_getElem?_getD, h]
  rfl
theorem lower_le (xs : List Int) (f l : Int) : LeL (lower xs f l) xs := by
  unfold lower
  refine LeL.trans (LeL.set fun x hx => ?_) (LeL.set fun x hx => ?_)
  · by_cases c : l.toNat = f.toNat
    · rw [c] at hx
      by_cases c2 : f.toNat < xs.length
      · rw [List.getElem?_set_self c2] at hx
        cases hx
        exact Int.le_refl _
      · rw [List.getElem?_eq_none (by rw [List.length_set]; omega)] at hx
        cases hx
    · rw [List.getElem?_set_ne (fun z => c z.symm)] at hx
      rw [atM_get hx]
      omega
  · rw [atM_get hx]
    omega
theorem lower_eq {xs : List Int} {f l : Int} (f0 : 0 ≤ f) (f1 : f < (xs.length : Int)) (l0 : 0 ≤ l) (l1 : l < (xs.length : Int)) (h : lower xs f l = xs) : atM xs f = atM xs l := by
  unfold lower at h
  have e1 : atM ((xs.set f.toNat (min (atM xs f) (atM xs l))).set l.toNat (min (atM xs f) (atM xs l))) l = atM xs l := by rw [h]
  have e2 : atM ((xs.set f.toNat (min (atM xs f) (atM xs l))).set l.toNat (min (atM xs f) (atM xs l))) f = atM xs f := by rw [h]
  rw [atM_set l0 (by rw [List.length_set]; exact l1) l0, if_pos rfl] at e1
  rw [atM_set l0 (by rw [List.length_set]; exact l1) f0, atM_set f0 f1 f0] at e2
  by_cases c : f = l
  · rw [c]
  · rw [if_neg c, if_pos rfl] at e2
    omega
/-- the ends of corners that meet at a border -/
def tips (ms bs : List Int) (i : Int) : List (Int × Int) := if atM ms i = i then [] else if atM bs i = 0 then [(i, nx3 (atM ms i)), (nx3 i, atM ms i)] else [(i, atM ms i), (nx3 i, nx3 (atM ms i))]
/-- lots that agree at all tips -/
def Shut (ms bs fs : List Int) (i : Int) : Prop := ∀ t ∈ tips ms bs i, atM fs t.1 = atM fs t.2
structure Lots (ms bs fs : List Int) : Prop where
  len : fs.length = ms.length
  pos : ∀ x ∈ fs, 0 ≤ x
  top : ∀ x ∈ fs, x < (ms.length : Int)
  shut : ∀ i : Nat, i < ms.length → Shut ms bs fs i
theorem lower_pos {xs : List Int} {f l m : Int} (f0 : 0 ≤ f) (f1 : f < (xs.length : Int)) (l0 : 0 ≤ l) (l1 : l < (xs.length : Int)) (h : ∀ x ∈ xs, 0 ≤ x ∧ x < m) : ∀ x ∈ lower xs f l, 0 ≤ x ∧ x < m := by
  have a : ∀ p : Int, 0 ≤ p → p < (xs.length : Int) → 0 ≤ atM xs p ∧ atM xs p < m := fun p h0 h1 => by
    refine h _ ?_
    unfold atM
    rw [List.getD_eq_getElem?_getD, List.getElem?_eq_getElem (by omega)]
    exact List.getElem_mem _
  have b1 := a f f0 f1
  have b2 := a l l0 l1
  intro x hx
  unfold lower at hx
  rcases List.mem_or_eq_of_mem_set hx with hx | rfl
  · rcases List.mem_or_eq_of_mem_set hx with hx | rfl
    · exact h x hx
    · omega
  · omega
section
variable {P : Program} {w : World} {K : PySem.W.Frag} {mg : Str → Option Value} {base : Heap} {A : Ad}
/-- rows of mates and bends that hang together rightly -/
structure MB (ms bs : List Int) (n : Nat) : Prop where
  lm : ms.length = 3 * n
  lb : bs.length = 3 * n
  n1 : 1 ≤ n
  n60 : n ≤ 60
  r : ∀ i : Int, 0 ≤ i → i < 3 * (n : Int) → 0 ≤ atM ms i ∧ atM ms i < 3 * (n : Int) ∧ atM ms (atM ms i) = i
theorem nx3_nx (p : Int) : nx3 p = nx p := by
  unfold nx3 nx
  split <;> omega
theorem nx3_range {n p : Int} (h : n % 3 = 0) (h0 : 0 ≤ p) (h1 : p < n) : 0 ≤ nx3 p ∧ nx3 p < n := by
  rw [nx3_nx]
  exact nx_range h h0 h1
/-- numbers of places -/
def Lo (ms fs : List Int) : Prop := fs.length = ms.length ∧ ∀ x ∈ fs, 0 ≤ x ∧ x < (ms.length : Int)
theorem Lo.lower {ms fs : List Int} {f l : Int} (h : Lo ms fs) (f0 : 0 ≤ f) (f1 : f < (ms.length : Int)) (l0 : 0 ≤ l) (l1 : l < (ms.length : Int)) : Lo ms (lower fs f l) :=
  ⟨by unfold KP.lower; rw [List.length_set, List.length_set]; exact h.1, lower_pos f0 (by rw [h.1]; exact f1) l0 (by rw [h.1]; exact l1) h.2⟩
theorem tips_range {ms bs : List Int} {n : Nat} (g : MB ms bs n) {i : Int} (i0 : 0 ≤ i) (i1 : i < (ms.length : Int)) : ∀ t ∈ tips ms bs i, 0 ≤ t.1 ∧ t.1 < (ms.length : Int) ∧ 0 ≤ t.2 ∧ t.2 < (ms.length : Int) := by
  have lm := g.lm
  have r := g.r i i0 (by omega)
  have a := nx3_range (n := (ms.length : Int)) (by omega) i0 i1
  have b := nx3_range (n := (ms.length : Int)) (p := atM ms i) (by omega) r.1 (by omega)
  intro t ht
  unfold tips at ht
  split at ht
  · cases ht
  · split at ht
    · rcases List.mem_cons.mp ht with rfl | ht
      · exact ⟨i0, i1, b.1, b.2⟩
      · rcases List.mem_cons.mp ht with rfl | ht
        · exact ⟨a.1, a.2, r.1, by omega⟩
        · cases ht
    · rcases List.mem_cons.mp ht with rfl | ht
      · exact ⟨i0, i1, r.1, by omega⟩
      · rcases List.mem_cons.mp ht with rfl | ht
        · exact ⟨a.1, a.2, b.1, b.2⟩
        · cases ht
theorem sum_pos {xs : List Int} (h : ∀ x ∈ xs, 0 ≤ x) : 0 ≤ xs.sum := by
  induction xs with
  | nil => exact Int.le_refl _
  | cons x xs ih =>
    rw [List.sum_cons]
    have := h x List.mem_cons_self
    have := ih fun y hy => h y (List.mem_cons_of_mem _ hy)
    omega
def spLots (K : PySem.W.Frag) : Sp := fun vs H Q _ => ∃ (a b : Addr) (ms bs : List Int) (n : Nat), vs = [.ref a, .ref b] ∧ SqS K H a (ms.map V.int) ∧ SqS K H b (bs.map V.int) ∧ (∃ u, H a = some u) ∧ MB ms bs n ∧
  ∀ F fs H', Same H H' → H F = none → H' F = some (.lst (fs.map V.int)) → Lots ms bs fs → Q (.ref F) H'
theorem ok_law_lots (T : LawT K mg A) : FnOk P w K mg base CX0 2 A.f_law_lots A.d_law_lots ["mates", "bent"] (spLots K) := by
  refine T.F_law_lots.ok sc_law_lots (fun vs H Q E h => ?_) (fun cdv Ar outer s H vs Q E hr h => ?_)
  · obtain ⟨_, _, _, _, _, rfl, _⟩ := h
    rfl
  · obtain ⟨a, b, ms, bs, n, rfl, ha, hb, hau, g, q⟩ := h
    refine ⟨_, (pss_cons (ps_par (i := 2) (j := 3) (by rfl) sc_law_lots.nd rfl rfl (by decide) rfl rfl (pa_cons (pe_listRg (by rfl) (by rfl) T.n_list (prg_1 (by rfl) T.n_range (pe_callB call_len (by rfl) T.n_len (by decide +kernel) (pa_cons (pv 0) pa_nil)))) (pa_cons (pe_lst pa_nil) pa_nil)) (by rfl))
      (pss_cons (ps_while PassesOwn.never (pt_cmpR (op_neD (un64 hr)) (pv 2) (pv 3) (nomark _)) (pss_cons (ps_set (i := 3) sc_law_lots.nd rfl (Or.inl rfl) (pe_callTy call_list_of (by rfl) T.n_list (by decide +kernel) (pa_cons (pv 2) pa_nil)))
      (pss_one (ps_for PassesOwn.never rfl (pi_enumS (by rfl) T.n_enumerate (pa_cons (pv 0) pa_nil)) (pg_tup rfl (pgs_cons (pg_name (i := 4) sc_law_lots.nd rfl (Or.inl rfl)) (pgs_cons (pg_name (i := 5) sc_law_lots.nd rfl (Or.inl rfl)) pgs_nil))) (pss_cons (ps_set (i := 6) sc_law_lots.nd rfl (Or.inl rfl) (pe_ifExp (pt_cmpR op_eq (pe_ix ix_seq (pv 1) (pv 4) (fun _ _ => rfl)) pe_int (nomark _)) (pe_lst (pa_cons (pe_tup (pa_cons (pv 4) (pa_cons (pe_call (ok_law_next T) (hr.mono (by decide)) rfl T.g_law_next T.F_law_next.kp (b_law_next T.F_law_next) .nil pass0 (pa_cons (pv 5) pa_nil)) pa_nil))) (pa_cons (pe_tup (pa_cons (pe_call (ok_law_next T) (hr.mono (by decide)) rfl T.g_law_next T.F_law_next.kp (b_law_next T.F_law_next) .nil pass0 (pa_cons (pv 4) pa_nil)) (pa_cons (pv 5) pa_nil))) pa_nil))) (pe_lst (pa_cons (pe_tup (pa_cons (pv 4) (pa_cons (pv 5) pa_nil))) (pa_cons (pe_tup (pa_cons (pe_call (ok_law_next T) (hr.mono (by decide)) rfl T.g_law_next T.F_law_next.kp (b_law_next T.F_law_next) .nil pass0 (pa_cons (pv 4) pa_nil)) (pa_cons (pe_call (ok_law_next T) (hr.mono (by decide)) rfl T.g_law_next T.F_law_next.kp (b_law_next T.F_law_next) .nil pass0 (pa_cons (pv 5) pa_nil)) pa_nil))) pa_nil)))))
      (pss_one (ps_for PassesOwn.never rfl (pi_seqW (pe_ifExp (pt_cmpR op_ne (pv 4) (pv 5) (nomark _)) (pv 6) (pe_lst pa_nil))) (pg_tup rfl (pgs_cons (pg_name (i := 7) sc_law_lots.nd rfl (Or.inl rfl)) (pgs_cons (pg_name (i := 8) sc_law_lots.nd rfl (Or.inl rfl)) pgs_nil))) (pss_cons (ps_set (i := 9) sc_law_lots.nd rfl (Or.inl rfl) (pe_callB (call_min2 rfl) (by rfl) T.n_min (by decide +kernel) (pa_cons (pe_callTy call_int1 (by rfl) T.n_int (by decide +kernel) (pa_cons (pe_ix ix_list (pv 2) (pv 7) (fun _ _ => rfl)) pa_nil)) (pa_cons (pe_callTy call_int1 (by rfl) T.n_int (by decide +kernel) (pa_cons (pe_ix ix_list (pv 2) (pv 8) (fun _ _ => rfl)) pa_nil)) pa_nil))))
      (pss_one (ps_asg (pe_tup (pa_cons (pv 9) (pa_cons (pv 9) pa_nil))) (pg_tup rfl (pgs_cons (pg_sub (pv 2) (pv 7) set_list) (pgs_cons (pg_sub (pv 2) (pv 8) set_list) pgs_nil)))))))))))))
      (pss_one (ps_ret (pv 2))))), ?_⟩
    have lm := g.lm
    have lb := g.lb
    have n1 := g.n1
    have n60 := g.n60
    obtain ⟨ua, hua⟩ := hau
    have lenS : LenV K (.ref a) H ms.length := by
      have := len_s (K := K) ha
      rwa [List.length_map] at this
    refine ⟨_, rfl, _, ms.length, rfl, lenS, _, rfl, RgOk.of_le (by omega) (by omega) (by omega) (by omega), fun F hF => ⟨by show 0 ≤ sizeLine; decide, fun O hO => ⟨_, _, rfl, ?_⟩⟩⟩
    rw [rgV_ints] at hO ⊢
    obtain ⟨f0, hf0⟩ : ∃ f0, f0 = (List.range ms.length).map fun i : Nat => (i : Int) := ⟨_, rfl⟩
    rw [← hf0] at hO ⊢
    have lo0 : Lo ms f0 := by
      rw [hf0]
      refine ⟨by rw [List.length_map, List.length_range], fun x hx => ?_⟩
      obtain ⟨i, h1, rfl⟩ := List.mem_map.mp hx
      have := List.mem_range.mp h1
      omega
    have ne0 : f0 ≠ [] := fun z => by
      have := lo0.1
      rw [z] at this
      simp at this
      omega
    clear hf0
    have nOF : O ≠ F := fun z => by rw [z, upd_same] at hO; cases hO
    have s1 := (same_new (o := .lst (f0.map V.int)) hF).trans (same_new (o := .lst []) hO)
    have qF : upd (upd H F (.lst (f0.map V.int))) O (.lst []) F = some (.lst (f0.map V.int)) := by rw [upd_ne nOF.symm]; exact upd_same
    have qO : upd (upd H F (.lst (f0.map V.int))) O (.lst []) O = some (.lst (([] : List Int).map V.int)) := upd_same
    generalize upd (upd H F (.lst (f0.map V.int))) O (.lst []) = H2 at s1 qF qO ⊢
    refine ⟨fun mm σ H' => ∃ O fs os, (∃ w4 w5 w6 w7 w8 w9, σ = [some (.ref a), some (.ref b), some (.ref F), some (.ref O), w4, w5, w6, w7, w8, w9]) ∧ Same H H' ∧ H' F = some (.lst (fs.map V.int)) ∧ H' O = some (.lst (os.map V.int)) ∧ Lo ms fs ∧ (fs = os → ∀ i : Nat, i < ms.length → Shut ms bs fs i) ∧ mm = if fs = os then 0 else 1 + fs.sum.toNat,
      ⟨_, O, f0, [], ⟨_, _, _, _, _, _, rfl⟩, s1, qF, qO, lo0, fun z => absurd z ne0, rfl⟩, ?_⟩
    clear qF qO s1 ne0 lo0 nOF hO
    rintro mm σ H3 ⟨O, fs, os, ⟨w4, w5, w6, w7, w8, w9, rfl⟩, s3, qF, qO, lo, hsh, rfl⟩
    refine ⟨_, rfl, _, rfl, .list (fs.map PyData.int), .list (os.map PyData.int), .lst (SqL.of qF) (dpa_ints _), .lst (SqL.of qO) (dpa_ints _), shaped_ints _, shaped_ints _, _, rfl, ?_⟩
    rw [eqv_ints]
    by_cases c : fs = os
    · rw [decide_eq_true c]
      exact iteF ⟨_, rfl, q F fs H3 s3 hF qF ⟨lo.1, fun x hx => (lo.2 x hx).1, fun x hx => (lo.2 x hx).2, hsh c⟩⟩
    rw [decide_eq_false c]
    refine iteT ?_
    refine ⟨fun σ' H' => ∃ m', m' < 1 + fs.sum.toNat ∧ ∃ O fs os, (∃ w4 w5 w6 w7 w8 w9, σ' = [some (.ref a), some (.ref b), some (.ref F), some (.ref O), w4, w5, w6, w7, w8, w9]) ∧ Same H H' ∧ H' F = some (.lst (fs.map V.int)) ∧ H' O = some (.lst (os.map V.int)) ∧ Lo ms fs ∧ (fs = os → ∀ i : Nat, i < ms.length → Shut ms bs fs i) ∧ m' = if fs = os then 0 else 1 + fs.sum.toNat, fun σ' H' h => (by rw [if_neg c]; exact h), ?_⟩
    clear qO hsh c
    refine ⟨_, rfl, F, _, rfl, .inl (SqL.of qF), fun O' hO' => ?_⟩
    have nOF : O' ≠ F := fun z => by rw [z, qF] at hO'; cases hO'
    have sO := same_new (o := .lst (fs.map V.int)) hO'
    have hO0 : H O' = none := by
      cases e : H O' with
      | none => rfl
      | some u => rw [s3 _ _ e] at hO'; cases hO'
    have qO : upd H3 O' (.lst (fs.map V.int)) O' = some (.lst (fs.map V.int)) := upd_same
    replace qF := sO _ _ qF
    replace s3 := s3.trans sO
    generalize upd H3 O' (.lst (fs.map V.int)) = H4 at s3 qF qO ⊢
    clear sO hO'
    refine ⟨_, rfl, a, _, rfl, same_s s3 ha, fun J wk => for_core (wk H (by rw [hua, s3 _ _ hua])) (fun i σ H' => Same H H' ∧ ∃ cur, (∃ w4 w5 w6 w7 w8 w9, σ = [some (.ref a), some (.ref b), some (.ref F), some (.ref O'), w4, w5, w6, w7, w8, w9]) ∧ H' F = some (.lst (cur.map V.int)) ∧ H' O' = some (.lst (fs.map V.int)) ∧ LeL cur fs ∧ Lo ms cur ∧ (cur = fs → ∀ k : Nat, k < i → Shut ms bs fs k))
      ⟨s3, fs, ⟨_, _, _, _, _, _, rfl⟩, qF, qO, LeL.refl _, lo, fun _ k hk => by omega⟩ (fun _ _ _ h => h.1) ?_ ?_⟩
    · clear s3 qF qO w4 w5 w6 w7 w8 w9
      rintro i x σ H5 H6 hi ⟨s5, cur, ⟨w4, w5, w6, w7, w8, w9, rfl⟩, qF, qO, le, lc, sh⟩ s6 ⟨T', y, rfl, hT, hy⟩
      obtain ⟨hin, rfl⟩ := itemM hy
      replace s5 := s5.trans s6
      replace qF := s6 _ _ qF
      replace qO := s6 _ _ qO
      clear hy
      have ip : (0 : Int) ≤ (i : Nat) := by omega
      have ir : ((i : Nat) : Int) < (ms.length : Int) := by omega
      have ib : ((i : Nat) : Int) < (bs.length : Int) := by omega
      have tr := tips_range g ip ir
      refine ⟨T', _, rfl, .inl (.inl hT), rfl, _, _, rfl, _, _, rfl, rfl, ?_⟩
      clear hT s6
      refine ⟨_, rfl, _, rfl, rix_s (same_s s5 hb) (atM_at ip ib) ⟨rfl, _, rfl, ?_⟩⟩
      -- the tips made
      have mk : ∀ (H7 : Hp) (u1 u2 L : Addr) (t1 t2 : Int × Int), H6 u1 = none → upd H6 u1 (.tup [.int t1.1, .int t1.2]) u2 = none → upd (upd H6 u1 (.tup [.int t1.1, .int t1.2])) u2 (.tup [.int t2.1, .int t2.2]) L = none → H7 = upd (upd (upd H6 u1 (.tup [.int t1.1, .int t1.2])) u2 (.tup [.int t2.1, .int t2.2])) L (.lst [.ref u1, .ref u2]) →
          Same H6 H7 ∧ H7 L = some (.lst ([u1, u2].map V.ref)) ∧ H7 u1 = some (.tup [.int t1.1, .int t1.2]) ∧ H7 u2 = some (.tup [.int t2.1, .int t2.2]) := fun H7 u1 u2 L t1 t2 a1 a2 a3 e => by
        subst e
        have b1 := same_new (o := .tup [.int t1.1, .int t1.2]) a1
        have b2 := same_new (o := .tup [.int t2.1, .int t2.2]) a2
        have b3 := same_new (o := .lst [.ref u1, .ref u2]) a3
        exact ⟨b1.trans (b2.trans b3), upd_same, b3 _ _ (b2 _ _ upd_same), b3 _ _ upd_same⟩
      by_cases c0 : atM bs i = 0
      rw [show decide (V.int (atM bs i) = V.int 0) = true from decide_eq_true (by rw [c0])]
      refine iteT ⟨_, rfl, _, rfl, _, rfl, two_line, fun u1 a1 => ⟨_, rfl, _, rfl, _, rfl, two_line, fun u2 a2 => ⟨two_line, fun L a3 => ?_⟩⟩⟩
      obtain ⟨s7, g1, g2, g3⟩ := mk _ u1 u2 L ((i : Int), nx3 (atM ms i)) (nx3 (i : Int), atM ms i) a1 a2 a3 rfl
      generalize upd (upd (upd H6 u1 (.tup [.int (i : Nat), .int (nx3 (atM ms i))])) u2 (.tup [.int (nx3 (i : Nat)), .int (atM ms i)])) L (.lst [.ref u1, .ref u2]) = H7 at s7 g1 g2 g3 ⊢
      have et : atM ms i ≠ (i : Int) → tips ms bs i = [((i : Int), nx3 (atM ms i)), (nx3 (i : Int), atM ms i)] := fun z => by unfold tips; rw [if_neg z, if_pos c0]
      generalize ((i : Int), nx3 (atM ms i)) = t1 at g2 et
      generalize (nx3 (i : Int), atM ms i) = t2 at g3 et
      rotate_left
      rw [show decide (V.int (atM bs i) = V.int 0) = false from decide_eq_false fun z => c0 (by injection z)]
      refine iteF ⟨_, rfl, _, rfl, two_line, fun u1 a1 => ⟨_, rfl, _, rfl, _, rfl, _, rfl, two_line, fun u2 a2 => ⟨two_line, fun L a3 => ?_⟩⟩⟩
      obtain ⟨s7, g1, g2, g3⟩ := mk _ u1 u2 L ((i : Int), atM ms i) (nx3 (i : Int), nx3 (atM ms i)) a1 a2 a3 rfl
      generalize upd (upd (upd H6 u1 (.tup [.int (i : Nat), .int (atM ms i)])) u2 (.tup [.int (nx3 (i : Nat)), .int (nx3 (atM ms i))])) L (.lst [.ref u1, .ref u2]) = H7 at s7 g1 g2 g3 ⊢
      have et : atM ms i ≠ (i : Int) → tips ms bs i = [((i : Int), atM ms i), (nx3 (i : Int), nx3 (atM ms i))] := fun z => by unfold tips; rw [if_neg z, if_neg c0]
      generalize ((i : Int), atM ms i) = t1 at g2 et
      generalize (nx3 (i : Int), nx3 (atM ms i)) = t2 at g3 et
      all_goals
        clear mk c0 a1 a2 a3
        have s57 := s5.trans s7
        have qF7 := s7 _ _ qF
        have qO7 := s7 _ _ qO
        refine ⟨_, rfl, _, rfl, rfl, _, rfl, ?_⟩
        by_cases cm : atM ms i = (i : Int)
        · rw [show decide (V.int ((i : Nat) : Int) = V.int (atM ms i)) = true from decide_eq_true (by rw [cm])]
          refine iteF ⟨by show 0 ≤ sizeLine; decide, fun Z hZ => ⟨Z, [], rfl, .inl (SqL.of upd_same), fun J2 wk2 => ?_⟩⟩
          have sZ := same_new (o := .lst []) hZ
          have wk2 := wk2 _ rfl
          have s8 := s57.trans sZ
          replace qF7 := sZ _ _ qF7
          replace qO7 := sZ _ _ qO7
          generalize upd H7 Z (.lst []) = H8 at wk2 s8 qF7 qO7 ⊢
          refine for_core wk2 (fun k σ H' => H' = H8 ∧ ∃ w4 w5 w6 w7 w8 w9, σ = [some (.ref a), some (.ref b), some (.ref F), some (.ref O'), w4, w5, w6, w7, w8, w9]) ⟨rfl, _, _, _, _, _, _, rfl⟩ (fun _ _ _ h => h.1 ▸ Same.refl _) (fun k x σ H' H'' hk => absurd hk (Nat.not_lt_zero k)) ?_
          rintro σ H' ⟨rfl, w4, w5, w6, w7, w8, w9, rfl⟩
          refine ⟨s8, cur, ⟨_, _, _, _, _, _, rfl⟩, qF7, qO7, le, lc, fun z k hk => ?_⟩
          by_cases ck : k = i
          · subst ck
            intro t ht
            unfold tips at ht
            rw [if_pos cm] at ht
            cases ht
          · exact sh z k (by omega)
        · rw [show decide (V.int ((i : Nat) : Int) = V.int (atM ms i)) = false from decide_eq_false fun z => cm (by injection z with z; exact z.symm)]
          refine iteT ⟨_, rfl, L, _, rfl, .inl (SqL.of g1), fun J2 wk2 => ?_⟩
          have nLF : L ≠ F := fun z => by
            rw [z, qF7] at g1
            have e1 : (cur.map V.int) = [V.ref u1, V.ref u2] := by injection g1 with g1; injection g1
            cases cur with
            | nil => cases e1
            | cons x xs => cases e1
          rw [et cm] at tr
          refine for_core (wk2 (fun c => if c = L then some (.lst ([u1, u2].map V.ref)) else none) (by rw [if_pos rfl, g1])) (fun k σ H' => (∀ c u, c ≠ F → H7 c = some u → H' c = some u) ∧ ∃ cur, (∃ w4 w5 w6 w7 w8 w9, σ = [some (.ref a), some (.ref b), some (.ref F), some (.ref O'), w4, w5, w6, w7, w8, w9]) ∧ H' F = some (.lst (cur.map V.int)) ∧ LeL cur fs ∧ Lo ms cur ∧
              (cur = fs → (∀ k : Nat, k < i → Shut ms bs fs k) ∧ ∀ t ∈ [t1, t2].take k, atM fs t.1 = atM fs t.2)) ⟨fun c u _ h => h, cur, ⟨_, _, _, _, _, _, rfl⟩, qF7, le, lc, fun z => ⟨sh z, fun t ht => by cases ht⟩⟩ (fun k σ H' h c u e => ?_) ?_ ?_
          · by_cases cL : c = L
            · subst cL
              have e : (if c = c then some (HO.lst ([u1, u2].map V.ref)) else none) = some u := e
              rw [if_pos rfl] at e
              cases e
              exact h.1 _ _ nLF g1
            · have e : (if c = L then some (HO.lst ([u1, u2].map V.ref)) else none) = some u := e
              rw [if_neg cL] at e
              cases e
          · clear sh le lc qF
            rintro k x σ H8 H9 hk ⟨rest, cur, ⟨w4, w5, w6, w7, w8, w9, rfl⟩, qF8, le, lc, sh⟩ s9 hx
            obtain ⟨u, t, rfl, hu, htk⟩ : ∃ u t, x = V.ref u ∧ H7 u = some (.tup [.int t.1, .int t.2]) ∧ [t1, t2][k]? = some t := by
              match k, hx with
              | 0, hx => cases hx; exact ⟨u1, t1, rfl, g2, rfl⟩
              | 1, hx => cases hx; exact ⟨u2, t2, rfl, g3, rfl⟩
            have nuF : u ≠ F := fun z => by
              rw [z, qF7] at hu
              cases hu
            obtain ⟨r1, r2, r3, r4⟩ := tr t (List.mem_of_getElem? htk)
            have hu9 := s9 _ _ (rest _ _ nuF hu)
            have qF9 := s9 _ _ qF8
            have lcl := lc.1
            refine ⟨u, _, rfl, SqT.of hu9, rfl, _, _, rfl, _, _, rfl, rfl, ?_⟩
            refine ⟨_, rfl, _, rfl, F, _, t.1, _, rfl, rfl, SqL.of qF9, atM_at r1 (by omega), .inl ⟨_, rfl, _, rfl, _, rfl, F, _, t.2, _, rfl, rfl, SqL.of qF9, atM_at r3 (by omega), .inl ⟨_, rfl, _, _, rfl, ?_⟩⟩⟩
            have elow : (if atM cur t.2 < atM cur t.1 then atM cur t.2 else atM cur t.1) = min (atM cur t.1) (atM cur t.2) := by
              rw [Int.min_def]
              split <;> split <;> omega
            rw [elow]
            refine ⟨_, rfl, _, rfl, two_line, fun t0 ht0 => ⟨t0, _, rfl, SqT.of upd_same, rfl, ?_⟩⟩
            have s0 := same_new (o := .tup [.int (min (atM cur t.1) (atM cur t.2)), .int (min (atM cur t.1) (atM cur t.2))]) ht0
            have qF10 := s0 _ _ qF9
            have rest10 : ∀ c u, c ≠ F → H7 c = some u → upd H9 t0 (.tup [.int (min (atM cur t.1) (atM cur t.2)), .int (min (atM cur t.1) (atM cur t.2))]) c = some u := fun c u h e => s0 _ _ (s9 _ _ (rest c u h e))
            generalize upd H9 t0 (.tup [.int (min (atM cur t.1) (atM cur t.2)), .int (min (atM cur t.1) (atM cur t.2))]) = H10 at qF10 rest10 ⊢
            refine ⟨_, _, rfl, _, rfl, _, rfl, F, _, t.1, t.1.toNat, rfl, rfl, qF10, by rw [List.length_map]; exact ixN_in r1 (by omega), ?_⟩
            rw [set_map]
            refine ⟨_, _, rfl, _, rfl, _, rfl, F, _, t.2, t.2.toNat, rfl, rfl, upd_same, by rw [List.length_map, List.length_set]; exact ixN_in r3 (by omega), rfl, ?_⟩
            rw [set_map]
            refine ⟨fun c u h e => by rw [upd_ne h, upd_ne h]; exact rest10 c u h e, lower cur t.1 t.2, ⟨_, _, _, _, _, _, rfl⟩, upd_same, (lower_le cur t.1 t.2).trans le, lc.lower r1 r2 r3 r4, fun z => ?_⟩
            have le2 := lower_le cur t.1 t.2
            have ecur : cur = fs := le.anti (by rw [z] at le2; exact le2)
            obtain ⟨sh1, sh2⟩ := sh ecur
            refine ⟨sh1, fun t' ht' => ?_⟩
            rw [List.take_succ, htk] at ht'
            rcases List.mem_append.mp ht' with ht' | ht'
            · exact sh2 t' ht'
            · have : t' = t := by simpa using ht'
              subst this
              rw [← ecur]
              exact lower_eq r1 (by omega) r3 (by omega) (by rw [z, ecur])
          · rintro σ H8 ⟨rest, cur, ⟨w4, w5, w6, w7, w8, w9, rfl⟩, qF8, le, lc, sh⟩
            have nOF' := nOF
            refine ⟨fun c u e => rest c u (fun z => by rw [z, hF] at e; cases e) (s57 c u e), cur, ⟨_, _, _, _, _, _, rfl⟩, qF8, rest _ _ nOF qO7, le, lc, fun z k hk => ?_⟩
            by_cases ck : k = i
            · subst ck
              intro t ht
              rw [et cm] at ht
              exact (sh z).2 t ht
            · exact (sh z).1 k (by omega)
    · clear s3 qF qO
      rintro σ H5 ⟨s5, cur, ⟨w4, w5, w6, w7, w8, w9, rfl⟩, qF, qO, le, lc, sh⟩
      rw [List.length_map] at sh
      refine ⟨if cur = fs then 0 else 1 + cur.sum.toNat, ?_, O', cur, fs, ⟨_, _, _, _, _, _, rfl⟩, s5, qF, qO, lc, fun z i hi => by rw [z]; exact sh z i hi, rfl⟩
      have p1 := sum_pos fun x hx => (lc.2 x hx).1
      by_cases z : cur = fs
      · rw [if_pos z]
        omega
      · rw [if_neg z]
        have := le.sum.2 z
        omega
end
end KP


set_option Elab.async false
set_option linter.all false
set_option maxRecDepth 100000
set_option maxHeartbeats 4000000
set_option exponentiation.threshold 10000
namespace KP
open PySem PySem.Spec PyProof.Rows L2 ClX OG
section
variable {P : Program} {w : World} {K : PySem.W.Frag} {mg : Str → Option Value} {base : Heap} {A : Ad}
/-- what a dict of such pairs has at a key that is among them -/
theorem merge_val : ∀ (more kvs : List (Key × V)) (k : Key), (∃ v, (k, v) ∈ more) ∨ (∃ v, valV kvs k = some v) → ∃ v, valV (mergeK kvs more) k = some v ∧ ((k, v) ∈ more ∨ valV kvs k = some v)
  | [], kvs, k, h => by
    rcases h with ⟨v, h⟩ | ⟨v, h⟩
    · cases h
    · exact ⟨v, h, .inr h⟩
  | (k0, v0) :: more, kvs, k, h => by
    have ih := merge_val more (putK kvs k0 v0) k
    rw [valV_put] at ih
    have e : mergeK kvs ((k0, v0) :: more) = mergeK (putK kvs k0 v0) more := rfl
    rw [e]
    by_cases c : k = k0
    · subst c
      rw [if_pos rfl] at ih
      obtain ⟨v, h1, h2⟩ := ih (.inr ⟨v0, rfl⟩)
      refine ⟨v, h1, .inl ?_⟩
      rcases h2 with h2 | h2
      · exact List.mem_cons_of_mem _ h2
      · injection h2 with h2
        subst h2
        exact List.mem_cons_self
    · rw [if_neg c] at ih
      obtain ⟨v, h1, h2⟩ := ih (by
        rcases h with ⟨v, h⟩ | h
        · rcases List.mem_cons.mp h with h | h
          · injection h with h _
            exact absurd h c
          · exact .inl ⟨v, h⟩
        · exact .inr h)
      refine ⟨v, h1, ?_⟩
      rcases h2 with h2 | h2
      · exact .inl (List.mem_cons_of_mem _ h2)
      · exact .inr h2
theorem paired_mono {α β : Type} {F G : α → β → Prop} (h : ∀ a b, F a b → G a b) : ∀ {xs : List α} {ys : List β}, Paired F xs ys → Paired G xs ys
  | _, _, .nil => .nil
  | _, _, .cons a t => .cons (h _ _ a) (paired_mono h t)
theorem one_same {H : Hp} {L : Addr} {o : HO} (h : H L = some o) : Same (fun c => if c = L then some o else none) H := fun c u e => by
  by_cases z : c = L
  · subst z
    have e : (if c = c then some o else none) = some u := e
    rw [if_pos rfl] at e
    cases e
    exact h
  · have e : (if c = L then some o else none) = some u := e
    rw [if_neg z] at e
    cases e
def spMarked (K : PySem.W.Frag) : Sp := fun vs H Q _ => ∃ (p a b : Addr) (ls ms : List Int) (m : Nat), vs = [.ref p, .ref a, .ref b] ∧ PenK H p m ∧ m ≤ 90000 ∧ SqL K H a (ls.map V.int) ∧ ls.length ≤ 200 ∧ SqL K H b (ms.map V.int) ∧ a ≠ p ∧ b ≠ p ∧ 0 < ms.length ∧ ms.length ≤ 1000 ∧
  ∀ D (f : Int → Int) H', But p H H' → PenK H' p (m + 200) → H D = none → H' D = some (.lst ((ls.map f).map V.int)) → (∀ l ∈ ls, f l ∈ ms) → Q (.ref D) H'
theorem ok_law_marked (T : LawT K mg A) : FnOk P w K mg base CX0 3 A.f_law_marked A.d_law_marked ["pen", "lots", "menu"] (spMarked K) := by
  refine T.F_law_marked.ok sc_law_marked (fun vs H Q E h => ?_) (fun cdv Ar outer s H vs Q E hr h => ?_)
  · obtain ⟨_, _, _, _, _, _, rfl, _⟩ := h
    rfl
  · obtain ⟨p, a, b, ls, ms, m, rfl, k0, hm, ha, hl, hb, nap, nbp, m0, m1, q⟩ := h
    refine ⟨_, (pss_cons (ps_set (i := 3) sc_law_marked.nd rfl (Or.inr rfl) (pe_callTy (call_dictP rfl) (by rfl) T.n_dict (by decide +kernel) (pa_cons (pe_lc (own := [("lot", 4)]) (g := gName 4) (by rfl) sc_law_marked.nd (pi_seqW (pe_callB (cr_sortedSetN rfl) (by rfl) T.n_sorted (by decide +kernel) (pa_cons (pe_callTy (cr_setOfL rfl) (by rfl) T.n_set (by decide +kernel) (pa_cons (pv 1) pa_nil)) pa_nil))) (blkOk_by (own := [("lot", 4)]) (N := N_law_marked) (sc := defScope s_law_marked) (by decide +kernel)) (fun _ _ _ _ _ => pg_name (i := 4) sc_law_marked.nd rfl (Or.inl rfl)) (fun _ _ _ _ _ => pts_nil) (fun _ _ _ _ _ => (pe_tup (pa_cons (pv 4) (pa_cons (pe_call (ok_law_pick T) (hr.mono (by decide)) rfl T.g_law_pick T.F_law_pick.kp (b_law_pick T.F_law_pick) .nil pass0 (pa_cons (pv 0) (pa_cons (pv 2) pa_nil))) pa_nil))))) pa_nil)))
      (pss_one (ps_ret (pe_lc (own := [("lot", 4)]) (g := gName 4) (by rfl) sc_law_marked.nd (pi_seqW (pv 1)) (blkOk_by (own := [("lot", 4)]) (N := N_law_marked) (sc := defScope s_law_marked) (by decide +kernel)) (fun _ _ _ _ _ => pg_name (i := 4) sc_law_marked.nd rfl (Or.inl rfl)) (fun _ _ _ _ _ => pts_nil) (fun _ _ _ _ _ => (show PE _ _ (tDGet (tVar 3) (tVar 4)) from by refine pe_dget ?_ ?_ ?_ ?_; exact un1 hr; exact (pv 3); exact (pv 4); exact fun _ _ => rfl)))))), ?_⟩
    refine ⟨_, rfl, a, ls, rfl, ha, by omega, fun c S hc hS => ⟨S, _, c, rfl, upd_same, by omega, fun ns L hns hin hlen hL => ?_⟩⟩
    generalize SetO _ S (fun j => decide (j ∈ ls)) c = O at hL ⊢
    have nSa : S ≠ p := fun z => by obtain ⟨xs, e⟩ := k0.lst; rw [z, e] at hS; cases hS
    have s1 := (same_new (o := O) hS).trans (same_new (o := .lst (ns.map V.int)) hL)
    have qL : upd (upd H S (O)) L (.lst (ns.map V.int)) L = some (.lst (ns.map V.int)) := upd_same
    have hL0 : H L = none := by
      cases e : H L with
      | none => rfl
      | some u => rw [same_new hS _ _ e] at hL; cases hL
    have nLp : L ≠ p := fun z => by obtain ⟨xs, e⟩ := k0.lst; rw [z, e] at hL0; cases hL0
    have hnl : ns.length ≤ 200 := by omega
    generalize upd (upd H S (O)) L (.lst (ns.map V.int)) = H1 at s1 qL ⊢
    clear hS hL nSa
    have e1 : But p H H1 := but_same s1 k0.lst
    have k1 := k0.same s1
    refine ⟨L, _, rfl, .inl (SqL.of qL), fun J wk D hD => ?_⟩
    have hD0 : H D = none := by
      cases e : H D with
      | none => rfl
      | some u => rw [s1 _ _ e] at hD; cases hD
    have nDp := lst_new k1.lst hD
    have nDL : D ≠ L := fun z => by rw [z, qL] at hD; cases hD
    refine comp_inv (wk (fun c => if c = L then some (.lst (ns.map V.int)) else none) (by rw [if_pos rfl, qL])) (fun i H' => But p H H' ∧ PenK H' p (m + i) ∧ H' L = some (.lst (ns.map V.int)) ∧ ∃ (ts : List Addr) (vs : List Int), H' D = some (.lst (ts.map V.ref)) ∧ ts.length = i ∧ vs.length = i ∧ (∀ v ∈ vs, v ∈ ms) ∧
      Paired (fun t (kv : Key × V) => H' t = some (.tup [kV kv.1, kv.2])) ts ((ns.take i).zip vs |>.map fun q => (.inl q.1, .int q.2))) ?_ ?_ ?_ ?_
    · refine ⟨e1.same (same_new hD), (k1.same (same_new hD)).mono (by omega), same_new hD _ _ qL, [], [], upd_same, rfl, rfl, fm_nil, (by rw [List.take_zero]; exact Paired.nil)⟩
    · exact fun i H' h => one_same h.2.2.1
    · rintro i x H2 H3 hi ⟨e2, k2, q2, ts, vs, d2, lt, lv, hv, pr⟩ s3 hx
      rw [List.length_map] at hi
      refine ⟨wipe_set, tyes ?_⟩
      rw [List.getElem?_map, List.getElem?_eq_getElem hi] at hx
      obtain rfl : V.int ns[i] = x := by injection hx
      have e3 := e2.same s3
      have k3 := k2.same s3
      refine ⟨_, rfl, _, rfl, _, rfl, p, b, ms.map V.int, m + i, rfl, k3, by omega, e3.l nbp hb, nbp, by rw [List.length_map]; exact m0, by rw [List.length_map]; exact m1, fun y H4 hy e4 k4 => ?_⟩
      obtain ⟨v, hv1, rfl⟩ := List.mem_map.mp hy
      refine ⟨two_line, fun u hu => ?_⟩
      have d3 := s3 _ _ d2
      have d4 := e4.2.2.1 _ _ nDp d3
      have sU := same_new (o := .tup [.int ns[i], .int v]) hu
      have hDu := sU _ _ d4
      have hLu := sU _ _ (e4.2.2.1 _ _ nLp (s3 _ _ q2))
      obtain ⟨l4, hl4⟩ := k3.lst
      have pr' : Paired (fun t (kv : Key × V) => upd H4 u (.tup [.int ns[i], .int v]) t = some (.tup [kV kv.1, kv.2])) ts ((ns.take i).zip vs |>.map fun q => (.inl q.1, .int q.2)) := by
        refine paired_mono (fun t kv h => sU _ _ (e4.2.2.1 _ _ (fun z => ?_) (s3 _ _ h))) pr
        have := s3 _ _ h
        rw [z, hl4] at this
        cases this
      refine ⟨_, hDu, by rw [List.length_map, lt]; exact Nat.lt_of_lt_of_le hi (Nat.le_trans hnl (by decide)), ?_, ?_, ?_, ts ++ [u], vs ++ [v], ?_⟩
      · exact but_put ((e3.trans e4).same sU) hD0
      · exact (pen_put (k4.same sU) ((e3.trans e4).same sU) k0 hD0)
      · rw [upd_ne nDL.symm]
        exact hLu
      · refine ⟨by rw [upd_same, List.map_append]; rfl, by rw [List.length_append, lt]; rfl, by rw [List.length_append, lv]; rfl, fun x hx => ?_, ?_⟩
        · rcases List.mem_append.mp hx with hx | hx
          · exact hv x hx
          · rw [List.mem_singleton.mp hx]
            exact hv1
        · rw [List.take_add_one, List.getElem?_eq_getElem hi, List.zip_append (by rw [List.length_take, lv]; omega), List.map_append]
          refine paired_mono (fun t kv h => ?_) (Paired.snoc pr' (show upd H4 u (.tup [.int ns[i], .int v]) u = some (.tup [kV (Sum.inl ns[i]), V.int v]) from upd_same))
          rw [upd_ne (fun z => by rw [z, hDu] at h; cases h)]
          exact h
    · rintro H2 ⟨e2, k2, q2, ts, vs, d2, lt, lv, hv, pr⟩
      rw [List.length_map] at lt lv k2 pr
      rw [List.take_length] at pr
      refine ⟨D, ts, _, rfl, SqL.of d2, paired_mono (fun t kv h => SqT.of h) pr, fun T hT => ?_⟩
      generalize hmap : (ns.zip vs |>.map fun q => ((Sum.inl q.1 : Key), V.int q.2)) = kvs
      have look : ∀ l ∈ ls, ∃ v : Int, v ∈ ms ∧ valV (mergeK [] kvs) (.inl l) = some (.int v) := fun l hl => by
        have hn : l ∈ ns := (hin l).mpr (by simpa using hl)
        obtain ⟨j, hj, rfl⟩ := List.getElem_of_mem hn
        obtain ⟨v, h1, h2⟩ := merge_val kvs [] (.inl ns[j]) (.inl ⟨.int (vs[j]'(by omega)), by
          rw [← hmap]
          refine List.mem_map.mpr ⟨(ns[j], vs[j]'(by omega)), ?_, rfl⟩
          rw [← List.getElem_zip (i := j) (h := by rw [List.length_zip]; omega)]
          exact List.getElem_mem _⟩)
        rcases h2 with h2 | h2
        · rw [← hmap] at h2
          obtain ⟨⟨k, v'⟩, h3, h4⟩ := List.mem_map.mp h2
          cases h4
          exact ⟨v', hv _ (List.of_mem_zip h3).2, h1⟩
        · cases h2
      have hTp := lst_new k2.lst hT
      have sT := same_new (o := .dK (mergeK [] kvs)) hT
      have hT0 : H T = none := by
        cases e : H T with
        | none => rfl
        | some u =>
          rw [e2.2.2.1 _ _ hTp e] at hT
          cases hT
      have e5 : But p H (upd H2 T (.dK (mergeK [] kvs))) := e2.same sT
      have k5 := k2.same sT
      have qT : upd H2 T (.dK (mergeK [] kvs)) T = some (.dK (mergeK [] kvs)) := upd_same
      generalize upd H2 T (.dK (mergeK [] kvs)) = H5 at e5 k5 qT ⊢
      let f : Int → Int := fun l => match valV (mergeK [] kvs) (.inl l) with
        | some (.int v) => v
        | _ => 0
      have hf : ∀ l ∈ ls, valV (mergeK [] kvs) (.inl l) = some (.int (f l)) ∧ f l ∈ ms := fun l hl => by
        obtain ⟨v, h1, h2⟩ := look l hl
        have : f l = v := by
          show (match valV (mergeK [] kvs) (.inl l) with
            | some (.int v) => v
            | _ => 0) = v
          rw [h2]
        rw [this]
        exact ⟨h2, h1⟩
      refine ⟨_, rfl, a, _, rfl, .inl (e5.l nap ha), fun J wk => ?_⟩
      refine comp_val (wk _ rfl) (fun i => V.int (f (ls.getD i 0))) (by rw [List.length_map]; exact Nat.lt_of_le_of_lt hl (by decide)) (fun i x H6 N hi s6 hx k => ?_) (fun C H6 hC s6 hC6 => ?_)
      · rw [List.length_map] at hi
        rw [List.getElem?_map, List.getElem?_eq_getElem hi] at hx
        obtain rfl : V.int ls[i] = x := by injection hx
        obtain ⟨h1, h2⟩ := hf ls[i] (List.getElem_mem hi)
        refine ⟨_, rfl, _, rfl, T, _, rfl, by have := DGet.k (k := .inl ls[i]) (s6 _ _ qT); rw [h1] at this; exact this, ?_⟩
        have := k H6 (Same.refl _)
        rw [List.getD_eq_getElem?_getD, List.getElem?_eq_getElem hi] at this
        exact this
      · rw [List.length_map] at hC6
        refine q C f H6 (e5.same s6) ((k5.same s6).mono (by omega)) ?_ ?_ fun l hl => (hf l hl).2
        · cases e : H C with
          | none => rfl
          | some u =>
            have nC := lst_new k5.lst hC
            rw [e5.2.2.1 _ _ nC e] at hC
            cases hC
        · rw [hC6]
          congr 1
          have : ∀ xs : List Int, (List.range xs.length).map (fun i => V.int (f (xs.getD i 0))) = (xs.map f).map V.int := fun xs => by
            refine List.ext_getElem (by simp) fun n h1 h2 => ?_
            have h3 : n < xs.length := by simpa using h2
            simp [List.getD_eq_getElem?_getD, List.getElem?_eq_getElem h3]
          rw [this ls]
end
end KP


set_option Elab.async false
set_option linter.all false
set_option maxRecDepth 100000
set_option maxHeartbeats 4000000
set_option exponentiation.threshold 10000
namespace KP
open PySem PySem.Spec PyProof.Rows L2 ClX OG
/-! ### rows that make a plan, in plain -/
structure PlanN (ms bs os : List Int) (n : Nat) : Prop where
  lm : ms.length = 3 * n
  lb : bs.length = 3 * n
  lo : os.length = 3 * n
  n1 : 1 ≤ n
  n60 : n ≤ 60
  r : ∀ i : Int, 0 ≤ i → i < 3 * (n : Int) → 0 ≤ atM ms i ∧ atM ms i < 3 * (n : Int) ∧ atM ms (atM ms i) = i
  b : ∀ i : Int, 0 ≤ i → i < 3 * (n : Int) → (atM bs i = 0 ∨ atM bs i = 1) ∧ atM bs (atM ms i) = atM bs i ∧ (atM ms i = i → atM bs i = 0)
  rch : ∀ t < n, Reach ms t
  o : ∀ x ∈ os, 1 ≤ x ∧ x ≤ 120
  shut : ∀ i : Nat, i < ms.length → Shut ms bs os i
theorem atM_mem {xs : List Int} {p : Int} (h0 : 0 ≤ p) (h1 : p < (xs.length : Int)) : atM xs p ∈ xs := by
  unfold atM
  rw [List.getD_eq_getElem?_getD, List.getElem?_eq_getElem (by omega)]
  exact List.getElem_mem _
theorem PlanN.mb {ms bs os : List Int} {n : Nat} (h : PlanN ms bs os n) : MB ms bs n := ⟨h.lm, h.lb, h.n1, h.n60, h.r⟩
theorem nx_pv {p : Int} : nx (pv3 p) = p := by
  unfold nx pv3
  split <;> split <;> omega
theorem PlanN.good {ms bs os : List Int} {n : Nat} (h : PlanN ms bs os n) : GoodP ms bs os := by
  have lm := h.lm
  have lb := h.lb
  have lo := h.lo
  have n1 := h.n1
  have n60 := h.n60
  refine ⟨?_, ?_, ?_, fun t ht => h.rch t (by omega)⟩
  · unfold sizeErr
    rw [if_pos ⟨by omega, by omega, by omega⟩, if_pos (by omega), if_pos (by omega)]
  · unfold matesErr
    have e1 : firstBad (ok1 ms) ms.length = none := firstBad_none fun i hi => by
      have := h.r i (by omega) (by omega)
      unfold ok1
      exact decide_eq_true ⟨this.1, by omega, this.2.2⟩
    have e2 : firstBad (ok2 ms bs) ms.length = none := firstBad_none fun i hi => by
      have := h.b i (by omega) (by omega)
      unfold ok2
      refine decide_eq_true ⟨this.1, this.2.1, fun z => ?_⟩
      have := this.2.2 z.1
      omega
    rw [e1, e2]
  · unfold ordersErr
    have e1 : firstBad (ok3 os) os.length = none := firstBad_none fun i hi => by
      unfold ok3
      exact decide_eq_true (h.o _ (atM_mem (by omega) (by omega)))
    have e2 : firstBad (ok4 ms bs os) os.length = none := firstBad_none fun i hi => by
      unfold ok4
      rw [List.all_eq_true]
      intro o ho
      refine decide_eq_true ?_
      unfold acr at ho
      have i0 : (0 : Int) ≤ (i : Int) := by omega
      have pr := pv_range (n := (ms.length : Int)) (p := (i : Int)) (by omega) i0 (by omega)
      rcases List.mem_append.mp ho with ho | ho
      · split at ho
        · cases ho
        · rename_i c
          rw [List.mem_singleton] at ho
          have sh := h.shut i (by omega)
          unfold Shut tips at sh
          rw [if_neg c] at sh
          have bb := h.b i i0 (by omega)
          by_cases z : atM bs i = 0
          · rw [if_pos z] at sh
            have := sh _ List.mem_cons_self
            rw [ho, if_neg (by omega), ← nx3_nx]
            exact this.symm
          · rw [if_neg z] at sh
            have := sh _ List.mem_cons_self
            rw [ho, if_pos (by omega)]
            exact this.symm
      · split at ho
        · cases ho
        · rename_i c
          rw [List.mem_singleton] at ho
          obtain ⟨j, hj⟩ : ∃ j : Nat, pv3 (i : Int) = (j : Int) := ⟨(pv3 (i : Int)).toNat, by omega⟩
          have nj : nx3 (j : Int) = i := by rw [nx3_nx, ← hj, nx_pv]
          rw [hj] at ho c pr
          have sh := h.shut j (by omega)
          unfold Shut tips at sh
          rw [if_neg c] at sh
          have bb := h.b j pr.1 (by omega)
          by_cases z : atM bs j = 0
          · rw [if_pos z] at sh
            have := sh _ (List.mem_cons_of_mem _ List.mem_cons_self)
            rw [ho, if_neg (by omega)]
            rw [nj] at this
            exact this.symm
          · rw [if_neg z] at sh
            have := sh _ (List.mem_cons_of_mem _ List.mem_cons_self)
            rw [ho, if_pos (by omega), ← nx3_nx]
            rw [nj] at this
            exact this.symm
    rw [e1, e2]
theorem atM_map {ls : List Int} {f : Int → Int} {p : Int} (h0 : 0 ≤ p) (h1 : p < (ls.length : Int)) : atM (ls.map f) p = f (atM ls p) := by
  unfold atM
  rw [List.getD_eq_getElem?_getD, List.getD_eq_getElem?_getD, List.getElem?_map, List.getElem?_eq_getElem (by omega)]
  rfl
theorem drawn_plan {ms bs fs ls : List Int} {n : Nat} {f : Int → Int} (g : Glu ms bs n n fs) (n1 : 1 ≤ n) (n60 : n ≤ 60) (l : Lots ms bs ls) (hf : ∀ x ∈ ls, 1 ≤ f x ∧ f x ≤ 120) : PlanN ms bs (ls.map f) n where
  lm := g.lm
  lb := g.lb
  lo := by rw [List.length_map, l.len, g.lm]
  n1 := n1
  n60 := n60
  r := g.r
  b := g.b
  rch := g.rch
  o := fun x hx => by
    obtain ⟨y, hy, rfl⟩ := List.mem_map.mp hx
    exact hf y hy
  shut := fun i hi t ht => by
    have ll := l.len
    obtain ⟨a, b, c, d⟩ := tips_range (n := n) ⟨g.lm, g.lb, n1, n60, g.r⟩ (i := (i : Int)) (by omega) (by omega) t ht
    rw [atM_map a (by omega), atM_map c (by omega), l.shut i hi t ht]
end KP


set_option Elab.async false
set_option linter.all false
set_option maxRecDepth 100000
set_option maxHeartbeats 4000000
set_option exponentiation.threshold 10000
namespace KP
open PySem PySem.Spec PyProof.Rows L2 ClX OG
section
variable {P : Program} {w : World} {K : PySem.W.Frag} {mg : Str → Option Value} {base : Heap} {A : Ad}
/-- three rows in tuples in a tuple -/
def RowsT (H : Hp) (t : Addr) (ms bs os : List Int) : Prop := ∃ a b c : Addr, H t = some (.tup [.ref a, .ref b, .ref c]) ∧ H a = some (.tup (ms.map V.int)) ∧ H b = some (.tup (bs.map V.int)) ∧ H c = some (.tup (os.map V.int))
theorem none_back {H H' : Hp} {p x : Addr} (e : But p H H') (h : H' x = none) : H x = none := by
  cases z : H x with
  | none => rfl
  | some u =>
    rw [e.2.2.1 _ _ (lst_new e.2.1 h) z] at h
    cases h
def spDrawn (K : PySem.W.Frag) : Sp := fun vs H Q _ => ∃ (p : Addr) (n m : Nat), vs = [.ref p, .int n] ∧ PenK H p m ∧ m ≤ 50000 ∧ 1 ≤ n ∧ n ≤ 60 ∧
  ∀ t ms bs os k H', But p H H' → PenK H' p (m + 1000) → RowsT H' t ms bs os → PlanN ms bs os k → Q (.ref t) H'
theorem ok_law_drawn (T : LawT K mg A) : FnOk P w K mg base CX0 4 A.f_law_drawn A.d_law_drawn ["pen", "most"] (spDrawn K) := by
  refine T.F_law_drawn.ok sc_law_drawn (fun vs H Q E h => ?_) (fun cdv Ar outer s H vs Q E hr h => ?_)
  · obtain ⟨_, _, _, rfl, _⟩ := h
    rfl
  · obtain ⟨p, n, m, rfl, k0, hm, n1, n60, q⟩ := h
    refine ⟨_, (pss_cons (ps_set (i := 2) sc_law_drawn.nd rfl (Or.inl rfl) (pe_op op_add pe_int (pe_call (ok_law_draw T) (hr.mono (by decide)) rfl T.g_law_draw T.F_law_draw.kp (b_law_draw T.F_law_draw) .nil pass0 (pa_cons (pv 0) (pa_cons (pv 1) pa_nil)))))
      (pss_cons (ps_asg (pe_call (ok_law_glued T) (hr.mono (by decide)) rfl T.g_law_glued T.F_law_glued.kp (b_law_glued T.F_law_glued) .nil pass0 (pa_cons (pv 0) (pa_cons (pv 2) (pa_cons (pe_call (ok_law_pick T) (hr.mono (by decide)) rfl T.g_law_pick T.F_law_pick.kp (b_law_pick T.F_law_pick) .nil pass0 (pa_cons (pv 0) (pa_cons (pe_lst (pa_cons pe_int (pa_cons pe_int (pa_cons pe_int (pa_cons pe_int (pa_cons pe_int pa_nil)))))) pa_nil))) (pa_cons (pe_call (ok_law_pick T) (hr.mono (by decide)) rfl T.g_law_pick T.F_law_pick.kp (b_law_pick T.F_law_pick) .nil pass0 (pa_cons (pv 0) (pa_cons (pe_lst (pa_cons pe_int (pa_cons pe_int (pa_cons pe_int (pa_cons pe_int pa_nil))))) pa_nil))) pa_nil))))) (pg_tup rfl (pgs_cons (pg_name (i := 3) sc_law_drawn.nd rfl (Or.inl rfl)) (pgs_cons (pg_name (i := 4) sc_law_drawn.nd rfl (Or.inl rfl)) pgs_nil))))
      (pss_one (ps_ret (pe_tup (pa_cons (pe_callTy call_tuple_of (by rfl) T.n_tuple (by decide +kernel) (pa_cons (pv 3) pa_nil)) (pa_cons (pe_callTy call_tuple_of (by rfl) T.n_tuple (by decide +kernel) (pa_cons (pv 4) pa_nil)) (pa_cons (pe_callTy call_tuple_of (by rfl) T.n_tuple (by decide +kernel) (pa_cons (pe_call (ok_law_marked T) (hr.mono (by decide)) rfl T.g_law_marked T.F_law_marked.kp (b_law_marked T.F_law_marked) .nil pass0 (pa_cons (pv 0) (pa_cons (pe_call (ok_law_lots T) (hr.mono (by decide)) rfl T.g_law_lots T.F_law_lots.kp (b_law_lots T.F_law_lots) .nil pass0 (pa_cons (pv 3) (pa_cons (pv 4) pa_nil))) (pa_cons (pe_call (ok_law_pick T) (hr.mono (by decide)) rfl T.g_law_pick T.F_law_pick.kp (b_law_pick T.F_law_pick) .nil pass0 (pa_cons (pv 0) (pa_cons (pe_lst (pa_cons (pe_lst (pa_cons pe_int pa_nil)) (pa_cons (pe_lst (pa_cons pe_int (pa_cons pe_int (pa_cons pe_int pa_nil)))) (pa_cons (pe_lst (pa_cons pe_int (pa_cons pe_int (pa_cons pe_int (pa_cons pe_int (pa_cons pe_int (pa_cons pe_int pa_nil))))))) pa_nil)))) pa_nil))) pa_nil)))) pa_nil)) pa_nil)))))))), ?_⟩
    have sz : ∀ k : Nat, k < 1000 → SzI 100 (k : Int) := fun k h => (szI_nat (k := 10) (by omega)).mono (by decide)
    refine ⟨_, rfl, _, rfl, p, (n : Int), m, rfl, k0, by omega, by omega, sz n (by omega), fun r H1 r0 r1 e1 k1 => ⟨_, _, rfl, rfl, ?_⟩⟩
    obtain ⟨nn, hnn⟩ : ∃ nn : Nat, 1 + r = (nn : Int) := ⟨(1 + r).toNat, by omega⟩
    show tSeq _ _ _ (List.set _ 2 (some (V.int (1 + r)))) _
    rw [hnn]
    have five : [V.int 0, .int 0, .int 1, .int 2, .int 2].length ≤ sizeLine := by show 5 ≤ sizeLine; decide
    have four : [V.int 0, .int 1, .int 3, .int 7].length ≤ sizeLine := by show 4 ≤ sizeLine; decide
    refine ⟨_, rfl, _, rfl, _, rfl, five, fun l1 hl1 => ?_⟩
    have none1 : ∀ {x : Addr}, H1 x = none → H x = none := fun h => none_back e1 h
    have nl1 : l1 ≠ p := lst_new k1.lst hl1
    have s1 := same_new (o := .lst [.int 0, .int 0, .int 1, .int 2, .int 2]) hl1
    have q1 : upd H1 l1 (.lst [.int 0, .int 0, .int 1, .int 2, .int 2]) l1 = some (.lst [.int 0, .int 0, .int 1, .int 2, .int 2]) := upd_same
    have e2 := e1.same s1
    have k2 := k1.same s1
    generalize upd H1 l1 (.lst [.int 0, .int 0, .int 1, .int 2, .int 2]) = H2 at q1 e2 k2 ⊢
    clear s1 none1
    refine ⟨p, l1, _, _, rfl, k2, by omega, SqL.of q1, nl1, by decide, by decide, fun d H3 hd e3 k3 => ?_⟩
    obtain ⟨di, rfl, d0, d2⟩ : ∃ i : Int, d = .int i ∧ 0 ≤ i ∧ i ≤ 2 := by
      simp only [List.mem_cons, List.not_mem_nil, or_false] at hd
      rcases hd with rfl | rfl | rfl | rfl | rfl
      · exact ⟨0, rfl, by decide, by decide⟩
      · exact ⟨0, rfl, by decide, by decide⟩
      · exact ⟨1, rfl, by decide, by decide⟩
      · exact ⟨2, rfl, by decide, by decide⟩
      · exact ⟨2, rfl, by decide, by decide⟩
    replace e3 := e2.trans e3
    refine ⟨_, rfl, four, fun l2 hl2 => ?_⟩
    have nl2 : l2 ≠ p := lst_new k3.lst hl2
    have s4 := same_new (o := .lst [.int 0, .int 1, .int 3, .int 7]) hl2
    have q2 : upd H3 l2 (.lst [.int 0, .int 1, .int 3, .int 7]) l2 = some (.lst [.int 0, .int 1, .int 3, .int 7]) := upd_same
    have e4 := e3.same s4
    have k4 := k3.same s4
    generalize upd H3 l2 (.lst [.int 0, .int 1, .int 3, .int 7]) = H4 at q2 e4 k4 ⊢
    clear s4
    refine ⟨p, l2, _, _, rfl, k4, by omega, SqL.of q2, nl2, by decide, by decide, fun wl H5 hw e5 k5 => ?_⟩
    obtain ⟨wi, rfl⟩ : ∃ i : Int, wl = .int i := by
      simp only [List.mem_cons, List.not_mem_nil, or_false] at hw
      rcases hw with rfl | rfl | rfl | rfl
      · exact ⟨_, rfl⟩
      · exact ⟨_, rfl⟩
      · exact ⟨_, rfl⟩
      · exact ⟨_, rfl⟩
    replace e5 := e4.trans e5
    clear e2 e3 e4 k2 k3 k4 q1 q2
    refine ⟨p, nn, _, di, wi, rfl, k5, by omega, by omega, by omega, d0, d2, fun t M B ms bs fs H6 e6 k6 hM hB nMB ht qM qB g => ?_⟩
    have hM0 := none_back e5 hM
    have hB0 := none_back e5 hB
    replace e6 := e5.trans e6
    have nMp := lst_new k5.lst hM
    have nBp := lst_new k5.lst hB
    refine ⟨t, _, rfl, SqT.of ht, rfl, _, _, rfl, _, _, rfl, rfl, ?_⟩
    clear ht k5 e5 hM hB
    refine ⟨_, rfl, M, _, rfl, .inl ⟨SqL.of qM, fun a ha => ?_⟩⟩
    have s7 := same_new (o := .tup (ms.map V.int)) ha
    have qa : upd H6 a (.tup (ms.map V.int)) a = some (.tup (ms.map V.int)) := upd_same
    have e7 := e6.same s7
    have k7 := k6.same s7
    have qM7 := s7 _ _ qM
    have qB7 := s7 _ _ qB
    generalize upd H6 a (.tup (ms.map V.int)) = H7 at qa e7 k7 qM7 qB7 ⊢
    refine ⟨_, rfl, B, _, rfl, .inl ⟨SqL.of qB7, fun b hb => ?_⟩⟩
    have s8 := same_new (o := .tup (bs.map V.int)) hb
    have qb : upd H7 b (.tup (bs.map V.int)) b = some (.tup (bs.map V.int)) := upd_same
    have e8 := e7.same s8
    have k8 := k7.same s8
    have qa8 := s8 _ _ qa
    have qM8 := s8 _ _ qM7
    have qB8 := s8 _ _ qB7
    generalize upd H7 b (.tup (bs.map V.int)) = H8 at qb e8 k8 qa8 qM8 qB8 ⊢
    clear s7 s8 qM7 qB7 qM qB qa e7 k7 e6 k6
    refine ⟨_, rfl, _, rfl, _, rfl, M, B, ms, bs, nn, rfl, .inl (SqL.of qM8), .inl (SqL.of qB8), ⟨_, qM8⟩, ⟨g.lm, g.lb, by omega, by omega, g.r⟩, fun F ls H9 s9 hF qF lot => ?_⟩
    have e9 := e8.same s9
    have k9 := k8.same s9
    have nFp := lst_new k8.lst hF
    have q9a := s9 _ _ qa8
    have q9b := s9 _ _ qb
    refine ⟨_, rfl, (by show 1 ≤ sizeLine; decide), fun u1 hu1 => ⟨three_line, fun u2 hu2 => ⟨(by show 6 ≤ sizeLine; decide), fun u3 hu3 => ⟨three_line, fun L hL => ?_⟩⟩⟩⟩
    have z1 := same_new (o := .lst [.int 1]) hu1
    have z2 := same_new (o := .lst [.int 1, .int 2, .int 3]) hu2
    have z3 := same_new (o := .lst [.int 1, .int 1, .int 2, .int 5, .int 7, .int 120]) hu3
    have z4 := same_new (o := .lst [.ref u1, .ref u2, .ref u3]) hL
    have menus : ∀ x ∈ [V.ref u1, .ref u2, .ref u3], ∃ (l : Addr) (os : List Int), x = .ref l ∧ l ≠ p ∧ 0 < os.length ∧ os.length ≤ 1000 ∧ (∀ y ∈ os, 1 ≤ y ∧ y ≤ 120) ∧
        upd (upd (upd (upd H9 u1 (.lst [.int 1])) u2 (.lst [.int 1, .int 2, .int 3])) u3 (.lst [.int 1, .int 1, .int 2, .int 5, .int 7, .int 120])) L (.lst [.ref u1, .ref u2, .ref u3]) l = some (.lst (os.map V.int)) := by
      intro x hx
      have y1 := k9.same z1
      have y2 := y1.same z2
      simp only [List.mem_cons, List.not_mem_nil, or_false] at hx
      rcases hx with rfl | rfl | rfl
      · exact ⟨u1, [1], rfl, lst_new k9.lst hu1, by decide, by decide, by decide, z4 _ _ (z3 _ _ (z2 _ _ upd_same))⟩
      · exact ⟨u2, [1, 2, 3], rfl, lst_new y1.lst hu2, by decide, by decide, by decide, z4 _ _ (z3 _ _ upd_same)⟩
      · exact ⟨u3, [1, 1, 2, 5, 7, 120], rfl, lst_new y2.lst hu3, by decide, by decide, by decide, z4 _ _ upd_same⟩
    have sz9 := z1.trans (z2.trans (z3.trans z4))
    have qL : upd (upd (upd (upd H9 u1 (.lst [.int 1])) u2 (.lst [.int 1, .int 2, .int 3])) u3 (.lst [.int 1, .int 1, .int 2, .int 5, .int 7, .int 120])) L (.lst [.ref u1, .ref u2, .ref u3]) L = some (.lst [.ref u1, .ref u2, .ref u3]) := upd_same
    have nLp : L ≠ p := fun z => by
      obtain ⟨xs, hx⟩ := k9.lst
      have := z3 _ _ (z2 _ _ (z1 _ _ hx))
      rw [← z, hL] at this
      cases this
    generalize upd (upd (upd (upd H9 u1 (.lst [.int 1])) u2 (.lst [.int 1, .int 2, .int 3])) u3 (.lst [.int 1, .int 1, .int 2, .int 5, .int 7, .int 120])) L (.lst [.ref u1, .ref u2, .ref u3]) = H10 at menus sz9 qL ⊢
    have e10 := e9.same sz9
    have k10 := k9.same sz9
    have qF10 := sz9 _ _ qF
    have q10a := sz9 _ _ q9a
    have q10b := sz9 _ _ q9b
    clear z1 z2 z3 z4 hu1 hu2 hu3 hL qF q9a q9b k9 e9 sz9 s9
    refine ⟨p, L, _, _, rfl, k10, by omega, SqL.of qL, nLp, by show 0 < 3; decide, by show 3 ≤ 1000; decide, fun x H11 hx e11 k11 => ?_⟩
    obtain ⟨l, os, rfl, nlp, o0, o1, ok, ql⟩ := menus x hx
    have nap : a ≠ p := fun z => by obtain ⟨xs, h⟩ := k10.lst; rw [← z, q10a] at h; cases h
    have nbp : b ≠ p := fun z => by obtain ⟨xs, h⟩ := k10.lst; rw [← z, q10b] at h; cases h
    have q11a := e11.2.2.1 _ _ nap q10a
    have q11b := e11.2.2.1 _ _ nbp q10b
    have ll := lot.len
    have lm := g.lm
    refine ⟨p, F, l, ls, os, _, rfl, k11, by omega, SqL.of (e11.2.2.1 _ _ nFp qF10), by omega, SqL.of (e11.2.2.1 _ _ nlp ql), nFp, nlp, o0, o1, fun D f H12 e12 k12 hD qD hf => ?_⟩
    have q12a := e12.2.2.1 _ _ nap q11a
    have q12b := e12.2.2.1 _ _ nbp q11b
    refine ⟨D, _, rfl, .inl ⟨SqL.of qD, fun c hc => ⟨three_line, fun t ht => ?_⟩⟩⟩
    have s13 := same_new (o := .tup ((ls.map f).map V.int)) hc
    have s14 := same_new (o := .tup [.ref a, .ref b, .ref c]) ht
    exact q t ms bs (ls.map f) nn _ ((e10.trans (e11.trans e12)).same (s13.trans s14)) ((k12.same (s13.trans s14)).mono (by omega)) ⟨a, b, c, upd_same, s14 _ _ (s13 _ _ q12a), s14 _ _ (s13 _ _ q12b), s14 _ _ upd_same⟩ (drawn_plan g (by omega) (by omega) lot fun y hy => ok _ (hf y hy))
end
end KP


set_option Elab.async false
set_option linter.all false
set_option maxRecDepth 100000
set_option maxHeartbeats 8000000
set_option exponentiation.threshold 10000
namespace KP
open PySem PySem.Spec PyProof.Rows L2 ClX OG
def gNilOne {α : Type} : List α → List α → List α
  | [], [c] => [c]
  | _, _ => []
theorem rel_nilOne {vs : List V} {us : List Value} {zs : List V} {ws : List Value} (r : Vals vs us) (rz : Vals zs ws) : Vals (gNilOne vs zs) (gNilOne us ws) := by
  cases r with
  | cons _ _ => exact .nil
  | nil =>
    cases rz with
    | nil => exact .nil
    | cons h t =>
      cases t with
      | nil => exact .cons h .nil
      | cons _ _ => exact .nil
section
variable {P : Program} {w : World} {K : PySem.W.Frag} {mg : Str → Option Value} {base : Heap} {A : Ad}
theorem kb_Plan_of_parts {f : Addr} {fd : FuncData} (F : Fun K "of" "Plan.of" s_Plan_of f fd) : KBinds K fd ["cls", "parts"] ["parts"] gOneOne gOneOne := by
  obtain ⟨oc, od, kV, doc, pm, an, cdv, ct, osl, rfl, lk, hcd⟩ := F.ex
  refine ⟨fun s us ws hK hl => ?_, fun {vs us zs ws} r rz => rel_oneOne r rz⟩
  match us, ws, hl with
  | [o], [a], _ => exact .of_eq rfl
  | [], _, hl => exact absurd hl (by simp [gOneOne])
  | _ :: _ :: _, _, hl => exact absurd hl (by simp [gOneOne])
  | [_], [], hl => exact absurd hl (by simp [gOneOne])
  | [_], _ :: _ :: _, hl => exact absurd hl (by simp [gOneOne])
theorem kb_Plan_is_border_place {f : Addr} {fd : FuncData} (F : Fun K "is_border" "Plan.is_border" s_Plan_is_border f fd) : KBinds K fd ["self", "place"] ["place"] gOneOne gOneOne := by
  obtain ⟨oc, od, kV, doc, pm, an, cdv, ct, osl, rfl, lk, hcd⟩ := F.ex
  refine ⟨fun s us ws hK hl => ?_, fun {vs us zs ws} r rz => rel_oneOne r rz⟩
  match us, ws, hl with
  | [o], [a], _ => exact .of_eq rfl
  | [], _, hl => exact absurd hl (by simp [gOneOne])
  | _ :: _ :: _, _, hl => exact absurd hl (by simp [gOneOne])
  | [_], [], hl => exact absurd hl (by simp [gOneOne])
  | [_], _ :: _ :: _, hl => exact absurd hl (by simp [gOneOne])
theorem kb_next_in_place {f : Addr} {fd : FuncData} (F : Fun K "next_in" "next_in" s_next_in f fd) : KBinds K fd ["place"] ["place"] gNilOne gNilOne := by
  obtain ⟨oc, od, kV, doc, pm, an, cdv, ct, osl, rfl, lk, hcd⟩ := F.ex
  refine ⟨fun s us ws hK hl => ?_, fun {vs us zs ws} r rz => rel_nilOne r rz⟩
  match us, ws, hl with
  | [], [a], _ => exact .of_eq rfl
  | [], [], hl => exact absurd hl (by simp [gNilOne])
  | _ :: _, _, hl => exact absurd hl (by simp [gNilOne])
  | [], _ :: _ :: _, hl => exact absurd hl (by simp [gNilOne])
theorem kb_prev_in_place {f : Addr} {fd : FuncData} (F : Fun K "prev_in" "prev_in" s_prev_in f fd) : KBinds K fd ["place"] ["place"] gNilOne gNilOne := by
  obtain ⟨oc, od, kV, doc, pm, an, cdv, ct, osl, rfl, lk, hcd⟩ := F.ex
  refine ⟨fun s us ws hK hl => ?_, fun {vs us zs ws} r rz => rel_nilOne r rz⟩
  match us, ws, hl with
  | [], [a], _ => exact .of_eq rfl
  | [], [], hl => exact absurd hl (by simp [gNilOne])
  | _ :: _, _, hl => exact absurd hl (by simp [gNilOne])
  | [], _ :: _ :: _, hl => exact absurd hl (by simp [gNilOne])
abbrev XM (P : Program) (w : World) (K : PySem.W.Frag) (mg : Str → Option Value) (base : Heap) (A : Ad) (cdv : Value) (Ar : Around) (outer : List Env) (s : Shared) (H : Hp) (E : XK) : Cx :=
  (cxOf CX0 P w K mg base N_law_made_right "_law_made_right" (defScope s_law_made_right) A.f_law_made_right cdv Ar outer s H E).nox
noncomputable def dmr {cdv : Value} {Ar : Around} {outer : List Env} {s : Shared} {H : Hp} {E : XK} (T : LawT K mg A) (hg : RmG 7 (XM P w K mg base A cdv Ar outer s H E).A) (hr : Room 7 (XM P w K mg base A cdv Ar outer s H E).A) : {t : TS // PSs (XM P w K mg base A cdv Ar outer s H E) (defBody s_law_made_right) t} :=
  ⟨_, (pss_cons (ps_setLc (i := 2) (own := [("row", 1)]) (g := gName 1) (by rfl) sc_law_made_right.nd rfl rfl (sw_true rfl rfl rfl (by decide +kernel)) (pi_seqW (pv 0)) (blkOk_by (own := [("row", 1)]) (N := N_law_made_right) (sc := defScope s_law_made_right) (by decide +kernel)) (fun _ _ _ _ _ => pg_name (i := 1) sc_law_made_right.nd rfl (Or.inl rfl)) (fun _ _ _ _ _ => pts_nil) (fun _ _ _ _ _ => (pe_callTy (T := "list") (r := rListOf K) call_list_of (by rfl) T.n_list (by decide +kernel) (pa_cons (pv 1) pa_nil))))
      (pss_cons (ps_asg (pe_tup (pa_cons (pe_make T.mk_Plan (ok_Plan_init T.toTxt) (hr.mono (by decide)) rfl T.g_Plan (b_Plan_init T.F_Plan_init) .nil passL (pa_cons (pe_ix ix_list (pv 2) pe_int (fun _ _ => rfl)) (pa_cons (pe_callTy call_tuple_of (by rfl) T.n_tuple (by decide +kernel) (pa_cons (pe_ix ix_list (pv 2) pe_int (fun _ _ => rfl)) pa_nil)) (pa_cons (pe_ix ix_list (pv 2) pe_int (fun _ _ => rfl)) pa_nil)))) (pa_cons (pe_cmethK0 (pe_glob (v := .ref A.c_Plan) rfl T.g_Plan rfl) T.cr_Plan T.cm_of (ok_Plan_of T.toTxt) (hr.mono (by decide)) (kb_Plan_of_parts T.F_Plan_of) passL (pk_cons (pe_tup (pa_cons (pe_ix ix_tup (pv 0) pe_int (fun _ _ => rfl)) (pa_cons (pe_callTy call_list_of (by rfl) T.n_list (by decide +kernel) (pa_cons (pe_ix ix_tup (pv 0) pe_int (fun _ _ => rfl)) pa_nil)) (pa_cons (pe_ix ix_tup (pv 0) pe_int (fun _ _ => rfl)) pa_nil)))) pk_nil)) pa_nil))) (pg_tup rfl (pgs_cons (pg_name (i := 3) sc_law_made_right.nd rfl (Or.inr rfl)) (pgs_cons (pg_name (i := 4) sc_law_made_right.nd rfl (Or.inl rfl)) pgs_nil))))
      (pss_cons (ps_for PassesOwn.never rfl (pi_seqW (pv 2)) (pg_name (i := 1) sc_law_made_right.nd rfl (Or.inl rfl)) (pss_cons (ps_asg pe_int (pg_sub (pv 1) pe_int set_list))
      (pss_one (ps_expr (pe_bm PySem.F.plainAttrs_list PySem.F.slot_list_append PySem.F.type_list_append mt_append (pv 1) (pa_cons pe_non pa_nil))))))
      (pss_cons (ps_if (PW.pt (pw_or (pt_cmpR op_ne (pe_callB (call_repr hg.gd (un65 hr)) (by rfl) T.n_repr (by decide +kernel) (pa_cons (pe_fld (pv 3) rfl) pa_nil)) (pe_callB (call_repr hg.gd (un65 hr)) (by rfl) T.n_repr (by decide +kernel) (pa_cons (pv 0) pa_nil)) (nomark _)) (pw_or1 (pt_cmpR op_ne (pe_callB (call_repr hg.gd (un65 hr)) (by rfl) T.n_repr (by decide +kernel) (pa_cons (pe_lst (pa_cons (pe_fld (pv 3) rfl) (pa_cons (pe_fld (pv 3) rfl) (pa_cons (pe_fld (pv 3) rfl) pa_nil)))) pa_nil)) (pe_callB (call_repr hg.gd (un65 hr)) (by rfl) T.n_repr (by decide +kernel) (pa_cons (pe_callTy call_list_of (by rfl) T.n_list (by decide +kernel) (pa_cons (pv 0) pa_nil)) pa_nil)) (nomark _))))) (pss_one (ps_ret pe_bl)) pss_nil)
      (pss_cons (ps_if (PW.pt (pw_or (pt_cmpR op_ne (pe_callB SkE.call_repr_int (by rfl) T.n_repr (by decide +kernel) (pa_cons (pe_callB (call_lenO (C := A.c_Plan) (E := E0) (ok_Plan_len T.toTxt) (hr.mono (by decide)) T.l_Plan T.fn_Plan_len (b_Plan_len T.F_Plan_len) pass0) (by rfl) T.n_len (by decide +kernel) (pa_cons (pv 3) pa_nil)) pa_nil)) (pe_callB SkE.call_repr_int (by rfl) T.n_repr (by decide +kernel) (pa_cons (pe_op op_fdiv (pe_callB call_len (by rfl) T.n_len (by decide +kernel) (pa_cons (pe_ix ix_tup (pv 0) pe_int (fun _ _ => rfl)) pa_nil)) pe_int) pa_nil)) (nomark _)) (pw_or (pt_not (pt_cmpR (op_eqO (C := A.c_Plan) (E := E0) (ok_Plan_eq T.toTxt) (hr.mono (by decide)) T.e_Plan T.fn_Plan_eq (b_Plan_eq T.F_Plan_eq) pass0) (pv 3) (pv 4) (nomark _))) (pw_or (pt_cmpR (op_neO (C := A.c_Plan) (E := E0) (ok_Plan_eq T.toTxt) (hr.mono (by decide)) T.ne_Plan (b_Plan_eq T.F_Plan_eq) pass0) (pv 3) (pv 4) (nomark _)) (pw_or (pt_cmpR (op_eqO (C := A.c_Plan) (E := E0) (ok_Plan_eq T.toTxt) (hr.mono (by decide)) T.e_Plan T.fn_Plan_eq (b_Plan_eq T.F_Plan_eq) pass0) (pv 3) (pv 0) (nomark _)) (pw_or1 (pt_cmpR (op_eqO (C := A.c_Plan) (E := E0) (ok_Plan_eq T.toTxt) (hr.mono (by decide)) T.e_Plan T.fn_Plan_eq (b_Plan_eq T.F_Plan_eq) pass0) (pv 3) pe_non (nomark _)))))))) (pss_one (ps_ret pe_bl)) pss_nil)
      (pss_cons (ps_setLc (i := 5) (own := [("spot", 7)]) (g := gName 7) (by rfl) sc_law_made_right.nd rfl rfl (sw_true rfl rfl rfl (by decide +kernel)) (pi_range1 (by rfl) T.n_range (pa_cons (pe_callB call_len (by rfl) T.n_len (by decide +kernel) (pa_cons (pe_ix ix_tup (pv 0) pe_int (fun _ _ => rfl)) pa_nil)) pa_nil)) (blkOk_by (own := [("spot", 7)]) (N := N_law_made_right) (sc := defScope s_law_made_right) (by decide +kernel)) (fun _ _ _ _ _ => pg_name (i := 7) sc_law_made_right.nd rfl (Or.inl rfl)) (fun _ _ _ _ _ => pts_one (pt_cmpR op_eq (pe_ix (r := rIxT K) ix_tup (pe_ix (r := rIxT K) ix_tup (pv 0) pe_int (fun _ _ => rfl)) (pv 7) (fun _ _ => rfl)) (pv 7) (nomark _))) (fun _ _ _ _ _ => (pv 7)))
      (pss_cons (ps_setLc (i := 6) (own := [("spot", 7)]) (g := gName 7) (by rfl) sc_law_made_right.nd rfl rfl (sw_true rfl rfl rfl (by decide +kernel)) (pi_range1 (by rfl) T.n_range (pa_cons (pe_callB call_len (by rfl) T.n_len (by decide +kernel) (pa_cons (pe_ix ix_tup (pv 0) pe_int (fun _ _ => rfl)) pa_nil)) pa_nil)) (blkOk_by (own := [("spot", 7)]) (N := N_law_made_right) (sc := defScope s_law_made_right) (by decide +kernel)) (fun _ _ _ _ _ => pg_name (i := 7) sc_law_made_right.nd rfl (Or.inl rfl)) (fun _ _ _ _ _ => pts_one (pt_cmpR op_ne (pe_op op_fdiv (pe_ix (r := rIxT K) ix_tup (pe_ix (r := rIxT K) ix_tup (pv 0) pe_int (fun _ _ => rfl)) (pv 7) (fun _ _ => rfl)) pe_int) (pe_op op_fdiv (pv 7) pe_int) (nomark _))) (fun _ _ _ _ _ => (pv 7)))
      (pss_cons (ps_if (pt_cmpR op_ne (pe_callB (call_repr hg.gd (un65 hr)) (by rfl) T.n_repr (by decide +kernel) (pa_cons (pe_lc (own := [("spot", 7)]) (g := gName 7) (by rfl) sc_law_made_right.nd (pi_range1 (by rfl) T.n_range (pa_cons (pe_callB call_len (by rfl) T.n_len (by decide +kernel) (pa_cons (pe_ix ix_tup (pv 0) pe_int (fun _ _ => rfl)) pa_nil)) pa_nil)) (blkOk_by (own := [("spot", 7)]) (N := N_law_made_right) (sc := defScope s_law_made_right) (by decide +kernel)) (fun _ _ _ _ _ => pg_name (i := 7) sc_law_made_right.nd rfl (Or.inl rfl)) (fun _ _ _ _ _ => pts_one (pt_val (pe_meth (pv 3) T.i_Plan.cl T.m_is_mirror (ok_Plan_is_mirror T.toTxt) (hr.mono (by decide)) (b_Plan_is_mirror T.F_Plan_is_mirror) .nil pass0 (pa_cons (pv 7) pa_nil)))) (fun _ _ _ _ _ => (pv 7))) pa_nil)) (pe_callB (call_repr hg.gd (un65 hr)) (by rfl) T.n_repr (by decide +kernel) (pa_cons (pv 5) pa_nil)) (nomark _)) (pss_one (ps_ret pe_bl)) pss_nil)
      (pss_one (ps_ret (pe_cmpR op_eq (pe_callB (call_repr hg.gd (un65 hr)) (by rfl) T.n_repr (by decide +kernel) (pa_cons (pe_lc (own := [("spot", 7)]) (g := gName 7) (by rfl) sc_law_made_right.nd (pi_range1 (by rfl) T.n_range (pa_cons (pe_callB call_len (by rfl) T.n_len (by decide +kernel) (pa_cons (pe_ix ix_tup (pv 0) pe_int (fun _ _ => rfl)) pa_nil)) pa_nil)) (blkOk_by (own := [("spot", 7)]) (N := N_law_made_right) (sc := defScope s_law_made_right) (by decide +kernel)) (fun _ _ _ _ _ => pg_name (i := 7) sc_law_made_right.nd rfl (Or.inl rfl)) (fun _ _ _ _ _ => pts_one (pt_val (pe_methK0 (pv 3) T.i_Plan.cl T.m_is_border (ok_Plan_is_border T.toTxt) (hr.mono (by decide)) (kb_Plan_is_border_place T.F_Plan_is_border) pass0 (pk_cons (pv 7) pk_nil)))) (fun _ _ _ _ _ => (pv 7))) pa_nil)) (pe_callB (call_repr hg.gd (un65 hr)) (by rfl) T.n_repr (by decide +kernel) (pa_cons (pv 6) pa_nil)) (nomark _))))))))))))⟩
end
end KP


set_option Elab.async false
set_option linter.all false
set_option maxRecDepth 100000
set_option maxHeartbeats 8000000
set_option exponentiation.threshold 10000
namespace KP
open PySem PySem.Spec PyProof.Rows L2 ClX OG
section
variable {P : Program} {w : World} {K : PySem.W.Frag} {mg : Str → Option Value} {base : Heap} {A : Ad}
/-- all but lists stays -/
def SameT (H H' : Hp) : Prop := ∀ c u, (∀ xs, u ≠ .lst xs) → H c = some u → H' c = some u
theorem SameT.sqt {H H' : Hp} {a : Addr} {xs : List V} (e : SameT H H') (h : SqT K H a xs) : SqT K H' a xs := by
  rcases h with (h | ⟨o, h⟩) | h
  · exact .inl (.inl (e _ _ (fun _ z => by cases z) h))
  · exact .inl (.inr ⟨o, e _ _ (fun _ z => by cases z) h⟩)
  · exact .inr h
theorem PlanR.kept {H H' : Hp} {C a : Addr} {ms bs os : List Int} (e : SameT H H') (h : PlanR K C H a ms bs os) : PlanR K C H' a ms bs os := by
  obtain ⟨dx, t1, t2, t3, t4, h1, h2, h3, h4, h5, h6⟩ := h
  exact ⟨dx, t1, t2, t3, t4, e _ _ (fun _ z => by cases z) h1, e.sqt h2, e.sqt h3, e.sqt h4, e _ _ (fun _ z => by cases z) h5, h6⟩
def dPL (ms bs os : List Int) : PyData := .list [dRow ms, dRow bs, dRow os]
theorem shw_row {ns : List Int} (h : ∀ z ∈ ns, 0 ≤ z ∧ z < 256) (hl : ns.length ≤ 180) : ShwB 1 1620 (dRow ns) := by
  have k : ShwA 0 ((ns.map PyData.int).length * (8 + 1)) (ns.map PyData.int) := .all fun d hd => by
    obtain ⟨z, hz, rfl⟩ := List.mem_map.mp hd
    have := h z hz
    exact .int (sz_of (n := 8) this.1 (by omega)) (by decide) (by decide)
  exact k.tup.mono (Nat.le_refl _) (by rw [List.length_map]; omega)
theorem PlanN.rows {ms bs os : List Int} {n : Nat} (g : PlanN ms bs os n) : ShwA 1 4866 [dRow ms, dRow bs, dRow os] := by
  have lm := g.lm
  have lb := g.lb
  have lo := g.lo
  have n60 := g.n60
  have at_ : ∀ {ns : List Int} {z : Int}, z ∈ ns → ∃ i : Nat, i < ns.length ∧ z = atM ns i := fun {ns z} hz => by
    obtain ⟨i, hi, rfl⟩ := List.getElem_of_mem hz
    refine ⟨i, hi, ?_⟩
    unfold atM
    rw [List.getD_eq_getElem?_getD, List.getElem?_eq_getElem (by omega)]
    rfl
  have r1 := shw_row (ns := ms) (fun z hz => by
    obtain ⟨i, hi, rfl⟩ := at_ hz
    have := g.r i (by omega) (by omega)
    omega) (by omega)
  have r2 := shw_row (ns := bs) (fun z hz => by
    obtain ⟨i, hi, rfl⟩ := at_ hz
    have := g.b i (by omega) (by omega)
    omega) (by omega)
  have r3 := shw_row (ns := os) (fun z hz => by
    have := g.o z hz
    omega) (by omega)
  have k := ShwA.cons r1 (ShwA.cons r2 (ShwA.cons r3 (ShwA.nil (p := 1) (w := 0))))
  exact ⟨k.a, k.n, k.p, k.s, Nat.le_trans k.w (by decide)⟩
theorem shw_dP {ms bs os : List Int} {n : Nat} (g : PlanN ms bs os n) : Shw (dP ms bs os) := g.rows.tup.shw (by decide) (by decide)
theorem shw_dPL {ms bs os : List Int} {n : Nat} (g : PlanN ms bs os n) : Shw (dPL ms bs os) := g.rows.list.shw (by decide) (by decide)
theorem decide_int (a b : Int) : decide (a = b) = decide (V.int a = V.int b) := by
  rw [Bool.eq_iff_iff, decide_eq_true_iff, decide_eq_true_iff]
  exact ⟨fun h => congrArg V.int h, fun h => by injection h⟩
theorem decide_ne (a b : Int) : decide (a ≠ b) = !decide (V.int a = V.int b) := by
  rw [← decide_int, ← decide_not]
def spMade (K : PySem.W.Frag) (A : Ad) : Sp := fun vs H Q _ => ∃ (t : Addr) (ms bs os : List Int) (n : Nat), vs = [.ref t] ∧ RowsT H t ms bs os ∧ PlanN ms bs os n ∧ ∀ H', Same H H' → Q (.bl true) H'
theorem ok_law_made_right (T : LawT K mg A) : FnG P w K mg base CX0 8 A.f_law_made_right A.d_law_made_right ["rows"] (spMade K A) := by
  refine Fun_okG T.F_law_made_right sc_law_made_right (fun vs H Q E h => ?_) (fun cdv Ar outer s H vs Q E hg _ _ h => ?_)
  · obtain ⟨_, _, _, _, _, rfl, _⟩ := h
    rfl
  · obtain ⟨t, ms, bs, os, n, rfl, ⟨a, b, c, ht, ha, hb, hc⟩, g, q⟩ := h
    have hr := hg.rm
    suffices z : ∃ t', PSs (cxOf CX0 P w K mg base N_law_made_right "_law_made_right" (defScope s_law_made_right) A.f_law_made_right cdv Ar outer s H E).nox (defBody s_law_made_right) t' ∧ t' { nx := fun _ H' => Q .non H', rt := Q } (L2.start N_law_made_right [.ref t]) H from by
      obtain ⟨t', h, q⟩ := z
      exact ⟨t', h.nox, q⟩
    refine ⟨_, (dmr T hg hr).2, ?_⟩
    unfold dmr
    refine ⟨_, rfl, t, _, rfl, .inr (SqT.of ht), fun J wk => ?_⟩
    refine comp_newsF (wk _ rfl) (fun i => .lst (([ms, bs, os].getD i []).map V.int)) (by show 3 < sizeLine; decide) (fun i x H2 N hi s2 hx k => ?_) (fun D ts H1 hD s1 qD hlen hts => ?_)
    · obtain ⟨r, rfl, hr1⟩ : ∃ r : Addr, x = .ref r ∧ H r = some (.tup (([ms, bs, os].getD i []).map V.int)) := by
        match i, hx with
        | 0, hx => cases hx; exact ⟨a, rfl, ha⟩
        | 1, hx => cases hx; exact ⟨b, rfl, hb⟩
        | 2, hx => cases hx; exact ⟨c, rfl, hc⟩
      exact ⟨_, rfl, r, _, rfl, .inr (SqT.of (s2 _ _ hr1)), fun l hl => k l _ hl (same_new hl) upd_same⟩
    obtain ⟨l0, l1, l2, rfl⟩ : ∃ l0 l1 l2, ts = [l0, l1, l2] := by
      match ts, hlen with
      | [l0, l1, l2], _ => exact ⟨_, _, _, rfl⟩
    have q0 : H1 l0 = some (.lst (ms.map V.int)) := (hts 0 _ rfl).2
    have q1 : H1 l1 = some (.lst (bs.map V.int)) := (hts 1 _ rfl).2
    have q2 : H1 l2 = some (.lst (os.map V.int)) := (hts 2 _ rfl).2
    have f0 : H l0 = none := (hts 0 _ rfl).1
    have f1 : H l1 = none := (hts 1 _ rfl).1
    have f2 : H l2 = none := (hts 2 _ rfl).1
    clear hts wk
    replace qD : H1 D = some (.lst [.ref l0, .ref l1, .ref l2]) := qD
    have lm := g.lm
    have lb := g.lb
    have lo := g.lo
    have n1 := g.n1
    have n60 := g.n60
    refine ⟨_, rfl, D, _, 0, .ref l0, rfl, rfl, SqL.of qD, atI_nat (j := 0) rfl, _, rfl, D, _, 1, .ref l1, rfl, rfl, SqL.of qD, atI_nat (j := 1) rfl, l1, _, rfl, .inl ⟨SqL.of q1, fun u hu => ?_⟩⟩
    have su := same_new (o := .tup (bs.map V.int)) hu
    have qu : upd H1 u (.tup (bs.map V.int)) u = some (.tup (bs.map V.int)) := upd_same
    have s2 := s1.trans su
    replace qD := su _ _ qD
    replace q0 := su _ _ q0
    replace q1 := su _ _ q1
    replace q2 := su _ _ q2
    generalize upd H1 u (.tup (bs.map V.int)) = H2 at qu s2 qD q0 q1 q2 ⊢
    clear su hu
    refine ⟨_, rfl, D, _, 2, .ref l2, rfl, rfl, SqL.of qD, atI_nat (j := 2) rfl, fun pl d1 hpl hd1 hn1 => ?_⟩
    refine make_good hpl hd1 hn1 (.ints (.inl (SqL.of q0)) (by omega)) (.ints (.inr (SqT.of qu)) (by omega)) (.ints (.inl (SqL.of q2)) (by omega)) g.good fun H3 s3 hP => ⟨rfl, ?_⟩
    have s03 := s2.trans s3
    refine ⟨rfl, _, rfl, _, _, _, _, rfl, rfl, SqT.of (s03 _ _ ht), atI_nat (j := 0) rfl, _, rfl, _, _, _, _, rfl, rfl, SqT.of (s03 _ _ ht), atI_nat (j := 1) rfl, b, _, rfl, .inr (SqT.of (s03 _ _ hb)), fun v hv => ?_⟩
    have sv := same_new (o := .lst (bs.map V.int)) hv
    have qv : upd H3 v (.lst (bs.map V.int)) v = some (.lst (bs.map V.int)) := upd_same
    have s4 := s3.trans sv
    have s04 := s2.trans s4
    have hP4 := hP.mono sv
    generalize upd H3 v (.lst (bs.map V.int)) = H4 at qv s4 s04 hP4 ⊢
    clear sv hv s03 s3 hP
    refine ⟨_, rfl, _, _, _, _, rfl, rfl, SqT.of (s04 _ _ ht), atI_nat (j := 2) rfl, three_line, fun tp htp => ?_⟩
    have stp := same_new (o := .tup [.ref a, .ref v, .ref c]) htp
    have s05 := s04.trans stp
    refine ⟨tp, .ref a, .ref v, .ref c, ms, bs, os, rfl, .inr (SqT.of upd_same), .ints (.inr (SqT.of (s05 _ _ ha))) (by omega), .ints (.inl (SqL.of (stp _ _ qv))) (by omega), .ints (.inr (SqT.of (s05 _ _ hc))) (by omega), g.good, fun ot H5 s5 hO => ?_⟩
    refine ⟨two_line, fun tq htq => ⟨tq, _, rfl, SqT.of upd_same, rfl, _, _, rfl, _, _, rfl, rfl, ?_⟩⟩
    have stq := same_new (o := .tup [.ref pl, .ref ot]) htq
    replace hP := ((hP4.mono stp).mono s5).mono stq
    replace hO := hO.mono stq
    have s26 := s4.trans (stp.trans (s5.trans stq))
    generalize upd H5 tq (.tup [.ref pl, .ref ot]) = H6 at hP hO s26 ⊢
    have s06 := s2.trans s26
    replace qD := s26 _ _ qD
    replace q0 := s26 _ _ q0
    replace q1 := s26 _ _ q1
    replace q2 := s26 _ _ q2
    clear s4 s04 hP4 qv stp s05 htp s5 stq htq s26 qu hpl hd1 hn1 s2
    have lne : ∀ {xs ys : List V} {l : Addr}, H6 l = some (.lst xs) → (∃ y, xs[0]? = some (.int y)) → D ≠ l := fun {xs ys l} h ⟨y, hy⟩ z => by
      rw [← z, qD] at h
      injection h with h
      injection h with h
      subst h
      cases hy
    have m0 : ∀ {zs : List Int}, 0 < zs.length → ∃ y, (zs.map V.int)[0]? = some (.int y) := fun {zs} h => by
      cases zs with
      | nil => cases h
      | cons z zs => exact ⟨z, rfl⟩
    have d0 := lne (ys := []) q0 (m0 (by omega))
    have d1 := lne (ys := []) q1 (m0 (by omega))
    have d2 := lne (ys := []) q2 (m0 (by omega))
    have s16 : Same (fun c => if c = D then some (.lst [.ref l0, .ref l1, .ref l2]) else none) H6 := one_same qD
    refine ⟨_, rfl, D, _, rfl, .inl (SqL.of qD), fun J wk => ?_⟩
    refine for_core (wk (fun c => if c = D then some (.lst [.ref l0, .ref l1, .ref l2]) else none) (by rw [if_pos rfl, qD])) (fun i σ H' => (∃ w1 w5 w6 w7, σ = [some (.ref t), w1, some (.ref D), some (.ref pl), some (.ref ot), w5, w6, w7]) ∧ SameT H6 H' ∧ Same H H' ∧ H' D = some (.lst [.ref l0, .ref l1, .ref l2]) ∧ ∀ l ∈ [l0, l1, l2], ∃ xs, H' l = some (.lst xs) ∧ 1 ≤ xs.length ∧ xs.length ≤ 200 + i)
      ⟨⟨_, _, _, _, rfl⟩, fun c u _ h => h, s06, qD, ?_⟩ (fun i σ H' h => one_same h.2.2.2.1) ?_ ?_
    · intro l hl
      simp only [List.mem_cons, List.not_mem_nil, or_false] at hl
      rcases hl with rfl | rfl | rfl
      · exact ⟨_, q0, by rw [List.length_map]; omega, by rw [List.length_map]; omega⟩
      · exact ⟨_, q1, by rw [List.length_map]; omega, by rw [List.length_map]; omega⟩
      · exact ⟨_, q2, by rw [List.length_map]; omega, by rw [List.length_map]; omega⟩
    · rintro i x σ H7 H8 hi ⟨⟨w1, w5, w6, w7, rfl⟩, sT, sH, hD7, hl⟩ s8 hx
      obtain ⟨l, rfl, hlm⟩ : ∃ l, x = .ref l ∧ l ∈ [l0, l1, l2] := by
        match i, hx with
        | 0, hx => cases hx; exact ⟨l0, rfl, by simp⟩
        | 1, hx => cases hx; exact ⟨l1, rfl, by simp⟩
        | 2, hx => cases hx; exact ⟨l2, rfl, by simp⟩
      have hl0 : H l = none ∧ D ≠ l := by
        simp only [List.mem_cons, List.not_mem_nil, or_false] at hlm
        rcases hlm with rfl | rfl | rfl
        · exact ⟨f0, d0⟩
        · exact ⟨f1, d1⟩
        · exact ⟨f2, d2⟩
      obtain ⟨xs, hxs, x1, x2⟩ := hl l hlm
      refine ⟨_, rfl, l, xs, 0, 0, rfl, rfl, s8 _ _ hxs, ixN_in (by decide) (by omega), ?_⟩
      have hz : (xs.set 0 (.int 99) ++ [V.non]).length = xs.length + 1 := by rw [List.length_append, List.length_set]; rfl
      refine ⟨_, rfl, .inl ⟨rfl, _, SqL.of upd_same⟩, l, _, _, rfl, rfl, upd_same, by rw [List.length_set]; exact Nat.lt_of_le_of_lt (Nat.le_trans x2 (show 200 + i ≤ 203 by have : i < 3 := hi; omega)) (by decide), ?_⟩
      have hn : ∀ (c : Addr) u, (∀ xs, u ≠ HO.lst xs) → H8 c = some u → c ≠ l := fun c u nu h z => by
        rw [z, s8 _ _ hxs] at h
        injection h with h
        exact nu _ h.symm
      refine ⟨⟨_, _, _, _, rfl⟩, fun c u nu h => ?_, fun c u h => ?_, ?_, fun l' hl' => ?_⟩
      · have h8 := s8 _ _ (sT c u nu h)
        have := hn c u nu h8
        rw [upd_ne this, upd_ne this]
        exact h8
      · have : c ≠ l := fun z => by rw [z, hl0.1] at h; cases h
        rw [upd_ne this, upd_ne this]
        exact s8 _ _ (sH _ _ h)
      · rw [upd_ne hl0.2, upd_ne hl0.2]
        exact s8 _ _ hD7
      · by_cases z : l' = l
        · subst z
          exact ⟨_, upd_same, by rw [hz]; omega, by rw [hz]; omega⟩
        · obtain ⟨ys, h1, h2, h3⟩ := hl l' hl'
          exact ⟨ys, by rw [upd_ne z, upd_ne z]; exact s8 _ _ h1, h2, by omega⟩
    · rintro σ H7 ⟨⟨w1, w5, w6, w7, rfl⟩, sT, s7, _, _⟩
      replace hP := hP.1.kept sT
      replace hO := hO.1.kept sT
      clear sT q0 q1 q2 d0 d1 d2 f0 f1 f2 lne m0 s16 s06 qD
      clear wk hD s1
      obtain ⟨dx, t1, t2, t3, t4, h1, h2, h3, h4, h5, h6⟩ := id hP
      have sh := shw_dP g
      have shl := shw_dPL g
      refine ⟨_, rfl, pl, A.c_Plan, dx, _, _, rfl, h1, T.i_Plan.cl, T.na_parts, rfl, t4, dP ms bs os, rfl, .tup (.inl (.inl h5)) (.cons (dp_row h2) (.cons (dp_row h3) (.cons (dp_row h4) .nil))), sh.a, sh.n, sh.p, sh.l, ?_⟩
      have rows7 : Dp K H7 (.ref t) (dP ms bs os) := .tup (SqT.of (s7 _ _ ht)) (.cons (dp_row (SqT.of (s7 _ _ ha))) (.cons (dp_row (SqT.of (s7 _ _ hb))) (.cons (dp_row (SqT.of (s7 _ _ hc))) .nil)))
      refine ⟨_, rfl, t, dP ms bs os, rfl, rows7, sh.a, sh.n, sh.p, sh.l, rfl, _, rfl, ?_⟩
      rw [decide_eq_true (rfl : V.str (dP ms bs os).shown = V.str (dP ms bs os).shown)]
      refine iteF ?_
      refine ⟨_, rfl, pl, A.c_Plan, dx, _, _, rfl, h1, T.i_Plan.cl, T.na_mates, rfl, _, rfl, pl, A.c_Plan, dx, _, _, rfl, h1, T.i_Plan.cl, T.na_bent, rfl, _, rfl, pl, A.c_Plan, dx, _, _, rfl, h1, T.i_Plan.cl, T.na_orders, rfl, three_line, fun r1 hr1 => ?_⟩
      have sr1 := same_new (o := .lst [.ref t1, .ref t2, .ref t3]) hr1
      refine ⟨r1, dPL ms bs os, rfl, .lst (SqL.of upd_same) (.cons (dp_row (same_t sr1 h2)) (.cons (dp_row (same_t sr1 h3)) (.cons (dp_row (same_t sr1 h4)) .nil))), shl.a, shl.n, shl.p, shl.l, ?_⟩
      refine ⟨_, rfl, t, _, rfl, .inr (SqT.of (sr1 _ _ (s7 _ _ ht))), fun r2 hr2 => ?_⟩
      have sr2 := same_new (o := .lst [.ref a, .ref b, .ref c]) hr2
      have s9 := s7.trans (sr1.trans sr2)
      refine ⟨r2, dPL ms bs os, rfl, .lst (SqL.of upd_same) (.cons (dp_row (SqT.of (s9 _ _ ha))) (.cons (dp_row (SqT.of (s9 _ _ hb))) (.cons (dp_row (SqT.of (s9 _ _ hc))) .nil))), shl.a, shl.n, shl.p, shl.l, rfl, _, rfl, ?_⟩
      rw [decide_eq_true (rfl : V.str (dPL ms bs os).shown = V.str (dPL ms bs os).shown)]
      refine iteF ?_
      replace hP := (hP.mono sr1).mono sr2
      replace hO := (hO.mono sr1).mono sr2
      clear rows7 h1 h2 h3 h4 h5 h6 sr1 sr2 hr1 s7
      generalize upd (upd H7 r1 (.lst [.ref t1, .ref t2, .ref t3])) r2 (.lst [.ref a, .ref b, .ref c]) = H9 at *
      obtain ⟨dx, t1, t2, t3, t4, h1, h2, h3, h4, h5, h6⟩ := id hP
      obtain ⟨dy, u1, u2, u3, u4, g1, g2, g3, g4, g5, g6⟩ := id hO
      have logn : ∀ i : Int, 0 ≤ i → i < 1000 → i.natAbs.log2 < 1920 := fun i i0 i1 => Nat.lt_trans (log_lt (n := 10) (sz_of i0 (by omega)) (by decide)) (by decide)
      refine ⟨_, rfl, pl, dx, _, rfl, h1, pl, ms, bs, os, rfl, hP, fun H10 s10 => ⟨_, rfl, by omega, by omega, _, rfl, logn _ (by omega) (by omega), ?_⟩⟩
      have q9 : H10 t = _ := s10 _ _ (s9 _ _ ht)
      refine ⟨_, rfl, _, _, _, _, rfl, rfl, SqT.of q9, atI_nat (j := 0) rfl, _, (ms.map V.int).length, rfl, len_s (.inr (SqT.of (s10 _ _ (s9 _ _ ha)))), _, _, rfl, rfl, ⟨by decide, by decide⟩, _, rfl, logn _  (by rw [List.length_map]; omega) (by rw [List.length_map]; omega), rfl, _, rfl, ?_⟩
      have en : (((ms.length + 2) / 3 : Nat) : Int) = ((ms.map V.int).length : Int) / 3 := by rw [List.length_map]; omega
      rw [en]
      rw [decide_eq_true rfl]
      refine iteF ?_
      have hP10 := hP.mono s10
      have hO10 := hO.mono s10
      refine ⟨_, rfl, _, rfl, pl, dx, _, .ref A.c_Plan, rfl, s10 _ _ h1, T.i_Plan.ty (s10 _ _ g1), T.nf_Plan, pl, ms, bs, os, .ref ot, some (ms, bs, os), rfl, hP10, .plan hO10, true, by rw [decide_eq_true rfl], _, rfl, iteF ?_⟩
      refine ⟨_, rfl, _, rfl, pl, ot, dx, dy, _, _, rfl, rfl, s10 _ _ h1, s10 _ _ g1, pl, ms, bs, os, .ref ot, some (ms, bs, os), rfl, hP10, .plan hO10, true, by rw [decide_eq_true rfl], _, rfl, iteF ?_⟩
      have qt10 : H10 t = _ := s10 _ _ (s9 _ _ ht)
      refine ⟨_, rfl, _, rfl, pl, dx, _, .type "tuple", rfl, s10 _ _ h1, tyT (SqT.of qt10), T.nf_tuple, pl, ms, bs, os, .ref t, none, rfl, hP10, .no (tyT (SqT.of qt10)) (T.i_Plan.kC "tuple" (by decide)), false, by rw [decide_eq_false nofun], _, rfl, iteF ?_⟩
      refine ⟨_, rfl, pl, dx, _, .type "NoneType", rfl, s10 _ _ h1, .base .non, T.nf_none, pl, ms, bs, os, .non, none, rfl, hP10, .no (.base .non) (T.i_Plan.kC "NoneType" (by decide)), false, by rw [decide_eq_false nofun], _, rfl, iteF ?_⟩
      clear h1 h2 h3 h4 h5 h6 g1 g2 g3 g4 g5 g6 hO10
      have s0 := s9.trans s10
      replace hP := hP10
      clear hO s9 s10 q9 hP10 qt10
      have lV : ∀ {Hx : Hp}, Same H Hx → LenV (XM P w K mg base A cdv Ar outer s H E).K (.ref a) Hx (ms.map V.int).length := fun sx => len_s (.inr (SqT.of (sx _ _ ha)))
      have lml : (ms.map V.int).length = 3 * n := by rw [List.length_map]; exact lm
      rw [lml] at lV
      have at0 : ∀ {i : Nat}, i < (3 * n) → atI (ms.map V.int) (0 + (i : Int)) = some (.int (atM ms (i : Nat))) := fun {i} hi => by
        rw [Int.zero_add]
        exact atM_at (by omega) (by omega)
      refine ⟨_, rfl, _, _, _, _, rfl, rfl, SqT.of (s0 _ _ ht), atI_nat (j := 0) rfl, _, _, rfl, lV s0, ((3 * n : Nat) : Int), rfl, by omega, by omega, ?_⟩
      rw [Int.toNat_natCast]
      refine comp_filt walks_range (fun i => decide (atM ms (i : Nat) = (i : Int))) (fun i => V.int (i : Nat)) (fun i x Ha Hb _ h => h) (by show 3 * n < sizeLine; exact Nat.lt_of_le_of_lt (show 3 * n ≤ 180 by omega) (by decide)) (fun i x H11 N hi s11 hx k => ?_) (fun i x H11 N hi hp s11 hx k => ?_) (fun W H11 hW s11 qW => ?_)
      · subst hx
        refine ⟨_, rfl, _, _, _, _, rfl, rfl, SqT.of (s11 _ _ (s0 _ _ ht)), atI_nat (j := 0) rfl, _, rfl, _, _, _, _, rfl, rfl, SqT.of (s11 _ _ (s0 _ _ ha)), at0 hi, _, rfl, rfl, _, rfl, ?_⟩
        have := k H11 (Same.refl _)
        rwa [show decide (atM ms (i : Nat) = (i : Int)) = decide (V.int (atM ms (i : Nat)) = V.int (0 + (i : Int))) from by rw [Int.zero_add]; exact decide_int _ _] at this
      · subst hx
        have := k H11 (Same.refl _)
        rw [← Int.zero_add (i : Int)] at this
        exact ⟨_, rfl, this⟩
      replace s0 := s0.trans s11
      replace hP := hP.mono s11
      clear s11
      refine ⟨_, rfl, _, _, _, _, rfl, rfl, SqT.of (s0 _ _ ht), atI_nat (j := 0) rfl, _, _, rfl, lV s0, ((3 * n : Nat) : Int), rfl, by omega, by omega, ?_⟩
      rw [Int.toNat_natCast]
      refine comp_filt walks_range (fun i => decide (atM ms (i : Nat) / 3 ≠ (i : Int) / 3)) (fun i => V.int (i : Nat)) (fun i x Ha Hb _ h => h) (by show 3 * n < sizeLine; exact Nat.lt_of_le_of_lt (show 3 * n ≤ 180 by omega) (by decide)) (fun i x H12 N hi s12 hx k => ?_) (fun i x H12 N hi hp s12 hx k => ?_) (fun V' H12 hV s12 qV => ?_)
      · subst hx
        refine ⟨_, rfl, _, _, _, _, rfl, rfl, SqT.of (s12 _ _ (s0 _ _ ht)), atI_nat (j := 0) rfl, _, rfl, _, _, _, _, rfl, rfl, SqT.of (s12 _ _ (s0 _ _ ha)), at0 hi, _, _, rfl, rfl, ⟨by decide, by decide⟩, _, rfl, _, _, rfl, rfl, ⟨by decide, by decide⟩, rfl, _, rfl, ?_⟩
        have := k H12 (Same.refl _)
        rwa [show decide (atM ms (i : Nat) / 3 ≠ (i : Int) / 3) = !decide (V.int (atM ms (i : Nat) / 3) = V.int ((0 + (i : Int)) / 3)) from by rw [Int.zero_add]; exact decide_ne _ _] at this
      · subst hx
        have := k H12 (Same.refl _)
        rw [← Int.zero_add (i : Int)] at this
        exact ⟨_, rfl, this⟩
      replace s0 := s0.trans s12
      replace hP := hP.mono s12
      replace qW := s12 _ _ qW
      clear s12
      refine ⟨_, rfl, _, _, _, _, rfl, rfl, SqT.of (s0 _ _ ht), atI_nat (j := 0) rfl, _, _, rfl, lV s0, ((3 * n : Nat) : Int), rfl, by omega, by omega, ?_⟩
      rw [Int.toNat_natCast]
      obtain ⟨dx, t1, t2, t3, t4, h1, h2, h3, h4, h5, h6⟩ := id hP
      refine comp_filt walks_range (fun i => decide (atM ms (i : Nat) = (i : Int))) (fun i => V.int (i : Nat)) (fun i x Ha Hb _ h => h) (by show 3 * n < sizeLine; exact Nat.lt_of_le_of_lt (show 3 * n ≤ 180 by omega) (by decide)) (fun i x H13 N hi s13 hx k => ?_) (fun i x H13 N hi hp s13 hx k => ?_) (fun Z H13 hZ s13 qZ => ?_)
      · subst hx
        have := k H13 (Same.refl _)
        rw [← Int.zero_add (i : Int)] at this
        exact ⟨_, rfl, pl, dx, _, rfl, s13 _ _ h1, rfl, _, rfl, pl, ms, bs, os, _, rfl, hP.mono s13, by omega, by omega, _, rfl, this⟩
      · subst hx
        have := k H13 (Same.refl _)
        rw [← Int.zero_add (i : Int)] at this
        exact ⟨_, rfl, this⟩
      have shf : ∀ p : Nat → Bool, Shw (dInts (((List.range (3 * n)).filter p).map fun i : Nat => (i : Int))) := fun p => shw_ints (n := 8) (fun z hz => by
        obtain ⟨i, hi, rfl⟩ := List.mem_map.mp hz
        have := List.mem_range.mp (List.mem_filter.mp hi).1
        exact sz_of (by omega) (by omega)) (by decide) (by decide) (by
        rw [List.length_map]
        have := List.length_filter_le p (List.range (3 * n))
        rw [List.length_range] at this
        omega)
      have mapf : ∀ p : Nat → Bool, ((List.range (3 * n)).filter p).map (fun i : Nat => V.int (i : Int)) = (((List.range (3 * n)).filter p).map fun i : Nat => (i : Int)).map V.int := fun p => by rw [List.map_map]; rfl
      have dpf : ∀ {p : Nat → Bool} {Hx : Hp} {r : Addr}, Hx r = some (.lst (((List.range (3 * n)).filter p).map fun i : Nat => V.int (i : Int))) → Dp (XM P w K mg base A cdv Ar outer s H E).K Hx (.ref r) (dInts (((List.range (3 * n)).filter p).map fun i : Nat => (i : Int))) := fun {p Hx r} h => by
        rw [mapf] at h
        exact .lst (SqL.of h) (dpa_ints _)
      replace s0 := s0.trans s13
      replace hP := hP.mono s13
      replace qW := s13 _ _ qW
      replace qV := s13 _ _ qV
      clear s13 h1 h2 h3 h4 h5 h6
      have sh := shf (fun i => decide (atM ms (i : Nat) = (i : Int)))
      refine ⟨Z, _, rfl, dpf qZ, sh.a, sh.n, sh.p, sh.l, _, rfl, W, _, rfl, dpf qW, sh.a, sh.n, sh.p, sh.l, rfl, _, rfl, ?_⟩
      rw [decide_eq_true rfl]
      refine iteF ?_
      refine ⟨_, rfl, _, _, _, _, rfl, rfl, SqT.of (s0 _ _ ht), atI_nat (j := 0) rfl, _, _, rfl, lV s0, ((3 * n : Nat) : Int), rfl, by omega, by omega, ?_⟩
      rw [Int.toNat_natCast]
      obtain ⟨dx, t1, t2, t3, t4, h1, h2, h3, h4, h5, h6⟩ := id hP
      refine comp_filt walks_range (fun i => decide (atM ms (i : Nat) / 3 ≠ (i : Int) / 3)) (fun i => V.int (i : Nat)) (fun i x Ha Hb _ h => h) (by show 3 * n < sizeLine; exact Nat.lt_of_le_of_lt (show 3 * n ≤ 180 by omega) (by decide)) (fun i x H14 N hi s14 hx k => ?_) (fun i x H14 N hi hp s14 hx k => ?_) (fun Y H14 hY s14 qY => ?_)
      · subst hx
        have := k H14 (Same.refl _)
        rw [← Int.zero_add (i : Int)] at this
        exact ⟨_, rfl, pl, dx, _, rfl, s14 _ _ h1, rfl, _, rfl, pl, ms, bs, os, _, rfl, hP.mono s14, by omega, by omega, _, rfl, this⟩
      · subst hx
        have := k H14 (Same.refl _)
        rw [← Int.zero_add (i : Int)] at this
        exact ⟨_, rfl, this⟩
      have sh := shf (fun i => decide (atM ms (i : Nat) / 3 ≠ (i : Int) / 3))
      refine ⟨Y, _, rfl, dpf qY, sh.a, sh.n, sh.p, sh.l, _, rfl, V', _, rfl, dpf (s14 _ _ qV), sh.a, sh.n, sh.p, sh.l, rfl, ?_⟩
      rw [decide_eq_true rfl]
      exact q _ (s0.trans s14)
end
end KP


set_option Elab.async false
set_option linter.all false
set_option maxRecDepth 100000
set_option maxHeartbeats 4000000
set_option exponentiation.threshold 10000
namespace KP
open PySem PySem.Spec PyProof.Rows L2 ClX OG
/-! ### a refusal heard -/
def codeOf (o : Obj) : Value := match o.data with
  | .func fd => fd.code
  | _ => .none
structure LamT (K : PySem.W.Frag) (mg : Str → Option Value) (A : Ad) : Prop extends LawT K mg A where
  g_BadNumber : mg "BadNumber" = some (.ref A.c_BadNumber)
  g_BadPaper : mg "BadPaper" = some (.ref A.c_BadPaper)
  g_BadText : mg "BadText" = some (.ref A.c_BadText)
  g_BadCommand : mg "BadCommand" = some (.ref A.c_BadCommand)
  g_Misfit : mg "Misfit" = some (.ref A.c_Misfit)
  g_NoTurn : mg "NoTurn" = some (.ref A.c_NoTurn)
  g_Nothing : mg "Nothing" = some (.ref A.c_Nothing)
  g_TooMany : mg "TooMany" = some (.ref A.c_TooMany)
  xf_BadPlan : XfC K A.c_BadPlan
  ec_BadPlan : ExcC K A.c_BadPlan
  ex_BadPlan : PySem.W.exmAny K (.ref A.c_BadPlan) [.ref A.c_PlanError, .ref A.c_NoTurn, .ref A.c_Nothing, .ref A.c_TooMany] = some true
  k_BadPlan_BadPlan : PySem.W.kitOne K (.ref A.c_BadPlan) (.ref A.c_BadPlan) = some true
  xf_BadValue : XfC K A.c_BadValue
  ec_BadValue : ExcC K A.c_BadValue
  ex_BadValue : PySem.W.exmAny K (.ref A.c_BadValue) [.ref A.c_PlanError, .ref A.c_NoTurn, .ref A.c_Nothing, .ref A.c_TooMany] = some true
  k_BadValue_BadPlan : PySem.W.kitOne K (.ref A.c_BadValue) (.ref A.c_BadPlan) = some false
  k_BadValue_BadText : PySem.W.kitOne K (.ref A.c_BadValue) (.ref A.c_BadText) = some false
  k_BadValue_BadCommand : PySem.W.kitOne K (.ref A.c_BadValue) (.ref A.c_BadCommand) = some false
  k_BadValue_NoTurn : PySem.W.kitOne K (.ref A.c_BadValue) (.ref A.c_NoTurn) = some false
  k_BadValue_TooMany : PySem.W.kitOne K (.ref A.c_BadValue) (.ref A.c_TooMany) = some false
  k_BadValue_BadValue : PySem.W.kitOne K (.ref A.c_BadValue) (.ref A.c_BadValue) = some true
  cdv_law : (K.lookup A.f_law).map codeOf = some (.ref A.cd_law)
  cv_MOST : ∃ u, CVal K A.c_Plan A.m_Plan "MOST" (.int 60) u

/-- a variable, in a state of the right length -/
def tVarL (n i : Nat) : TE := fun σ H Q => σ.length = n → tVar i σ H Q
theorem pe_varL {X : Cx} {n i : Nat} {x : Str} {pos : Pos} (hn : X.N.length = n) (h : PE X (.Name x pos) (tVar i)) : PE X (.Name x pos) (tVarL n i) :=
  ⟨fun pins s σ H Q I hh => h.run pins s σ H Q I (hh (by rw [I.len, hn]))⟩
/-- what _law_heard makes of an error of the lambda's -/
inductive HeardX (A : Ad) (Q : VK) : Value → Option Addr → Hp → Prop
  | plan {dd : Addr} {r : Str} {i : Int} {H' : Hp} (hx : H' dd = some (.xd [("place", .int i), ("reason", .str r)]))
      (k : ∀ a t, H' a = none → upd H' a (exk a (.ref A.c_BadPlan) (some dd)) t = none → Q (.ref t) (upd (upd H' a (exk a (.ref A.c_BadPlan) (some dd))) t (.tup [.str "plan", .str r, .int i]))) : HeardX A Q (.ref A.c_BadPlan) (some dd) H'
  | value {dd : Addr} {r : Str} {H' : Hp} (hx : H' dd = some (.xd [("part", .str r)]))
      (k : ∀ a t, H' a = none → upd H' a (exk a (.ref A.c_BadValue) (some dd)) t = none → Q (.ref t) (upd (upd H' a (exk a (.ref A.c_BadValue) (some dd))) t (.tup [.str "value", .str r]))) : HeardX A Q (.ref A.c_BadValue) (some dd) H'
def THeard (A : Ad) : (XK → Hp → VK → Prop) → Hp → VK → Prop := fun tl H Q => ∀ Q' H1, Same H H1 → tl (HeardX A Q) H1 Q'
section
variable {K : PySem.W.Frag} {mg : Str → Option Value} {A : Ad}
theorem heard_gives {X : Cx} {g : Addr} {cdg : Value} {q : Str} (T : LamT X.K X.mg A) : LamX.GivesTo X N_law_heard "_law_heard" (defScope s_law_heard) g cdg (defBody s_law_heard) "ask_it" q (THeard A) := by
  intro f c' s H Q tl act hc h
  refine ⟨_, pss_cons (ps_asg (pe_tup (pa_cons pe_non (pa_cons pe_non pa_nil))) (pg_tup rfl (pgs_cons (pg_name (i := 1) sc_law_heard.nd rfl (Or.inl rfl)) (pgs_cons (pg_name (i := 2) sc_law_heard.nd rfl (Or.inl rfl)) pgs_nil)))) (pss_cons (ps_try_keep (X := (cxOf C8.CX0 X.prog X.w X.K X.mg X.base N_law_heard "_law_heard" (defScope s_law_heard) g cdg X.A X.stack s H C8.E0).nox) (Wout := fun _ _ _ _ => False) (i := 3) (j := 2)
      (tb := fun W D σ H => ∃ Ech : XK, (∀ cls d σ' H', Ech cls d H' → W cls d σ' H') ∧ σ[0]? = some (some (.ref f)) ∧ H c' = some (LamX.CodeO c' q) ∧ tl Ech H (fun v H' => D.nx (σ.set 1 (some v)) H'))
      rfl rfl sc_law_heard.nd rfl LamX.takes0 (fun W pn xe tk _ => ?_) rfl rfl ⟨rfl, by decide, .inl T.g_PlanError⟩ ⟨rfl, by decide, .inl T.g_NoTurn⟩ ⟨rfl, by decide, .inl T.g_Nothing⟩ ⟨rfl, by decide, .inl T.g_TooMany⟩
      (fun a oe cls d pn hz hf => pss_one (ps_asg (pv 3) (pg_name (i := 2) sc_law_heard.nd rfl (Or.inl rfl)))))
    (pss_cons (ps_if (pt_cmpR op_isN (pe_varL rfl (pv 2)) pe_non (nomark _)) (pss_one (ps_ret (pe_lst (pa_cons (pv 1) pa_nil)))) pss_nil)
      (pss_cons (ps_if (pt_val (pe_callB (id := "isinstance") (r := rIsK X.K) call_isKept (by rfl) T.n_isinstance (by decide +kernel) (pa_cons (pe_varL rfl (pv 2)) (pa_cons (pe_glob (v := .ref A.c_BadPlan) rfl T.g_BadPlan rfl) pa_nil)))) (pss_one (ps_ret (pe_tup (pa_cons pe_str (pa_cons (pe_xk (pe_varL rfl (pv 2))) (pa_cons (pe_xk (pe_varL rfl (pv 2))) pa_nil)))))) pss_nil)
      (pss_cons (ps_if (pt_val (pe_callB (id := "isinstance") (r := rIsK X.K) call_isKept (by rfl) T.n_isinstance (by decide +kernel) (pa_cons (pe_varL rfl (pv 2)) (pa_cons (pe_glob (v := .ref A.c_BadText) rfl T.g_BadText rfl) pa_nil)))) (pss_one (ps_ret (pe_tup (pa_cons pe_str (pa_cons (pe_xk (pe_varL rfl (pv 2))) (pa_cons (pe_xk (pe_varL rfl (pv 2))) pa_nil)))))) pss_nil)
      (pss_cons (ps_if (pt_val (pe_callB (id := "isinstance") (r := rIsK X.K) call_isKept (by rfl) T.n_isinstance (by decide +kernel) (pa_cons (pe_varL rfl (pv 2)) (pa_cons (pe_glob (v := .ref A.c_BadCommand) rfl T.g_BadCommand rfl) pa_nil)))) (pss_one (ps_ret (pe_tup (pa_cons pe_str (pa_cons (pe_xk (pe_varL rfl (pv 2))) pa_nil))))) pss_nil)
      (pss_cons (ps_if (pt_val (pe_callB (id := "isinstance") (r := rIsK X.K) call_isKept (by rfl) T.n_isinstance (by decide +kernel) (pa_cons (pe_varL rfl (pv 2)) (pa_cons (pe_glob (v := .ref A.c_NoTurn) rfl T.g_NoTurn rfl) pa_nil)))) (pss_one (ps_ret (pe_tup (pa_cons pe_str (pa_cons (pe_xk (pe_varL rfl (pv 2))) pa_nil))))) pss_nil)
      (pss_cons (ps_if (pt_val (pe_callB (id := "isinstance") (r := rIsK X.K) call_isKept (by rfl) T.n_isinstance (by decide +kernel) (pa_cons (pe_varL rfl (pv 2)) (pa_cons (pe_glob (v := .ref A.c_TooMany) rfl T.g_TooMany rfl) pa_nil)))) (pss_one (ps_ret (pe_tup (pa_cons pe_str (pa_cons (pe_xk (pe_varL rfl (pv 2))) (pa_cons (pe_xk (pe_varL rfl (pv 2))) pa_nil)))))) pss_nil)
      (pss_cons (ps_if (pt_val (pe_callB (id := "isinstance") (r := rIsK X.K) call_isKept (by rfl) T.n_isinstance (by decide +kernel) (pa_cons (pe_varL rfl (pv 2)) (pa_cons (pe_glob (v := .ref A.c_BadValue) rfl T.g_BadValue rfl) pa_nil)))) (pss_one (ps_ret (pe_tup (pa_cons pe_str (pa_cons (pe_xk (pe_varL rfl (pv 2))) pa_nil))))) pss_nil)
      (pss_cons (ps_if (pt_val (pe_callB (id := "isinstance") (r := rIsK X.K) call_isKept (by rfl) T.n_isinstance (by decide +kernel) (pa_cons (pe_varL rfl (pv 2)) (pa_cons (pe_glob (v := .ref A.c_BadNumber) rfl T.g_BadNumber rfl) pa_nil)))) (pss_one (ps_ret (pe_tup (pa_cons pe_str (pa_cons (pe_xk (pe_varL rfl (pv 2))) pa_nil))))) pss_nil)
      (pss_cons (ps_if (pt_val (pe_callB (id := "isinstance") (r := rIsK X.K) call_isKept (by rfl) T.n_isinstance (by decide +kernel) (pa_cons (pe_varL rfl (pv 2)) (pa_cons (pe_glob (v := .ref A.c_BadPaper) rfl T.g_BadPaper rfl) pa_nil)))) (pss_one (ps_ret (pe_tup (pa_cons pe_str (pa_cons (pe_xk (pe_varL rfl (pv 2))) pa_nil))))) pss_nil)
      (pss_one (ps_ret (pe_ifExp (pt_val (pe_callB (id := "isinstance") (r := rIsK X.K) call_isKept (by rfl) T.n_isinstance (by decide +kernel) (pa_cons (pe_varL rfl (pv 2)) (pa_cons (pe_glob (v := .ref A.c_Misfit) rfl T.g_Misfit rfl) pa_nil)))) (pe_tup (pa_cons pe_str (pa_cons (pe_xk (pe_varL rfl (pv 2))) pa_nil))) (pe_tup (pa_cons pe_str pa_nil))))))))))))))), ?_⟩
  · refine ⟨fun pins s' σ H' D I h' => ?_⟩
    obtain ⟨Ech, hW, h1, h2, h3⟩ := h'
    exact (pss_one (ps_set (i := 1) sc_law_heard.nd rfl (Or.inl rfl) (act W pn xe Ech _ _ tk hW))).run pins s' σ H' D I ⟨h1, h2, h3⟩
  · refine ⟨two_line, fun t0 ht0 => ⟨t0, _, rfl, SqT.of upd_same, rfl, _, _, rfl, _, _, rfl, rfl, ?_⟩⟩
    have s0 := same_new (o := .tup [.non, .non]) ht0
    refine ⟨HeardX A Q, fun cls d σ' H' hh => ?_, rfl, s0 _ _ hc, h _ _ s0⟩
    have get : ∀ {a : Addr}, (((List.set σ' 3 (some (V.ref a))).set 2 (some (V.ref a))).set 3 none).length = 4 → (((List.set σ' 3 (some (V.ref a))).set 2 (some (V.ref a))).set 3 none)[2]? = some (some (V.ref a)) := fun {a} hl => by
      rw [List.length_set, List.length_set, List.length_set] at hl
      rw [List.getElem?_set_ne (by decide), List.getElem?_set_self (by rw [List.length_set]; omega)]
    have ifn : ∀ {a : Addr} {α : Prop} {β : Prop}, β → (if decide (V.ref a = V.non) = true then α else β) := fun {a α β} h => by
      rw [decide_eq_false (fun z => nomatch z)]
      exact iteF h
    cases hh with
    | @plan dd r i _ hx k =>
      refine ⟨true, T.ex_BadPlan, fun _ a ha => ?_, fun z => nomatch z⟩
      have hdd : upd H' a (exk a (.ref A.c_BadPlan) (some dd)) dd = some (.xd [("place", .int i), ("reason", .str r)]) := by
        rw [upd_ne (ne_of_none hx ha)]
        exact hx
      exact fun hl => ⟨_, get hl, rfl, _, rfl, ifn (fun hl => ⟨_, get hl, a, A.c_BadPlan, dd, _, _, _, true, rfl, T.ec_BadPlan, upd_same, hdd, .own _, T.k_BadPlan_BadPlan, _, rfl, iteT (fun hl => ⟨_, get hl, a, A.c_BadPlan, dd, _, _, rfl, T.xf_BadPlan, T.n_BadPlan_reason, upd_same, hdd, rfl, fun hl => ⟨_, get hl, a, A.c_BadPlan, dd, _, _, rfl, T.xf_BadPlan, T.n_BadPlan_place, upd_same, hdd, rfl, three_line, fun t ht => k a t ha ht⟩⟩)⟩)⟩
    | @value dd r _ hx k =>
      refine ⟨true, T.ex_BadValue, fun _ a ha => ?_, fun z => nomatch z⟩
      have hdd : upd H' a (exk a (.ref A.c_BadValue) (some dd)) dd = some (.xd [("part", .str r)]) := by
        rw [upd_ne (ne_of_none hx ha)]
        exact hx
      exact fun hl => ⟨_, get hl, rfl, _, rfl, ifn (fun hl => ⟨_, get hl, a, A.c_BadValue, dd, _, _, _, false, rfl, T.ec_BadValue, upd_same, hdd, .own _, T.k_BadValue_BadPlan, _, rfl, iteF (fun hl => ⟨_, get hl, a, A.c_BadValue, dd, _, _, _, false, rfl, T.ec_BadValue, upd_same, hdd, .own _, T.k_BadValue_BadText, _, rfl, iteF (fun hl => ⟨_, get hl, a, A.c_BadValue, dd, _, _, _, false, rfl, T.ec_BadValue, upd_same, hdd, .own _, T.k_BadValue_BadCommand, _, rfl, iteF (fun hl => ⟨_, get hl, a, A.c_BadValue, dd, _, _, _, false, rfl, T.ec_BadValue, upd_same, hdd, .own _, T.k_BadValue_NoTurn, _, rfl, iteF (fun hl => ⟨_, get hl, a, A.c_BadValue, dd, _, _, _, false, rfl, T.ec_BadValue, upd_same, hdd, .own _, T.k_BadValue_TooMany, _, rfl, iteF (fun hl => ⟨_, get hl, a, A.c_BadValue, dd, _, _, _, true, rfl, T.ec_BadValue, upd_same, hdd, .own _, T.k_BadValue_BadValue, _, rfl, iteT (fun hl => ⟨_, get hl, a, A.c_BadValue, dd, _, _, rfl, T.xf_BadValue, T.n_BadValue_part, upd_same, hdd, rfl, two_line, fun t ht => k a t ha ht⟩)⟩)⟩)⟩)⟩)⟩)⟩)⟩
end
end KP


set_option Elab.async false
set_option linter.all false
set_option maxRecDepth 100000
set_option maxHeartbeats 8000000
set_option exponentiation.threshold 10000
namespace KP
open PySem PySem.Spec PyProof.Rows L2 ClX OG
section
variable {P : Program} {w : World} {K : PySem.W.Frag} {mg : Str → Option Value} {base : Heap} {A : Ad}
def lamQ : Str := (envOfC "law" (defScope s_law) 0 0 .none).qual ++ "<lambda>"
def tbs (A : Ad) : List (Addr × Str) := [(A.tb_law, lamQ)]
theorem pe_heard {X : Cx} (T : LamT X.K X.mg A) (B : LamX.TabB X.base X.mg A.cd_law A.tb_law) {k : Nat} (hr : Room (k + 2) X.A) (hgl : Gl X "_law_heard") (hcode : X.env.code = .ref A.cd_law) (hq : X.env.qual ++ "<lambda>" = lamQ)
    {params : Arguments} {body : Expr} {scope : Scope} {p lpos pos : Pos} {t : XK → TE}
    (L : LamX.LamS X.env.scope scope) (hdef : defaultsOf params X.env = ([], []))
    (hbind : ∀ (q : Str) (cl : List (Str × Addr)) (pm cv ctv : Value), bindArgs (PySem.W.kla_fn "<lambda>" q params body scope cl pm cv ctv) ⟨[], []⟩ = pure [])
    (hbody : ∀ (A2 : Around) (o2 : List Env) (s2 : Shared) (H2 : Hp) (E2 : XK) (f2 c2 : Addr), Room k (A2.deeper (LamX.lamEnv X scope s2.heap.objs.size f2 c2)) → PE (LamX.lamCx X A2 o2 s2 H2 E2 scope f2 c2) body (t E2)) :
    PE X (.Call (.Name "_law_heard" p) [.Lambda params body scope lpos] [] pos) (LamX.tLam (tbs A) (THeard A) t) := by
  obtain ⟨oc, od, kV, doc, pm, an, cdv, ct, osl, efd, lk, hcg⟩ := T.F_law_heard.ex
  have hb := b_law_heard T.F_law_heard
  rw [efd] at lk hb
  exact LamX.pe_lamcall hgl T.g_law_heard T.F_law_heard.kp lk hcg hb sc_law_heard rfl (Or.inl rfl) (heard_gives T) B hcode (by rw [hq]; exact List.mem_singleton.mpr rfl) (fun p hp _ => by rw [List.mem_singleton.mp hp, hq]) hr L hdef hbind hbody
abbrev XL (P : Program) (w : World) (K : PySem.W.Frag) (mg : Str → Option Value) (base : Heap) (A : Ad) (Ar : Around) (outer : List Env) (s : Shared) (H : Hp) (E : XK) : Cx :=
  (cxOf CX0 P w K mg base N_law "law" (defScope s_law) A.f_law (.ref A.cd_law) Ar outer s H E).nox
section
variable {Ar : Around} {outer : List Env} {s : Shared} {H : Hp} {E : XK}
noncomputable def dl_0 (T : LamT K mg A) (B : LamX.TabB base mg A.cd_law A.tb_law) (hg : RmG 11 (XL P w K mg base A Ar outer s H E).A) (hr : Room 11 (XL P w K mg base A Ar outer s H E).A) : {t : TS // PS (XL P w K mg base A Ar outer s H E) ((match (defBody s_law).getD 1 (.Pass ⟨0, 0, 0, 0⟩) with | .For _ _ b _ _ => b | _ => []).getD 0 (.Pass ⟨0, 0, 0, 0⟩)) t} := ⟨_, (ps_set (i := 3) sc_law.nd rfl (Or.inl rfl) (pe_call (ok_law_drawn T.toLawT) (hr.mono (by decide)) rfl T.g_law_drawn T.F_law_drawn.kp (b_law_drawn T.F_law_drawn) .nil pass0 (pa_cons (pv 1) (pa_cons (pe_ifExp (PW.pt (pw_or (pt_cmpR op_gt (pv 2) pe_int (nomark _)) (pw_or1 (pt_cmpR op_gt (pe_call (ok_law_draw T.toLawT) (hr.mono (by decide)) rfl T.g_law_draw T.F_law_draw.kp (b_law_draw T.F_law_draw) .nil pass0 (pa_cons (pv 1) (pa_cons pe_int pa_nil))) pe_int (nomark _))))) pe_int pe_int) pa_nil))))⟩
noncomputable def dl_1 (T : LamT K mg A) (B : LamX.TabB base mg A.cd_law A.tb_law) (hg : RmG 11 (XL P w K mg base A Ar outer s H E).A) (hr : Room 11 (XL P w K mg base A Ar outer s H E).A) : {t : TS // PS (XL P w K mg base A Ar outer s H E) ((match (defBody s_law).getD 1 (.Pass ⟨0, 0, 0, 0⟩) with | .For _ _ b _ _ => b | _ => []).getD 1 (.Pass ⟨0, 0, 0, 0⟩)) t} := ⟨_, (ps_if (pt_not (pt_val (pe_callG (ok_law_made_right T.toLawT) (hg.mono (by decide)) rfl T.g_law_made_right T.F_law_made_right.kp (b_law_made_right T.F_law_made_right) .nil pass0 (pa_cons (pv 3) pa_nil)))) (pss_one (ps_ret pe_bl)) pss_nil)⟩
noncomputable def dl_2 (T : LamT K mg A) (B : LamX.TabB base mg A.cd_law A.tb_law) (hg : RmG 11 (XL P w K mg base A Ar outer s H E).A) (hr : Room 11 (XL P w K mg base A Ar outer s H E).A) : {t : TS // PS (XL P w K mg base A Ar outer s H E) ((match (defBody s_law).getD 1 (.Pass ⟨0, 0, 0, 0⟩) with | .For _ _ b _ _ => b | _ => []).getD 2 (.Pass ⟨0, 0, 0, 0⟩)) t} := ⟨_, (ps_asg (pe_tup (pa_cons (pe_make T.mk_Plan (ok_Plan_init T.toTxt) (hr.mono (by decide)) rfl T.g_Plan (b_Plan_init T.F_Plan_init) .nil passL (pa_cons (pe_ix ix_tup (pv 3) pe_int (fun _ _ => rfl)) (pa_cons (pe_ix ix_tup (pv 3) pe_int (fun _ _ => rfl)) (pa_cons (pe_ix ix_tup (pv 3) pe_int (fun _ _ => rfl)) pa_nil)))) (pa_cons (pe_call (ok_law_lots T.toLawT) (hr.mono (by decide)) rfl T.g_law_lots T.F_law_lots.kp (b_law_lots T.F_law_lots) .nil pass0 (pa_cons (pe_ix ix_tup (pv 3) pe_int (fun _ _ => rfl)) (pa_cons (pe_ix ix_tup (pv 3) pe_int (fun _ _ => rfl)) pa_nil))) pa_nil))) (pg_tup rfl (pgs_cons (pg_name (i := 4) sc_law.nd rfl (Or.inl rfl)) (pgs_cons (pg_name (i := 5) sc_law.nd rfl (Or.inr rfl)) pgs_nil))))⟩
noncomputable def dl_3 (T : LamT K mg A) (B : LamX.TabB base mg A.cd_law A.tb_law) (hg : RmG 11 (XL P w K mg base A Ar outer s H E).A) (hr : Room 11 (XL P w K mg base A Ar outer s H E).A) : {t : TS // PS (XL P w K mg base A Ar outer s H E) ((match (defBody s_law).getD 1 (.Pass ⟨0, 0, 0, 0⟩) with | .For _ _ b _ _ => b | _ => []).getD 3 (.Pass ⟨0, 0, 0, 0⟩)) t} := ⟨_, (ps_set (i := 6) sc_law.nd rfl (Or.inr rfl) (pe_call (ok_law_draw T.toLawT) (hr.mono (by decide)) rfl T.g_law_draw T.F_law_draw.kp (b_law_draw T.F_law_draw) .nil pass0 (pa_cons (pv 1) (pa_cons (pe_callB call_len (by rfl) T.n_len (by decide +kernel) (pa_cons (pv 5) pa_nil)) pa_nil))))⟩
noncomputable def dl_4 (T : LamT K mg A) (B : LamX.TabB base mg A.cd_law A.tb_law) (hg : RmG 11 (XL P w K mg base A Ar outer s H E).A) (hr : Room 11 (XL P w K mg base A Ar outer s H E).A) : {t : TS // PS (XL P w K mg base A Ar outer s H E) ((match (defBody s_law).getD 1 (.Pass ⟨0, 0, 0, 0⟩) with | .For _ _ b _ _ => b | _ => []).getD 4 (.Pass ⟨0, 0, 0, 0⟩)) t} := ⟨_, (ps_set (i := 7) sc_law.nd rfl (Or.inl rfl) (pe_lst (pa_cons (pe_tup (pa_cons (pe_ix ix_tup (pv 3) pe_int (fun _ _ => rfl)) (pa_cons (pe_ix ix_tup (pv 3) pe_int (fun _ _ => rfl)) (pa_cons (pe_callTy call_tuple_of (by rfl) T.n_tuple (by decide +kernel) (pa_cons (pe_lc (own := [("order", 15), ("lot", 16)]) (g := gTup K 2 (gCons (gName 15) (gCons (gName 16) gNil))) (by rfl) sc_law.nd (pi_zipS (by rfl) T.n_zip (pa_cons (pe_ix ix_tup (pv 3) pe_int (fun _ _ => rfl)) (pa_cons (pv 5) pa_nil))) (blkOk_by (own := [("order", 15), ("lot", 16)]) (N := N_law) (sc := defScope s_law) (by decide +kernel)) (fun _ _ _ _ _ => (pg_tup rfl (pgs_cons (pg_name (i := 15) sc_law.nd rfl (Or.inl rfl)) (pgs_cons (pg_name (i := 16) sc_law.nd rfl (Or.inl rfl)) pgs_nil)))) (fun _ _ _ _ _ => pts_nil) (fun _ _ _ _ _ => (pe_op op_add (pv 15) (pe_op op_mul (pe_callTy (T := "int") call_int1 (by rfl) T.n_int (by decide +kernel) (pa_cons (pe_cmpR op_eq (pv 16) (pe_ix (r := rIxL K) ix_list (pv 5) (pv 6) (fun _ _ => rfl)) (nomark _)) pa_nil)) (pe_op op_sub pe_int (pe_op op_mul pe_int (pe_callTy (T := "int") call_int1 (by rfl) T.n_int (by decide +kernel) (pa_cons (pe_cmpR op_eq (pv 15) pe_int (nomark _)) pa_nil)))))))) pa_nil)) pa_nil)))) pa_nil)))⟩
noncomputable def dl_5 (T : LamT K mg A) (B : LamX.TabB base mg A.cd_law A.tb_law) (hg : RmG 11 (XL P w K mg base A Ar outer s H E).A) (hr : Room 11 (XL P w K mg base A Ar outer s H E).A) : {t : TS // PS (XL P w K mg base A Ar outer s H E) ((match (defBody s_law).getD 1 (.Pass ⟨0, 0, 0, 0⟩) with | .For _ _ b _ _ => b | _ => []).getD 5 (.Pass ⟨0, 0, 0, 0⟩)) t} := ⟨_, (ps_set (i := 8) sc_law.nd rfl (Or.inr rfl) (pe_ix ix_tup (pe_ix ix_tup (pv 3) pe_int (fun _ _ => rfl)) (pv 6) (fun _ _ => rfl)))⟩
noncomputable def dl_6 (T : LamT K mg A) (B : LamX.TabB base mg A.cd_law A.tb_law) (hg : RmG 11 (XL P w K mg base A Ar outer s H E).A) (hr : Room 11 (XL P w K mg base A Ar outer s H E).A) : {t : TS // PS (XL P w K mg base A Ar outer s H E) ((match (defBody s_law).getD 1 (.Pass ⟨0, 0, 0, 0⟩) with | .For _ _ b _ _ => b | _ => []).getD 6 (.Pass ⟨0, 0, 0, 0⟩)) t} := ⟨_, (ps_if (pt_cmpR op_ne (pv 8) (pv 6) (nomark _)) (pss_cons (ps_setLc (i := 9) (own := [("at", 13), ("bend", 14)]) (g := gTup K 2 (gCons (gName 13) (gCons (gName 14) gNil))) (by rfl) sc_law.nd rfl rfl (sw_true rfl rfl rfl (by decide +kernel)) (pi_enumS (by rfl) T.n_enumerate (pa_cons (pe_ix ix_tup (pv 3) pe_int (fun _ _ => rfl)) pa_nil)) (blkOk_by (own := [("at", 13), ("bend", 14)]) (N := N_law) (sc := defScope s_law) (by decide +kernel)) (fun _ _ _ _ _ => (pg_tup rfl (pgs_cons (pg_name (i := 13) sc_law.nd rfl (Or.inl rfl)) (pgs_cons (pg_name (i := 14) sc_law.nd rfl (Or.inl rfl)) pgs_nil)))) (fun _ _ _ _ _ => pts_nil) (fun _ _ _ _ _ => (pe_ifExp (pt_cmpR (r := rIn K false) op_in_seq (pv 13) (pe_tup (pa_cons (pv 6) (pa_cons (pv 8) pa_nil))) (by with_unfolding_all rfl)) (pe_op op_sub pe_int (pv 14)) (pv 14))))
      (pss_cons (ps_expr (pe_bm PySem.F.plainAttrs_list PySem.F.slot_list_append PySem.F.type_list_append mt_append (pv 7) (pa_cons (pe_tup (pa_cons (pe_ix ix_tup (pv 3) pe_int (fun _ _ => rfl)) (pa_cons (pe_callTy call_tuple_of (by rfl) T.n_tuple (by decide +kernel) (pa_cons (pv 9) pa_nil)) (pa_cons (pe_op op_repT (pe_tup (pa_cons pe_int pa_nil)) (pe_callB call_len (by rfl) T.n_len (by decide +kernel) (pa_cons (pv 5) pa_nil))) pa_nil)))) pa_nil)))
      (pss_one (ps_expr (pe_bm PySem.F.plainAttrs_list PySem.F.slot_list_append PySem.F.type_list_append mt_append (pv 7) (pa_cons (pe_tup (pa_cons (pe_ix ix_tup (pv 3) pe_int (fun _ _ => rfl)) (pa_cons (pe_ix ix_tup (pv 3) pe_int (fun _ _ => rfl)) (pa_cons (pe_op op_repT (pe_tup (pa_cons pe_int pa_nil)) (pe_callB call_len (by rfl) T.n_len (by decide +kernel) (pa_cons (pv 5) pa_nil))) pa_nil)))) pa_nil)))))) pss_nil)⟩
noncomputable def dl_7 (T : LamT K mg A) (B : LamX.TabB base mg A.cd_law A.tb_law) (hg : RmG 11 (XL P w K mg base A Ar outer s H E).A) (hr : Room 11 (XL P w K mg base A Ar outer s H E).A) : {t : TS // PS (XL P w K mg base A Ar outer s H E) ((match (defBody s_law).getD 1 (.Pass ⟨0, 0, 0, 0⟩) with | .For _ _ b _ _ => b | _ => []).getD 7 (.Pass ⟨0, 0, 0, 0⟩)) t} := ⟨_, (ps_for PassesOwn.never rfl (pi_seqW (pv 7)) (pg_name (i := 10) sc_law.nd rfl (Or.inl rfl)) (pss_one (ps_if (pt_cmpR op_ne (pe_cmpR (op_eqO (C := A.c_Plan) (E := E0) (ok_Plan_eq T.toTxt) (hr.mono (by decide)) T.e_Plan T.fn_Plan_eq (b_Plan_eq T.F_Plan_eq) pass0) (pe_make T.mk_Plan (ok_Plan_init T.toTxt) (hr.mono (by decide)) rfl T.g_Plan (b_Plan_init T.F_Plan_init) .nil passL (pa_cons (pe_ix ix_tup (pv 10) pe_int (fun _ _ => rfl)) (pa_cons (pe_ix ix_tup (pv 10) pe_int (fun _ _ => rfl)) (pa_cons (pe_ix ix_tup (pv 10) pe_int (fun _ _ => rfl)) pa_nil)))) (pv 4) (nomark _)) (pe_cmpR (op_eqD (un64 hr)) (pv 10) (pv 3) (nomark _)) (nomark _)) (pss_one (ps_ret pe_bl)) pss_nil)))⟩
noncomputable def dt_0 (T : LamT K mg A) (B : LamX.TabB base mg A.cd_law A.tb_law) (hg : RmG 11 (XL P w K mg base A Ar outer s H E).A) (hr : Room 11 (XL P w K mg base A Ar outer s H E).A) : {t : TS // PS (XL P w K mg base A Ar outer s H E) ((defBody s_law).getD 0 (.Pass ⟨0, 0, 0, 0⟩)) t} := ⟨_, (ps_set (i := 1) sc_law.nd rfl (Or.inl rfl) (pe_call (ok_law_pen T.toLawT) (hr.mono (by decide)) rfl T.g_law_pen T.F_law_pen.kp (b_law_pen T.F_law_pen) .nil pass0 (pa_cons (pv 0) pa_nil)))⟩
noncomputable def dt_2 (T : LamT K mg A) (B : LamX.TabB base mg A.cd_law A.tb_law) (hg : RmG 11 (XL P w K mg base A Ar outer s H E).A) (hr : Room 11 (XL P w K mg base A Ar outer s H E).A) : {t : TS // PS (XL P w K mg base A Ar outer s H E) ((defBody s_law).getD 2 (.Pass ⟨0, 0, 0, 0⟩)) t} := ⟨_, (ps_setLc (i := 11) (own := [("spot", 6)]) (g := gName 6) (by rfl) sc_law.nd rfl rfl (sw_true rfl rfl rfl (by decide +kernel)) (pi_range1 (by rfl) T.n_range (pa_cons pe_int pa_nil)) (blkOk_by (own := [("spot", 6)]) (N := N_law) (sc := defScope s_law) (by decide +kernel)) (fun _ _ _ _ _ => pg_name (i := 6) sc_law.nd rfl (Or.inl rfl)) (fun _ _ _ _ _ => pts_nil) (fun _ _ _ _ _ => (pe_lst (pa_cons (pe_callK0 (ok_next_in T.toTxt) (hr.mono (by decide)) rfl T.g_next_in T.F_next_in.kp (kb_next_in_place T.F_next_in) pass0 (pk_cons (pv 6) pk_nil)) (pa_cons (pe_callK0 (ok_prev_in T.toTxt) (hr.mono (by decide)) rfl T.g_prev_in T.F_prev_in.kp (kb_prev_in_place T.F_prev_in) pass0 (pk_cons (pv 6) pk_nil)) (pa_cons (pe_call (ok_next_in T.toTxt) (hr.mono (by decide)) rfl T.g_next_in T.F_next_in.kp (b_next_in T.F_next_in) .nil pass0 (pa_cons (pe_call (ok_prev_in T.toTxt) (hr.mono (by decide)) rfl T.g_prev_in T.F_prev_in.kp (b_prev_in T.F_prev_in) .nil pass0 (pa_cons (pv 6) pa_nil)) pa_nil)) pa_nil))))))⟩
noncomputable def dt_3 (T : LamT K mg A) (B : LamX.TabB base mg A.cd_law A.tb_law) (hg : RmG 11 (XL P w K mg base A Ar outer s H E).A) (hr : Room 11 (XL P w K mg base A Ar outer s H E).A) : {t : TS // PS (XL P w K mg base A Ar outer s H E) ((defBody s_law).getD 3 (.Pass ⟨0, 0, 0, 0⟩)) t} := ⟨_, (ps_if (pt_cmpR (op_neD (un64 hr)) (pv 11) (pe_lc (own := [("spot", 6)]) (g := gName 6) (by rfl) sc_law.nd (pi_range1 (by rfl) T.n_range (pa_cons pe_int pa_nil)) (blkOk_by (own := [("spot", 6)]) (N := N_law) (sc := defScope s_law) (by decide +kernel)) (fun _ _ _ _ _ => pg_name (i := 6) sc_law.nd rfl (Or.inl rfl)) (fun _ _ _ _ _ => pts_nil) (fun _ _ _ _ _ => (pe_lst (pa_cons (pe_op op_add (pe_op op_mul pe_int (pe_op op_fdiv (pv 6) pe_int)) (pe_op op_mod (pe_callTy (T := "int") call_int1 (by rfl) T.n_int (by decide +kernel) (pa_cons (pe_op op_add (pv 6) pe_int) pa_nil)) pe_int)) (pa_cons (pe_op op_add (pe_op op_mul pe_int (pe_op op_fdiv (pv 6) pe_int)) (pe_op op_mod (pe_callTy (T := "int") call_int1 (by rfl) T.n_int (by decide +kernel) (pa_cons (pe_op op_add (pv 6) pe_int) pa_nil)) pe_int)) (pa_cons (pv 6) pa_nil)))))) (nomark _)) (pss_one (ps_ret pe_bl)) pss_nil)⟩
noncomputable def dt_4 (T : LamT K mg A) (B : LamX.TabB base mg A.cd_law A.tb_law) (hg : RmG 11 (XL P w K mg base A Ar outer s H E).A) (hr : Room 11 (XL P w K mg base A Ar outer s H E).A) : {t : TS // PS (XL P w K mg base A Ar outer s H E) ((defBody s_law).getD 4 (.Pass ⟨0, 0, 0, 0⟩)) t} := ⟨_, (ps_set (i := 12) sc_law.nd rfl (Or.inr rfl) (pe_lc (own := [("spot", 6)]) (g := gName 6) (by rfl) sc_law.nd (pi_range1 (by rfl) T.n_range (pa_cons pe_int pa_nil)) (blkOk_by (own := [("spot", 6)]) (N := N_law) (sc := defScope s_law) (by decide +kernel)) (fun _ _ _ _ _ => pg_name (i := 6) sc_law.nd rfl (Or.inl rfl)) (fun _ _ _ _ _ => pts_nil) (fun _ _ _ _ _ => (pe_ifExp (pt_cmpR op_eq (pe_op op_mod (pe_callTy (T := "int") call_int1 (by rfl) T.n_int (by decide +kernel) (pa_cons (pv 6) pa_nil)) pe_int) pe_int (nomark _)) (pe_op op_add (pv 6) pe_int) (pe_op op_sub (pv 6) pe_int)))))⟩
noncomputable def dt_5 (T : LamT K mg A) (B : LamX.TabB base mg A.cd_law A.tb_law) (hg : RmG 11 (XL P w K mg base A Ar outer s H E).A) (hr : Room 11 (XL P w K mg base A Ar outer s H E).A) : {t : TS // PS (XL P w K mg base A Ar outer s H E) ((defBody s_law).getD 5 (.Pass ⟨0, 0, 0, 0⟩)) t} := ⟨_, (ps_if (pt_cmpR (op_neD (by exact un64 hr)) (by exact pe_heard (k := 6) (by exact T) (by exact B) (by exact hr.mono (by decide)) (by rfl) (by rfl) (by rfl) (LamX.lamS_by (by rfl)) (by rfl) (fun _ _ _ _ _ => rfl) fun A2 o2 s2 H2 E2 f2 c2 hr2 => (pe_make T.mk_Plan (ok_Plan_init T.toTxt) (hr2.mono (by decide)) rfl T.g_Plan (b_Plan_init T.F_Plan_init) .nil (passes_call (takes_of rfl rfl rfl rfl) fun _ _ _ _ h => h) (pa_cons (pv 12) (pa_cons (pe_op op_rep (pe_lst (pa_cons pe_int pa_nil)) pe_int) (pa_cons (pe_op op_rep (pe_lst (pa_cons pe_int pa_nil)) pe_int) pa_nil))))) (pe_tup (pa_cons pe_str (pa_cons pe_str (pa_cons pe_int pa_nil)))) (nomark _)) (pss_one (ps_ret pe_bl)) pss_nil)⟩
noncomputable def dt_6 (T : LamT K mg A) (B : LamX.TabB base mg A.cd_law A.tb_law) (hg : RmG 11 (XL P w K mg base A Ar outer s H E).A) (hr : Room 11 (XL P w K mg base A Ar outer s H E).A) : {t : TS // PS (XL P w K mg base A Ar outer s H E) ((defBody s_law).getD 6 (.Pass ⟨0, 0, 0, 0⟩)) t} := ⟨_, (ps_ret (pe_and (pe_cmpR op_eq (pe_cval (pe_glob (v := .ref A.c_Plan) rfl T.g_Plan rfl)) pe_int (nomark _)) (pe_one (pe_cmpR (op_eqD (by exact un64 hr)) (by exact pe_heard (k := 6) (by exact T) (by exact B) (by exact hr.mono (by decide)) (by rfl) (by rfl) (by rfl) (LamX.lamS_by (by rfl)) (by rfl) (fun _ _ _ _ _ => rfl) fun A2 o2 s2 H2 E2 f2 c2 hr2 => (pe_make T.mk_Plan (ok_Plan_init T.toTxt) (hr2.mono (by decide)) rfl T.g_Plan (b_Plan_init T.F_Plan_init) .nil (passes_call (takes_of rfl rfl rfl rfl) fun _ _ _ _ h => h) (pa_cons (pe_listRg (by rfl) (by rfl) T.n_list (prg_1 (by rfl) T.n_range pe_int)) (pa_cons (pe_lst pa_nil) (pa_cons (pe_lst pa_nil) pa_nil))))) (pe_tup (pa_cons pe_str (pa_cons pe_str (pa_cons pe_int pa_nil)))) (nomark _)))))⟩
end
end
end KP


set_option Elab.async false
set_option linter.all false
set_option maxRecDepth 100000
set_option maxHeartbeats 8000000
set_option exponentiation.threshold 10000
namespace KP
open PySem PySem.Spec PyProof.Rows L2 ClX OG
section
variable {P : Program} {w : World} {K : PySem.W.Frag} {mg : Str → Option Value} {base : Heap} {A : Ad} {p : Addr}
theorem RowsT.but {H H' : Hp} {t : Addr} {ms bs os : List Int} (e : But p H H') (h : RowsT H t ms bs os) : RowsT H' t ms bs os := by
  obtain ⟨a, b, c, h1, h2, h3, h4⟩ := h
  obtain ⟨xs, hp⟩ := e.1
  have k : ∀ {c : Addr} {ys : List V}, H c = some (.tup ys) → H' c = some (.tup ys) := fun {c ys} h => e.2.2.1 _ _ (fun z => by rw [z, hp] at h; cases h) h
  exact ⟨a, b, c, k h1, k h2, k h3, k h4⟩
theorem RowsT.same {H H' : Hp} {t : Addr} {ms bs os : List Int} (e : Same H H') (h : RowsT H t ms bs os) : RowsT H' t ms bs os := by
  obtain ⟨a, b, c, h1, h2, h3, h4⟩ := h
  exact ⟨a, b, c, e _ _ h1, e _ _ h2, e _ _ h3, e _ _ h4⟩
theorem PlanR.but {H H' : Hp} {C a : Addr} {ms bs os : List Int} (e : But p H H') (h : PlanR K C H a ms bs os) : PlanR K C H' a ms bs os := by
  obtain ⟨dx, t1, t2, t3, t4, h1, h2, h3, h4, h5, h6⟩ := h
  obtain ⟨xs, hp⟩ := e.1
  exact ⟨dx, t1, t2, t3, t4, e.2.2.1 _ _ (fun z => by rw [z, hp] at h1; cases h1) h1, e.t h2, e.t h3, e.t h4, e.2.2.1 _ _ (fun z => by rw [z, hp] at h5; cases h5) h5, h6⟩
section
variable {Ar : Around} {outer : List Env} {s : Shared} {H : Hp} {E : XK} {D : Ends} {H0 : Hp} {a t pl F : Addr} {m n : Nat} {ms bs os ls : List Int} {w0 w1 w2 w3 w4 w5 w6 w7 w8 w9 w10 w11 w12 w13 w14 w15 w16 : Option V} {j : Int}
theorem rd_0 (T : LamT K mg A) (B : LamX.TabB base mg A.cd_law A.tb_law) (hg : RmG 11 (XL P w K mg base A Ar outer s H E).A) (hr : Room 11 (XL P w K mg base A Ar outer s H E).A)
    (k0 : PenK H0 p m) (hm : m ≤ 40000) (q : ∀ t ms bs os n H1, But p H0 H1 → PenK H1 p (m + 1001) → RowsT H1 t ms bs os → PlanN ms bs os n → D.nx [w0, some (.ref p), some (.int j), some (.ref t), w4, w5, w6, w7, w8, w9, w10, w11, w12, w13, w14, w15, w16] H1) :
    (dl_0 (P := P) (w := w) (outer := outer) (s := s) (H := H) (E := E) T B hg hr).1 D [w0, some (.ref p), some (.int j), w3, w4, w5, w6, w7, w8, w9, w10, w11, w12, w13, w14, w15, w16] H0 := by
  unfold dl_0
  refine ⟨_, rfl, _, rfl, _, _, rfl, rfl, _, rfl, ?_⟩
  by_cases c : 0 < j
  · rw [decide_eq_true c]
    refine iteT (iteT ⟨p, 8, m, rfl, k0, by omega, by decide, by decide, fun t ms bs os n H1 e k r g => q t ms bs os n H1 e (k.mono (by omega)) r g⟩)
  · rw [decide_eq_false c]
    refine iteF ⟨_, rfl, p, 12, m, rfl, k0, by omega, by decide, (szI_nat (k := 10) (n := 12) (by decide)).mono (by decide), fun r H1 r0 r1 e1 k1 => ?_⟩
    refine ⟨_, _, rfl, rfl, _, rfl, ?_⟩
    by_cases c2 : 0 < r
    · rw [decide_eq_true c2]
      refine (iteT ⟨p, 8, m + 1, rfl, k1, by omega, by decide, by decide, fun t ms bs os n H2 e k r g => q t ms bs os n H2 (e1.trans e) (k.mono (by omega)) r g⟩)
    · rw [decide_eq_false c2]
      refine (iteF ⟨p, 60, m + 1, rfl, k1, by omega, by decide, by decide, fun t ms bs os n H2 e k r g => q t ms bs os n H2 (e1.trans e) (k.mono (by omega)) r g⟩)
theorem rd_1 (T : LamT K mg A) (B : LamX.TabB base mg A.cd_law A.tb_law) (hg : RmG 11 (XL P w K mg base A Ar outer s H E).A) (hr : Room 11 (XL P w K mg base A Ar outer s H E).A)
    (r : RowsT H0 t ms bs os) (g : PlanN ms bs os n) (q : ∀ H1, Same H0 H1 → D.nx [w0, w1, w2, some (.ref t), w4, w5, w6, w7, w8, w9, w10, w11, w12, w13, w14, w15, w16] H1) :
    (dl_1 (P := P) (w := w) (outer := outer) (s := s) (H := H) (E := E) T B hg hr).1 D [w0, w1, w2, some (.ref t), w4, w5, w6, w7, w8, w9, w10, w11, w12, w13, w14, w15, w16] H0 := by
  unfold dl_1
  exact ⟨_, rfl, t, ms, bs, os, n, rfl, r, g, fun H1 s1 => ⟨_, rfl, iteF (q H1 s1)⟩⟩
theorem rd_2 (T : LamT K mg A) (B : LamX.TabB base mg A.cd_law A.tb_law) (hg : RmG 11 (XL P w K mg base A Ar outer s H E).A) (hr : Room 11 (XL P w K mg base A Ar outer s H E).A)
    (r : RowsT H0 t ms bs os) (g : PlanN ms bs os n) (q : ∀ pl F ls H1, Same H0 H1 → PlanR K A.c_Plan H1 pl ms bs os → H0 F = none → H1 F = some (.lst (ls.map V.int)) → Lots ms bs ls → D.nx [w0, w1, w2, some (.ref t), some (.ref pl), some (.ref F), w6, w7, w8, w9, w10, w11, w12, w13, w14, w15, w16] H1) :
    (dl_2 (P := P) (w := w) (outer := outer) (s := s) (H := H) (E := E) T B hg hr).1 D [w0, w1, w2, some (.ref t), w4, w5, w6, w7, w8, w9, w10, w11, w12, w13, w14, w15, w16] H0 := by
  unfold dl_2
  obtain ⟨a, b, c, h1, h2, h3, h4⟩ := id r
  have lm := g.lm
  have lb := g.lb
  have lo := g.lo
  have n1 := g.n1
  have n60 := g.n60
  refine ⟨_, rfl, _, _, _, _, rfl, rfl, SqT.of h1, atI_nat (j := 0) rfl, _, rfl, _, _, _, _, rfl, rfl, SqT.of h1, atI_nat (j := 1) rfl, _, rfl, _, _, _, _, rfl, rfl, SqT.of h1, atI_nat (j := 2) rfl, fun pl dx hpl hdx hn => ?_⟩
  refine make_good hpl hdx hn (.ints (.inr (SqT.of h2)) (by omega)) (.ints (.inr (SqT.of h3)) (by omega)) (.ints (.inr (SqT.of h4)) (by omega)) g.good fun H1 s1 hP => ⟨rfl, ?_⟩
  refine ⟨_, rfl, _, _, _, _, rfl, rfl, SqT.of (s1 _ _ h1), atI_nat (j := 0) rfl, _, rfl, _, _, _, _, rfl, rfl, SqT.of (s1 _ _ h1), atI_nat (j := 1) rfl, a, b, ms, bs, n, rfl, .inr (SqT.of (s1 _ _ h2)), .inr (SqT.of (s1 _ _ h3)), ⟨_, s1 _ _ h2⟩, g.mb, fun F ls H2 s2 hF qF lot => ?_⟩
  have hF0 : H0 F = none := by
    cases z : H0 F with
    | none => rfl
    | some u => rw [s1 _ _ z] at hF; cases hF
  refine ⟨two_line, fun tq htq => ⟨tq, _, rfl, SqT.of upd_same, rfl, _, _, rfl, _, _, rfl, rfl, ?_⟩⟩
  have stq := same_new (o := .tup [.ref pl, .ref F]) htq
  exact q pl F ls _ (s1.trans (s2.trans stq)) ((hP.1.mono s2).mono stq) hF0 (stq _ _ qF) lot
theorem rd_3 (T : LamT K mg A) (B : LamX.TabB base mg A.cd_law A.tb_law) (hg : RmG 11 (XL P w K mg base A Ar outer s H E).A) (hr : Room 11 (XL P w K mg base A Ar outer s H E).A)
    (k0 : PenK H0 p m) (hm : m ≤ 40000) (qF : H0 F = some (.lst (ls.map V.int))) (h0 : 0 < ls.length) (h1 : ls.length ≤ 180) (q : ∀ (i : Nat) H1, i < ls.length → But p H0 H1 → PenK H1 p (m + 1) → D.nx [w0, some (.ref p), w2, w3, w4, some (.ref F), some (.int i), w7, w8, w9, w10, w11, w12, w13, w14, w15, w16] H1) :
    (dl_3 (P := P) (w := w) (outer := outer) (s := s) (H := H) (E := E) T B hg hr).1 D [w0, some (.ref p), w2, w3, w4, some (.ref F), w6, w7, w8, w9, w10, w11, w12, w13, w14, w15, w16] H0 := by
  unfold dl_3
  refine ⟨_, rfl, _, rfl, _, (ls.map V.int).length, rfl, len_s (.inl (SqL.of qF)), p, ((ls.map V.int).length : Nat), m, rfl, k0, by omega, by rw [List.length_map]; omega, by rw [List.length_map]; exact (szI_nat (k := 10) (by omega)).mono (by decide), fun r H1 r0 r1 e1 k1 => ?_⟩
  rw [List.length_map] at r1
  have := q r.toNat H1 (by omega) e1 k1
  rw [show ((r.toNat : Nat) : Int) = r by omega] at this
  exact this
end
end
end KP


set_option Elab.async false
set_option linter.all false
set_option maxRecDepth 100000
set_option maxHeartbeats 8000000
set_option exponentiation.threshold 10000
namespace KP
open PySem PySem.Spec PyProof.Rows L2 ClX OG
/-! ### the other plans, in plain -/
theorem PlanN.other {ms bs os os' : List Int} {n : Nat} (g : PlanN ms bs os n) (lo : os'.length = 3 * n) (o : ∀ x ∈ os', 1 ≤ x ∧ x ≤ 120) (sh : ∀ i : Nat, i < ms.length → Shut ms bs os' i) : PlanN ms bs os' n := { g with lo := lo, o := o, shut := sh }
def bump (o : Int) (b : Bool) : Int := o + (if b = true then (1 : Int) else 0) * (1 - 2 * (if decide (o = 120) = true then (1 : Int) else 0))
theorem bump_in {o : Int} {b : Bool} (h : 1 ≤ o ∧ o ≤ 120) : 1 ≤ bump o b ∧ bump o b ≤ 120 := by
  unfold bump
  cases b with
  | false => simp; omega
  | true =>
    by_cases c : o = 120
    · subst c; decide
    · rw [decide_eq_false c]
      simp
      omega
theorem atM_rng {f : Int → Int} {n : Nat} {p : Int} (h0 : 0 ≤ p) (h1 : p < (n : Int)) : atM ((List.range n).map fun i : Nat => f i) p = f p := by
  unfold atM
  rw [List.getD_eq_getElem?_getD, List.getElem?_map, List.getElem?_range (by omega)]
  show f ((p.toNat : Nat) : Int) = f p
  rw [show ((p.toNat : Nat) : Int) = p by omega]
theorem other1 {ms bs os ls : List Int} {n : Nat} {l0 : Int} (g : PlanN ms bs os n) (l : Lots ms bs ls) : PlanN ms bs ((List.range (3 * n)).map fun i : Nat => (fun p => bump (atM os p) (decide (atM ls p = l0))) (i : Int)) n := by
  have lm := g.lm
  have lo := g.lo
  have ll := l.len
  refine g.other (by rw [List.length_map, List.length_range]) (fun x hx => ?_) fun i hi t ht => ?_
  · obtain ⟨i, hi, rfl⟩ := List.mem_map.mp hx
    have := List.mem_range.mp hi
    exact bump_in (g.o _ (atM_mem (by omega) (by omega)))
  · obtain ⟨a, b, c, d⟩ := tips_range g.mb (i := (i : Int)) (by omega) (by omega) t ht
    rw [atM_rng (f := fun p => bump (atM os p) (decide (atM ls p = l0))) a (by omega), atM_rng (f := fun p => bump (atM os p) (decide (atM ls p = l0))) c (by omega)]
    rw [g.shut i hi t ht, l.shut i hi t ht]
theorem atM_ones {n : Nat} {p : Int} (h0 : 0 ≤ p) (h1 : p < (n : Int)) : atM (List.replicate n 1) p = 1 := by
  unfold atM
  rw [List.getD_eq_getElem?_getD, List.getElem?_replicate, if_pos (by omega)]
  rfl
theorem ones_shut {ms bs os : List Int} {n : Nat} (g : PlanN ms bs os n) : ∀ i : Nat, i < ms.length → Shut ms bs (List.replicate (3 * n) 1) i := fun i hi t ht => by
  have lm := g.lm
  obtain ⟨a, b, c, d⟩ := tips_range g.mb (i := (i : Int)) (by omega) (by omega) t ht
  rw [atM_ones a (by omega), atM_ones c (by omega)]
theorem ones_in {n : Nat} : ∀ x ∈ List.replicate n (1 : Int), 1 ≤ x ∧ x ≤ 120 := fun x hx => by
  rw [List.eq_of_mem_replicate hx]
  decide
theorem other3 {ms bs os : List Int} {n : Nat} (g : PlanN ms bs os n) : PlanN ms bs (List.replicate (3 * n) 1) n := g.other List.length_replicate ones_in (ones_shut g)
def flip (bs : List Int) (i j : Int) (p : Int) : Int := if p = i ∨ p = j then 1 - atM bs p else atM bs p
theorem other2 {ms bs os : List Int} {n : Nat} {i : Int} (g : PlanN ms bs os n) (i0 : 0 ≤ i) (i1 : i < 3 * (n : Int)) (hi : atM ms i ≠ i) : PlanN ms ((List.range (3 * n)).map fun k : Nat => flip bs i (atM ms i) (k : Int)) (List.replicate (3 * n) 1) n := by
  have lm := g.lm
  have r := g.r i i0 i1
  have b' : ∀ p : Int, 0 ≤ p → p < 3 * (n : Int) → (atM ((List.range (3 * n)).map fun k : Nat => flip bs i (atM ms i) (k : Int)) p = 0 ∨ atM ((List.range (3 * n)).map fun k : Nat => flip bs i (atM ms i) (k : Int)) p = 1) ∧ atM ((List.range (3 * n)).map fun k : Nat => flip bs i (atM ms i) (k : Int)) (atM ms p) = atM ((List.range (3 * n)).map fun k : Nat => flip bs i (atM ms i) (k : Int)) p ∧ (atM ms p = p → atM ((List.range (3 * n)).map fun k : Nat => flip bs i (atM ms i) (k : Int)) p = 0) := fun p p0 p1 => by
    have rp := g.r p p0 p1
    have bp := g.b p p0 p1
    rw [atM_rng p0 (by omega), atM_rng rp.1 (by omega)]
    unfold flip
    have e1 : (atM ms p = i ∨ atM ms p = atM ms i) ↔ (p = i ∨ p = atM ms i) := by
      constructor
      · rintro (h | h)
        · right
          rw [← h, rp.2.2]
        · left
          have := congrArg (atM ms) h
          rw [rp.2.2, r.2.2] at this
          exact this
      · rintro (h | h)
        · right
          rw [h]
        · left
          rw [h, r.2.2]
    refine ⟨?_, ?_, fun z => ?_⟩
    · split <;> omega
    · rw [bp.2.1]
      by_cases c : p = i ∨ p = atM ms i
      · rw [if_pos c, if_pos (e1.mpr c)]
      · rw [if_neg c, if_neg (fun z => c (e1.mp z))]
    · rw [if_neg]
      · exact bp.2.2 z
      · rintro (h | h)
        · exact hi (by rw [← h]; exact z)
        · rw [h, r.2.2] at z
          exact hi z.symm
  have sh : ∀ k : Nat, k < ms.length → Shut ms ((List.range (3 * n)).map fun k : Nat => flip bs i (atM ms i) (k : Int)) (List.replicate (3 * n) 1) k := fun k hk t ht => by
    obtain ⟨a, b, c, d⟩ := tips_range (n := n) ⟨g.lm, by rw [List.length_map, List.length_range], g.n1, g.n60, g.r⟩ (i := (k : Int)) (by omega) (by omega) t ht
    rw [atM_ones a (by omega), atM_ones c (by omega)]
  exact ⟨g.lm, by rw [List.length_map, List.length_range], List.length_replicate, g.n1, g.n60, g.r, b', g.rch, ones_in, sh⟩
end KP


set_option Elab.async false
set_option linter.all false
set_option maxRecDepth 100000
set_option maxHeartbeats 8000000
set_option exponentiation.threshold 10000
namespace KP
open PySem PySem.Spec PyProof.Rows L2 ClX OG
section
variable {P : Program} {w : World} {K : PySem.W.Frag} {mg : Str → Option Value} {base : Heap} {A : Ad} {p : Addr}
/-- one of the others: rows of n triangles -/
def Oth3 (H : Hp) (n : Nat) (x : V) : Prop := ∃ t ms bs os, x = .ref t ∧ RowsT H t ms bs os ∧ PlanN ms bs os n
theorem Oth3.same {H H' : Hp} {n : Nat} {x : V} (e : Same H H') (h : Oth3 H n x) : Oth3 H' n x := by
  obtain ⟨t, ms, bs, os, rfl, r, g⟩ := h
  exact ⟨t, ms, bs, os, rfl, r.same e, g⟩
theorem RowsT.ne {H H' : Hp} {O t : Addr} {ms bs os : List Int} {xs : List V} (e : ∀ c u, c ≠ O → H c = some u → H' c = some u) (hO : H O = some (.lst xs)) (h : RowsT H t ms bs os) : RowsT H' t ms bs os := by
  obtain ⟨a, b, c, h1, h2, h3, h4⟩ := h
  have k : ∀ {c : Addr} {ys : List V}, H c = some (.tup ys) → H' c = some (.tup ys) := fun {c ys} h => e _ _ (fun z => by rw [z, hO] at h; cases h) h
  exact ⟨a, b, c, k h1, k h2, k h3, k h4⟩
theorem Oth3.ne {H H' : Hp} {O : Addr} {n : Nat} {x : V} {xs : List V} (e : ∀ c u, c ≠ O → H c = some u → H' c = some u) (hO : H O = some (.lst xs)) (h : Oth3 H n x) : Oth3 H' n x := by
  obtain ⟨t, ms, bs, os, rfl, r, g⟩ := h
  exact ⟨t, ms, bs, os, rfl, r.ne e hO, g⟩
section
variable {Ar : Around} {outer : List Env} {s : Shared} {H : Hp} {E : XK} {D : Ends} {H0 : Hp} {a t pl F : Addr} {m n i : Nat} {ms bs os ls : List Int} {w0 w1 w2 w3 w4 w5 w6 w7 w8 w9 w10 w11 w12 w13 w14 w15 w16 : Option V} {j : Int}
theorem rd_4 (T : LamT K mg A) (B : LamX.TabB base mg A.cd_law A.tb_law) (hg : RmG 11 (XL P w K mg base A Ar outer s H E).A) (hr : Room 11 (XL P w K mg base A Ar outer s H E).A)
    (r : RowsT H0 t ms bs os) (g : PlanN ms bs os n) (qF : H0 F = some (.lst (ls.map V.int))) (l : Lots ms bs ls) (hi : i < ls.length) (q : ∀ O x H1, Same H0 H1 → H0 O = none → H1 O = some (.lst [x]) → Oth3 H1 n x → D.nx [w0, w1, w2, some (.ref t), w4, some (.ref F), some (.int i), some (.ref O), w8, w9, w10, w11, w12, w13, w14, w15, w16] H1) :
    (dl_4 (P := P) (w := w) (outer := outer) (s := s) (H := H) (E := E) T B hg hr).1 D [w0, w1, w2, some (.ref t), w4, some (.ref F), some (.int i), w7, w8, w9, w10, w11, w12, w13, w14, w15, w16] H0 := by
  unfold dl_4
  obtain ⟨a, b, c, h1, h2, h3, h4⟩ := id r
  have lm := g.lm
  have lo := g.lo
  have ll := l.len
  have n60 := g.n60
  have oz : (os.map V.int).length = 3 * n := by rw [List.length_map]; exact lo
  have lz : (ls.map V.int).length = 3 * n := by rw [List.length_map]; omega
  refine ⟨_, rfl, _, _, _, _, rfl, rfl, SqT.of h1, atI_nat (j := 0) rfl, _, rfl, _, _, _, _, rfl, rfl, SqT.of h1, atI_nat (j := 1) rfl, _, rfl, _, _, _, _, rfl, rfl, SqT.of h1, atI_nat (j := 2) rfl, _, rfl, c, F, os.map V.int, ls.map V.int, rfl, .inr (SqT.of h4), .inl (SqL.of qF), by omega, fun J wk => ?_⟩
  refine comp_valG (wk H0 rfl rfl) (fun k => V.int (bump (atM os (k : Nat)) (decide (atM ls (k : Nat) = atM ls (i : Nat))))) (by rw [oz]; exact Nat.lt_of_le_of_lt (show 3 * n ≤ 180 by omega) (by decide)) (fun k x H2 N Z hk s2 hx kn => ?_) (fun U H2 hU s2 qU => ?_)
  · obtain ⟨T', y, z, rfl, hT, hy, hz⟩ := hx
    obtain ⟨hk1, rfl⟩ := itemM hy
    obtain ⟨hk2, rfl⟩ := itemM hz
    refine ⟨T', _, rfl, SqT.of hT, rfl, _, _, rfl, _, _, rfl, rfl, rfl, tyes ?_⟩
    have qF2 := s2 _ _ qF
    refine ⟨_, rfl, _, rfl, _, rfl, _, rfl, _, _, _, _, rfl, rfl, SqL.of qF2, atM_at (by omega) (by omega), rfl, .inr ⟨_, rfl, _, rfl, rfl, .inr ⟨_, rfl, _, _, rfl, rfl, .inl ⟨by decide, by decide⟩, _, _, rfl, rfl, _, _, rfl, rfl, .inl ?_, _, _, rfl, rfl, ?_⟩⟩⟩
    · split <;> decide
    · have := kn H2 (Same.refl _)
      unfold bump at this
      rw [decide_int (atM ls (k : Nat)), decide_int (atM os (k : Nat))] at this
      exact this
  · rw [oz] at qU
    have eU : (List.range (3 * n)).map (fun k : Nat => V.int (bump (atM os (k : Nat)) (decide (atM ls (k : Nat) = atM ls (i : Nat))))) = ((List.range (3 * n)).map fun k : Nat => (fun p => bump (atM os p) (decide (atM ls p = atM ls (i : Nat)))) (k : Int)).map V.int := by rw [List.map_map]; rfl
    rw [eU] at qU
    refine ⟨U, _, rfl, .inl ⟨SqL.of qU, fun u hu => ⟨three_line, fun t1 ht1 => ⟨by show 1 ≤ sizeLine; decide, fun O hO => ?_⟩⟩⟩⟩
    have s3 := same_new (o := .tup (((List.range (3 * n)).map fun k : Nat => (fun p => bump (atM os p) (decide (atM ls p = atM ls (i : Nat)))) (k : Int)).map V.int)) hu
    have s4 := same_new (o := .tup [.ref a, .ref b, .ref u]) ht1
    have s5 := same_new (o := .lst [.ref t1]) hO
    have s05 := s2.trans (s3.trans (s4.trans s5))
    refine q O (.ref t1) _ s05 ?_ upd_same ⟨t1, ms, bs, _, rfl, ⟨a, b, u, s5 _ _ upd_same, s05 _ _ h2, s05 _ _ h3, s5 _ _ (s4 _ _ upd_same)⟩, other1 g l⟩
    cases z : H0 O with
    | none => rfl
    | some v =>
      have := s4 _ _ (s3 _ _ (s2 _ _ z))
      rw [hO] at this
      cases this
theorem rd_5 (T : LamT K mg A) (B : LamX.TabB base mg A.cd_law A.tb_law) (hg : RmG 11 (XL P w K mg base A Ar outer s H E).A) (hr : Room 11 (XL P w K mg base A Ar outer s H E).A)
    (r : RowsT H0 t ms bs os) (hi : i < ms.length) (q : D.nx [w0, w1, w2, some (.ref t), w4, w5, some (.int i), w7, some (.int (atM ms (i : Nat))), w9, w10, w11, w12, w13, w14, w15, w16] H0) :
    (dl_5 (P := P) (w := w) (outer := outer) (s := s) (H := H) (E := E) T B hg hr).1 D [w0, w1, w2, some (.ref t), w4, w5, some (.int i), w7, w8, w9, w10, w11, w12, w13, w14, w15, w16] H0 := by
  unfold dl_5
  obtain ⟨a, b, c, h1, h2, h3, h4⟩ := id r
  exact ⟨_, rfl, _, _, _, _, rfl, rfl, SqT.of h1, atI_nat (j := 0) rfl, _, rfl, _, _, _, _, rfl, rfl, SqT.of h2, atM_at (by omega) (by omega), q⟩
theorem rd_6 (T : LamT K mg A) (B : LamX.TabB base mg A.cd_law A.tb_law) (hg : RmG 11 (XL P w K mg base A Ar outer s H E).A) (hr : Room 11 (XL P w K mg base A Ar outer s H E).A) {O : Addr} {x : V}
    (r : RowsT H0 t ms bs os) (g : PlanN ms bs os n) (qF : H0 F = some (.lst (ls.map V.int))) (ll : ls.length = ms.length) (hi : i < ms.length) (qO : H0 O = some (.lst [x])) (nFO : F ≠ O) (ho : Oth3 H0 n x)
    (q : ∀ xs H1 v9, (∀ c u, c ≠ O → H0 c = some u → H1 c = some u) → H1 O = some (.lst xs) → xs.length ≤ 3 → (∀ x ∈ xs, Oth3 H1 n x) → D.nx [w0, w1, w2, some (.ref t), w4, some (.ref F), some (.int i), some (.ref O), some (.int (atM ms (i : Nat))), v9, w10, w11, w12, w13, w14, w15, w16] H1) :
    (dl_6 (P := P) (w := w) (outer := outer) (s := s) (H := H) (E := E) T B hg hr).1 D [w0, w1, w2, some (.ref t), w4, some (.ref F), some (.int i), some (.ref O), some (.int (atM ms (i : Nat))), w9, w10, w11, w12, w13, w14, w15, w16] H0 := by
  unfold dl_6
  obtain ⟨a, b, c, h1, h2, h3, h4⟩ := id r
  have lm := g.lm
  have lb := g.lb
  have n60 := g.n60
  have n1 := g.n1
  refine ⟨_, rfl, _, rfl, rfl, _, rfl, ?_⟩
  by_cases c0 : atM ms (i : Nat) = (i : Nat)
  · rw [show decide (V.int (atM ms (i : Nat)) = V.int (i : Nat)) = true from decide_eq_true (by rw [c0])]
    exact iteF (q [x] H0 w9 (fun c u _ h => h) qO (by show 1 ≤ 3; decide) fun y hy => by rw [List.mem_singleton.mp hy]; exact ho)
  rw [show decide (V.int (atM ms (i : Nat)) = V.int (i : Nat)) = false from decide_eq_false fun z => c0 (by injection z)]
  refine iteT ?_
  have bz : (bs.map V.int).length = 3 * n := by rw [List.length_map]; exact lb
  refine ⟨_, rfl, _, _, _, _, rfl, rfl, SqT.of h1, atI_nat (j := 1) rfl, b, _, rfl, .inr (SqT.of h3), fun J wk => ?_⟩
  refine comp_valG (wk H0 rfl) (fun k => V.int (flip bs (i : Nat) (atM ms (i : Nat)) (k : Nat))) (by rw [bz]; exact Nat.lt_of_le_of_lt (show 3 * n ≤ 180 by omega) (by decide)) (fun k x' H2 N Z hk s2 hx kn => ?_) (fun U H2 hU s2 qU => ?_)
  · obtain ⟨T', y, rfl, hT, hy⟩ := hx
    obtain ⟨hk1, rfl⟩ := itemM hy
    refine ⟨T', _, rfl, SqT.of hT, rfl, _, _, rfl, _, _, rfl, rfl, rfl, tyes ?_⟩
    refine ⟨_, rfl, _, rfl, _, rfl, two_line, fun u hu => ?_⟩
    refine ⟨u, [V.int (i : Nat), .int (atM ms (i : Nat))], rfl, .inr (SqT.of upd_same), rfl, rfl, _, rfl, ?_⟩
    have su := same_new (o := .tup [.int (i : Nat), .int (atM ms (i : Nat))]) hu
    have ein : inV (V.int ((k : Nat) : Int)) [V.int (i : Nat), .int (atM ms (i : Nat))] = decide ((k : Int) = (i : Int) ∨ (k : Int) = atM ms (i : Nat)) := by
      have := inV_ints (x := (k : Int)) (ns := [(i : Int), atM ms (i : Nat)])
      rw [show ([(i : Int), atM ms (i : Nat)].map V.int) = [V.int (i : Nat), .int (atM ms (i : Nat))] from rfl] at this
      rw [this]
      simp
    have kf := kn _ su
    unfold flip at kf
    simp only [Bool.false_eq_true, if_false]
    rw [ein]
    by_cases c2 : (k : Int) = (i : Int) ∨ (k : Int) = atM ms (i : Nat)
    · rw [decide_eq_true c2]
      rw [if_pos c2] at kf
      exact iteT ⟨_, rfl, _, _, rfl, rfl, kf⟩
    · rw [decide_eq_false c2]
      rw [if_neg c2] at kf
      exact iteF ⟨_, rfl, kf⟩
  · rw [bz] at qU
    have eU : (List.range (3 * n)).map (fun k : Nat => V.int (flip bs (i : Nat) (atM ms (i : Nat)) (k : Nat))) = ((List.range (3 * n)).map fun k : Nat => flip bs (i : Nat) (atM ms (i : Nat)) (k : Int)).map V.int := by rw [List.map_map]; rfl
    rw [eU] at qU
    have g2 := other2 g (i := (i : Int)) (by omega) (by omega) c0
    have g3 := other3 g
    generalize (List.range (3 * n)).map (fun k : Nat => flip bs (i : Nat) (atM ms (i : Nat)) (k : Int)) = bs2 at qU g2
    have ones : ∀ k : Nat, (List.replicate k [V.int 1]).flatten = (List.replicate k (1 : Int)).map V.int := fun k => by
      induction k with
      | zero => rfl
      | succ k ih => rw [List.replicate_succ, List.flatten_cons, ih]; rfl
    have lz : (ls.map V.int).length = 3 * n := by rw [List.length_map]; omega
    have nUO : U ≠ O := fun z => by rw [z, qO] at hU; cases hU
    refine ⟨_, rfl, .inl ⟨rfl, _, SqL.of (s2 _ _ qO)⟩, _, rfl, _, _, _, _, rfl, rfl, SqT.of (s2 _ _ h1), atI_nat (j := 0) rfl, _, rfl, U, _, rfl, .inl ⟨SqL.of qU, fun u hu => ⟨by show 1 ≤ sizeLine; decide, fun o1 ho1 => ?_⟩⟩⟩
    have s3 := same_new (o := .tup (bs2.map V.int)) hu
    have s4 := same_new (o := .tup [.int 1]) ho1
    have s24 := s2.trans (s3.trans s4)
    refine ⟨_, rfl, _, (ls.map V.int).length, rfl, len_s (.inl (SqL.of (s24 _ _ qF))), o1, ((ls.map V.int).length : Nat), [.int 1], rfl, rfl, SqT.of upd_same, by simp, by omega, by omega, by show 1 ≤ 1000; decide, fun o2 ho2 => ⟨three_line, fun t1 ht1 => ?_⟩⟩
    rw [lz, Int.toNat_natCast, ones] at ht1 ⊢
    have s5 := same_new (o := .tup ((List.replicate (3 * n) (1 : Int)).map V.int)) ho2
    have s6 := same_new (o := .tup [.ref a, .ref u, .ref o2]) ht1
    have s26 := s24.trans (s5.trans s6)
    have r1 : RowsT (upd (upd (upd (upd H2 u (.tup (bs2.map V.int))) o1 (.tup [.int 1])) o2 (.tup ((List.replicate (3 * n) (1 : Int)).map V.int))) t1 (.tup [.ref a, .ref u, .ref o2])) t1 ms bs2 (List.replicate (3 * n) 1) :=
      ⟨a, u, o2, upd_same, s26 _ _ h2, s6 _ _ (s5 _ _ (s4 _ _ upd_same)), s6 _ _ upd_same⟩
    generalize upd (upd (upd (upd H2 u (.tup (bs2.map V.int))) o1 (.tup [.int 1])) o2 (.tup ((List.replicate (3 * n) (1 : Int)).map V.int))) t1 (.tup [.ref a, .ref u, .ref o2]) = H6 at r1 s26 ⊢
    clear s2 s3 s4 s5 s6 s24 qU hu ho1 ho2 ht1 hU
    have qO6 := s26 _ _ qO
    refine ⟨O, [x], _, rfl, rfl, qO6, by show 1 < sizeLine; decide, ?_⟩
    have e6 : ∀ c u, c ≠ O → H6 c = some u → upd H6 O (.lst ([x] ++ [.ref t1])) c = some u := fun c u n h => by rw [upd_ne n]; exact h
    have r7 := r1.ne e6 qO6
    have ho7 := (ho.same s26).ne e6 qO6
    have t7 := (r.same s26).ne e6 qO6
    have f7 : ∀ c u, c ≠ O → H0 c = some u → upd H6 O (.lst ([x] ++ [.ref t1])) c = some u := fun c u n h => e6 c u n (s26 _ _ h)
    have q7 : upd H6 O (.lst ([x] ++ [.ref t1])) O = some (.lst ([x] ++ [.ref t1])) := upd_same
    have F7 := f7 F _ nFO qF
    generalize upd H6 O (.lst ([x] ++ [.ref t1])) = H7 at r7 ho7 t7 f7 q7 F7 ⊢
    clear e6 r1 qO6 s26
    obtain ⟨a7, b7, c7, i1, i2, i3, i4⟩ := id t7
    refine ⟨_, rfl, .inl ⟨rfl, _, SqL.of q7⟩, _, rfl, _, _, _, _, rfl, rfl, SqT.of i1, atI_nat (j := 0) rfl, _, rfl, _, _, _, _, rfl, rfl, SqT.of i1, atI_nat (j := 1) rfl, by show 1 ≤ sizeLine; decide, fun o3 ho3 => ?_⟩
    have s8 := same_new (o := .tup [.int 1]) ho3
    refine ⟨_, rfl, _, (ls.map V.int).length, rfl, len_s (.inl (SqL.of (s8 _ _ F7))), o3, ((ls.map V.int).length : Nat), [.int 1], rfl, rfl, SqT.of upd_same, by simp, by omega, by omega, by show 1 ≤ 1000; decide, fun o4 ho4 => ⟨three_line, fun t2 ht2 => ?_⟩⟩
    rw [lz, Int.toNat_natCast, ones] at ht2 ⊢
    have s9 := same_new (o := .tup ((List.replicate (3 * n) (1 : Int)).map V.int)) ho4
    have s10 := same_new (o := .tup [.ref a7, .ref b7, .ref o4]) ht2
    have s70 := s8.trans (s9.trans s10)
    have r10 : RowsT (upd (upd (upd H7 o3 (.tup [.int 1])) o4 (.tup ((List.replicate (3 * n) (1 : Int)).map V.int))) t2 (.tup [.ref a7, .ref b7, .ref o4])) t2 ms bs (List.replicate (3 * n) 1) :=
      ⟨a7, b7, o4, upd_same, s70 _ _ i2, s70 _ _ i3, s10 _ _ upd_same⟩
    generalize upd (upd (upd H7 o3 (.tup [.int 1])) o4 (.tup ((List.replicate (3 * n) (1 : Int)).map V.int))) t2 (.tup [.ref a7, .ref b7, .ref o4]) = H10 at r10 s70 ⊢
    have q10 := s70 _ _ q7
    refine ⟨O, _, _, rfl, rfl, q10, by show 2 < sizeLine; decide, ?_⟩
    have e10 : ∀ c u, c ≠ O → H10 c = some u → upd H10 O (.lst ([x] ++ [.ref t1] ++ [.ref t2])) c = some u := fun c u n h => by rw [upd_ne n]; exact h
    refine q _ _ _ (fun c u n h => e10 c u n (s70 _ _ (f7 c u n h))) upd_same (by show 3 ≤ 3; decide) fun y hy => ?_
    simp only [List.cons_append, List.nil_append, List.mem_cons, List.not_mem_nil, or_false] at hy
    rcases hy with rfl | rfl | rfl
    · exact (ho7.same s70).ne e10 q10
    · exact ⟨t1, _, _, _, rfl, (r7.same s70).ne e10 q10, g2⟩
    · exact ⟨t2, _, _, _, rfl, r10.ne e10 q10, g3⟩
end
end
end KP


set_option Elab.async false
set_option linter.all false
set_option maxRecDepth 100000
set_option maxHeartbeats 8000000
set_option exponentiation.threshold 10000
namespace KP
open PySem PySem.Spec PyProof.Rows L2 ClX OG
section
variable {P : Program} {w : World} {K : PySem.W.Frag} {mg : Str → Option Value} {base : Heap} {A : Ad} {p : Addr}
theorem RowsT.dp {H : Hp} {t : Addr} {ms bs os : List Int} (h : RowsT H t ms bs os) : Dp K H (.ref t) (dP ms bs os) := by
  obtain ⟨a, b, c, h1, h2, h3, h4⟩ := h
  exact .tup (SqT.of h1) (.cons (dp_row (SqT.of h2)) (.cons (dp_row (SqT.of h3)) (.cons (dp_row (SqT.of h4)) .nil)))
section
variable {Ar : Around} {outer : List Env} {s : Shared} {H : Hp} {E : XK} {D : Ends} {H0 : Hp} {a t pl F O : Addr} {m n i : Nat} {ms bs os ls : List Int} {w0 w1 w2 w3 w4 w5 w6 w7 w8 w9 w10 w11 w12 w13 w14 w15 w16 : Option V} {j : Int} {xs : List V}
theorem rd_7 (T : LamT K mg A) (B : LamX.TabB base mg A.cd_law A.tb_law) (hg : RmG 11 (XL P w K mg base A Ar outer s H E).A) (hr : Room 11 (XL P w K mg base A Ar outer s H E).A)
    (r : RowsT H0 t ms bs os) (hP : PlanR K A.c_Plan H0 pl ms bs os) (qO : H0 O = some (.lst xs)) (hx : ∀ x ∈ xs, Oth3 H0 n x) (q : ∀ H1 v10, Same H0 H1 → D.nx [w0, w1, w2, some (.ref t), some (.ref pl), w5, w6, some (.ref O), w8, w9, v10, w11, w12, w13, w14, w15, w16] H1) :
    (dl_7 (P := P) (w := w) (outer := outer) (s := s) (H := H) (E := E) T B hg hr).1 D [w0, w1, w2, some (.ref t), some (.ref pl), w5, w6, some (.ref O), w8, w9, w10, w11, w12, w13, w14, w15, w16] H0 := by
  unfold dl_7
  refine ⟨_, rfl, O, xs, rfl, .inl (SqL.of qO), fun J wk => for_core (wk H0 rfl) (fun i σ H' => Same H0 H' ∧ ∃ v10, σ = [w0, w1, w2, some (.ref t), some (.ref pl), w5, w6, some (.ref O), w8, w9, v10, w11, w12, w13, w14, w15, w16]) ⟨Same.refl _, _, rfl⟩ (fun _ _ _ h => h.1) ?_ ?_⟩
  · rintro i x σ H1 H2 hi ⟨s1, v10, rfl⟩ s2 hxi
    obtain ⟨t', ms', bs', os', rfl, r', g'⟩ := hx x (List.mem_of_getElem? hxi)
    have s02 := s1.trans s2
    have r2 := r'.same s02
    obtain ⟨a, b, c, h1, h2, h3, h4⟩ := id r2
    have lm := g'.lm
    have lb := g'.lb
    have lo := g'.lo
    have n60 := g'.n60
    refine ⟨_, rfl, _, _, _, _, rfl, rfl, SqT.of h1, atI_nat (j := 0) rfl, _, rfl, _, _, _, _, rfl, rfl, SqT.of h1, atI_nat (j := 1) rfl, _, rfl, _, _, _, _, rfl, rfl, SqT.of h1, atI_nat (j := 2) rfl, fun p2 dx hp2 hdx hn => ?_⟩
    refine make_good hp2 hdx hn (.ints (.inr (SqT.of h2)) (by omega)) (.ints (.inr (SqT.of h3)) (by omega)) (.ints (.inr (SqT.of h4)) (by omega)) g'.good fun H3 s3 hP2 => ⟨rfl, ?_⟩
    have s03 := s02.trans s3
    have hP3 := hP.mono s03
    obtain ⟨dy, u1, u2, u3, u4, k1, _⟩ := id hP3
    obtain ⟨dz, v1, v2, v3, v4, k2, _⟩ := id hP2.1
    refine ⟨_, rfl, p2, dz, _, .ref A.c_Plan, rfl, k2, T.i_Plan.ty k1, T.nf_Plan, p2, ms', bs', os', .ref pl, some (ms, bs, os), rfl, hP2.1, .plan hP3, _, rfl, ?_⟩
    refine ⟨_, rfl, _, rfl, dP ms' bs' os', dP ms bs os, (r2.same s3).dp, (r.same s03).dp, shaped_dP _ _ _, shaped_dP _ _ _, rfl, _, rfl, ?_⟩
    have eb : decide (some (ms', bs', os') = some (ms, bs, os)) = PyData.eqv (dP ms' bs' os') (dP ms bs os) := by
      rw [eqv_dP, Bool.eq_iff_iff, decide_eq_true_iff, decide_eq_true_iff]
      exact ⟨fun h => Option.some.inj h, fun h => congrArg some h⟩
    rw [eb, decide_eq_true rfl]
    exact iteF ⟨s03, _, rfl⟩
  · rintro σ H1 ⟨s1, v10, rfl⟩
    exact q H1 v10 s1
theorem rt_0 (T : LamT K mg A) (B : LamX.TabB base mg A.cd_law A.tb_law) (hg : RmG 11 (XL P w K mg base A Ar outer s H E).A) (hr : Room 11 (XL P w K mg base A Ar outer s H E).A) {ns : List Int}
    (hq : SqL K H0 a (ns.map V.int)) (q : ∀ p H1, Same H0 H1 → H0 p = none → PenK H1 p 0 → D.nx [some (.ref a), some (.ref p), w2, w3, w4, w5, w6, w7, w8, w9, w10, w11, w12, w13, w14, w15, w16] H1) :
    (dt_0 (P := P) (w := w) (outer := outer) (s := s) (H := H) (E := E) T B hg hr).1 D [some (.ref a), w1, w2, w3, w4, w5, w6, w7, w8, w9, w10, w11, w12, w13, w14, w15, w16] H0 := by
  unfold dt_0
  exact ⟨_, rfl, a, ns, rfl, hq, fun p H1 s1 hp k => q p H1 s1 hp k⟩
/-- three ints told for each place -/
def stepsR (n : Nat) (f : Nat → List Int) (H : Hp) (S : Addr) : Prop := ∃ ts : List Addr, H S = some (.lst (ts.map V.ref)) ∧ ts.length = n ∧ ∀ i t, ts[i]? = some t → H t = some (.lst ((f i).map V.int))
theorem rt_2 (T : LamT K mg A) (B : LamX.TabB base mg A.cd_law A.tb_law) (hg : RmG 11 (XL P w K mg base A Ar outer s H E).A) (hr : Room 11 (XL P w K mg base A Ar outer s H E).A)
    (q : ∀ S H1, Same H0 H1 → stepsR 9 (fun i => [nx (i : Nat), pv3 (i : Nat), nx (pv3 (i : Nat))]) H1 S → D.nx [w0, w1, w2, w3, w4, w5, w6, w7, w8, w9, w10, some (.ref S), w12, w13, w14, w15, w16] H1) :
    (dt_2 (P := P) (w := w) (outer := outer) (s := s) (H := H) (E := E) T B hg hr).1 D [w0, w1, w2, w3, w4, w5, w6, w7, w8, w9, w10, w11, w12, w13, w14, w15, w16] H0 := by
  unfold dt_2
  refine ⟨9, rfl, by decide, by decide, ?_⟩
  refine comp_news walks_range (fun i => .lst ([nx (i : Nat), pv3 (i : Nat), nx (pv3 (i : Nat))].map V.int)) (by decide) (fun i x H2 N hi s2 hx k => ?_) (fun S ts H1 hS s1 qS hl hts => q S H1 s1 ⟨ts, qS, hl, hts⟩)
  subst hx
  rw [Int.zero_add]
  refine ⟨_, rfl, (i : Int), rfl, _, rfl, (i : Int), rfl, _, rfl, (i : Int), rfl, pv3 (i : Int), rfl, three_line, fun t ht => k t _ ht (same_new ht) upd_same⟩
def dSteps (n : Nat) (f : Nat → List Int) : PyData := .list ((List.range n).map fun i => dInts (f i))
theorem dpa_at {H : Hp} : ∀ {vs : List V} {ds : List PyData}, vs.length = ds.length → (∀ (i : Nat) (v : V) (d : PyData), vs[i]? = some v → ds[i]? = some d → Dp K H v d) → DpAll K H vs ds
  | [], [], _, _ => .nil
  | [], _ :: _, h, _ => by cases h
  | _ :: _, [], h, _ => by cases h
  | v :: vs, d :: ds, h, k => .cons (k 0 v d rfl rfl) (dpa_at (by simpa using h) fun i v' d' a b => k (i + 1) v' d' (by simpa using a) (by simpa using b))
theorem stepsR.dp {H : Hp} {S : Addr} {n : Nat} {f : Nat → List Int} (h : stepsR n f H S) : Dp K H (.ref S) (dSteps n f) := by
  obtain ⟨ts, h1, h2, h3⟩ := h
  refine .lst (SqL.of h1) (dpa_at (by simp [h2]) fun i v d a b => ?_)
  rw [List.getElem?_map] at a b
  obtain ⟨t, ht, rfl⟩ := Option.map_eq_some_iff.mp a
  obtain ⟨k, hk, rfl⟩ := Option.map_eq_some_iff.mp b
  obtain ⟨hi, rfl⟩ := List.getElem?_eq_some_iff.mp hk
  rw [List.getElem_range]
  exact .lst (SqL.of (h3 i t ht)) (dpa_ints _)
theorem stepsR.same {H H' : Hp} {S : Addr} {n : Nat} {f : Nat → List Int} (e : Same H H') (h : stepsR n f H S) : stepsR n f H' S := by
  obtain ⟨ts, h1, h2, h3⟩ := h
  exact ⟨ts, e _ _ h1, h2, fun i t ht => e _ _ (h3 i t ht)⟩
theorem rt_3 (T : LamT K mg A) (B : LamX.TabB base mg A.cd_law A.tb_law) (hg : RmG 11 (XL P w K mg base A Ar outer s H E).A) (hr : Room 11 (XL P w K mg base A Ar outer s H E).A) {S : Addr}
    (hS : stepsR 9 (fun i => [nx (i : Nat), pv3 (i : Nat), nx (pv3 (i : Nat))]) H0 S) (q : ∀ H1, Same H0 H1 → D.nx [w0, w1, w2, w3, w4, w5, w6, w7, w8, w9, w10, some (.ref S), w12, w13, w14, w15, w16] H1) :
    (dt_3 (P := P) (w := w) (outer := outer) (s := s) (H := H) (E := E) T B hg hr).1 D [w0, w1, w2, w3, w4, w5, w6, w7, w8, w9, w10, some (.ref S), w12, w13, w14, w15, w16] H0 := by
  unfold dt_3
  refine ⟨_, rfl, 9, rfl, by decide, by decide, ?_⟩
  refine comp_news walks_range (fun i => .lst ([3 * ((i : Int) / 3) + ((i : Int) + 1) % 3, 3 * ((i : Int) / 3) + ((i : Int) + 2) % 3, (i : Int)].map V.int)) (by decide) (fun i x H2 N hi s2 hx k => ?_) (fun S2 ts H1 hS1 s1 qS hl hts => ?_)
  · subst hx
    rw [Int.zero_add]
    refine ⟨_, rfl, _, _, rfl, rfl, ⟨by decide, by decide⟩, _, _, rfl, rfl, .inl ⟨by decide, by decide⟩, _, rfl, _, _, rfl, rfl, .inl ⟨_, rfl, _, _, rfl, rfl, (by show (0 : Int) < 3; decide), _, _, rfl, rfl, ?_⟩⟩
    refine ⟨_, rfl, _, _, rfl, rfl, ⟨by decide, by decide⟩, _, _, rfl, rfl, .inl ⟨by decide, by decide⟩, _, rfl, _, _, rfl, rfl, .inl ⟨_, rfl, _, _, rfl, rfl, (by show (0 : Int) < 3; decide), _, _, rfl, rfl, ?_⟩⟩
    exact ⟨_, rfl, three_line, fun t ht => k t _ ht (same_new ht) upd_same⟩
  · have e1 := hS.same s1
    have e2 : stepsR 9 (fun i => [3 * ((i : Int) / 3) + ((i : Int) + 1) % 3, 3 * ((i : Int) / 3) + ((i : Int) + 2) % 3, (i : Int)]) H1 S2 := ⟨ts, qS, hl, hts⟩
    have ed : dSteps 9 (fun i => [nx (i : Nat), pv3 (i : Nat), nx (pv3 (i : Nat))]) = dSteps 9 (fun i => [3 * ((i : Int) / 3) + ((i : Int) + 1) % 3, 3 * ((i : Int) / 3) + ((i : Int) + 2) % 3, (i : Int)]) := by rfl
    refine ⟨_, _, e1.dp, e2.dp, by decide +kernel, by decide +kernel, _, rfl, ?_⟩
    rw [ed]
    rw [show PyData.eqv (dSteps 9 (fun i => [3 * ((i : Int) / 3) + ((i : Int) + 1) % 3, 3 * ((i : Int) / 3) + ((i : Int) + 2) % 3, (i : Int)])) (dSteps 9 (fun i => [3 * ((i : Int) / 3) + ((i : Int) + 1) % 3, 3 * ((i : Int) / 3) + ((i : Int) + 2) % 3, (i : Int)])) = true by decide +kernel]
    exact iteF (q H1 s1)
end
end
end KP


set_option Elab.async false
set_option linter.all false
set_option maxRecDepth 100000
set_option maxHeartbeats 8000000
set_option exponentiation.threshold 10000
namespace KP
open PySem PySem.Spec PyProof.Rows L2 ClX OG
/-! ### two that are no plans, in plain -/
def swp (i : Nat) : Int := if i % 2 = 0 then (i : Int) + 1 else (i : Int) - 1
def swaps : List Int := (List.range 180).map swp
theorem swp_bad {r : Str} {i : Int} (h : PErr swaps (List.replicate 180 0) (List.replicate 180 1) (some (r, i))) : r = "apart" ∧ i = 6 := by
  have e1 : sizeErr swaps (List.replicate 180 0) (List.replicate 180 1) = none := by decide +kernel
  have e2 : matesErr swaps (List.replicate 180 0) = none := by decide +kernel
  have e3 : ordersErr swaps (List.replicate 180 0) (List.replicate 180 1) = none := by decide +kernel
  have st : ∀ t : Nat, t ≤ 1 → ∀ s : Nat, s < 3 → (atM swaps (3 * (t : Int) + s) / 3).toNat ≤ 1 := by
    intro t ht s hs
    have : ∀ t ∈ [0, 1], ∀ s ∈ [0, 1, 2], (atM swaps (3 * ((t : Nat) : Int) + ((s : Nat) : Int)) / 3).toNat ≤ 1 := by decide +kernel
    exact this t (by simp; omega) s (by simp; omega)
  have rc : ∀ t, Reach swaps t → t ≤ 1 := fun t h => by
    induction h with
    | zero => decide
    | @step t h s hs ih => exact st t ih s hs
  have r0 : Reach swaps 0 := .zero
  have r1 : Reach swaps 1 := by
    have := r0.step 2 (by decide)
    rwa [show (atM swaps (3 * ((0 : Nat) : Int) + ((2 : Nat) : Int)) / 3).toNat = 1 by decide +kernel] at this
  rcases h with h | ⟨_, h⟩ | ⟨_, _, h⟩ | ⟨_, _, _, h⟩
  · rw [e1] at h; cases h
  · rw [e2] at h; cases h
  · rw [e3] at h; cases h
  · obtain ⟨hr, t, hp, _, hn, hk⟩ := h
    refine ⟨hr, ?_⟩
    have : t = 2 := by
      by_cases a : t = 0
      · rw [a] at hn; exact absurd r0 hn
      · by_cases b : t = 1
        · rw [b] at hn; exact absurd r1 hn
        · by_cases c : t = 2
          · exact c
          · have := rc 2 (hk 2 (by omega))
            omega
    omega
theorem swp_not : ¬ GoodP swaps (List.replicate 180 0) (List.replicate 180 1) := fun h => by
  have rc : ∀ t, Reach swaps t → t ≤ 1 := fun t h => by
    induction h with
    | zero => decide
    | @step t h s hs ih =>
      have : ∀ t ∈ [0, 1], ∀ s ∈ [0, 1, 2], (atM swaps (3 * ((t : Nat) : Int) + ((s : Nat) : Int)) / 3).toNat ≤ 1 := by decide +kernel
      exact this t (by simp; omega) s (by simp; omega)
  have := rc 2 (h.2.2.2 2 (by decide +kernel))
  omega
def many183 : List Int := (List.range 183).map fun i : Nat => (i : Int)
theorem e183 : sizeErr many183 [] [] = some (("mates" : Str), (183 : Int)) := by decide +kernel
theorem bad183 {r : Str} {i : Int} (h : PErr many183 [] [] (some (r, i))) : r = "mates" ∧ i = 183 := by
  rcases h with h | ⟨h, _⟩ | ⟨h, _⟩ | ⟨h, _⟩
  · rw [e183] at h
    injection h with h
    injection h with a b
    exact ⟨a.symm, b.symm⟩
  · rw [e183] at h; cases h
  · rw [e183] at h; cases h
  · rw [e183] at h; cases h
theorem not183 : ¬ GoodP many183 [] [] := fun h => by
  have := h.1
  rw [e183] at this
  cases this
section
variable {P : Program} {w : World} {K : PySem.W.Frag} {mg : Str → Option Value} {base : Heap} {A : Ad} {p : Addr}
def dTri (x y : Str) (i : Int) : PyData := .tuple [.str x, .str y, .int i]
theorem dp_tri {H : Hp} {t : Addr} {x y : Str} {i : Int} (q : SqT K H t [.str x, .str y, .int i]) : Dp K H (.ref t) (dTri x y i) := .tup q (.cons (.str _) (.cons (.str _) (.cons (.int _) .nil)))
section
variable {Ar : Around} {outer : List Env} {s : Shared} {H : Hp} {E : XK} {D : Ends} {H0 : Hp} {a t pl F O : Addr} {m n i : Nat} {ms bs os ls : List Int} {w0 w1 w2 w3 w4 w5 w6 w7 w8 w9 w10 w11 w12 w13 w14 w15 w16 : Option V} {j : Int} {xs : List V}
theorem rt_4 (T : LamT K mg A) (B : LamX.TabB base mg A.cd_law A.tb_law) (hg : RmG 11 (XL P w K mg base A Ar outer s H E).A) (hr : Room 11 (XL P w K mg base A Ar outer s H E).A)
    (q : ∀ S H1, Same H0 H1 → H1 S = some (.lst (swaps.map V.int)) → D.nx [w0, w1, w2, w3, w4, w5, w6, w7, w8, w9, w10, w11, some (.ref S), w13, w14, w15, w16] H1) :
    (dt_4 (P := P) (w := w) (outer := outer) (s := s) (H := H) (E := E) T B hg hr).1 D [w0, w1, w2, w3, w4, w5, w6, w7, w8, w9, w10, w11, w12, w13, w14, w15, w16] H0 := by
  unfold dt_4
  refine ⟨180, rfl, by decide, by decide, ?_⟩
  refine comp_val walks_range (fun i => V.int (swp i)) (by decide) (fun i x H2 N hi s2 hx k => ?_) (fun S H1 hS s1 qS => q S H1 s1 ?_)
  · subst hx
    rw [Int.zero_add]
    have kf := k H2 (Same.refl _)
    unfold swp at kf
    refine ⟨_, rfl, .inl ⟨_, rfl, _, _, rfl, rfl, (by show (0 : Int) < 2; decide), rfl, _, rfl, ?_⟩⟩
    by_cases c : i % 2 = 0
    · rw [if_pos c] at kf
      rw [show decide (V.int ((i : Int) % 2) = V.int 0) = true from decide_eq_true (by rw [show (i : Int) % 2 = 0 by omega])]
      exact iteT ⟨_, rfl, _, _, rfl, rfl, kf⟩
    · rw [if_neg c] at kf
      rw [show decide (V.int ((i : Int) % 2) = V.int 0) = false from decide_eq_false fun z => by injection z with z; omega]
      exact iteF ⟨_, rfl, _, _, rfl, rfl, kf⟩
  · rw [qS]
    unfold swaps
    rw [List.map_map]
    rfl
theorem rt_5 (T : LamT K mg A) (B : LamX.TabB base mg A.cd_law A.tb_law) (hg : RmG 11 (XL P w K mg base A Ar outer s H E).A) (hr : Room 11 (XL P w K mg base A Ar outer s H E).A) {S : Addr}
    (tb : LamX.Tabs (tbs A) H0) (hS : H0 S = some (.lst (swaps.map V.int))) (q : ∀ H1, LamX.Tabs (tbs A) H1 → D.nx [w0, w1, w2, w3, w4, w5, w6, w7, w8, w9, w10, w11, some (.ref S), w13, w14, w15, w16] H1) :
    (dt_5 (P := P) (w := w) (outer := outer) (s := s) (H := H) (E := E) T B hg hr).1 D [w0, w1, w2, w3, w4, w5, w6, w7, w8, w9, w10, w11, some (.ref S), w13, w14, w15, w16] H0 := by
  unfold dt_5
  refine ⟨tb, fun H1 eN tb1 Q' H2 s2 => ?_⟩
  have hS2 := s2 _ _ (eN _ _ hS (fun _ z => by cases z))
  refine ⟨_, rfl, by show 1 ≤ sizeLine; decide, fun z1 hz1 => ⟨z1, 180, [V.int 0], rfl, rfl, upd_same, by decide, by decide, by show 1 * 180 ≤ sizeLine; decide, fun B1 hB1 => ?_⟩⟩
  have rep : ∀ (k : Nat) (v : Int), (List.replicate k [V.int v]).flatten = (List.replicate k v).map V.int := fun k v => by
    induction k with
    | zero => rfl
    | succ k ih => rw [List.replicate_succ, List.flatten_cons, ih]; rfl
  have ez : (List.replicate (180 : Int).toNat [V.int 0]).flatten = (List.replicate 180 (0 : Int)).map V.int := rep 180 0
  have eo : (List.replicate (180 : Int).toNat [V.int 1]).flatten = (List.replicate 180 (1 : Int)).map V.int := rep 180 1
  have sz1 := same_new (o := .lst [.int 0]) hz1
  have sB1 := same_new (o := .lst (List.replicate (180 : Int).toNat [V.int 0]).flatten) hB1
  have qB1 : upd (upd H2 z1 (.lst [.int 0])) B1 (.lst (List.replicate (180 : Int).toNat [V.int 0]).flatten) B1 = some (.lst (List.replicate (180 : Int).toNat [V.int 0]).flatten) := upd_same
  have s3 := sz1.trans sB1
  generalize upd (upd H2 z1 (.lst [.int 0])) B1 (.lst (List.replicate (180 : Int).toNat [V.int 0]).flatten) = H3 at s3 qB1 ⊢
  rw [ez] at qB1
  refine ⟨by show 1 ≤ sizeLine; decide, fun z2 hz2 => ⟨z2, 180, [V.int 1], rfl, rfl, upd_same, by decide, by decide, by show 1 * 180 ≤ sizeLine; decide, fun B2 hB2 => ?_⟩⟩
  have sz2 := same_new (o := .lst [.int 1]) hz2
  have sB2 := same_new (o := .lst (List.replicate (180 : Int).toNat [V.int 1]).flatten) hB2
  have qB2 : upd (upd H3 z2 (.lst [.int 1])) B2 (.lst (List.replicate (180 : Int).toNat [V.int 1]).flatten) B2 = some (.lst (List.replicate (180 : Int).toNat [V.int 1]).flatten) := upd_same
  have s4 := sz2.trans sB2
  generalize upd (upd H3 z2 (.lst [.int 1])) B2 (.lst (List.replicate (180 : Int).toNat [V.int 1]).flatten) = H4 at s4 qB2 ⊢
  rw [eo] at qB2
  have s24 := s3.trans s4
  intro pa dx hpa hdx hn
  refine make_go hpa hdx hn (.ints (.inl (SqL.of (s24 _ _ hS2))) (by decide +kernel)) (.ints (.inl (SqL.of (s4 _ _ qB1))) (by decide)) (.ints (.inl (SqL.of qB2)) (by decide)) nofun (fun _ => nofun) (fun _ _ => nofun) fun ms' bs' os' e1 e2 e3 => ?_
  cases e1
  cases e2
  cases e3
  refine ⟨fun r i h => ?_, fun g => absurd g swp_not⟩
  obtain ⟨rfl, rfl⟩ := swp_bad h
  refine fun d H5 s5 hd5 => .plan hd5 fun aa t ha ht => ⟨three_line, fun t2 ht2 => ?_⟩
  have sa := same_new (o := exk aa (.ref A.c_BadPlan) (some d)) ha
  have st := same_new (o := .tup [.str "plan", .str "apart", .int 6]) ht
  have st2 := same_new (o := .tup [.str "plan", .str "apart", .int 6]) ht2
  have s2e := s5.trans (sa.trans (st.trans st2))
  refine ⟨dTri "plan" "apart" 6, dTri "plan" "apart" 6, dp_tri (SqT.of (st2 _ _ upd_same)), dp_tri (SqT.of upd_same), by decide +kernel, by decide +kernel, _, rfl, ?_⟩
  have ee : PyData.eqv (dTri "plan" "apart" 6) (dTri "plan" "apart" 6) = true := by decide +kernel
  rw [ee]
  exact iteF (q _ (tb1.ext (s2.trans (s24.trans s2e))))
theorem rt_6 (T : LamT K mg A) (B : LamX.TabB base mg A.cd_law A.tb_law) (hg : RmG 11 (XL P w K mg base A Ar outer s H E).A) (hr : Room 11 (XL P w K mg base A Ar outer s H E).A)
    (tb : LamX.Tabs (tbs A) H0) (q : ∀ H1, D.rt (.bl true) H1) :
    (dt_6 (P := P) (w := w) (outer := outer) (s := s) (H := H) (E := E) T B hg hr).1 D [w0, w1, w2, w3, w4, w5, w6, w7, w8, w9, w10, w11, w12, w13, w14, w15, w16] H0 := by
  unfold dt_6
  obtain ⟨u, cv⟩ := T.cv_MOST
  refine ⟨A.c_Plan, A.m_Plan, .int 60, u, rfl, T.cr_Plan, cv, rfl, _, rfl, ?_⟩
  refine iteT ⟨tb, fun H1 eN tb1 Q' H2 s2 => ?_⟩
  refine ⟨183, rfl, RgOk.of_le (by decide) (by decide) (by decide) (by decide), fun M hM => ⟨by show 0 ≤ sizeLine; decide, fun z1 hz1 => ⟨by show 0 ≤ sizeLine; decide, fun z2 hz2 => ?_⟩⟩⟩
  have e183' : rgV 0 183 = many183.map V.int := rgV_ints 183
  have sM := same_new (o := .lst (rgV 0 183)) hM
  have sz1 := same_new (o := .lst []) hz1
  have sz2 := same_new (o := .lst []) hz2
  have qM : upd H2 M (.lst (rgV 0 183)) M = some (.lst (rgV 0 183)) := upd_same
  have q1 : upd (upd H2 M (.lst (rgV 0 183))) z1 (.lst []) z1 = some (.lst (([] : List Int).map V.int)) := upd_same
  have q2 : upd (upd (upd H2 M (.lst (rgV 0 183))) z1 (.lst [])) z2 (.lst []) z2 = some (.lst (([] : List Int).map V.int)) := upd_same
  replace q1 := sz2 _ _ q1
  replace qM := sz2 _ _ (sz1 _ _ qM)
  rw [e183'] at qM
  have s24 := sM.trans (sz1.trans sz2)
  intro pa dx hpa hdx hn
  refine make_go hpa hdx hn (.ints (.inl (SqL.of qM)) (by decide +kernel)) (.ints (.inl (SqL.of q1)) (by decide)) (.ints (.inl (SqL.of q2)) (by decide)) nofun (fun _ => nofun) (fun _ _ => nofun) fun ms' bs' os' e1 e2 e3 => ?_
  cases e1
  cases e2
  cases e3
  refine ⟨fun r i h => ?_, fun g => absurd g not183⟩
  obtain ⟨rfl, rfl⟩ := bad183 h
  refine fun d H5 s5 hd5 => .plan hd5 fun aa t ha ht => ⟨three_line, fun t2 ht2 => ?_⟩
  have st2 := same_new (o := .tup [.str "plan", .str "mates", .int 183]) ht2
  refine ⟨dTri "plan" "mates" 183, dTri "plan" "mates" 183, dp_tri (SqT.of (st2 _ _ upd_same)), dp_tri (SqT.of upd_same), by decide +kernel, by decide +kernel, ?_⟩
  have ee : PyData.eqv (dTri "plan" "mates" 183) (dTri "plan" "mates" 183) = true := by decide +kernel
  rw [ee]
  exact q _
end
end
end KP


set_option Elab.async false
set_option linter.all false
set_option maxRecDepth 100000
set_option maxHeartbeats 8000000
set_option exponentiation.threshold 10000
namespace KP
open PySem PySem.Spec PyProof.Rows L2 ClX OG
section
variable {P : Program} {w : World} {K : PySem.W.Frag} {mg : Str → Option Value} {base : Heap} {A : Ad}
def spLaw (K : PySem.W.Frag) (A : Ad) : Sp := fun vs H Q _ => ∃ (a : Addr) (ns : List Int), vs = [.ref a] ∧ SqL K H a (ns.map V.int) ∧ LamX.Tabs (tbs A) H ∧ ∀ H', Q (.bl true) H'
theorem ok_law (T : LamT K mg A) (B : LamX.TabB base mg A.cd_law A.tb_law) (F : Fun K "law" "law" s_law A.f_law A.d_law) : FnG P w K mg base CX0 12 A.f_law A.d_law ["script"] (spLaw K A) := by
  refine Fun_okG F sc_law (fun vs H Q E h => ?_) (fun cdv Ar outer s H vs Q E hg _ hlk h => ?_)
  · obtain ⟨_, _, rfl, _⟩ := h
    rfl
  · obtain ⟨a, ns, rfl, hq, tb, q⟩ := h
    have hr := hg.rm
    obtain ⟨oc, od, kV, doc, pm, an, ct, osl, lk⟩ := hlk
    have hcv := T.cdv_law
    rw [lk] at hcv
    obtain rfl : cdv = .ref A.cd_law := Option.some.inj hcv
    suffices z : ∃ t, PSs (XL P w K mg base A Ar outer s H E) (defBody s_law) t ∧ t { nx := fun _ H' => Q .non H', rt := Q } (L2.start N_law [.ref a]) H from by
      obtain ⟨t, h, q⟩ := z
      exact ⟨t, h.nox, q⟩
    refine ⟨_, (pss_cons (dt_0 T B hg hr).2
      (pss_cons (ps_for PassesOwn.never rfl (pi_range1 (by rfl) T.n_range (pa_cons pe_int pa_nil)) (pg_name (i := 2) sc_law.nd rfl (Or.inl rfl)) (pss_cons (dl_0 T B hg hr).2
      (pss_cons (dl_1 T B hg hr).2
      (pss_cons (dl_2 T B hg hr).2
      (pss_cons (dl_3 T B hg hr).2
      (pss_cons (dl_4 T B hg hr).2
      (pss_cons (dl_5 T B hg hr).2
      (pss_cons (dl_6 T B hg hr).2
      (pss_one (dl_7 T B hg hr).2)))))))))
      (pss_cons (dt_2 T B hg hr).2
      (pss_cons (dt_3 T B hg hr).2
      (pss_cons (dt_4 T B hg hr).2
      (pss_cons (dt_5 T B hg hr).2
      (pss_one (dt_6 T B hg hr).2))))))), ?_⟩
    refine rt_0 (P := P) (w := w) (outer := outer) (s := s) (H := H) (E := E) T B hg hr hq fun p H1 s1 hp0 k1 => ?_
    refine ⟨4, rfl, by decide, by decide, ?_⟩
    refine for_range (lo := 0) (n := 4) (fun i σ H' => (∃ w2 w3 w4 w5 w6 w7 w8 w9 w10 w11 w12 w13 w14 w15 w16, σ = [some (.ref a), some (.ref p), w2, w3, w4, w5, w6, w7, w8, w9, w10, w11, w12, w13, w14, w15, w16]) ∧ PenK H' p (1100 * i) ∧ LamX.Tabs (tbs A) H') ⟨⟨_, _, _, _, _, _, _, _, _, _, _, _, _, _, _, rfl⟩, k1, tb.ext s1⟩ (fun i σ H0 hi k => ?_) (fun σ H0 k => ?_)
    · obtain ⟨⟨w2, w3, w4, w5, w6, w7, w8, w9, w10, w11, w12, w13, w14, w15, w16, rfl⟩, k0, t0⟩ := k
      refine rd_0 (P := P) (w := w) (outer := outer) (s := s) (H := H) (E := E) T B hg hr k0 (by omega) fun t ms bs os n H1 e1 k1 r1 g => ?_
      have lm := g.lm
      have n1 := g.n1
      have n60 := g.n60
      refine rd_1 (P := P) (w := w) (outer := outer) (s := s) (H := H) (E := E) T B hg hr r1 g fun H2 s2 => ?_
      refine rd_2 (P := P) (w := w) (outer := outer) (s := s) (H := H) (E := E) T B hg hr (r1.same s2) g fun pl F ls H3 s3 hP hF qF lot => ?_
      have s13 := s2.trans s3
      have ll := lot.len
      refine rd_3 (P := P) (w := w) (outer := outer) (s := s) (H := H) (E := E) T B hg hr (k1.same s13) (by omega) qF (by omega) (by omega) fun sp H4 hsp e4 k4 => ?_
      have nFp : F ≠ p := lst_new (k1.same s2).lst hF
      have r4 := (r1.same s13).but e4
      have qF4 := e4.2.2.1 _ _ nFp qF
      refine rd_4 (P := P) (w := w) (outer := outer) (s := s) (H := H) (E := E) T B hg hr r4 g qF4 lot hsp fun O x H5 s5 hO0 qO ox => ?_
      refine rd_5 (P := P) (w := w) (outer := outer) (s := s) (H := H) (E := E) T B hg hr (r4.same s5) (by omega) ?_
      have nFO : F ≠ O := fun z => by rw [← z, qF4] at hO0; cases hO0
      have nOp : O ≠ p := lst_new k4.lst hO0
      refine rd_6 (P := P) (w := w) (outer := outer) (s := s) (H := H) (E := E) T B hg hr (r4.same s5) g (s5 _ _ qF4) (by omega) (by omega) qO nFO ox fun xs H6 v9 e6 qO6 lx hx => ?_
      have r6 := (r4.same s5).ne e6 qO
      have hP5 := (hP.but e4).mono s5
      have hP6 : PlanR K A.c_Plan H6 pl ms bs os := by
        obtain ⟨dx, t1, t2, t3, t4, h1, h2, h3, h4, h5, h6⟩ := hP5
        have k : ∀ {c : Addr} {ys : List V}, SqT K H5 c ys → SqT K H6 c ys := fun {c ys} h => by
          rcases h with (h | ⟨o, h⟩) | h
          · exact .inl (.inl (e6 _ _ (fun z => by rw [z, qO] at h; cases h) h))
          · exact .inl (.inr ⟨o, e6 _ _ (fun z => by rw [z, qO] at h; cases h) h⟩)
          · exact .inr h
        exact ⟨dx, t1, t2, t3, t4, e6 _ _ (fun z => by rw [z, qO] at h1; cases h1) h1, k h2, k h3, k h4, e6 _ _ (fun z => by rw [z, qO] at h5; cases h5) h5, h6⟩
      refine rd_7 (P := P) (w := w) (outer := outer) (s := s) (H := H) (E := E) T B hg hr r6 hP6 qO6 hx fun H7 v10 s7 => ?_
      have t5 := ((e4.tabs ((e1.tabs t0).ext s13)).ext s5)
      have t6 : LamX.Tabs (tbs A) H6 := fun q hq => by
        obtain ⟨ps, h1, h2, h3⟩ := t5 q hq
        refine ⟨ps, e6 _ _ (fun z => by rw [z, qO] at h1; cases h1) h1, h2, fun pos cv hc => ?_⟩
        obtain ⟨c, e1, e2⟩ := h3 pos cv hc
        exact ⟨c, e1, e6 _ _ (fun z => by rw [z, qO] at e2; unfold LamX.CodeO at e2; cases e2) e2⟩
      have k6 : PenK H6 p (1100 * i + 1001 + 1) := by
        obtain ⟨c, zs, at_, rest, h1, h2, h3, h4⟩ := k4
        have cO : c ≠ O := fun z => by rw [← z, h3] at hO0; cases hO0
        exact ⟨c, zs, at_, rest, e6 _ _ nOp.symm (s5 _ _ h1), h2, e6 _ _ cO (s5 _ _ h3), h4⟩
      exact ⟨⟨_, _, _, _, _, _, _, _, _, _, _, _, _, _, _, rfl⟩, (k6.same s7).mono (by omega), t6.ext s7⟩
    · obtain ⟨⟨w2, w3, w4, w5, w6, w7, w8, w9, w10, w11, w12, w13, w14, w15, w16, rfl⟩, k0, t0⟩ := k
      refine rt_2 (P := P) (w := w) (outer := outer) (s := s) (H := H) (E := E) T B hg hr fun S H2 s2 hS => ?_
      refine rt_3 (P := P) (w := w) (outer := outer) (s := s) (H := H) (E := E) T B hg hr hS fun H3 s3 => ?_
      refine rt_4 (P := P) (w := w) (outer := outer) (s := s) (H := H) (E := E) T B hg hr fun W H4 s4 hW => ?_
      refine rt_5 (P := P) (w := w) (outer := outer) (s := s) (H := H) (E := E) T B hg hr (t0.ext (s2.trans (s3.trans s4))) hW fun H5 t5 => ?_
      exact rt_6 (P := P) (w := w) (outer := outer) (s := s) (H := H) (E := E) T B hg hr t5 fun H6 => q H6
end
end KP


set_option Elab.async false
set_option linter.all false
set_option maxRecDepth 100000
set_option maxHeartbeats 8000000
set_option exponentiation.threshold 10000
namespace KP
open PySem PySem.Spec PyProof.Rows L2 ClX OG
theorem all_mk {l : PySem.W.OpenLaw} {w : World} {K : PySem.W.Frag} {h : Heap} {mg : Str → Option Value} {fa : Addr} {tk_MT tk_MO : Tok} (X : K.In h) (G : h.Ns mainGlobals mg) (hfa : mg "law" = some (.ref fa)) 
    {C_Plan p_of N_Plan : Addr} {rest : List Value} {nm_Plan q_Plan : Str} {bs_Plan sub_Plan : List Value} {hd_Plan ab_Plan : Bool} {sn_Plan : List Str} {col_Plan : Option Bool} {dd_Plan : Option Addr} {m0_Plan m1_Plan m2_Plan m3_Plan m5_Plan : Option Value} {ni_Plan : String} {cd tb : Addr} {tk_M : Tok}
    {C_PlanError : Addr}
    {C_BadValue : Addr}
    {C_BadNumber : Addr}
    {C_BadPlan : Addr}
    {C_BadPaper : Addr}
    {C_BadText : Addr}
    {C_BadCommand : Addr}
    {C_Misfit : Addr}
    {C_NoTurn : Addr}
    {C_Nothing : Addr}
    {C_TooMany : Addr}
    {f_need_row : Addr} {od_need_row an_need_row : Option Addr} {sl_need_row : Array (Option Value)} {oc_need_row kV_need_row dc_need_row pm_need_row ct_need_row cd_need_row : Value}
    {f_next_in : Addr} {od_next_in an_next_in : Option Addr} {sl_next_in : Array (Option Value)} {oc_next_in kV_next_in dc_next_in pm_next_in ct_next_in cd_next_in : Value}
    {f_prev_in : Addr} {od_prev_in an_prev_in : Option Addr} {sl_prev_in : Array (Option Value)} {oc_prev_in kV_prev_in dc_prev_in pm_prev_in ct_prev_in cd_prev_in : Value}
    {f_need_size : Addr} {od_need_size an_need_size : Option Addr} {sl_need_size : Array (Option Value)} {oc_need_size kV_need_size dc_need_size pm_need_size ct_need_size cd_need_size : Value}
    {f_need_mates : Addr} {od_need_mates an_need_mates : Option Addr} {sl_need_mates : Array (Option Value)} {oc_need_mates kV_need_mates dc_need_mates pm_need_mates ct_need_mates cd_need_mates : Value}
    {f_need_orders : Addr} {od_need_orders an_need_orders : Option Addr} {sl_need_orders : Array (Option Value)} {oc_need_orders kV_need_orders dc_need_orders pm_need_orders ct_need_orders cd_need_orders : Value}
    {f_need_whole : Addr} {od_need_whole an_need_whole : Option Addr} {sl_need_whole : Array (Option Value)} {oc_need_whole kV_need_whole dc_need_whole pm_need_whole ct_need_whole cd_need_whole : Value}
    {f_law_pen : Addr} {od_law_pen an_law_pen : Option Addr} {sl_law_pen : Array (Option Value)} {oc_law_pen kV_law_pen dc_law_pen pm_law_pen ct_law_pen cd_law_pen : Value}
    {f_law_draw : Addr} {od_law_draw an_law_draw : Option Addr} {sl_law_draw : Array (Option Value)} {oc_law_draw kV_law_draw dc_law_draw pm_law_draw ct_law_draw cd_law_draw : Value}
    {f_law_pick : Addr} {od_law_pick an_law_pick : Option Addr} {sl_law_pick : Array (Option Value)} {oc_law_pick kV_law_pick dc_law_pick pm_law_pick ct_law_pick cd_law_pick : Value}
    {f_law_joined : Addr} {od_law_joined an_law_joined : Option Addr} {sl_law_joined : Array (Option Value)} {oc_law_joined kV_law_joined dc_law_joined pm_law_joined ct_law_joined cd_law_joined : Value}
    {f_law_glued : Addr} {od_law_glued an_law_glued : Option Addr} {sl_law_glued : Array (Option Value)} {oc_law_glued kV_law_glued dc_law_glued pm_law_glued ct_law_glued cd_law_glued : Value}
    {f_law_next : Addr} {od_law_next an_law_next : Option Addr} {sl_law_next : Array (Option Value)} {oc_law_next kV_law_next dc_law_next pm_law_next ct_law_next cd_law_next : Value}
    {f_law_lots : Addr} {od_law_lots an_law_lots : Option Addr} {sl_law_lots : Array (Option Value)} {oc_law_lots kV_law_lots dc_law_lots pm_law_lots ct_law_lots cd_law_lots : Value}
    {f_law_marked : Addr} {od_law_marked an_law_marked : Option Addr} {sl_law_marked : Array (Option Value)} {oc_law_marked kV_law_marked dc_law_marked pm_law_marked ct_law_marked cd_law_marked : Value}
    {f_law_drawn : Addr} {od_law_drawn an_law_drawn : Option Addr} {sl_law_drawn : Array (Option Value)} {oc_law_drawn kV_law_drawn dc_law_drawn pm_law_drawn ct_law_drawn cd_law_drawn : Value}
    {f_law_heard : Addr} {od_law_heard an_law_heard : Option Addr} {sl_law_heard : Array (Option Value)} {oc_law_heard kV_law_heard dc_law_heard pm_law_heard ct_law_heard cd_law_heard : Value}
    {f_law_made_right : Addr} {od_law_made_right an_law_made_right : Option Addr} {sl_law_made_right : Array (Option Value)} {oc_law_made_right kV_law_made_right dc_law_made_right pm_law_made_right ct_law_made_right cd_law_made_right : Value}
    {f_law : Addr} {od_law an_law : Option Addr} {sl_law : Array (Option Value)} {oc_law kV_law dc_law pm_law ct_law : Value}
    {f_Plan_init : Addr} {od_Plan_init an_Plan_init : Option Addr} {sl_Plan_init : Array (Option Value)} {oc_Plan_init kV_Plan_init dc_Plan_init pm_Plan_init ct_Plan_init cd_Plan_init : Value}
    {f_Plan_of : Addr} {od_Plan_of an_Plan_of : Option Addr} {sl_Plan_of : Array (Option Value)} {oc_Plan_of kV_Plan_of dc_Plan_of pm_Plan_of ct_Plan_of cd_Plan_of : Value}
    {f_Plan_is_mirror : Addr} {od_Plan_is_mirror an_Plan_is_mirror : Option Addr} {sl_Plan_is_mirror : Array (Option Value)} {oc_Plan_is_mirror kV_Plan_is_mirror dc_Plan_is_mirror pm_Plan_is_mirror ct_Plan_is_mirror cd_Plan_is_mirror : Value}
    {f_Plan_is_border : Addr} {od_Plan_is_border an_Plan_is_border : Option Addr} {sl_Plan_is_border : Array (Option Value)} {oc_Plan_is_border kV_Plan_is_border dc_Plan_is_border pm_Plan_is_border ct_Plan_is_border cd_Plan_is_border : Value}
    {f_Plan_across : Addr} {od_Plan_across an_Plan_across : Option Addr} {sl_Plan_across : Array (Option Value)} {oc_Plan_across kV_Plan_across dc_Plan_across pm_Plan_across ct_Plan_across cd_Plan_across : Value}
    {f_Plan_len : Addr} {od_Plan_len an_Plan_len : Option Addr} {sl_Plan_len : Array (Option Value)} {oc_Plan_len kV_Plan_len dc_Plan_len pm_Plan_len ct_Plan_len cd_Plan_len : Value}
    {f_Plan_eq : Addr} {od_Plan_eq an_Plan_eq : Option Addr} {sl_Plan_eq : Array (Option Value)} {kV_Plan_eq dc_Plan_eq pm_Plan_eq ct_Plan_eq cd_Plan_eq : Value}
    {N_BadValue : Addr} {nm_BadValue q_BadValue : Str} {bs_BadValue sub_BadValue : List Value} {bm_BadValue : List Value} {sn_BadValue : List Str} {ab_BadValue : Bool} {col_BadValue : Option Bool} {dd_BadValue : Option Addr} {m0_BadValue m1_BadValue m2_BadValue m3_BadValue m5_BadValue : Option Value}
    {f_BadValue_init : Addr} {od_BadValue_init an_BadValue_init : Option Addr} {sl_BadValue_init : Array (Option Value)} {oc_BadValue_init kV_BadValue_init dc_BadValue_init pm_BadValue_init ct_BadValue_init cd_BadValue_init : Value}
    {N_BadPlan : Addr} {nm_BadPlan q_BadPlan : Str} {bs_BadPlan sub_BadPlan : List Value} {bm_BadPlan : List Value} {sn_BadPlan : List Str} {ab_BadPlan : Bool} {col_BadPlan : Option Bool} {dd_BadPlan : Option Addr} {m0_BadPlan m1_BadPlan m2_BadPlan m3_BadPlan m5_BadPlan : Option Value}
    {f_BadPlan_init : Addr} {od_BadPlan_init an_BadPlan_init : Option Addr} {sl_BadPlan_init : Array (Option Value)} {oc_BadPlan_init kV_BadPlan_init dc_BadPlan_init pm_BadPlan_init ct_BadPlan_init cd_BadPlan_init : Value}
    (aC_Plan : PySem.W.nsIn K mainGlobals "Plan" = some (some (.ref C_Plan)))
    (aC_PlanError : PySem.W.nsIn K mainGlobals "PlanError" = some (some (.ref C_PlanError)))
    (aC_BadValue : PySem.W.nsIn K mainGlobals "BadValue" = some (some (.ref C_BadValue)))
    (aC_BadNumber : PySem.W.nsIn K mainGlobals "BadNumber" = some (some (.ref C_BadNumber)))
    (aC_BadPlan : PySem.W.nsIn K mainGlobals "BadPlan" = some (some (.ref C_BadPlan)))
    (aC_BadPaper : PySem.W.nsIn K mainGlobals "BadPaper" = some (some (.ref C_BadPaper)))
    (aC_BadText : PySem.W.nsIn K mainGlobals "BadText" = some (some (.ref C_BadText)))
    (aC_BadCommand : PySem.W.nsIn K mainGlobals "BadCommand" = some (some (.ref C_BadCommand)))
    (aC_Misfit : PySem.W.nsIn K mainGlobals "Misfit" = some (some (.ref C_Misfit)))
    (aC_NoTurn : PySem.W.nsIn K mainGlobals "NoTurn" = some (some (.ref C_NoTurn)))
    (aC_Nothing : PySem.W.nsIn K mainGlobals "Nothing" = some (some (.ref C_Nothing)))
    (aC_TooMany : PySem.W.nsIn K mainGlobals "TooMany" = some (some (.ref C_TooMany)))
    (a_need_row : PySem.W.nsIn K mainGlobals "need_row" = some (some (.ref f_need_row)))
    (l_need_row : K.lookup f_need_row = some ⟨oc_need_row, od_need_row, .func (PySem.W.fnOf "need_row" "need_row" (defArgs s_need_row) (defBody s_need_row) (defScope s_need_row) .none kV_need_row dc_need_row pm_need_row an_need_row cd_need_row ct_need_row), sl_need_row⟩)
    (c_need_row : PySem.W.codeIn K cd_need_row "need_row" = true)
    (k_need_row : PySem.W.keepIn K (.ref f_need_row) = true)
    (a_next_in : PySem.W.nsIn K mainGlobals "next_in" = some (some (.ref f_next_in)))
    (l_next_in : K.lookup f_next_in = some ⟨oc_next_in, od_next_in, .func (PySem.W.fnOf "next_in" "next_in" (defArgs s_next_in) (defBody s_next_in) (defScope s_next_in) .none kV_next_in dc_next_in pm_next_in an_next_in cd_next_in ct_next_in), sl_next_in⟩)
    (c_next_in : PySem.W.codeIn K cd_next_in "next_in" = true)
    (k_next_in : PySem.W.keepIn K (.ref f_next_in) = true)
    (a_prev_in : PySem.W.nsIn K mainGlobals "prev_in" = some (some (.ref f_prev_in)))
    (l_prev_in : K.lookup f_prev_in = some ⟨oc_prev_in, od_prev_in, .func (PySem.W.fnOf "prev_in" "prev_in" (defArgs s_prev_in) (defBody s_prev_in) (defScope s_prev_in) .none kV_prev_in dc_prev_in pm_prev_in an_prev_in cd_prev_in ct_prev_in), sl_prev_in⟩)
    (c_prev_in : PySem.W.codeIn K cd_prev_in "prev_in" = true)
    (k_prev_in : PySem.W.keepIn K (.ref f_prev_in) = true)
    (a_need_size : PySem.W.nsIn K mainGlobals "need_size" = some (some (.ref f_need_size)))
    (l_need_size : K.lookup f_need_size = some ⟨oc_need_size, od_need_size, .func (PySem.W.fnOf "need_size" "need_size" (defArgs s_need_size) (defBody s_need_size) (defScope s_need_size) .none kV_need_size dc_need_size pm_need_size an_need_size cd_need_size ct_need_size), sl_need_size⟩)
    (c_need_size : PySem.W.codeIn K cd_need_size "need_size" = true)
    (k_need_size : PySem.W.keepIn K (.ref f_need_size) = true)
    (a_need_mates : PySem.W.nsIn K mainGlobals "need_mates" = some (some (.ref f_need_mates)))
    (l_need_mates : K.lookup f_need_mates = some ⟨oc_need_mates, od_need_mates, .func (PySem.W.fnOf "need_mates" "need_mates" (defArgs s_need_mates) (defBody s_need_mates) (defScope s_need_mates) .none kV_need_mates dc_need_mates pm_need_mates an_need_mates cd_need_mates ct_need_mates), sl_need_mates⟩)
    (c_need_mates : PySem.W.codeIn K cd_need_mates "need_mates" = true)
    (k_need_mates : PySem.W.keepIn K (.ref f_need_mates) = true)
    (a_need_orders : PySem.W.nsIn K mainGlobals "need_orders" = some (some (.ref f_need_orders)))
    (l_need_orders : K.lookup f_need_orders = some ⟨oc_need_orders, od_need_orders, .func (PySem.W.fnOf "need_orders" "need_orders" (defArgs s_need_orders) (defBody s_need_orders) (defScope s_need_orders) .none kV_need_orders dc_need_orders pm_need_orders an_need_orders cd_need_orders ct_need_orders), sl_need_orders⟩)
    (c_need_orders : PySem.W.codeIn K cd_need_orders "need_orders" = true)
    (k_need_orders : PySem.W.keepIn K (.ref f_need_orders) = true)
    (a_need_whole : PySem.W.nsIn K mainGlobals "need_whole" = some (some (.ref f_need_whole)))
    (l_need_whole : K.lookup f_need_whole = some ⟨oc_need_whole, od_need_whole, .func (PySem.W.fnOf "need_whole" "need_whole" (defArgs s_need_whole) (defBody s_need_whole) (defScope s_need_whole) .none kV_need_whole dc_need_whole pm_need_whole an_need_whole cd_need_whole ct_need_whole), sl_need_whole⟩)
    (c_need_whole : PySem.W.codeIn K cd_need_whole "need_whole" = true)
    (k_need_whole : PySem.W.keepIn K (.ref f_need_whole) = true)
    (a_law_pen : PySem.W.nsIn K mainGlobals "_law_pen" = some (some (.ref f_law_pen)))
    (l_law_pen : K.lookup f_law_pen = some ⟨oc_law_pen, od_law_pen, .func (PySem.W.fnOf "_law_pen" "_law_pen" (defArgs s_law_pen) (defBody s_law_pen) (defScope s_law_pen) .none kV_law_pen dc_law_pen pm_law_pen an_law_pen cd_law_pen ct_law_pen), sl_law_pen⟩)
    (c_law_pen : PySem.W.codeIn K cd_law_pen "_law_pen" = true)
    (k_law_pen : PySem.W.keepIn K (.ref f_law_pen) = true)
    (a_law_draw : PySem.W.nsIn K mainGlobals "_law_draw" = some (some (.ref f_law_draw)))
    (l_law_draw : K.lookup f_law_draw = some ⟨oc_law_draw, od_law_draw, .func (PySem.W.fnOf "_law_draw" "_law_draw" (defArgs s_law_draw) (defBody s_law_draw) (defScope s_law_draw) .none kV_law_draw dc_law_draw pm_law_draw an_law_draw cd_law_draw ct_law_draw), sl_law_draw⟩)
    (c_law_draw : PySem.W.codeIn K cd_law_draw "_law_draw" = true)
    (k_law_draw : PySem.W.keepIn K (.ref f_law_draw) = true)
    (a_law_pick : PySem.W.nsIn K mainGlobals "_law_pick" = some (some (.ref f_law_pick)))
    (l_law_pick : K.lookup f_law_pick = some ⟨oc_law_pick, od_law_pick, .func (PySem.W.fnOf "_law_pick" "_law_pick" (defArgs s_law_pick) (defBody s_law_pick) (defScope s_law_pick) .none kV_law_pick dc_law_pick pm_law_pick an_law_pick cd_law_pick ct_law_pick), sl_law_pick⟩)
    (c_law_pick : PySem.W.codeIn K cd_law_pick "_law_pick" = true)
    (k_law_pick : PySem.W.keepIn K (.ref f_law_pick) = true)
    (a_law_joined : PySem.W.nsIn K mainGlobals "_law_joined" = some (some (.ref f_law_joined)))
    (l_law_joined : K.lookup f_law_joined = some ⟨oc_law_joined, od_law_joined, .func (PySem.W.fnOf "_law_joined" "_law_joined" (defArgs s_law_joined) (defBody s_law_joined) (defScope s_law_joined) .none kV_law_joined dc_law_joined pm_law_joined an_law_joined cd_law_joined ct_law_joined), sl_law_joined⟩)
    (c_law_joined : PySem.W.codeIn K cd_law_joined "_law_joined" = true)
    (k_law_joined : PySem.W.keepIn K (.ref f_law_joined) = true)
    (a_law_glued : PySem.W.nsIn K mainGlobals "_law_glued" = some (some (.ref f_law_glued)))
    (l_law_glued : K.lookup f_law_glued = some ⟨oc_law_glued, od_law_glued, .func (PySem.W.fnOf "_law_glued" "_law_glued" (defArgs s_law_glued) (defBody s_law_glued) (defScope s_law_glued) .none kV_law_glued dc_law_glued pm_law_glued an_law_glued cd_law_glued ct_law_glued), sl_law_glued⟩)
    (c_law_glued : PySem.W.codeIn K cd_law_glued "_law_glued" = true)
    (k_law_glued : PySem.W.keepIn K (.ref f_law_glued) = true)
    (a_law_next : PySem.W.nsIn K mainGlobals "_law_next" = some (some (.ref f_law_next)))
    (l_law_next : K.lookup f_law_next = some ⟨oc_law_next, od_law_next, .func (PySem.W.fnOf "_law_next" "_law_next" (defArgs s_law_next) (defBody s_law_next) (defScope s_law_next) .none kV_law_next dc_law_next pm_law_next an_law_next cd_law_next ct_law_next), sl_law_next⟩)
    (c_law_next : PySem.W.codeIn K cd_law_next "_law_next" = true)
    (k_law_next : PySem.W.keepIn K (.ref f_law_next) = true)
    (a_law_lots : PySem.W.nsIn K mainGlobals "_law_lots" = some (some (.ref f_law_lots)))
    (l_law_lots : K.lookup f_law_lots = some ⟨oc_law_lots, od_law_lots, .func (PySem.W.fnOf "_law_lots" "_law_lots" (defArgs s_law_lots) (defBody s_law_lots) (defScope s_law_lots) .none kV_law_lots dc_law_lots pm_law_lots an_law_lots cd_law_lots ct_law_lots), sl_law_lots⟩)
    (c_law_lots : PySem.W.codeIn K cd_law_lots "_law_lots" = true)
    (k_law_lots : PySem.W.keepIn K (.ref f_law_lots) = true)
    (a_law_marked : PySem.W.nsIn K mainGlobals "_law_marked" = some (some (.ref f_law_marked)))
    (l_law_marked : K.lookup f_law_marked = some ⟨oc_law_marked, od_law_marked, .func (PySem.W.fnOf "_law_marked" "_law_marked" (defArgs s_law_marked) (defBody s_law_marked) (defScope s_law_marked) .none kV_law_marked dc_law_marked pm_law_marked an_law_marked cd_law_marked ct_law_marked), sl_law_marked⟩)
    (c_law_marked : PySem.W.codeIn K cd_law_marked "_law_marked" = true)
    (k_law_marked : PySem.W.keepIn K (.ref f_law_marked) = true)
    (a_law_drawn : PySem.W.nsIn K mainGlobals "_law_drawn" = some (some (.ref f_law_drawn)))
    (l_law_drawn : K.lookup f_law_drawn = some ⟨oc_law_drawn, od_law_drawn, .func (PySem.W.fnOf "_law_drawn" "_law_drawn" (defArgs s_law_drawn) (defBody s_law_drawn) (defScope s_law_drawn) .none kV_law_drawn dc_law_drawn pm_law_drawn an_law_drawn cd_law_drawn ct_law_drawn), sl_law_drawn⟩)
    (c_law_drawn : PySem.W.codeIn K cd_law_drawn "_law_drawn" = true)
    (k_law_drawn : PySem.W.keepIn K (.ref f_law_drawn) = true)
    (a_law_heard : PySem.W.nsIn K mainGlobals "_law_heard" = some (some (.ref f_law_heard)))
    (l_law_heard : K.lookup f_law_heard = some ⟨oc_law_heard, od_law_heard, .func (PySem.W.fnOf "_law_heard" "_law_heard" (defArgs s_law_heard) (defBody s_law_heard) (defScope s_law_heard) .none kV_law_heard dc_law_heard pm_law_heard an_law_heard cd_law_heard ct_law_heard), sl_law_heard⟩)
    (c_law_heard : PySem.W.codeIn K cd_law_heard "_law_heard" = true)
    (k_law_heard : PySem.W.keepIn K (.ref f_law_heard) = true)
    (a_law_made_right : PySem.W.nsIn K mainGlobals "_law_made_right" = some (some (.ref f_law_made_right)))
    (l_law_made_right : K.lookup f_law_made_right = some ⟨oc_law_made_right, od_law_made_right, .func (PySem.W.fnOf "_law_made_right" "_law_made_right" (defArgs s_law_made_right) (defBody s_law_made_right) (defScope s_law_made_right) .none kV_law_made_right dc_law_made_right pm_law_made_right an_law_made_right cd_law_made_right ct_law_made_right), sl_law_made_right⟩)
    (c_law_made_right : PySem.W.codeIn K cd_law_made_right "_law_made_right" = true)
    (k_law_made_right : PySem.W.keepIn K (.ref f_law_made_right) = true)
    (a_law : PySem.W.nsIn K mainGlobals "law" = some (some (.ref f_law)))
    (l_law : K.lookup f_law = some ⟨oc_law, od_law, .func (PySem.W.fnOf "law" "law" (defArgs s_law) (defBody s_law) (defScope s_law) .none kV_law dc_law pm_law an_law (.ref cd) ct_law), sl_law⟩)
    (c_law : PySem.W.codeIn K (.ref cd) "law" = true)
    (k_law : PySem.W.keepIn K (.ref f_law) = true)
    (m_Plan_init : PySem.W.findIn K (.ref C_Plan) "__init__" = some (some (.ref f_Plan_init)))
    (fn_Plan_init : PySem.W.isFn K (.ref f_Plan_init) = true)
    (l_Plan_init : K.lookup f_Plan_init = some ⟨oc_Plan_init, od_Plan_init, .func (PySem.W.fnOf "__init__" "Plan.__init__" (defArgs s_Plan_init) (defBody s_Plan_init) (defScope s_Plan_init) .none kV_Plan_init dc_Plan_init pm_Plan_init an_Plan_init cd_Plan_init ct_Plan_init), sl_Plan_init⟩)
    (c_Plan_init : PySem.W.codeIn K cd_Plan_init "Plan.__init__" = true)
    (k_Plan_init : PySem.W.keepIn K (.ref f_Plan_init) = true)
    (cs : PySem.W.findCls K (.ref C_Plan) (.type "type") "of" = some (.get (.builtin "classmethod.__get__") (.ref p_of) .none (.ref C_Plan)))
    (cr : PySem.W.recIn K p_of "classmethod" = some (.ref f_Plan_of :: rest))
    (cf : PySem.W.fnIn K f_Plan_of = true)
    (l_Plan_of : K.lookup f_Plan_of = some ⟨oc_Plan_of, od_Plan_of, .func (PySem.W.fnOf "of" "Plan.of" (defArgs s_Plan_of) (defBody s_Plan_of) (defScope s_Plan_of) .none kV_Plan_of dc_Plan_of pm_Plan_of an_Plan_of cd_Plan_of ct_Plan_of), sl_Plan_of⟩)
    (c_Plan_of : PySem.W.codeIn K cd_Plan_of "Plan.of" = true)
    (k_Plan_of : PySem.W.keepIn K (.ref f_Plan_of) = true)
    (m_Plan_is_mirror : PySem.W.findIn K (.ref C_Plan) "is_mirror" = some (some (.ref f_Plan_is_mirror)))
    (fn_Plan_is_mirror : PySem.W.isFn K (.ref f_Plan_is_mirror) = true)
    (l_Plan_is_mirror : K.lookup f_Plan_is_mirror = some ⟨oc_Plan_is_mirror, od_Plan_is_mirror, .func (PySem.W.fnOf "is_mirror" "Plan.is_mirror" (defArgs s_Plan_is_mirror) (defBody s_Plan_is_mirror) (defScope s_Plan_is_mirror) .none kV_Plan_is_mirror dc_Plan_is_mirror pm_Plan_is_mirror an_Plan_is_mirror cd_Plan_is_mirror ct_Plan_is_mirror), sl_Plan_is_mirror⟩)
    (c_Plan_is_mirror : PySem.W.codeIn K cd_Plan_is_mirror "Plan.is_mirror" = true)
    (k_Plan_is_mirror : PySem.W.keepIn K (.ref f_Plan_is_mirror) = true)
    (m_Plan_is_border : PySem.W.findIn K (.ref C_Plan) "is_border" = some (some (.ref f_Plan_is_border)))
    (fn_Plan_is_border : PySem.W.isFn K (.ref f_Plan_is_border) = true)
    (l_Plan_is_border : K.lookup f_Plan_is_border = some ⟨oc_Plan_is_border, od_Plan_is_border, .func (PySem.W.fnOf "is_border" "Plan.is_border" (defArgs s_Plan_is_border) (defBody s_Plan_is_border) (defScope s_Plan_is_border) .none kV_Plan_is_border dc_Plan_is_border pm_Plan_is_border an_Plan_is_border cd_Plan_is_border ct_Plan_is_border), sl_Plan_is_border⟩)
    (c_Plan_is_border : PySem.W.codeIn K cd_Plan_is_border "Plan.is_border" = true)
    (k_Plan_is_border : PySem.W.keepIn K (.ref f_Plan_is_border) = true)
    (m_Plan_across : PySem.W.findIn K (.ref C_Plan) "across" = some (some (.ref f_Plan_across)))
    (fn_Plan_across : PySem.W.isFn K (.ref f_Plan_across) = true)
    (l_Plan_across : K.lookup f_Plan_across = some ⟨oc_Plan_across, od_Plan_across, .func (PySem.W.fnOf "across" "Plan.across" (defArgs s_Plan_across) (defBody s_Plan_across) (defScope s_Plan_across) .none kV_Plan_across dc_Plan_across pm_Plan_across an_Plan_across cd_Plan_across ct_Plan_across), sl_Plan_across⟩)
    (c_Plan_across : PySem.W.codeIn K cd_Plan_across "Plan.across" = true)
    (k_Plan_across : PySem.W.keepIn K (.ref f_Plan_across) = true)
    (m_Plan_len : PySem.W.findIn K (.ref C_Plan) "__len__" = some (some (.ref f_Plan_len)))
    (fn_Plan_len : PySem.W.isFn K (.ref f_Plan_len) = true)
    (l_Plan_len : K.lookup f_Plan_len = some ⟨oc_Plan_len, od_Plan_len, .func (PySem.W.fnOf "__len__" "Plan.__len__" (defArgs s_Plan_len) (defBody s_Plan_len) (defScope s_Plan_len) .none kV_Plan_len dc_Plan_len pm_Plan_len an_Plan_len cd_Plan_len ct_Plan_len), sl_Plan_len⟩)
    (c_Plan_len : PySem.W.codeIn K cd_Plan_len "Plan.__len__" = true)
    (k_Plan_len : PySem.W.keepIn K (.ref f_Plan_len) = true)
    (m_Plan_eq : PySem.W.findIn K (.ref C_Plan) "__eq__" = some (some (.ref f_Plan_eq)))
    (fn_Plan_eq : PySem.W.isFn K (.ref f_Plan_eq) = true)
    (l_Plan_eq : K.lookup f_Plan_eq = some ⟨(.type "function"), od_Plan_eq, .func (PySem.W.fnOf "__eq__" "Plan.__eq__" (defArgs s_Plan_eq) (defBody s_Plan_eq) (defScope s_Plan_eq) .none kV_Plan_eq dc_Plan_eq pm_Plan_eq an_Plan_eq cd_Plan_eq ct_Plan_eq), sl_Plan_eq⟩)
    (c_Plan_eq : PySem.W.codeIn K cd_Plan_eq "Plan.__eq__" = true)
    (k_Plan_eq : PySem.W.keepIn K (.ref f_Plan_eq) = true)
    (pgM : PySem.W.plainGet K C_Plan Str.empty = true)
    (hdM : PySem.W.hasDictIn K C_Plan = true)
    (poM : PySem.W.plainOver K C_Plan = true)
    (saM : PySem.W.findIn K (.ref C_Plan) "__setattr__" = some (some (.builtin "object.__setattr__")))
    (haM : PySem.W.findIn K (.ref C_Plan) "__class__" = some (some (.builtin "object.__class__")))
    (hnO : PySem.W.specialIn K (.builtin "object.__class__") "__get__" = some (some (.builtin "getset_descriptor.__get__")))
    (tkO : PySem.W.takesIn K (.builtin "object.__class__") = some true)
    (mrM : PySem.W.mroIn K C_Plan (.type "object") = some true)
    (mkM : PySem.W.makesIn K C_Plan = true)
    (kpM : PySem.W.keepIn K (.ref C_Plan) = true)
    (rdM : PySem.W.readsIn K C_Plan (.type "type") = true)
    (gaM : PySem.W.specialIn K (.ref C_Plan) "__getattribute__" = some (some (.builtin "type.__getattribute__")))
    (xM : K.lookup C_Plan = some (excClassObj nm_Plan q_Plan C_Plan N_Plan bs_Plan [.type "object"] hd_Plan sn_Plan sub_Plan ab_Plan col_Plan dd_Plan m0_Plan m1_Plan m2_Plan m3_Plan m5_Plan ni_Plan))
    (noM : PySem.W.nsOkIn K N_Plan = true)
    (neM : PySem.W.nsIn K N_Plan "__eq__" = some (some (.ref f_Plan_eq)))
    (nnM : PySem.W.nsIn K N_Plan "__ne__" = some none)
    (nfM : PySem.W.notFirst K C_Plan (.ref C_Plan) = true)
    (nfL : PySem.W.notFirst K C_Plan (.type "list") = true)
    (nfT : PySem.W.notFirst K C_Plan (.type "tuple") = true)
    (nfN : PySem.W.notFirst K C_Plan (.type "NoneType") = true)
    (cvM : PySem.W.findCls K (.ref C_Plan) (.type "type") "MOST" = some (.val (.int 60 tk_M)))
    (hm_MOST_TRIANGLES : PySem.W.nsIn K mainGlobals "MOST_TRIANGLES" = some (some (.int 60 tk_MT)))
    (hm_MOST_ORDER : PySem.W.nsIn K mainGlobals "MOST_ORDER" = some (some (.int 120 tk_MO)))
    (na_mates : PySem.W.findIn K (.ref C_Plan) "mates" = some none)
    (na_bent : PySem.W.findIn K (.ref C_Plan) "bent" = some none)
    (na_orders : PySem.W.findIn K (.ref C_Plan) "orders" = some none)
    (na_parts : PySem.W.findIn K (.ref C_Plan) "parts" = some none)
    (kI : PySem.W.kitOne K (.ref C_Plan) (.type "int") = some false)
    (kB : PySem.W.kitOne K (.ref C_Plan) (.type "bool") = some false)
    (kL : PySem.W.kitOne K (.ref C_Plan) (.type "list") = some false)
    (kT : PySem.W.kitOne K (.ref C_Plan) (.type "tuple") = some false)
    (kC_NoneType : PySem.W.kitOne K (.type "NoneType") (.ref C_Plan) = some false)
    (kC_bool : PySem.W.kitOne K (.type "bool") (.ref C_Plan) = some false)
    (kC_int : PySem.W.kitOne K (.type "int") (.ref C_Plan) = some false)
    (kC_str : PySem.W.kitOne K (.type "str") (.ref C_Plan) = some false)
    (kC_list : PySem.W.kitOne K (.type "list") (.ref C_Plan) = some false)
    (kC_tuple : PySem.W.kitOne K (.type "tuple") (.ref C_Plan) = some false)
    (kC_dict : PySem.W.kitOne K (.type "dict") (.ref C_Plan) = some false)
    (xL_BadValue : K.lookup C_BadValue = some (excClassObj nm_BadValue q_BadValue C_BadValue N_BadValue bs_BadValue bm_BadValue true sn_BadValue sub_BadValue ab_BadValue col_BadValue dd_BadValue m0_BadValue m1_BadValue m2_BadValue m3_BadValue m5_BadValue "ValueError.__new__"))
    (rf_BadValue : PySem.HandSPX.refsVE bm_BadValue = true)
    (sa_BadValue : PySem.W.findIn K (.ref C_BadValue) "__setattr__" = some (some (.builtin "object.__setattr__")))
    (eC_BadValue : PySem.W.subIn K (.ref C_BadValue) (.type "BaseException") = some true)
    (tC_BadValue : PySem.W.typeIn K (.ref C_BadValue) = some (.type "type"))
    (kC_BadValue : PySem.W.keepIn K (.ref C_BadValue) = true)
    (iI_BadValue : PySem.W.findIn K (.ref C_BadValue) "__init__" = some (some (.ref f_BadValue_init)))
    (tI_BadValue : PySem.W.typeIn K (.ref f_BadValue_init) = some (.type "function"))
    (xga_BadValue : PySem.W.findIn K (.ref C_BadValue) "__getattribute__" = some (some (.builtin "BaseException.__getattribute__")))
    (xgg_BadValue : PySem.W.findIn K (.ref C_BadValue) "__getattr__" = some none)
    (xhd_BadValue : PySem.W.hasDictIn K C_BadValue = true)
    (eha_BadValue : PySem.W.findIn K (.ref C_BadValue) "__class__" = some (some (.builtin "object.__class__")))
    (ehm_BadValue : PySem.W.mroIn K C_BadValue (.type "object") = some true)
    (np_BadValue_part : PySem.W.findIn K (.ref C_BadValue) "part" = some none)
    (l_BadValue_init : K.lookup f_BadValue_init = some ⟨oc_BadValue_init, od_BadValue_init, .func (PySem.W.fnOf "__init__" "BadValue.__init__" (defArgs s_BadValue_init) (defBody s_BadValue_init) (defScope s_BadValue_init) .none kV_BadValue_init dc_BadValue_init pm_BadValue_init an_BadValue_init cd_BadValue_init ct_BadValue_init), sl_BadValue_init⟩)
    (c_BadValue_init : PySem.W.codeIn K cd_BadValue_init "BadValue.__init__" = true)
    (k_BadValue_init : PySem.W.keepIn K (.ref f_BadValue_init) = true)
    (ex_BadValue : PySem.W.exmAny K (.ref C_BadValue) [.ref C_PlanError, .ref C_NoTurn, .ref C_Nothing, .ref C_TooMany] = some true)
    (kk_BadValue_BadPlan : PySem.W.kitOne K (.ref C_BadValue) (.ref C_BadPlan) = some false)
    (kk_BadValue_BadText : PySem.W.kitOne K (.ref C_BadValue) (.ref C_BadText) = some false)
    (kk_BadValue_BadCommand : PySem.W.kitOne K (.ref C_BadValue) (.ref C_BadCommand) = some false)
    (kk_BadValue_NoTurn : PySem.W.kitOne K (.ref C_BadValue) (.ref C_NoTurn) = some false)
    (kk_BadValue_TooMany : PySem.W.kitOne K (.ref C_BadValue) (.ref C_TooMany) = some false)
    (kk_BadValue_BadValue : PySem.W.kitOne K (.ref C_BadValue) (.ref C_BadValue) = some true)
    (xL_BadPlan : K.lookup C_BadPlan = some (excClassObj nm_BadPlan q_BadPlan C_BadPlan N_BadPlan bs_BadPlan bm_BadPlan true sn_BadPlan sub_BadPlan ab_BadPlan col_BadPlan dd_BadPlan m0_BadPlan m1_BadPlan m2_BadPlan m3_BadPlan m5_BadPlan "ValueError.__new__"))
    (rf_BadPlan : PySem.HandSPX.refsVE bm_BadPlan = true)
    (sa_BadPlan : PySem.W.findIn K (.ref C_BadPlan) "__setattr__" = some (some (.builtin "object.__setattr__")))
    (eC_BadPlan : PySem.W.subIn K (.ref C_BadPlan) (.type "BaseException") = some true)
    (tC_BadPlan : PySem.W.typeIn K (.ref C_BadPlan) = some (.type "type"))
    (kC_BadPlan : PySem.W.keepIn K (.ref C_BadPlan) = true)
    (iI_BadPlan : PySem.W.findIn K (.ref C_BadPlan) "__init__" = some (some (.ref f_BadPlan_init)))
    (tI_BadPlan : PySem.W.typeIn K (.ref f_BadPlan_init) = some (.type "function"))
    (xga_BadPlan : PySem.W.findIn K (.ref C_BadPlan) "__getattribute__" = some (some (.builtin "BaseException.__getattribute__")))
    (xgg_BadPlan : PySem.W.findIn K (.ref C_BadPlan) "__getattr__" = some none)
    (xhd_BadPlan : PySem.W.hasDictIn K C_BadPlan = true)
    (eha_BadPlan : PySem.W.findIn K (.ref C_BadPlan) "__class__" = some (some (.builtin "object.__class__")))
    (ehm_BadPlan : PySem.W.mroIn K C_BadPlan (.type "object") = some true)
    (np_BadPlan_reason : PySem.W.findIn K (.ref C_BadPlan) "reason" = some none)
    (np_BadPlan_place : PySem.W.findIn K (.ref C_BadPlan) "place" = some none)
    (l_BadPlan_init : K.lookup f_BadPlan_init = some ⟨oc_BadPlan_init, od_BadPlan_init, .func (PySem.W.fnOf "__init__" "BadPlan.__init__" (defArgs s_BadPlan_init) (defBody s_BadPlan_init) (defScope s_BadPlan_init) .none kV_BadPlan_init dc_BadPlan_init pm_BadPlan_init an_BadPlan_init cd_BadPlan_init ct_BadPlan_init), sl_BadPlan_init⟩)
    (c_BadPlan_init : PySem.W.codeIn K cd_BadPlan_init "BadPlan.__init__" = true)
    (k_BadPlan_init : PySem.W.keepIn K (.ref f_BadPlan_init) = true)
    (ex_BadPlan : PySem.W.exmAny K (.ref C_BadPlan) [.ref C_PlanError, .ref C_NoTurn, .ref C_Nothing, .ref C_TooMany] = some true)
    (kk_BadPlan_BadPlan : PySem.W.kitOne K (.ref C_BadPlan) (.ref C_BadPlan) = some true)
    (pr : PySem.W.readsIn K C_PlanError (.type "type") = true)
    (pg : PySem.W.specialIn K (.ref C_PlanError) "__getattribute__" = some (some (.builtin "type.__getattribute__")))
    (pa : PySem.W.findCls K (.ref C_PlanError) (.type "type") "__init__" = some (.val (.builtin "ValueError.__init__")))
    (hT : h.get? tb = some { cls := .none, data := .fields #[] })
    (nT : K.lookup tb = none)
    (cH : PySem.W.codeHdIn K cd tb = true)
    (z_isinstance : PySem.W.nsIn K mainGlobals "isinstance" = some none)
    (z_int : PySem.W.nsIn K mainGlobals "int" = some none)
    (z_bool : PySem.W.nsIn K mainGlobals "bool" = some none)
    (z_list : PySem.W.nsIn K mainGlobals "list" = some none)
    (z_tuple : PySem.W.nsIn K mainGlobals "tuple" = some none)
    (z_len : PySem.W.nsIn K mainGlobals "len" = some none)
    (z_all : PySem.W.nsIn K mainGlobals "all" = some none)
    (z_range : PySem.W.nsIn K mainGlobals "range" = some none)
    (z_enumerate : PySem.W.nsIn K mainGlobals "enumerate" = some none)
    (z_abs : PySem.W.nsIn K mainGlobals "abs" = some none)
    (z_repr : PySem.W.nsIn K mainGlobals "repr" = some none)
    (z_min : PySem.W.nsIn K mainGlobals "min" = some none)
    (z_sorted : PySem.W.nsIn K mainGlobals "sorted" = some none)
    (z_set : PySem.W.nsIn K mainGlobals "set" = some none)
    (z_dict : PySem.W.nsIn K mainGlobals "dict" = some none)
    (z_zip : PySem.W.nsIn K mainGlobals "zip" = some none) :
    LawAtG l w K CX0 12 63 "script" mg fa h := by
  have e := hfa.symm.trans (PySem.W.mg_of X G a_law)
  have e2 : fa = f_law := by injection e with e; injection e
  rw [e2]
  let A : Ad := { f_need_row := f_need_row, d_need_row := PySem.W.fnOf "need_row" "need_row" (defArgs s_need_row) (defBody s_need_row) (defScope s_need_row) .none kV_need_row dc_need_row pm_need_row an_need_row cd_need_row ct_need_row, f_next_in := f_next_in, d_next_in := PySem.W.fnOf "next_in" "next_in" (defArgs s_next_in) (defBody s_next_in) (defScope s_next_in) .none kV_next_in dc_next_in pm_next_in an_next_in cd_next_in ct_next_in, f_prev_in := f_prev_in, d_prev_in := PySem.W.fnOf "prev_in" "prev_in" (defArgs s_prev_in) (defBody s_prev_in) (defScope s_prev_in) .none kV_prev_in dc_prev_in pm_prev_in an_prev_in cd_prev_in ct_prev_in, f_need_size := f_need_size, d_need_size := PySem.W.fnOf "need_size" "need_size" (defArgs s_need_size) (defBody s_need_size) (defScope s_need_size) .none kV_need_size dc_need_size pm_need_size an_need_size cd_need_size ct_need_size, f_need_mates := f_need_mates, d_need_mates := PySem.W.fnOf "need_mates" "need_mates" (defArgs s_need_mates) (defBody s_need_mates) (defScope s_need_mates) .none kV_need_mates dc_need_mates pm_need_mates an_need_mates cd_need_mates ct_need_mates, f_need_orders := f_need_orders, d_need_orders := PySem.W.fnOf "need_orders" "need_orders" (defArgs s_need_orders) (defBody s_need_orders) (defScope s_need_orders) .none kV_need_orders dc_need_orders pm_need_orders an_need_orders cd_need_orders ct_need_orders, f_need_whole := f_need_whole, d_need_whole := PySem.W.fnOf "need_whole" "need_whole" (defArgs s_need_whole) (defBody s_need_whole) (defScope s_need_whole) .none kV_need_whole dc_need_whole pm_need_whole an_need_whole cd_need_whole ct_need_whole, f_law_pen := f_law_pen, d_law_pen := PySem.W.fnOf "_law_pen" "_law_pen" (defArgs s_law_pen) (defBody s_law_pen) (defScope s_law_pen) .none kV_law_pen dc_law_pen pm_law_pen an_law_pen cd_law_pen ct_law_pen, f_law_draw := f_law_draw, d_law_draw := PySem.W.fnOf "_law_draw" "_law_draw" (defArgs s_law_draw) (defBody s_law_draw) (defScope s_law_draw) .none kV_law_draw dc_law_draw pm_law_draw an_law_draw cd_law_draw ct_law_draw, f_law_pick := f_law_pick, d_law_pick := PySem.W.fnOf "_law_pick" "_law_pick" (defArgs s_law_pick) (defBody s_law_pick) (defScope s_law_pick) .none kV_law_pick dc_law_pick pm_law_pick an_law_pick cd_law_pick ct_law_pick, f_law_joined := f_law_joined, d_law_joined := PySem.W.fnOf "_law_joined" "_law_joined" (defArgs s_law_joined) (defBody s_law_joined) (defScope s_law_joined) .none kV_law_joined dc_law_joined pm_law_joined an_law_joined cd_law_joined ct_law_joined, f_law_glued := f_law_glued, d_law_glued := PySem.W.fnOf "_law_glued" "_law_glued" (defArgs s_law_glued) (defBody s_law_glued) (defScope s_law_glued) .none kV_law_glued dc_law_glued pm_law_glued an_law_glued cd_law_glued ct_law_glued, f_law_next := f_law_next, d_law_next := PySem.W.fnOf "_law_next" "_law_next" (defArgs s_law_next) (defBody s_law_next) (defScope s_law_next) .none kV_law_next dc_law_next pm_law_next an_law_next cd_law_next ct_law_next, f_law_lots := f_law_lots, d_law_lots := PySem.W.fnOf "_law_lots" "_law_lots" (defArgs s_law_lots) (defBody s_law_lots) (defScope s_law_lots) .none kV_law_lots dc_law_lots pm_law_lots an_law_lots cd_law_lots ct_law_lots, f_law_marked := f_law_marked, d_law_marked := PySem.W.fnOf "_law_marked" "_law_marked" (defArgs s_law_marked) (defBody s_law_marked) (defScope s_law_marked) .none kV_law_marked dc_law_marked pm_law_marked an_law_marked cd_law_marked ct_law_marked, f_law_drawn := f_law_drawn, d_law_drawn := PySem.W.fnOf "_law_drawn" "_law_drawn" (defArgs s_law_drawn) (defBody s_law_drawn) (defScope s_law_drawn) .none kV_law_drawn dc_law_drawn pm_law_drawn an_law_drawn cd_law_drawn ct_law_drawn, f_law_heard := f_law_heard, d_law_heard := PySem.W.fnOf "_law_heard" "_law_heard" (defArgs s_law_heard) (defBody s_law_heard) (defScope s_law_heard) .none kV_law_heard dc_law_heard pm_law_heard an_law_heard cd_law_heard ct_law_heard, f_law_made_right := f_law_made_right, d_law_made_right := PySem.W.fnOf "_law_made_right" "_law_made_right" (defArgs s_law_made_right) (defBody s_law_made_right) (defScope s_law_made_right) .none kV_law_made_right dc_law_made_right pm_law_made_right an_law_made_right cd_law_made_right ct_law_made_right, f_law := f_law, d_law := PySem.W.fnOf "law" "law" (defArgs s_law) (defBody s_law) (defScope s_law) .none kV_law dc_law pm_law an_law (.ref cd) ct_law, f_Plan_init := f_Plan_init, d_Plan_init := PySem.W.fnOf "__init__" "Plan.__init__" (defArgs s_Plan_init) (defBody s_Plan_init) (defScope s_Plan_init) .none kV_Plan_init dc_Plan_init pm_Plan_init an_Plan_init cd_Plan_init ct_Plan_init, f_Plan_of := f_Plan_of, d_Plan_of := PySem.W.fnOf "of" "Plan.of" (defArgs s_Plan_of) (defBody s_Plan_of) (defScope s_Plan_of) .none kV_Plan_of dc_Plan_of pm_Plan_of an_Plan_of cd_Plan_of ct_Plan_of, f_Plan_is_mirror := f_Plan_is_mirror, d_Plan_is_mirror := PySem.W.fnOf "is_mirror" "Plan.is_mirror" (defArgs s_Plan_is_mirror) (defBody s_Plan_is_mirror) (defScope s_Plan_is_mirror) .none kV_Plan_is_mirror dc_Plan_is_mirror pm_Plan_is_mirror an_Plan_is_mirror cd_Plan_is_mirror ct_Plan_is_mirror, f_Plan_is_border := f_Plan_is_border, d_Plan_is_border := PySem.W.fnOf "is_border" "Plan.is_border" (defArgs s_Plan_is_border) (defBody s_Plan_is_border) (defScope s_Plan_is_border) .none kV_Plan_is_border dc_Plan_is_border pm_Plan_is_border an_Plan_is_border cd_Plan_is_border ct_Plan_is_border, f_Plan_across := f_Plan_across, d_Plan_across := PySem.W.fnOf "across" "Plan.across" (defArgs s_Plan_across) (defBody s_Plan_across) (defScope s_Plan_across) .none kV_Plan_across dc_Plan_across pm_Plan_across an_Plan_across cd_Plan_across ct_Plan_across, f_Plan_len := f_Plan_len, d_Plan_len := PySem.W.fnOf "__len__" "Plan.__len__" (defArgs s_Plan_len) (defBody s_Plan_len) (defScope s_Plan_len) .none kV_Plan_len dc_Plan_len pm_Plan_len an_Plan_len cd_Plan_len ct_Plan_len, f_Plan_eq := f_Plan_eq, d_Plan_eq := PySem.W.fnOf "__eq__" "Plan.__eq__" (defArgs s_Plan_eq) (defBody s_Plan_eq) (defScope s_Plan_eq) .none kV_Plan_eq dc_Plan_eq pm_Plan_eq an_Plan_eq cd_Plan_eq ct_Plan_eq, f_BadValue_init := f_BadValue_init, d_BadValue_init := PySem.W.fnOf "__init__" "BadValue.__init__" (defArgs s_BadValue_init) (defBody s_BadValue_init) (defScope s_BadValue_init) .none kV_BadValue_init dc_BadValue_init pm_BadValue_init an_BadValue_init cd_BadValue_init ct_BadValue_init, f_BadPlan_init := f_BadPlan_init, d_BadPlan_init := PySem.W.fnOf "__init__" "BadPlan.__init__" (defArgs s_BadPlan_init) (defBody s_BadPlan_init) (defScope s_BadPlan_init) .none kV_BadPlan_init dc_BadPlan_init pm_BadPlan_init an_BadPlan_init cd_BadPlan_init ct_BadPlan_init, c_PlanError := C_PlanError, c_BadValue := C_BadValue, c_BadNumber := C_BadNumber, c_BadPlan := C_BadPlan, c_BadPaper := C_BadPaper, c_BadText := C_BadText, c_BadCommand := C_BadCommand, c_Misfit := C_Misfit, c_NoTurn := C_NoTurn, c_Nothing := C_Nothing, c_TooMany := C_TooMany, c_Plan := C_Plan, cd_law := cd, tb_law := tb, m_PE := .type "type", m_Plan := .type "type", p_of := p_of, tk_MT := tk_MT, tk_MO := tk_MO }
  have T : LamT K mg A := { F_need_row := fun_mk (st := s_need_row) l_need_row c_need_row k_need_row, F_next_in := fun_mk (st := s_next_in) l_next_in c_next_in k_next_in, F_prev_in := fun_mk (st := s_prev_in) l_prev_in c_prev_in k_prev_in, F_need_size := fun_mk (st := s_need_size) l_need_size c_need_size k_need_size, F_need_mates := fun_mk (st := s_need_mates) l_need_mates c_need_mates k_need_mates, F_need_orders := fun_mk (st := s_need_orders) l_need_orders c_need_orders k_need_orders, F_need_whole := fun_mk (st := s_need_whole) l_need_whole c_need_whole k_need_whole, F_law_pen := fun_mk (st := s_law_pen) l_law_pen c_law_pen k_law_pen, F_law_draw := fun_mk (st := s_law_draw) l_law_draw c_law_draw k_law_draw, F_law_pick := fun_mk (st := s_law_pick) l_law_pick c_law_pick k_law_pick, F_law_joined := fun_mk (st := s_law_joined) l_law_joined c_law_joined k_law_joined, F_law_glued := fun_mk (st := s_law_glued) l_law_glued c_law_glued k_law_glued, F_law_next := fun_mk (st := s_law_next) l_law_next c_law_next k_law_next, F_law_lots := fun_mk (st := s_law_lots) l_law_lots c_law_lots k_law_lots, F_law_marked := fun_mk (st := s_law_marked) l_law_marked c_law_marked k_law_marked, F_law_drawn := fun_mk (st := s_law_drawn) l_law_drawn c_law_drawn k_law_drawn, F_law_heard := fun_mk (st := s_law_heard) l_law_heard c_law_heard k_law_heard, F_law_made_right := fun_mk (st := s_law_made_right) l_law_made_right c_law_made_right k_law_made_right, F_Plan_init := fun_mk (st := s_Plan_init) l_Plan_init c_Plan_init k_Plan_init, F_Plan_of := fun_mk (st := s_Plan_of) l_Plan_of c_Plan_of k_Plan_of, F_Plan_is_mirror := fun_mk (st := s_Plan_is_mirror) l_Plan_is_mirror c_Plan_is_mirror k_Plan_is_mirror, F_Plan_is_border := fun_mk (st := s_Plan_is_border) l_Plan_is_border c_Plan_is_border k_Plan_is_border, F_Plan_across := fun_mk (st := s_Plan_across) l_Plan_across c_Plan_across k_Plan_across, F_Plan_len := fun_mk (st := s_Plan_len) l_Plan_len c_Plan_len k_Plan_len, F_Plan_eq := fun_mk (st := s_Plan_eq) l_Plan_eq c_Plan_eq k_Plan_eq, F_BadValue_init := fun_mk (st := s_BadValue_init) l_BadValue_init c_BadValue_init k_BadValue_init, F_BadPlan_init := fun_mk (st := s_BadPlan_init) l_BadPlan_init c_BadPlan_init k_BadPlan_init, g_need_row := PySem.W.mg_of X G a_need_row, g_next_in := PySem.W.mg_of X G a_next_in, g_prev_in := PySem.W.mg_of X G a_prev_in, g_need_size := PySem.W.mg_of X G a_need_size, g_need_mates := PySem.W.mg_of X G a_need_mates, g_need_orders := PySem.W.mg_of X G a_need_orders, g_need_whole := PySem.W.mg_of X G a_need_whole, g_law_pen := PySem.W.mg_of X G a_law_pen, g_law_draw := PySem.W.mg_of X G a_law_draw, g_law_pick := PySem.W.mg_of X G a_law_pick, g_law_joined := PySem.W.mg_of X G a_law_joined, g_law_glued := PySem.W.mg_of X G a_law_glued, g_law_next := PySem.W.mg_of X G a_law_next, g_law_lots := PySem.W.mg_of X G a_law_lots, g_law_marked := PySem.W.mg_of X G a_law_marked, g_law_drawn := PySem.W.mg_of X G a_law_drawn, g_law_heard := PySem.W.mg_of X G a_law_heard, g_law_made_right := PySem.W.mg_of X G a_law_made_right, n_isinstance := PySem.W.mg_none_of X G z_isinstance, n_int := PySem.W.mg_none_of X G z_int, n_bool := PySem.W.mg_none_of X G z_bool, n_list := PySem.W.mg_none_of X G z_list, n_tuple := PySem.W.mg_none_of X G z_tuple, n_len := PySem.W.mg_none_of X G z_len, n_all := PySem.W.mg_none_of X G z_all, n_range := PySem.W.mg_none_of X G z_range, n_enumerate := PySem.W.mg_none_of X G z_enumerate, n_abs := PySem.W.mg_none_of X G z_abs, n_repr := PySem.W.mg_none_of X G z_repr, n_min := PySem.W.mg_none_of X G z_min, n_sorted := PySem.W.mg_none_of X G z_sorted, n_set := PySem.W.mg_none_of X G z_set, n_dict := PySem.W.mg_none_of X G z_dict, n_zip := PySem.W.mg_none_of X G z_zip, g_PlanError := PySem.W.mg_of X G aC_PlanError, g_BadValue := PySem.W.mg_of X G aC_BadValue, g_BadNumber := PySem.W.mg_of X G aC_BadNumber, g_BadPlan := PySem.W.mg_of X G aC_BadPlan, g_BadPaper := PySem.W.mg_of X G aC_BadPaper, g_BadText := PySem.W.mg_of X G aC_BadText, g_BadCommand := PySem.W.mg_of X G aC_BadCommand, g_Misfit := PySem.W.mg_of X G aC_Misfit, g_NoTurn := PySem.W.mg_of X G aC_NoTurn, g_Nothing := PySem.W.mg_of X G aC_Nothing, g_TooMany := PySem.W.mg_of X G aC_TooMany, g_Plan := PySem.W.mg_of X G aC_Plan, m_is_mirror := ⟨m_Plan_is_mirror, fn_Plan_is_mirror, k_Plan_is_mirror⟩, m_is_border := ⟨m_Plan_is_border, fn_Plan_is_border, k_Plan_is_border⟩, m_across := ⟨m_Plan_across, fn_Plan_across, k_Plan_across⟩, i_Plan := ⟨⟨pgM, hdM, poM, saM⟩, haM, hnO, tkO, mrM, kI, kB, kL, kT, (fm_cons kC_NoneType (fm_cons kC_bool (fm_cons kC_int (fm_cons kC_str (fm_cons kC_list (fm_cons kC_tuple (fm_cons kC_dict fm_nil)))))))⟩, mk_Plan := ⟨mkM, m_Plan_init, fn_Plan_init, kpM⟩, cr_Plan := ⟨rdM, gaM⟩, cm_of := ⟨cs, ⟨_, cr⟩, cf⟩, l_Plan := m_Plan_len, fn_Plan_len := fn_Plan_len, e_Plan := m_Plan_eq, fn_Plan_eq := fn_Plan_eq, na_mates := na_mates, na_bent := na_bent, na_orders := na_orders, na_parts := na_parts, g_MOST_TRIANGLES := PySem.W.mg_of X G hm_MOST_TRIANGLES, g_MOST_ORDER := PySem.W.mg_of X G hm_MOST_ORDER, ne_Plan := ⟨⟨_, _, _, _, _, _, _, _, _, _, _, _, _, _, _, _, .none, _, _, _, xM, l_Plan_eq, noM, neM, nnM⟩⟩, nf_Plan := nfM, nf_list := nfL, nf_tuple := nfT, nf_none := nfN, base := ⟨pr, pg, pa⟩, o_BadValue := ⟨⟨_, _, _, _, _, _, _, _, _, _, _, _, _, _, _, xL_BadValue, rf_BadValue⟩, sa_BadValue, eC_BadValue, tC_BadValue, kC_BadValue⟩, i_BadValue := iI_BadValue, t_BadValue := tI_BadValue, n_BadValue_part := np_BadValue_part, xf_BadValue := ⟨xga_BadValue, xgg_BadValue, eC_BadValue, xhd_BadValue⟩, ec_BadValue := ⟨xga_BadValue, xgg_BadValue, eC_BadValue, xhd_BadValue, eha_BadValue, hnO, tkO, ehm_BadValue⟩, ex_BadValue := ex_BadValue, k_BadValue_BadPlan := kk_BadValue_BadPlan, k_BadValue_BadText := kk_BadValue_BadText, k_BadValue_BadCommand := kk_BadValue_BadCommand, k_BadValue_NoTurn := kk_BadValue_NoTurn, k_BadValue_TooMany := kk_BadValue_TooMany, k_BadValue_BadValue := kk_BadValue_BadValue, o_BadPlan := ⟨⟨_, _, _, _, _, _, _, _, _, _, _, _, _, _, _, xL_BadPlan, rf_BadPlan⟩, sa_BadPlan, eC_BadPlan, tC_BadPlan, kC_BadPlan⟩, i_BadPlan := iI_BadPlan, t_BadPlan := tI_BadPlan, n_BadPlan_reason := np_BadPlan_reason, n_BadPlan_place := np_BadPlan_place, xf_BadPlan := ⟨xga_BadPlan, xgg_BadPlan, eC_BadPlan, xhd_BadPlan⟩, ec_BadPlan := ⟨xga_BadPlan, xgg_BadPlan, eC_BadPlan, xhd_BadPlan, eha_BadPlan, hnO, tkO, ehm_BadPlan⟩, ex_BadPlan := ex_BadPlan, k_BadPlan_BadPlan := kk_BadPlan_BadPlan, cdv_law := by show (K.lookup f_law).map codeOf = _; rw [l_law]; rfl, cv_MOST := ⟨_, cvM, ⟨_, rfl⟩⟩ }
  refine ⟨PySem.W.fnOf "law" "law" (defArgs s_law) (defBody s_law) (defScope s_law) .none kV_law dc_law pm_law an_law (.ref cd) ct_law, [(cd, tb)], spLaw K A, fun p hp => ?_, fun p hp => ?_, fun p hp => ?_, fun s u => .of_eq rfl, fun H a ns _ _ hH hS => ⟨a, ns, rfl, hS, fun p hp => ?_, fun _ => rfl⟩, fun base _ _ TB => ok_law (A := A) T (TB (cd, tb) (List.mem_singleton.mpr rfl)) (fun_mk (st := s_law) l_law c_law k_law)⟩
  · rw [List.mem_singleton.mp hp]
    exact hT
  · rw [List.mem_singleton.mp hp]
    exact nT
  · rw [List.mem_singleton.mp hp]
    exact PySem.W.codeHd_of_K X cH
  · rw [List.mem_singleton.mp hp]
    exact LamX.TabS.nil (hH (cd, tb) (List.mem_singleton.mpr rfl))
theorem walk_ofX {l : PySem.W.OpenLaw} {n k : Nat} {q : Program} {loose : List Str} {XP : (Str → Option Value) → Heap → Prop} {YP : World → Heap → Prop} {d : DefRec} {K : Params → PySem.W.Frag} {CX : World → CXT} {x : Str}
    (hn : l.most = some n) (hn2 : n ≤ sizeLine) (hdf : d.params.defaults = []) (hr : RmG k callerA) (hY : ∀ (w : World) (h : Heap), YP w h → (K w.params).In h)
    (F : ∀ (w : World) (mg : Str → Option Value) (fa : Addr) (h : Heap), XP mg h → YP w h → (K w.params).In h → h.Ns mainGlobals mg → mg d.name = some (.ref fa) → LawAtG l w (K w.params) (CX w) k n x mg fa h)
    (hCX : ∀ (w : World) (H : Hp) (s : Shared) (e : Value) (s' : Shared), CX w [] H s (fun _ _ _ => False) e s' → False) :
    PySem.W.WalkO q loose XP YP l.row.toRowW d [] (fun f vs => PySem.call f vs) := by
  refine Att.attach_callB hn hdf fun w s₀ s₁ mg mb fa o pm cd doc a vs ns G Y ho hd hcd hmg hobj hints hlen hbits hg => ?_
  have KX := hY w _ Y
  obtain ⟨fd, cs, sp, hT, nT, C, hb, hsp, hF⟩ := F w mg fa _ G.X Y KX G.T.g hmg
  exact law_callG KX G.T.g G.T.b G.T.builtins G.T.nolimit hg hT nT C G.T.bmain hobj hints (Nat.le_trans hlen hn2) hr hF hb (fun H hH hS => hsp H a ns hlen hbits hH hS) fun H e s' => hCX w H s₁ e s'
end KP


set_option Elab.async false
set_option linter.all false
set_option maxRecDepth 100000
open PySem PySem.W PyProof.Rows in
set_option maxRecDepth 100000 in
set_option maxHeartbeats 0 in
theorem PySem.Challenge.cw_otherdiagonal_k00_plans_made_and_compare_holds : PySem.Challenge.rw_otherdiagonal_k00_plans_made_and_compare.Holds := by
  w_on; o_law; k_head; (case hw => w_witness2)
  k_fill
  refine KP.walk_ofX (l := PySem.Challenge.rw_otherdiagonal_k00_plans_made_and_compare) (n := 63) (k := 12) (CX := fun _ => L2.CX0) (x := "script") rfl (by decide) rfl ⟨⟨rfl, by decide, by decide⟩, rfl⟩ (fun w h Y => PySem.W.km_in_of Y) ?F (fun _ _ _ _ _ z => z)
  case F =>
    intro w mg fa h XX Y KX G hmg
    refine' KP.all_mk KX G hmg ?aC_Plan ?aC_PlanError ?aC_BadValue ?aC_BadNumber ?aC_BadPlan ?aC_BadPaper ?aC_BadText ?aC_BadCommand ?aC_Misfit ?aC_NoTurn ?aC_Nothing ?aC_TooMany ?a_need_row ?l_need_row ?c_need_row ?k_need_row ?a_next_in ?l_next_in ?c_next_in ?k_next_in ?a_prev_in ?l_prev_in ?c_prev_in ?k_prev_in ?a_need_size ?l_need_size ?c_need_size ?k_need_size ?a_need_mates ?l_need_mates ?c_need_mates ?k_need_mates ?a_need_orders ?l_need_orders ?c_need_orders ?k_need_orders ?a_need_whole ?l_need_whole ?c_need_whole ?k_need_whole ?a_law_pen ?l_law_pen ?c_law_pen ?k_law_pen ?a_law_draw ?l_law_draw ?c_law_draw ?k_law_draw ?a_law_pick ?l_law_pick ?c_law_pick ?k_law_pick ?a_law_joined ?l_law_joined ?c_law_joined ?k_law_joined ?a_law_glued ?l_law_glued ?c_law_glued ?k_law_glued ?a_law_next ?l_law_next ?c_law_next ?k_law_next ?a_law_lots ?l_law_lots ?c_law_lots ?k_law_lots ?a_law_marked ?l_law_marked ?c_law_marked ?k_law_marked ?a_law_drawn ?l_law_drawn ?c_law_drawn ?k_law_drawn ?a_law_heard ?l_law_heard ?c_law_heard ?k_law_heard ?a_law_made_right ?l_law_made_right ?c_law_made_right ?k_law_made_right ?a_law ?l_law ?c_law ?k_law ?m_Plan_init ?fn_Plan_init ?l_Plan_init ?c_Plan_init ?k_Plan_init ?cs ?cr ?cf ?l_Plan_of ?c_Plan_of ?k_Plan_of ?m_Plan_is_mirror ?fn_Plan_is_mirror ?l_Plan_is_mirror ?c_Plan_is_mirror ?k_Plan_is_mirror ?m_Plan_is_border ?fn_Plan_is_border ?l_Plan_is_border ?c_Plan_is_border ?k_Plan_is_border ?m_Plan_across ?fn_Plan_across ?l_Plan_across ?c_Plan_across ?k_Plan_across ?m_Plan_len ?fn_Plan_len ?l_Plan_len ?c_Plan_len ?k_Plan_len ?m_Plan_eq ?fn_Plan_eq ?l_Plan_eq ?c_Plan_eq ?k_Plan_eq ?pgM ?hdM ?poM ?saM ?haM ?hnO ?tkO ?mrM ?mkM ?kpM ?rdM ?gaM ?xM ?noM ?neM ?nnM ?nfM ?nfL ?nfT ?nfN ?cvM ?hm_MOST_TRIANGLES ?hm_MOST_ORDER ?na_mates ?na_bent ?na_orders ?na_parts ?kI ?kB ?kL ?kT ?kC_NoneType ?kC_bool ?kC_int ?kC_str ?kC_list ?kC_tuple ?kC_dict ?xL_BadValue ?rf_BadValue ?sa_BadValue ?eC_BadValue ?tC_BadValue ?kC_BadValue ?iI_BadValue ?tI_BadValue ?xga_BadValue ?xgg_BadValue ?xhd_BadValue ?eha_BadValue ?ehm_BadValue ?np_BadValue_part ?l_BadValue_init ?c_BadValue_init ?k_BadValue_init ?ex_BadValue ?kk_BadValue_BadPlan ?kk_BadValue_BadText ?kk_BadValue_BadCommand ?kk_BadValue_NoTurn ?kk_BadValue_TooMany ?kk_BadValue_BadValue ?xL_BadPlan ?rf_BadPlan ?sa_BadPlan ?eC_BadPlan ?tC_BadPlan ?kC_BadPlan ?iI_BadPlan ?tI_BadPlan ?xga_BadPlan ?xgg_BadPlan ?xhd_BadPlan ?eha_BadPlan ?ehm_BadPlan ?np_BadPlan_reason ?np_BadPlan_place ?l_BadPlan_init ?c_BadPlan_init ?k_BadPlan_init ?ex_BadPlan ?kk_BadPlan_BadPlan ?pr ?pg ?pa (PySem.W.km_tabs_of Y _ (List.mem_cons_self ..)) ?nT ?cH ?z_isinstance ?z_int ?z_bool ?z_list ?z_tuple ?z_len ?z_all ?z_range ?z_enumerate ?z_abs ?z_repr ?z_min ?z_sorted ?z_set ?z_dict ?z_zip
    (case aC_Plan => k_is)
    (case aC_PlanError => k_is)
    (case aC_BadValue => k_is)
    (case aC_BadNumber => k_is)
    (case aC_BadPlan => k_is)
    (case aC_BadPaper => k_is)
    (case aC_BadText => k_is)
    (case aC_BadCommand => k_is)
    (case aC_Misfit => k_is)
    (case aC_NoTurn => k_is)
    (case aC_Nothing => k_is)
    (case aC_TooMany => k_is)
    (case a_need_row => k_is)
    (case l_need_row => k_is)
    (case c_need_row => k_is)
    (case k_need_row => k_is)
    (case a_next_in => k_is)
    (case l_next_in => k_is)
    (case c_next_in => k_is)
    (case k_next_in => k_is)
    (case a_prev_in => k_is)
    (case l_prev_in => k_is)
    (case c_prev_in => k_is)
    (case k_prev_in => k_is)
    (case a_need_size => k_is)
    (case l_need_size => k_is)
    (case c_need_size => k_is)
    (case k_need_size => k_is)
    (case a_need_mates => k_is)
    (case l_need_mates => k_is)
    (case c_need_mates => k_is)
    (case k_need_mates => k_is)
    (case a_need_orders => k_is)
    (case l_need_orders => k_is)
    (case c_need_orders => k_is)
    (case k_need_orders => k_is)
    (case a_need_whole => k_is)
    (case l_need_whole => k_is)
    (case c_need_whole => k_is)
    (case k_need_whole => k_is)
    (case a_law_pen => k_is)
    (case l_law_pen => k_is)
    (case c_law_pen => k_is)
    (case k_law_pen => k_is)
    (case a_law_draw => k_is)
    (case l_law_draw => k_is)
    (case c_law_draw => k_is)
    (case k_law_draw => k_is)
    (case a_law_pick => k_is)
    (case l_law_pick => k_is)
    (case c_law_pick => k_is)
    (case k_law_pick => k_is)
    (case a_law_joined => k_is)
    (case l_law_joined => k_is)
    (case c_law_joined => k_is)
    (case k_law_joined => k_is)
    (case a_law_glued => k_is)
    (case l_law_glued => k_is)
    (case c_law_glued => k_is)
    (case k_law_glued => k_is)
    (case a_law_next => k_is)
    (case l_law_next => k_is)
    (case c_law_next => k_is)
    (case k_law_next => k_is)
    (case a_law_lots => k_is)
    (case l_law_lots => k_is)
    (case c_law_lots => k_is)
    (case k_law_lots => k_is)
    (case a_law_marked => k_is)
    (case l_law_marked => k_is)
    (case c_law_marked => k_is)
    (case k_law_marked => k_is)
    (case a_law_drawn => k_is)
    (case l_law_drawn => k_is)
    (case c_law_drawn => k_is)
    (case k_law_drawn => k_is)
    (case a_law_heard => k_is)
    (case l_law_heard => k_is)
    (case c_law_heard => k_is)
    (case k_law_heard => k_is)
    (case a_law_made_right => k_is)
    (case l_law_made_right => k_is)
    (case c_law_made_right => k_is)
    (case k_law_made_right => k_is)
    (case a_law => k_is)
    (case l_law => k_is)
    (case c_law => k_is)
    (case k_law => k_is)
    (case m_Plan_init => k_is)
    (case fn_Plan_init => k_is)
    (case l_Plan_init => k_is)
    (case c_Plan_init => k_is)
    (case k_Plan_init => k_is)
    (case cs => k_is)
    (case cr => k_is)
    (case cf => k_is)
    (case l_Plan_of => k_is)
    (case c_Plan_of => k_is)
    (case k_Plan_of => k_is)
    (case m_Plan_is_mirror => k_is)
    (case fn_Plan_is_mirror => k_is)
    (case l_Plan_is_mirror => k_is)
    (case c_Plan_is_mirror => k_is)
    (case k_Plan_is_mirror => k_is)
    (case m_Plan_is_border => k_is)
    (case fn_Plan_is_border => k_is)
    (case l_Plan_is_border => k_is)
    (case c_Plan_is_border => k_is)
    (case k_Plan_is_border => k_is)
    (case m_Plan_across => k_is)
    (case fn_Plan_across => k_is)
    (case l_Plan_across => k_is)
    (case c_Plan_across => k_is)
    (case k_Plan_across => k_is)
    (case m_Plan_len => k_is)
    (case fn_Plan_len => k_is)
    (case l_Plan_len => k_is)
    (case c_Plan_len => k_is)
    (case k_Plan_len => k_is)
    (case m_Plan_eq => k_is)
    (case fn_Plan_eq => k_is)
    (case l_Plan_eq => k_is)
    (case c_Plan_eq => k_is)
    (case k_Plan_eq => k_is)
    (case pgM => k_is)
    (case hdM => k_is)
    (case poM => k_is)
    (case saM => k_is)
    (case haM => k_is)
    (case hnO => k_is)
    (case tkO => k_is)
    (case mrM => k_is)
    (case mkM => k_is)
    (case kpM => k_is)
    (case rdM => k_is)
    (case gaM => k_is)
    (case xM => k_is)
    (case noM => first | kernel_rfl | rfl | decide +kernel)
    (case neM => k_is)
    (case nnM => k_is)
    (case nfM => k_is)
    (case nfL => k_is)
    (case nfT => k_is)
    (case nfN => k_is)
    (case cvM => k_is)
    (case hm_MOST_TRIANGLES => k_is)
    (case hm_MOST_ORDER => k_is)
    (case na_mates => k_is)
    (case na_bent => k_is)
    (case na_orders => k_is)
    (case na_parts => k_is)
    (case kI => first | kernel_rfl | rfl | decide +kernel)
    (case kB => first | kernel_rfl | rfl | decide +kernel)
    (case kL => first | kernel_rfl | rfl | decide +kernel)
    (case kT => first | kernel_rfl | rfl | decide +kernel)
    (case kC_NoneType => first | kernel_rfl | rfl | decide +kernel)
    (case kC_bool => first | kernel_rfl | rfl | decide +kernel)
    (case kC_int => first | kernel_rfl | rfl | decide +kernel)
    (case kC_str => first | kernel_rfl | rfl | decide +kernel)
    (case kC_list => first | kernel_rfl | rfl | decide +kernel)
    (case kC_tuple => first | kernel_rfl | rfl | decide +kernel)
    (case kC_dict => first | kernel_rfl | rfl | decide +kernel)
    (case xL_BadValue => k_is)
    (case rf_BadValue => decide +kernel)
    (case sa_BadValue => k_is)
    (case eC_BadValue => k_is)
    (case tC_BadValue => k_is)
    (case kC_BadValue => k_is)
    (case iI_BadValue => k_is)
    (case tI_BadValue => k_is)
    (case xga_BadValue => k_is)
    (case xgg_BadValue => k_is)
    (case xhd_BadValue => k_is)
    (case eha_BadValue => k_is)
    (case ehm_BadValue => k_is)
    (case np_BadValue_part => k_is)
    (case l_BadValue_init => k_is)
    (case c_BadValue_init => k_is)
    (case k_BadValue_init => k_is)
    (case ex_BadValue => first | kernel_rfl | rfl | decide +kernel)
    (case kk_BadValue_BadPlan => first | kernel_rfl | rfl | decide +kernel)
    (case kk_BadValue_BadText => first | kernel_rfl | rfl | decide +kernel)
    (case kk_BadValue_BadCommand => first | kernel_rfl | rfl | decide +kernel)
    (case kk_BadValue_NoTurn => first | kernel_rfl | rfl | decide +kernel)
    (case kk_BadValue_TooMany => first | kernel_rfl | rfl | decide +kernel)
    (case kk_BadValue_BadValue => first | kernel_rfl | rfl | decide +kernel)
    (case xL_BadPlan => k_is)
    (case rf_BadPlan => decide +kernel)
    (case sa_BadPlan => k_is)
    (case eC_BadPlan => k_is)
    (case tC_BadPlan => k_is)
    (case kC_BadPlan => k_is)
    (case iI_BadPlan => k_is)
    (case tI_BadPlan => k_is)
    (case xga_BadPlan => k_is)
    (case xgg_BadPlan => k_is)
    (case xhd_BadPlan => k_is)
    (case eha_BadPlan => k_is)
    (case ehm_BadPlan => k_is)
    (case np_BadPlan_reason => k_is)
    (case np_BadPlan_place => k_is)
    (case l_BadPlan_init => k_is)
    (case c_BadPlan_init => k_is)
    (case k_BadPlan_init => k_is)
    (case ex_BadPlan => first | kernel_rfl | rfl | decide +kernel)
    (case kk_BadPlan_BadPlan => first | kernel_rfl | rfl | decide +kernel)
    (case pr => k_is)
    (case pg => k_is)
    (case pa => k_is)
    (case nT => first | kernel_rfl | rfl | decide +kernel)
    (case cH => first | kernel_rfl | rfl | decide +kernel)
    (case z_isinstance => k_is)
    (case z_int => k_is)
    (case z_bool => k_is)
    (case z_list => k_is)
    (case z_tuple => k_is)
    (case z_len => k_is)
    (case z_all => k_is)
    (case z_range => k_is)
    (case z_enumerate => k_is)
    (case z_abs => k_is)
    (case z_repr => k_is)
    (case z_min => k_is)
    (case z_sorted => k_is)
    (case z_set => k_is)
    (case z_dict => k_is)
    (case z_zip => k_is)


