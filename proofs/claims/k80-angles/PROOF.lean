import PyProof.Rows.All
import Wide.All
import OpenK.AllK
import Wide.FinOn
import PyProof.EqAt
import PyProof.EqKinds
import PyProof.TupleCall
import HandS.ForExc
import HandS.Lambda
import HandS.EndTab
import HandS.HeadWalk
import HandS.TryMany
import HandS.ExcInit
import HandS.ExcField
import HandS.ClsMeth
import HandS.IsInst
import HandS.Wide
import HandS.Gcd
import HandS.Style
import PySem.Challenge.RW_otherdiagonal_k80_angles_added_and_compa
import HandS.ForMost
set_option Elab.async false
set_option linter.all false
set_option maxRecDepth 100000
set_option maxHeartbeats 2000000
/-! GA: what the hand layer lacks for laws that show nested data by repr, walk a list or a tuple, and name an own base class in __init__. -/
namespace OG
open PySem PySem.Spec PyProof.Rows L2

/-! ### room with known guards -/
structure RmG (k : Nat) (A : Around) : Prop where
  rm : Room k A
  gd : A.guards = some []
theorem RmG.mono {j k : Nat} {A : Around} (r : RmG k A) (h : j ≤ k) : RmG j A := ⟨r.rm.mono h, r.gd⟩
theorem RmG.deeper {k : Nat} {A : Around} (r : RmG (k + 1) A) (env : Env) : RmG k (A.deeper env) := ⟨r.rm.deeper env, r.gd⟩

/-- a def's promise, where nothing is being shown around the call -/
structure FnG (P : Program) (w : World) (K : PySem.W.Frag) (mg : Str → Option Value) (base : Heap) (CX : CXT) (k : Nat) (f : Addr) (fd : FuncData) (ps : List Str) (sp : Sp) : Prop where
  len : ∀ vs H Q E, sp vs H Q E → vs.length = ps.length
  run : ∀ (A : Around) (outer : List Env) (s : Shared) (H : Hp) (args : Args) (us : List Value) (vs : List V) (Q : VK) (E : XK),
    RmG k A → Env0 P w K mg base A outer s H → BindsTo s fd args (ps.zip us) → Vals vs us → sp vs H Q E →
    codeAny (model P w) A (.call (.ref f) args) (CR CX outer P w H s Q E) s

section
variable {P : Program} {w : World} {K : PySem.W.Frag} {mg : Str → Option Value} {base : Heap}
/-- a def by its body: the guards are told to the body -/
theorem Fun_okG {CX : CXT} {x qual : Str} {st : Stmt} {f : Addr} {fd : FuncData} {N ps : List Str} {k : Nat} {sp : Sp} (F : Fun K x qual st f fd) (S : FnScope N ps (defScope st))
    (len : ∀ vs H Q E, sp vs H Q E → vs.length = ps.length)
    (hbody : ∀ (cdv : Value) (A : Around) (outer : List Env) (s : Shared) (H : Hp) (vs : List V) (Q : VK) (E : XK),
      RmG k (A.deeper (envOfC qual (defScope st) s.heap.objs.size f cdv)) → PySem.W.codeIn K cdv qual = true → (∃ oc od kV doc pm an ct osl, K.lookup f = some ⟨oc, od, .func (PySem.W.fnOf x qual (defArgs st) (defBody st) (defScope st) .none kV doc pm an cdv ct), osl⟩) → sp vs H Q E →
      ∃ t, PSs (cxOf CX P w K mg base N qual (defScope st) f cdv A outer s H E) (defBody st) t ∧ t { nx := fun _ H' => Q .non H', rt := Q } (start N vs) H) :
    FnG P w K mg base CX (k + 1) f fd ps sp := by
  obtain ⟨oc, od, kV, doc, pm, an, cdv, ct, osl, rfl, lk, hcd⟩ := F.ex
  refine ⟨len, fun A outer s H args us vs Q E hr e0 hb r hsp => ?_⟩
  have hl := len _ _ _ _ hsp
  have KX : K.In s.heap := e0.mod.kin.keeps fun b o e => (e0.bs b o e).1
  have lim : s.heap.NoLimit := e0.mod.nolimit.keeps fun b o e => (e0.bs b o e).1
  have hkind : ∀ y ∈ ps.zip us, (defScope st).names.lookup y.1 = some .local ∨ ((defScope st).names.lookup y.1 = some .cell ∧ ((cellsFrom (s.heap.objs.size + 1) (defScope st).names []).lookup y.1).isSome = true) := by
    intro ⟨n, v⟩ hy
    rcases S.par n (List.of_mem_zip hy).1 with q | q
    · exact .inl q
    · exact .inr ⟨q, PySem.W.cellsFrom_some _ _ _ (.inl q)⟩
  refine codeAny_call_function hr.rm.depth (KX _ _ lk) rfl S.co S.gen rfl (PySem.W.codeRec_of KX hcd) (hb _ _ _ _ ?_)
  refine wpAny_newFunctionEnv_cells S.kind hkind fun env he s1 x => ?_
  subst he
  refine ⟨lim.keeps x.toInCall.keep, codeAny_func ?_⟩
  obtain ⟨t, ht, hq⟩ := hbody cdv A outer s H vs Q E (hr.deeper _) hcd ⟨_, _, _, _, _, _, _, _, lk⟩ hsp
  have I := inv_start (CX := CX) (E := E) (f := f) (cd := cdv) (qual := qual) S hr.rm.hd e0 hl r x
  refine wpAny_mono (ht.run [] s1 (start N vs) H _ I hq) (fun fl s' hs => ?_) fun e s' hs => hs
  cases fl with
  | ret u =>
    obtain ⟨v, σ', H', J, rv, q⟩ := hs
    exact ⟨v, H', J.os, J.bare, J.base, J.hok, rv, q⟩
  | next =>
    obtain ⟨σ', H', J, q⟩ := hs
    exact ⟨V.non, H', J.os, J.bare, J.base, J.hok, rfl, q⟩
  | brk =>
    obtain ⟨_, _, _, q⟩ := hs
    exact False.elim q
  | cont =>
    obtain ⟨_, _, _, q⟩ := hs
    exact False.elim q
end

section
variable {X : Cx} {CX : CXT} {k : Nat} {f : Addr} {fd : FuncData} {ps : List Str} {sp : Sp} {dvs : List V} {ds : List Value} {E : XK} {x : Str} {p pos : Pos} {e : Expr} {es : List Expr} {t : TA}
/-- f(e, ..) of such a def -/
theorem pe_callG (F : FnG X.prog X.w X.K X.mg X.base CX k f fd ps sp) (hr : RmG k X.A) (hg : Gl X x) (hm : X.mg x = some (.ref f)) (hk : PySem.W.keepIn X.K (.ref f) = true) (hb : Binds X.K fd ps ds) (hd : Vals dvs ds) (hx : Passes CX X E)
    (ha : PA X (e :: es) t) (hdb : (x == ("__debug__" : Str)) = false := by decide) (he : starEach (e :: es) X.env = (false, eval e X.env) :: starEach es X.env := by rfl) (hpl : (backTo pos (starEach es X.env)).any (·.1) = false := by rfl) :
    PE X (.Call (.Name x p) (e :: es) [] pos) (tCall sp dvs E t) := by
  refine ⟨fun pins s σ H Q I h => ?_⟩
  refine wpAny_Call_Name_kw (ld_glob I hg hm ?_ hdb)
  refine PySem.W.callWith_K (h₀ := X.base) I.ok.mod.kin hk (thn (ha.run pos pins s σ H _ I h) fun us s1 ⟨vs, H1, I1, r, q⟩ => ⟨I1.kIn, ?_⟩) he hpl
  have r2 : Vals (vs ++ dvs) (us ++ ds) := r.append hd
  have hl : (us ++ ds).length = ps.length := by
    rw [← r2.length]
    exact F.len _ _ _ _ q
  refine wpAny_call (codeAny_mono (F.run X.A X.stack s1 H1 ⟨us, []⟩ (us ++ ds) (vs ++ dvs) Q E hr I1.env0 (hb s1 us I1.kIn hl) r2 q) fun r s' hq => ?_)
  cases r with
  | error er => exact hx pins σ H1 s1 er s' I1 hq
  | ok fl =>
    cases fl with
    | ret u => exact I1.after hq
    | next => exact False.elim hq
    | brk => exact False.elim hq
    | cont => exact False.elim hq
end

/-! ### repr of nested data -/
/-- repr(x), x a list or a tuple of data -/
def rRepr (K : PySem.W.Frag) : List V → Hp → VK → Prop := fun xs H Q => ∃ (a : Addr) (d : PyData), xs = [.ref a] ∧ Dp K H (.ref a) d ∧ d.showable = true ∧ d.hasDict = false ∧ d.depth ≤ 64 ∧ d.shown.length ≤ sizeLine ∧ Q (.str d.shown) H
theorem call_repr {X : Cx} (hg : X.A.guards = some []) (hu : X.A.units + 65 < cLine) : CallR X (.builtin "repr") (rRepr X.K) := by
  intro pins s σ H xs us Q I r h
  obtain ⟨a, d, rfl, hd, hs, hn, hdp, hz, q⟩ := h
  obtain ⟨u, rfl, ru⟩ := vals1 r
  obtain rfl : u = Value.ref a := ru
  obtain ⟨as, rd⟩ := Dp.reads I d _ _ hd rfl
  refine repr_of_reads' rd hs (PyData.noDict_hsm hn) hg (by omega) (fun _ _ e => e) (fun h' u tk hk => ?_) hz
  exact ⟨.str d.shown, H, I.kept hk, ⟨_, rfl⟩, q⟩

/-! ### an own base class named in __init__: B.__init__(self, ..) where B has ValueError's -/
structure BaseC (K : PySem.W.Frag) (B : Addr) (mc : Value) : Prop where
  rd : PySem.W.readsIn K B mc = true
  ga : PySem.W.specialIn K (.ref B) "__getattribute__" = some (some (.builtin "type.__getattribute__"))
  at_ : PySem.W.findCls K (.ref B) mc "__init__" = some (.val (.builtin "ValueError.__init__"))
theorem pe_binit {X : Cx} {e : Expr} {es : List Expr} {ta : TA} {p1 p2 pos : Pos} {x : Str} {B : Addr} {mc : Value} {pl : Sem Bool} (T : BaseC X.K B mc) (hg : Gl X x) (hm : X.mg x = some (.ref B)) (ha : PA X (e :: es) ta)
    (hc : eval (.Call (.Attribute (.Name x p1) "__init__" p2) (e :: es) [] pos) X.env = (do
      let ov ← eval (.Name x p1) X.env
      standAt p2.atName
      let (f, first) ← holding [ov] (getMethod ov "__init__" pl)
      callWith pos f first (backTo pos (starEach (e :: es) X.env)) (backToKw pos (keywordEach [] X.env))) := by rfl)
    (hdb : (x == ("__debug__" : Str)) = false := by decide)
    (he : starEach (e :: es) X.env = (false, eval e X.env) :: starEach es X.env := by rfl) (hpl : (backTo pos (starEach es X.env)).any (·.1) = false := by rfl) :
    PE X (.Call (.Attribute (.Name x p1) "__init__" p2) (e :: es) [] pos) (tVeI X.K ta) := by
  refine ⟨fun pins s σ H Q I h => ?_⟩
  refine PySem.W.methodCall_KW (ld_glob I hg hm ?_ hdb) hc
  refine PySem.W.method_cls I.kIn T.ga (PySem.W.cls_value I.kIn T.rd T.at_ (by rfl) ?_)
  show wpAny _ _ (callWith pos (Value.builtin "ValueError.__init__") [] (backTo pos (starEach (e :: es) X.env)) []) _ _ _
  refine PyProof.Rows.callWith_method1 (thn (ha.run pos pins _ σ H _ (I.tok _) h) fun us s1 ⟨vs, H1, I1, r1, a, C, ws, ev, hl, T, ea, q⟩ => ?_) he hpl
  subst ev
  cases r1 with
  | @cons _ u0 _ ur ra rw' =>
    obtain rfl : u0 = Value.ref a := ra
    have hlen : ur.length ≤ sizeLine := by
      rw [← Paired.length rw', sizeLine_eq]
      omega
    exact oinit_ok T I1 ea hlen fun s' J => ⟨.non, H1, J, rfl, q⟩

/-! ### a list or a tuple, walked -/
def SqS (K : PySem.W.Frag) (H : Hp) (a : Addr) (xs : List V) : Prop := SqL K H a xs ∨ SqT K H a xs
def iSeq (K : PySem.W.Frag) (tl : TE) : TI := fun σ H R => tl σ H fun x H1 => ∃ a, x = .ref a ∧ (((∃ xs, SqL K H1 a xs) ∧ R (Itl K a) H1) ∨ ((∃ xs, SqT K H1 a xs) ∧ R (Itt K a) H1))
theorem pi_seq {X : Cx} {tg l : Expr} {tl : TE} (hl : PE X l tl) : PI X tg l (iSeq X.K tl) := by
  refine ⟨fun pins s σ H R I h => ?_⟩
  refine thn (hl.run pins s σ H _ I h) fun v s1 ⟨x, H1, I1, r1, q1⟩ => ?_
  obtain ⟨a, e, q⟩ := q1
  subst e
  cases r1
  have hfp : ∀ b ∈ [s1.heap.objs.size], FpOk X pins H1 b := fun b hb => by
    have e : b = s1.heap.objs.size := by simpa using hb
    subst e
    exact I1.fpOk (Nat.le_refl _) (I1.hok.fresh (Nat.le_refl _))
  rcases q with ⟨⟨xs, hq⟩, q⟩ | ⟨⟨xs, hq⟩, q⟩
  · obtain ⟨its, rv, p, hz⟩ := I1.list hq
    refine wpAny_pyIter_list p.isList ?_
    exact ⟨s1.heap.objs.size, [s1.heap.objs.size], _, _, H1, rfl, I1.kept (t' := s1.toks) fun b o e => Heap.get?_push_of_some _ e, turn_list a _, ⟨_, Heap.get?_push_size _ rfl, rfl, rfl⟩, hfp, q⟩
  · obtain ⟨its, rv, p, hz⟩ := I1.tuple hq
    refine wpAny_pyIter_tuple (show s1.heap.IsTuple a its.toArray from p) ?_
    exact ⟨s1.heap.objs.size, [s1.heap.objs.size], _, _, H1, rfl, I1.kept (t' := s1.toks) fun b o e => Heap.get?_push_of_some _ e, turn_tuple a _, ⟨_, Heap.get?_push_size _ rfl, rfl, rfl⟩, hfp, q⟩
end OG


set_option Elab.async false
set_option linter.all false
set_option maxRecDepth 100000
set_option maxHeartbeats 2000000
/-! GB: several clauses «except X as n», each with its suite. -/
namespace OG
open PySem PySem.Spec PyProof.Rows L2

/-- behind a suite the clause's name is gone -/
def Ends.drop (i : Nat) (D : Ends) : Ends :=
  { nx := fun σ H => D.nx (σ.set i none) H, rt := D.rt, bk := fun σ H => D.bk (σ.set i none) H, ct := fun σ H => D.ct (σ.set i none) H }
/-- the clauses' wishes, one after the other: class, slot of the name, the suite's reading -/
def wNs (K : PySem.W.Frag) (Wout : WX) (D : Ends) : List (Value × Nat × (Addr → Value → Option Addr → TS)) → WX
  | [] => Wout
  | (c, i, ts) :: r => fun cls d σ H => ∃ b, PySem.W.exmOne K cls c = some b ∧ (b = true → ∀ a, H a = none → ts a cls d (Ends.drop i D) (σ.set i (some (.ref a))) H) ∧ (b = false → wNs K Wout D r cls d σ H)
inductive HdsN (X : Cx) : List ExceptHandler → List (Value × Nat × (Addr → Value → Option Addr → TS)) → Prop
  | nil : HdsN X [] []
  | cons {x n : Str} {c : Value} {i : Nat} {ts : Addr → Value → Option Addr → TS} {b₀ : Stmt} {suite : List Stmt} {np pos' : Pos} {hds : List ExceptHandler} {l : List (Value × Nat × (Addr → Value → Option Addr → TS))}
      (hi : X.N[i]? = some n) (hln : X.env.kindOf n = some .local) (hc : Names X x c)
      (hsu : ∀ (a : Addr) (oe : Obj) (cls : Value) (d : Option Addr) (pn : List (Addr × Obj)), Zc cls d oe → (∃ vs, oe.data = .fields vs) → PSs (X.suite a ((a, oe) :: pn)) (b₀ :: suite) (ts a cls d))
      (r : HdsN X hds l) : HdsN X (.ExceptHandler (some (.Name x np)) (some n) (b₀ :: suite) pos' :: hds) ((c, i, ts) :: l)

section
variable {X : Cx} {body : List Stmt} {h₀ : ExceptHandler} {hds : List ExceptHandler} {l : List (Value × Nat × (Addr → Value → Option Addr → TS))} {pos : Pos} {tb : WX → TS} {Wout : WX}
theorem ps_try_ns (hs : X.stack = X.env :: X.outer) (hf : X.env.frame = some X.env.locals) (hN : X.N.Nodup) (tk : Takes X Wout)
    (hb : ∀ (W : WX) (pn : List (Addr × Obj)) (xe : Value → Shared → Prop), Takes (X.tr pn xe) W → PassesOwn (model X.prog X.w) X.A X.env xe → PSs (X.tr pn xe) body (tb W))
    (hh : HdsN X (h₀ :: hds) l) : PS X (.Try body (h₀ :: hds) [] [] pos) (fun D σ H => tb (wNs X.K Wout D l) D σ H) := by
  refine ⟨fun pins s σ H D I h => ?_⟩
  have ok := I.ok
  have hfr : X.A.frames = some (X.env :: X.outer) := by rw [ok.frames, hs]
  refine wpAny_Try_except ?_
  refine wpAny_mono ((hb (wNs X.K Wout D l) (X.pn ++ pins) (fun e s₁ => wpAny (model X.prog X.w) X.A (noteFrame e X.env) (fun _ s₂ => wpAny (model X.prog X.w) X.A (setFlight e none) (fun _ s₃ =>
    wpAny (model X.prog X.w) X.A (handleBy e X.env (h₀ :: hds)) (SP X pins D) X.xe s₃) X.xe s₂) X.xe s₁) (fun u s' xx => ?_) PassesOwn.looking).run [] s σ H D (I.toTry _) h) (fun f s1 hsp => ?_) (fun e s1 he => he)
  · obtain ⟨a, B, sI, pins', σ', H', cls, d, rfl, J', nb, up, sky, na, os, ag, w⟩ := xx
    have J : Inv X pins σ' H' sI := J'.ofTry ok
    have sky' : Sky B (X.env :: X.outer) a (Zc cls d) X.env.locals s'.heap := by rw [← hs]; exact sky
    show wpAny (model X.prog X.w) X.A (noteFrame (.ref a) X.env) _ _ _
    refine Sky.land Zc.steady hfr hf sky' fun h3 fl3 up3 => ?_
    have J3 : Inv X pins σ' H' { s' with heap := h3 } := J.landed nb fl3.1 (up.trans up3) os ag
    obtain ⟨oe3, vs3, he3, hz3, hd3⟩ := fl3.there
    have nfr : a ∉ frs (X.env :: X.outer) := fun hm => by
      obtain ⟨_, o', e', hnf⟩ := fl3.2.2.1.mem hm
      rw [he3] at e'; cases e'
      exact hnf _ hd3
    have nL : a ≠ X.env.locals := fun z => nfr (List.mem_filterMap.mpr ⟨X.env, List.mem_cons_self, by rw [hf, z]⟩)
    have nF : a ∉ X.fs := fun hm => by
      obtain ⟨e, he, q⟩ := List.mem_filterMap.mp hm
      exact nfr (List.mem_filterMap.mpr ⟨e, List.mem_cons_of_mem _ he, q⟩)
    have S3 := J3.suite he3 hd3 na nL nF
    have go : ∀ {hds' : List ExceptHandler} {l' : List (Value × Nat × (Addr → Value → Option Addr → TS))}, HdsN X hds' l' → wNs X.K Wout D l' cls d σ' H' →
        wpAny (model X.prog X.w) X.A (handleBy (.ref a) X.env hds') (SP X pins D) X.xe { s' with heap := h3 } := by
      intro hds' l' hk
      induction hk with
      | nil =>
        intro w
        refine wpAny_handleBy_nil ?_
        obtain ⟨k1, k2, k3, oe, vs, T, oT, ts', he, hz, hd, h1, hr⟩ := id fl3
        unfold PySem.passOn
        refine wpAny_bind (wpAny_field he hd h1 ?_)
        rw [if_neg (show ¬ ((Value.ref T == Value.none) = true) from by simp)]
        have fin : wpAny (model X.prog X.w) X.A (setFlight (.ref a) X.env.frame) (fun _ s4 => wpAny (model X.prog X.w) X.A (throw (.ref a) : Sem Flow) (SP X pins D) X.xe s4) X.xe { s' with heap := h3 } := by
          rw [hf]
          refine HandSPX.setFlight_upZ fl3 fun h4 hh4 up4 => wpAny_throw (tk _ _ ?_)
          exact ⟨a, B, sI, pins, σ', H', cls, d, rfl, J, nb, (up.trans up3).trans up4, .inr (.inr (by rw [hs]; exact hh4)), na, os, ag, w⟩
        first
          | exact wpAny_bind (wpAny_pure (wpAny_bind fin))
          | exact wpAny_bind fin
      | @cons x n c i ts b₀ suite np pos' hds2 l2 hi hln hc hsu r ih =>
        intro w
        obtain ⟨b, hb1, hyes, hno⟩ := w
        refine wpAny_handleBy_cons (codeAny_handlers_test ?_) (by intro q; cases q)
        have LT : PySem.W.Looks (model X.prog X.w) h3 (typeOf (.ref a)) cls := fun A Q E s k q => wpAny_typeOf_ref (k _ _ he3) (by rw [hz3.1]; exact q)
        have LM := PySem.W.exm_one (M := model X.prog X.w) (J3.kIn) LT hb1
        have test : ∀ {Q : Value → Shared → Prop} {E : Value → Shared → Prop}, Q c { s' with heap := h3 } → wpAny (model X.prog X.w) (X.A.mark (some (.ref a))) (eval (.Name x np) X.env) Q E { s' with heap := h3 } := fun {Q E} q => by
          obtain ⟨hg, hdbg, hm | ⟨hm, hv, hnn⟩⟩ := hc
          · exact ld_glob (X := X.suite a ((a, oe3) :: (X.pn ++ pins))) S3 hg hm q hdbg
          · exact ld_blt (X := X.suite a ((a, oe3) :: (X.pn ++ pins))) S3 hg hm hv q hnn hdbg
        refine test (LM.here ?_)
        cases b with
        | true =>
          refine codeAny_handlers_suite_as ?_
          refine HandSPX.lands_againZ fl3 fun h4 fl4 up4 => ?_
          have J4 : Inv X pins σ' H' { s' with heap := h4 } := J.landed nb fl4.1 ((up.trans up3).trans up4) os ag
          obtain ⟨oe4, vs4, he4, hz4, hd4⟩ := fl4.there
          have S4 := J4.suite he4 hd4 na nL nF
          refine store_ok (X := X.suite a ((a, oe4) :: (X.pn ++ pins))) (v := .ref a) S4 hN hi (.inl hln) rfl (fun s5 S5 => ?_) (.inr hln)
          refine wpAny_mono ((hsu a oe4 cls d (X.pn ++ pins) hz4 ⟨_, hd4⟩).run [] s5 _ H' _ S5 (hyes rfl a na)) (fun f s6 hsp => ?_) (fun _ _ z => False.elim z)
          have end_ : ∀ {σ6 : L2.St} {H6 : Hp} {Q : Shared → Prop}, Inv (X.suite a ((a, oe4) :: (X.pn ++ pins))) [] σ6 H6 s6 → (∀ s7, Inv X pins (σ6.set i none) H6 s7 → Q s7) →
              wpAny (model X.prog X.w) X.A (do bindName X.env n .none; unbindBehindTheSuite X.env n pos') (fun _ s7 => Q s7) X.xe s6 := fun {σ6 H6 Q} S6 hq => gone_ok (S6.unsuite ok) hN hi hln hq
          cases f with
          | next =>
            obtain ⟨σ6, H6, S6, q6⟩ := hsp
            exact end_ S6 fun s7 J7 => ⟨_, _, J7, q6⟩
          | brk =>
            obtain ⟨σ6, H6, S6, q6⟩ := hsp
            exact end_ S6 fun s7 J7 => ⟨_, _, J7, q6⟩
          | cont =>
            obtain ⟨σ6, H6, S6, q6⟩ := hsp
            exact end_ S6 fun s7 J7 => ⟨_, _, J7, q6⟩
          | ret u =>
            obtain ⟨v6, σ6, H6, S6, r6, q6⟩ := hsp
            exact end_ S6 fun s7 J7 => ⟨_, _, _, J7, r6, q6⟩
        | false =>
          show wpAny _ X.A (handleBy (.ref a) X.env hds2) _ _ _
          exact ih (hno rfl)
    exact go hh w
  · cases f with
    | next =>
      obtain ⟨σ', H', J', q⟩ := hsp
      exact wpAny_execs_nil ⟨σ', H', J'.ofTry ok, q⟩
    | brk =>
      obtain ⟨σ', H', J', q⟩ := hsp
      exact ⟨σ', H', J'.ofTry ok, q⟩
    | cont =>
      obtain ⟨σ', H', J', q⟩ := hsp
      exact ⟨σ', H', J'.ofTry ok, q⟩
    | ret u =>
      obtain ⟨v, σ', H', J', r, q⟩ := hsp
      exact ⟨v, σ', H', J'.ofTry ok, r, q⟩
end
end OG


set_option Elab.async false
set_option linter.all false
set_option maxRecDepth 100000
set_option maxHeartbeats 2000000
/-! GC: a lambda with one parameter that has an int for its default, handed to a def that calls it without arguments. -/
namespace OG
open PySem PySem.Spec PyProof.Rows L2 LamX

/-- the made function's record; dV: its defaults -/
abbrev ldFd (qual : Str) (params : Arguments) (body : Expr) (scope : Scope) (cl : List (Str × Addr)) (dV pm cdv ct : Value) : FuncData :=
  { name := "<lambda>", qualname := qual, params, body := .expr body, scope, globals := mainGlobals, closure := cl, defaults := dV, kwdefaults := .none, doc := .none, pyModule := pm, annotations := none, code := cdv, closureTuple := ct, builtins := builtinsNs }
abbrev ldObj (qual : Str) (params : Arguments) (body : Expr) (scope : Scope) (clos : List (Str × Addr)) (dV pm : Value) (c' : Addr) (ctv : Value) : Obj :=
  { cls := .type "function", data := .func (ldFd qual params body scope clos dV pm (.ref c') ctv) }

section
variable {M : Model} {A : Around} {E : Value → Shared → Prop} {s : Shared} {qual : Str} {params : Arguments} {body : Expr} {scope : Scope} {env : Env} {c P : Addr} {ps : Array Value} {pos : Pos} {firstLine : Nat} {mg : Str → Option Value}
  {clos : List (Str × Addr)} {dV : Value} {Q : Value → Shared → Prop}
theorem ld_tail (hcl : closureFor scope env = pure clos) (hge0 : env.globals = mainGlobals) (hg : s.heap.Ns mainGlobals mg) (hcode : env.code = .ref c) (C : PySem.W.CodeHd s.heap c P) (hP : s.heap.get? P = some (PySem.W.tabObj ps)) (ht : TriplesOk ps.toList)
    (hnf : codeAmong pos ps.toList = none) (hgP : mainGlobals ≠ P) (hb : s.heap.BuiltinsAt mg P)
    (h : ∀ c' ctv h' tk, Heap.ExtBut P s.heap h' → s.heap.objs.size ≤ c' → c' < h'.objs.size → h'.CodeRec (.ref c') qual → h'.get? P = some (PySem.W.tabObj (ps ++ #[rawInt pos.line, rawInt pos.col, .ref c'])) →
      Q (.ref h'.objs.size) { s with heap := h'.push (ldObj qual params body scope clos dV ((mg "__name__").getD .none) c' ctv), toks := tk }) :
    wpAny M A (makeTail "<lambda>" qual params (.expr body) scope env dV .none none pos firstLine) Q E s := by
  obtain ⟨bm, ob, hbm, hne0, _, hneP, hbo, hcls, hdict, hdata⟩ := hb
  unfold makeTail
  rw [hcl, hge0]
  refine wpAny_bind (wpAny_pure ?_)
  cases clos with
  | nil =>
    simp only [List.isEmpty_nil, if_true]
    refine wpAny_bind (wpAny_pure ?_)
    refine wpAny_bind (wpAny_functionCodeX hcode (C.code hP ht) (C.tab hP) hnf fun c' h' tk hx hge hlt _ hrec htb _ => ?_)
    have hg' := hg.extBut hx hgP
    refine wpAny_bind (wpAny_builtinsFor hg' hbm hne0 (hx _ _ hneP hbo) hcls hdict hdata ?_)
    refine wpAny_bind (wpAny_nsGet hg' ?_)
    exact wpAny_bind (wpAny_pure (wpAny_newObj_type (h c' .none h' tk hx hge hlt hrec htb.2) (by size_fits)))
  | cons q r =>
    simp only [List.isEmpty_cons, Bool.false_eq_true, if_false]
    refine wpAny_bind (wpAny_newTextTuple ?_)
    refine wpAny_bind (wpAny_functionCodeX hcode ((C.keeps fun b o e => Heap.get?_push_of_some _ e).code (Heap.get?_push_of_some _ hP) ht) ((C.keeps fun b o e => Heap.get?_push_of_some _ e).tab (Heap.get?_push_of_some _ hP)) hnf fun c' h' tk hx hge hlt _ hrec htb _ => ?_)
    have hg' := (hg.push _).extBut hx hgP
    have hx' : Heap.ExtBut P s.heap h' := fun b o hb' e => hx b o hb' (Heap.get?_push_of_some _ e)
    have hge' : s.heap.objs.size ≤ c' := Nat.le_trans (by rw [Heap.size_push]; omega) hge
    refine wpAny_bind (wpAny_builtinsFor hg' hbm hne0 (hx' _ _ hneP hbo) hcls hdict hdata ?_)
    refine wpAny_bind (wpAny_nsGet hg' ?_)
    exact wpAny_bind (wpAny_pure (wpAny_newObj_type (h c' _ h' tk hx' hge' hlt hrec htb.2) (by size_fits)))
theorem ld_tailHit {c1 : Addr} (hcl : closureFor scope env = pure clos) (hge0 : env.globals = mainGlobals) (hg : s.heap.Ns mainGlobals mg) (hcode : env.code = .ref c) (C : PySem.W.CodeHd s.heap c P) (hP : s.heap.get? P = some (PySem.W.tabObj ps)) (ht : TriplesOk ps.toList)
    (hf : codeAmong pos ps.toList = some (.ref c1)) (hb : s.heap.BuiltinsAt mg P)
    (h : ∀ (ctv : Value) (h' : Heap) (tk : Tok), (∀ b o, s.heap.get? b = some o → h'.get? b = some o) → s.heap.objs.size ≤ h'.objs.size →
      Q (.ref h'.objs.size) { s with heap := h'.push (ldObj qual params body scope clos dV ((mg "__name__").getD .none) c1 ctv), toks := tk }) :
    wpAny M A (makeTail "<lambda>" qual params (.expr body) scope env dV .none none pos firstLine) Q E s := by
  obtain ⟨bm, ob, hbm, hne0, _, hneP, hbo, hcls, hdict, hdata⟩ := hb
  unfold makeTail
  rw [hcl, hge0]
  refine wpAny_bind (wpAny_pure ?_)
  cases clos with
  | nil =>
    simp only [List.isEmpty_nil, if_true]
    refine wpAny_bind (wpAny_pure ?_)
    refine wpAny_bind (wpAny_functionCode_hit hcode (C.code hP ht) hf ?_)
    refine wpAny_bind (wpAny_builtinsFor hg hbm hne0 hbo hcls hdict hdata ?_)
    refine wpAny_bind (wpAny_nsGet hg ?_)
    exact wpAny_bind (wpAny_pure (wpAny_newObj_type (h .none s.heap s.toks (fun _ _ e => e) (Nat.le_refl _)) (by size_fits)))
  | cons q r =>
    simp only [List.isEmpty_cons, Bool.false_eq_true, if_false]
    refine wpAny_bind (wpAny_newTextTuple ?_)
    refine wpAny_bind (wpAny_functionCode_hit hcode ((C.keeps fun b o e => Heap.get?_push_of_some _ e).code (Heap.get?_push_of_some _ hP) ht) hf ?_)
    refine wpAny_bind (wpAny_builtinsFor (hg.push _) hbm hne0 (Heap.get?_push_of_some _ hbo) hcls hdict hdata ?_)
    refine wpAny_bind (wpAny_nsGet (hg.push _) ?_)
    have hsz : ∀ oT : Obj, s.heap.objs.size ≤ (s.heap.push oT).objs.size := fun oT => by rw [Heap.size_push]; omega
    exact wpAny_bind (wpAny_pure (wpAny_newObj_type (h _ _ s.toks (fun b o e => Heap.get?_push_of_some _ e) (hsz _)) (by size_fits)))
end

section
variable {X : Cx} {pins : List (Addr × Obj)} {σ : L2.St} {H HZ : Hp} {s s1 : Shared}
/-- the lambda's function object with defaults dV is made: its code object is new, or found in the table -/
theorem ld_fun {T : List (Addr × Str)} {c P : Addr} {params : Arguments} {body : Expr} {scope : Scope} {pos : Pos} {dV : Value} {E : Value → Shared → Prop} {Q : Value → Shared → Prop} (I : Inv X pins σ H s) (TB : TabB X.base X.mg c P) (hcode : X.env.code = .ref c)
    (hm : (P, X.env.qual ++ "<lambda>") ∈ T) (hu : ∀ p ∈ T, p.1 = P → p.2 = X.env.qual ++ "<lambda>") (hT : Tabs T H) (hfree : ∀ y ∈ scope.names, y.2 = .free → ∃ c, X.env.cells.lookup y.1 = some c)
    (h : ∀ (f c' : Addr) (pm ctv : Value) (H1 : Hp) (s' : Shared), Inv X pins σ H1 s' → ExtN H H1 → Tabs T H1 →
      s'.heap.get? f = some (ldObj (X.env.qual ++ "<lambda>") params body scope (cloFrom X.env.cells scope.names []) dV pm c' ctv) → H1 f = none → f ∉ frs X.stack → H1 c' = some (CodeO c' (X.env.qual ++ "<lambda>")) → Q (.ref f) s') :
    wpAny (model X.prog X.w) X.A (makeTail "<lambda>" (X.env.qual ++ "<lambda>") params (.expr body) scope X.env dV .none none pos pos.line) Q E s := by
  obtain ⟨ps, hP, ht, ha⟩ := hT _ hm
  have bP : s.heap.BuiltinsAt X.mg P := TB.bm.keeps I.bk
  have hP' : s.heap.get? P = some { cls := .none, data := .fields ps } := I.hok P _ hP
  have nofr : ∀ f, s.heap.objs.size ≤ f → f ∉ frs X.stack := fun f hf z => by
    rcases List.mem_cons.mp (I.stkSub _ z) with e | e
    · have h1 := I.lt
      rw [← e] at h1
      exact Nat.lt_irrefl _ (Nat.lt_of_lt_of_le h1 hf)
    · exact I.nofs hf e
  cases hc : codeAmong pos ps.toList with
  | none =>
    refine ld_tail (mg := X.mg) (c := c) (P := P) (ps := ps) (closure_ok hfree) I.ok.glob (I.mod.glob.keeps I.bk) hcode (TB.code.keeps I.bk) hP' ht hc TB.gP bP fun c' ctv h' tk hx hge hlt hrec htb => ?_
    obtain ⟨c2, oc, vs, t, e2, hoc, hd, hv⟩ := hrec
    cases e2
    have hsz : s.heap.objs.size ≤ h'.objs.size := Nat.le_trans hge (Nat.le_of_lt hlt)
    have nC : H c' = none := I.hok.fresh hge
    have I1 := inv_table (t' := tk) (more := #[rawInt pos.line, rawInt pos.col, .ref c']) (h' := h'.push (ldObj (X.env.qual ++ "<lambda>") params body scope (cloFrom X.env.cells scope.names []) dV ((X.mg "__name__").getD .none) c' ctv)) I hP
      (fun b o hb e => Heap.get?_push_of_some _ (hx b o hb e)) (Heap.get?_push_of_some _ htb) hge ⟨oc, vs, t, Heap.get?_push_of_some _ hoc, hd, hv⟩
    have hE : ExtN H (upd (upd H P (.tbl (ps ++ #[rawInt pos.line, rawInt pos.col, .ref c']))) c' (CodeO c' (X.env.qual ++ "<lambda>"))) := fun b o e n => by
      rw [upd_ne (ne_of_none e nC), upd_ne (fun z => n ps (Option.some.inj (e.symm.trans (by rw [z]; exact hP))))]
      exact e
    have eL : (ps ++ #[rawInt pos.line, rawInt pos.col, .ref c']).toList = ps.toList ++ [rawInt pos.line, rawInt pos.col, .ref c'] := by simp
    refine h h'.objs.size c' ((X.mg "__name__").getD .none) ctv _ _ I1 hE (fun p hp => ?_) (Heap.get?_push_size _ rfl) ?_ (nofr _ hsz) upd_same
    · by_cases hb : p.1 = P
      · rw [hu p hp hb, hb]
        refine ⟨_, by rw [upd_ne (ne_of_none hP nC), upd_same], by rw [eL]; exact PySem.TriplesOk_snoc _ _ _ _ ht, fun p' cv hcv => ?_⟩
        rw [eL] at hcv
        rcases among_app _ ht hcv with z | z
        · obtain ⟨c0, e1, e2⟩ := ha p' cv z
          exact ⟨c0, e1, hE _ _ e2 codeO_ne⟩
        · exact ⟨c', z, upd_same⟩
      · obtain ⟨ps', a1, a2, a3⟩ := hT p hp
        refine ⟨ps', by rw [upd_ne (ne_of_none a1 nC), upd_ne hb]; exact a1, a2, fun p' cv hcv => ?_⟩
        obtain ⟨c0, e1, e2⟩ := a3 p' cv hcv
        exact ⟨c0, e1, hE _ _ e2 codeO_ne⟩
    · have n1 : h'.objs.size ≠ c' := Nat.ne_of_gt hlt
      have n2 : h'.objs.size ≠ P := Nat.ne_of_gt (Nat.lt_of_lt_of_le (Heap.lt_size hP') hsz)
      rw [upd_ne n1, upd_ne n2]
      exact I.hok.fresh hsz
  | some cv =>
    obtain ⟨c', e, hco⟩ := ha pos cv hc
    subst e
    refine ld_tailHit (mg := X.mg) (c := c) (P := P) (ps := ps) (closure_ok hfree) I.ok.glob (I.mod.glob.keeps I.bk) hcode (TB.code.keeps I.bk) hP' ht hc bP fun ctv h' tk hx hsz => ?_
    have I1 : Inv X pins σ H { s with heap := h'.push (ldObj (X.env.qual ++ "<lambda>") params body scope (cloFrom X.env.cells scope.names []) dV ((X.mg "__name__").getD .none) c' ctv), toks := tk } := I.kept fun b o e => Heap.get?_push_of_some _ (hx b o e)
    exact h h'.objs.size c' ((X.mg "__name__").getD .none) ctv H _ I1 (ExtN.refl H) hT (Heap.get?_push_size _ rfl) (I.hok.fresh hsz) (nofr _ hsz) hco

/-- .. the default's tuple ahead of it -/
theorem ld_make {T : List (Addr × Str)} {c P : Addr} {params : Arguments} {body : Expr} {scope : Scope} {pos dp : Pos} {n : Int} {j : Nat} {E : Value → Shared → Prop} {Q : Value → Shared → Prop} (I : Inv X pins σ H s) (TB : TabB X.base X.mg c P) (hcode : X.env.code = .ref c)
    (hm : (P, X.env.qual ++ "<lambda>") ∈ T) (hu : ∀ p ∈ T, p.1 = P → p.2 = X.env.qual ++ "<lambda>") (hT : Tabs T H) (hdef : defaultsOf params X.env = ([eval (.Constant (.int n) j dp) X.env], [])) (hkw : params.kwonlyargs = []) (hfree : ∀ y ∈ scope.names, y.2 = .free → ∃ c, X.env.cells.lookup y.1 = some c)
    (h : ∀ (f c' pd : Addr) (pm ctv : Value) (H1 : Hp) (s' : Shared), Inv X pins σ H1 s' → ExtN H H1 → Tabs T H1 →
      s'.heap.get? f = some (ldObj (X.env.qual ++ "<lambda>") params body scope (cloFrom X.env.cells scope.names []) (.ref pd) pm c' ctv) → H1 f = none → f ∉ frs X.stack → H1 c' = some (CodeO c' (X.env.qual ++ "<lambda>")) →
      H1 pd = some (.tup [.int n]) → Q (.ref f) s') :
    wpAny (model X.prog X.w) X.A (eval (.Lambda params body scope pos) X.env) Q E s := by
  rw [arm_eval_Lambda, hdef]
  refine wpAny_bind (wpAny_evalAll_cons (wpAny_Constant_int (wpAny_evalAll_nil ?_)))
  refine wpAny_bind (wpAny_holding (wpAny_pure ?_))
  rw [makeFunction_eq, hkw]
  simp only [List.zip_nil_right, List.zip_nil_left, List.filterMap_nil, List.isEmpty_nil, List.isEmpty_cons, if_true, pure_bind, Bool.false_eq_true, if_false]
  refine wpAny_bind (wpAny_newTextTuple ?_)
  have hn0 : H s.heap.objs.size = none := I.hok.fresh (Nat.le_refl _)
  have I0 : Inv X pins σ (upd H s.heap.objs.size (.tup [.int n])) { s with heap := s.heap.push { cls := .type "tuple", data := .seq [Value.int n s.toks].toArray }, toks := s.toks + 1 } :=
    I.laid (fun b o e => Heap.get?_push_of_some _ e) (Nat.le_refl _) ⟨by show 1 ≤ sizeLine; decide, [Value.int n s.toks], .cons ⟨_, rfl⟩ .nil, ⟨_, Heap.get?_push_size _ rfl, rfl, _, rfl⟩⟩
  have sm : ∀ b o, H b = some o → upd H s.heap.objs.size (.tup [.int n]) b = some o := fun b o e => by
    rw [upd_ne (ne_of_none e hn0)]
    exact e
  refine ld_fun I0 TB hcode hm hu (hT.ext sm) hfree fun f c' pm ctv H1 s' I1 eN T1 hf hfn hfr hco => ?_
  exact h f c' s.heap.objs.size pm ctv H1 s' I1 ((ExtN.of sm).trans eN) T1 hf hfn hfr hco (eN _ _ upd_same fun ps z => by cases z)
end

/-! ### the body's names: the default's own name is a local that none of the maker's names is -/
structure LamD (N : List Str) (a : Str) (sc scope : Scope) : Prop where
  kind : scope.kind = .function
  co : scope.isCoroutine = false
  gen : scope.isGenerator = false
  nocell : ∀ y ∈ scope.names, y.2 ≠ .cell
  loc : scope.names.lookup a = some .local
  own : ∀ y ∈ N, scope.names.lookup y ≠ some .local
  free : ∀ y ∈ scope.names, y.2 = .free → sc.names.lookup y.1 = some .cell ∨ sc.names.lookup y.1 = some .free
def lamDB (N : List Str) (a : Str) (sc scope : Scope) : Bool :=
  decide (scope.kind = .function) && (!scope.isCoroutine && (!scope.isGenerator && ((scope.names.all fun y => !decide (y.2 = .cell)) && (decide (scope.names.lookup a = some .local) && ((N.all fun y => !decide (scope.names.lookup y = some .local)) &&
    scope.names.all fun y => !decide (y.2 = .free) || (decide (sc.names.lookup y.1 = some .cell) || decide (sc.names.lookup y.1 = some .free)))))))
theorem lamD_by {N : List Str} {a : Str} {sc scope : Scope} (h : lamDB N a sc scope = true) : LamD N a sc scope := by
  unfold lamDB at h
  simp only [Bool.and_eq_true, Bool.or_eq_true, Bool.not_eq_true', decide_eq_true_eq, decide_eq_false_iff_not, List.all_eq_true] at h
  obtain ⟨h1, h2, h3, h4, h5, h6, h7⟩ := h
  refine ⟨h1, h2, h3, h4, h5, h6, fun y hy e => ?_⟩
  rcases h7 y hy with z | z
  · exact absurd e z
  · exact z
theorem LamD.has {X : Cx} {a : Str} {scope : Scope} (L : LamD X.N a X.env.scope scope) (ok : X.Ok) : ∀ y ∈ scope.names, y.2 = .free → ∃ c, X.env.cells.lookup y.1 = some c := fun y hy e => by
  rcases L.free y hy e with k | k
  · exact ok.has _ (.inl k)
  · exact ok.has _ (.inr k)

section
variable {X : Cx} {pins : List (Addr × Obj)} {σ : L2.St} {H HZ : Hp} {s s1 : Shared}
theorem ld_start {A : Around} {outer : List Env} {E : XK} {a : Str} {scope : Scope} {f c' : Addr} {h₁ : Heap} {tk : Nat} {m₁ : Str → Option Value} (I : Inv X pins σ H s) (L : LamD X.N a X.env.scope scope) (e0 : Env0 X.prog X.w X.K X.mg X.base A outer s1 HZ) (hd : A.handled = none)
    (un : Un (frs X.stack) [] H HZ s.heap s1.heap) (hns : h₁.Ns s1.heap.objs.size m₁) (kp : ∀ b o, s1.heap.get? b = some o → h₁.get? b = some o) :
    Inv (lamCx X A outer s1 HZ E scope f c') [] σ HZ { s1 with heap := h₁, toks := tk } := by
  have hfree := L.has I.ok
  have cm : ∀ {y c}, (cloFrom X.env.cells scope.names []).lookup y = some c → X.env.cells.lookup y = some c := fun {y c} e => by
    rcases cloFrom_mem (PySem.mem_of_lookup e) with hm | ⟨h1, h2⟩
    · cases hm
    · obtain ⟨c1, hc⟩ := hfree _ h1 rfl
      have hc : X.env.cells.lookup y = some c1 := hc
      have e2 : c = c1 := by
        rw [h2, hc] <;> rfl
      rw [e2]
      exact hc
  have look : ∀ {y}, scope.names.lookup y = some .free → ∃ c, (cloFrom X.env.cells scope.names []).lookup y = some c := fun {y} hl => by
    have hy : (y, NameKind.free) ∈ scope.names := PySem.mem_of_lookup hl
    exact mem_lookup (cloFrom_has (cells := X.env.cells) (acc := []) hy)
  have cellK : ∀ {c : Addr} {v : Option Value}, H c = none → s.heap.IsCell c v → h₁.IsCell c v := fun {c v} n ⟨o, ho, hd⟩ => by
    obtain ⟨sl, q⟩ := un.any ho n (by simp)
    exact ⟨_, kp _ _ q, hd⟩
  have noA : ∀ b : Addr, b ∉ (lamCx X A outer s1 HZ E scope f c').ex := fun b z => absurd (show b ∈ ([] : List Addr) from z) (by simp)
  refine ⟨⟨e0.mod, L.kind, rfl, rfl, Nat.le_refl _, fun y z c e1 e2 => I.ok.inj y z c (cm e1) (cm e2), fun y hy => ?_, fun y c z _ => ?_, fun _ => hd, Around.frames_deeper e0.frames, .inr ⟨rfl, rfl⟩, fun b z => absurd z (noA b), e0.bs, e0.bsz, fun b _ _ => noA b,
      fun b z => absurd z (noA b), e0.funs, e0.frf⟩,
    rfl, e0.bare, Un.kept kp, ⟨_, hns, fun i y v e1 e2 e3 => ?_⟩, fun y c e => ?_, e0.hok.fresh (Nat.le_refl _), fun y c e => ?_, fun q hq => absurd (show q ∈ ([] : List (Addr × Obj)) ++ [] from hq) (by simp), e0.hok.kept kp, I.len⟩
  · have hy : scope.names.lookup y = some .cell ∨ scope.names.lookup y = some .free := hy
    rcases hy with hy | hy
    · exact absurd rfl (L.nocell _ (PySem.mem_of_lookup hy))
    · exact look hy
  · have z : false = true := z
    cases z
  · have e3 : Vis scope y := e3
    have e1 : X.N[i]? = some y := e1
    rcases e3 with k | k | k
    · exact absurd k (L.own y (List.mem_of_getElem? e1))
    · exact absurd rfl (L.nocell _ (PySem.mem_of_lookup k))
    · obtain ⟨m, hn, hl⟩ := I.loc
      have hvis : Vis X.env.scope y := (L.free _ (PySem.mem_of_lookup k) rfl).elim (fun k => .inr (.inl k)) (fun k => .inr (.inr k))
      obtain ⟨w', r, q⟩ := hl i y v e1 e2 hvis
      obtain ⟨c2, h2⟩ := look k
      refine ⟨w', r, .inr ⟨.inr k, c2, h2, ?_⟩⟩
      have c1 := cm h2
      rcases q with ⟨k', _⟩ | ⟨_, c3, e', z⟩
      · have k' : X.env.scope.names.lookup y = some .local := k'
        rcases L.free _ (PySem.mem_of_lookup k) rfl with k2 | k2 <;> rw [show X.env.scope.names.lookup y = _ from k2] at k' <;> cases k'
      · rw [c1] at e'
        cases e'
        exact cellK (I.freeC y _ c1) z
  · obtain ⟨w', z⟩ := I.cell y c (cm e)
    exact ⟨w', cellK (I.freeC y c (cm e)) z⟩
  · obtain ⟨v, o, ho, hd⟩ := I.cell y c (cm e)
    exact un.free c o ho (I.freeC y c (cm e)) (by simp)

/-- how its call without arguments binds -/
def LdBind (params : Arguments) (a : Str) : Prop := ∀ (q : Str) (body : Expr) (scope : Scope) (cl : List (Str × Addr)) (dV pm cv ctv : Value), ∃ k : Option (Array Value) → Sem (List (Str × Value)),
  bindArgs (ldFd q params body scope cl dV pm cv ctv) ⟨[], []⟩ = seqItems? dV >>= k ∧ ∀ v : Value, k (some #[v]) = pure [(a, v)]
/-- x(), in the def that got the lambda -/
theorem pe_actD {CXg : CXT} {Eg : XK} {Ng : List Str} {qg : Str} {sg : Scope} {g f c' pd : Addr} {cdg pm ctv : Value} {params : Arguments} {body : Expr} {scope : Scope} {k i : Nat} {a b : Str} {n : Int} {pn : List (Addr × Obj)} {xe : Value → Shared → Prop} {W : WX} {E : XK} {tb : TE} {p1 p2 : Pos}
    (I : Inv X pins σ H s) (L : LamD X.N b X.env.scope scope) (hf : s.heap.get? f = some (ldObj (X.env.qual ++ "<lambda>") params body scope (cloFrom X.env.cells scope.names []) (.ref pd) pm c' ctv)) (hfn : H f = none) (hfr : f ∉ frs X.stack)
    (hpd : H pd = some (.tup [.int n])) (hbind : LdBind params b)
    (tk : Takes ((cxOf CXg X.prog X.w X.K X.mg X.base Ng qg sg g cdg X.A X.stack s H Eg).tr pn xe) W) (hW : ∀ cls d σ' H', E cls d H' → W cls d σ' H') (hr : Room (k + 1) (X.A.deeper (envOfC qg sg s.heap.objs.size g cdg)))
    (hbody : ∀ (A : Around) (outer : List Env) (s : Shared) (H : Hp), Room k (A.deeper (lamEnv X scope s.heap.objs.size f c')) → PE (lamCx X A outer s H E scope f c') body tb)
    (hN : Ng[i]? = some a) (hv : Vis sg a) (hd : (a == ("__debug__" : Str)) = false := by decide) (hcd : (a == ("__classdict__" : Str)) = false := by decide) :
    PE ((cxOf CXg X.prog X.w X.K X.mg X.base Ng qg sg g cdg X.A X.stack s H Eg).tr pn xe) (.Call (.Name a p1) [] [] p2)
      (fun σZ HZ Q => σZ[i]? = some (some (.ref f)) ∧ HZ c' = some (CodeO c' (X.env.qual ++ "<lambda>")) ∧ tb σ HZ Q) := by
  refine ⟨fun pinsZ sZ σZ HZ Q IZ h => ?_⟩
  obtain ⟨hs, hc, ht⟩ := h
  refine wpAny_Call_Name_kw (thn ((pe_var (pos := p1) (i := i) hN hv hd hcd).run pinsZ sZ σZ HZ (fun v H1 => v = .ref f ∧ H1 = HZ) IZ ⟨.ref f, hs, rfl, rfl⟩) fun u s1 ⟨v, H1, I1, r1, q1⟩ => ?_)
  obtain ⟨ev, eH⟩ := q1
  subst ev
  rw [eH] at I1
  obtain rfl : u = Value.ref f := r1
  have of1 : s1.heap.get? f = some (ldObj (X.env.qual ++ "<lambda>") params body scope (cloFrom X.env.cells scope.names []) (.ref pd) pm c' ctv) := I1.base.keep f _ hf hfn hfr (fun z => nomatch (show f ∈ ([] : List Addr) from z))
  refine PySem.W.callWith_F0 ⟨_, _, _, _, of1⟩ ?_
  have un : Un (frs X.stack) [] H HZ s.heap s1.heap := I1.base
  obtain ⟨⟨oc, vs, t, hoc, hdc, hvc⟩, _, _⟩ := I1.hok c' _ hc
  have hpz : HZ pd = some (.tup [.int n]) := un.tups pd _ hpd
  obtain ⟨_, its, rv, o2, ho2, _, n2, hd2⟩ := (show ObjOk X.prog X.w HZ s1.heap pd (.tup [.int n]) from I1.hok pd _ hpz)
  obtain ⟨u1, rfl, ru1⟩ := vals1 rv
  obtain ⟨kb, hb1, hb2⟩ := hbind (X.env.qual ++ "<lambda>") body scope (cloFrom X.env.cells scope.names []) (.ref pd) pm (.ref c') ctv
  have hbd : BindsTo s1 (ldFd (X.env.qual ++ "<lambda>") params body scope (cloFrom X.env.cells scope.names []) (.ref pd) pm (.ref c') ctv) ⟨[], []⟩ [(b, u1)] := .of_defaults rfl ho2 hd2 hb1 (hb2 u1)
  have rc : codeAny (model X.prog X.w) (X.A.deeper (envOfC qg sg s.heap.objs.size g cdg)) (.call (.ref f) ⟨[], []⟩) (CR (L2.CX X.prog X.w) (envOfC qg sg s.heap.objs.size g cdg :: X.stack) X.prog X.w HZ s1 Q E) s1 := by
    refine PySem.W.kla_callFunE hr.depth of1 rfl L.co L.gen rfl ⟨c', oc, vs, t, rfl, hoc, hdc, hvc⟩ (hbd _ _ _ _ ?_)
    refine wpAny_newFunctionEnv L.nocell (fun y hy => ?_) (fun h₁ hns hsb => ⟨I1.nolimit.fresh _ hsb, ?_⟩) L.kind
    · obtain rfl : y = (b, u1) := List.mem_singleton.mp hy
      exact L.loc
    · show codeAny _ _ (.expr body (lamEnv X scope s1.heap.objs.size f c')) _ _
      have kp : ∀ b o, s1.heap.get? b = some o → h₁.get? b = some o := fun b o e => hsb.extBut b o (Nat.ne_of_lt (Heap.lt_size e)) (Heap.get?_push_of_some _ e)
      have J : Inv (lamCx X (X.A.deeper (envOfC qg sg s.heap.objs.size g cdg)) (envOfC qg sg s.heap.objs.size g cdg :: X.stack) s1 HZ E scope f c') [] σ HZ { s1 with heap := h₁, toks := s1.toks + ([(b, u1)] : List (Str × Value)).length } :=
        ld_start I L I1.env0 hr.hd un hns kp
      refine PySem.W.kla_codeExpr (wpAny_mono ((hbody _ _ s1 HZ (hr.deeper _)).run [] _ _ HZ Q J ht) (fun v s' hq => ?_) fun e s' hq => hq)
      obtain ⟨w', H', J', rv, q⟩ := hq
      exact ⟨w', H', J'.os, J'.bare, J'.base, J'.hok, rv, q⟩
  have hx : Passes (L2.CX X.prog X.w) ((cxOf CXg X.prog X.w X.K X.mg X.base Ng qg sg g cdg X.A X.stack s H Eg).tr pn xe) E := passes_call tk hW
  refine wpAny_call (codeAny_mono rc fun r s' hq => ?_)
  cases r with
  | error e => exact hx pinsZ σZ HZ s1 e s' I1 hq
  | ok fl =>
    cases fl with
    | ret u => exact I1.after hq
    | next => exact False.elim hq
    | brk => exact False.elim hq
    | cont => exact False.elim hq
end

section
variable {X : Cx}
/-- x(lambda b=n: body) -/
theorem pe_lamcallD {T : List (Addr × Str)} {TT : (XK → Hp → VK → Prop) → Hp → VK → Prop} {x a b : Str} {n : Int} {j : Nat} {g c P : Addr} {k : Nat} {pg : Arguments} {bg : List Stmt} {sg : Scope} {dV kV doc pm cdv ct oc : Value} {an od : Option Addr} {osl : Array (Option Value)} {Ng : List Str}
    {params : Arguments} {body : Expr} {scope : Scope} {t : XK → TE} {p lpos pos dp : Pos} (hg : Gl X x) (hm : X.mg x = some (.ref g)) (hk : PySem.W.keepIn X.K (.ref g) = true)
    (lk : X.K.lookup g = some ⟨oc, od, .func (PySem.W.fnOf x x pg bg sg dV kV doc pm an cdv ct), osl⟩) (hcg : PySem.W.codeIn X.K cdv x = true) (hb : L2.Binds X.K (PySem.W.fnOf x x pg bg sg dV kV doc pm an cdv ct) [a] []) (Sg : FnScope Ng [a] sg) (hNg : Ng[0]? = some a) (hva : Vis sg a)
    (hG : GivesTo X Ng x sg g cdv bg a (X.env.qual ++ "<lambda>") TT)
    (TB : TabB X.base X.mg c P) (hcode : X.env.code = .ref c) (hmT : (P, X.env.qual ++ "<lambda>") ∈ T) (hu : ∀ p ∈ T, p.1 = P → p.2 = X.env.qual ++ "<lambda>") (hr : Room (k + 2) X.A) (L : LamD X.N b X.env.scope scope)
    (hdef : defaultsOf params X.env = ([eval (.Constant (.int n) j dp) X.env], [])) (hkw : params.kwonlyargs = []) (hbind : LdBind params b)
    (hbody : ∀ (A : Around) (outer : List Env) (s : Shared) (H : Hp) (E : XK) (f c' : Addr), Room k (A.deeper (lamEnv X scope s.heap.objs.size f c')) → PE (lamCx X A outer s H E scope f c') body (t E))
    (hdb : (x == ("__debug__" : Str)) = false := by decide) (hd : (a == ("__debug__" : Str)) = false := by decide) (hcd : (a == ("__classdict__" : Str)) = false := by decide) :
    PE X (.Call (.Name x p) [.Lambda params body scope lpos] [] pos) (tLam T TT t) := by
  refine ⟨fun pins s σ H Q I h => ?_⟩
  obtain ⟨hT, h⟩ := h
  refine wpAny_Call_Name_kw (ld_glob I hg hm ?_ hdb)
  refine PySem.W.callWith_K (h₀ := X.base) I.ok.mod.kin hk ?_ (by rfl) (by rfl)
  show wpAny _ _ (spliced ((false, eval (.Lambda params body scope lpos) X.env) :: backTo pos (starEach [] X.env))) _ _ s
  refine Calls.spliced_cons (ld_make I TB hcode hmT hu hT hdef hkw (L.has I.ok) fun f c' pd pm' ctv H1 s' I1 eN T1 hf hfn hfr hco hpd => ?_)
  refine Calls.spliced_nil ⟨I1.kIn, ?_⟩
  have rc : codeAny (model X.prog X.w) X.A (.call (.ref g) ⟨[.ref f], []⟩) (CR C8.CX0 X.stack X.prog X.w H1 s' Q C8.E0) s' := by
    refine run_ofS (N := Ng) (ps := [a]) (us := [.ref f]) (vs := [.ref f]) lk hcg Sg hr I1.env0 (hb s' [.ref f] I1.kIn rfl) (.cons rfl .nil) rfl fun hr' => ?_
    obtain ⟨t', ht', hq'⟩ := hG f c' s' H1 Q (fun E H' Q' => t E σ H' Q') (fun W pn xe E p1 p2 tk hW => pe_actD (i := 0) I1 L hf hfn hfr hpd hbind tk hW hr' (fun A outer s H hr2 => hbody A outer s H E f c' hr2) hNg hva hd hcd) hco (h H1 eN T1)
    exact ⟨t', ht'.nox, hq'⟩
  refine wpAny_call (codeAny_mono rc fun r s2 hq => ?_)
  cases r with
  | error e => exact (show False from hq).elim
  | ok fl =>
    cases fl with
    | ret u => exact I1.after hq
    | next => exact False.elim hq
    | brk => exact False.elim hq
    | cont => exact False.elim hq
end
end OG


set_option Elab.async false
set_option linter.all false
set_option maxRecDepth 100000
set_option maxHeartbeats 2000000
/-! GD: the end of a law row where the law's promise knows the guards; xs[-2::-1]. -/
namespace OG
open PySem PySem.Spec PyProof.Rows L2 LamX
/-- the tables' places -/
abbrev tabs (cs : List (Addr × Addr)) : List Addr := cs.map fun p => p.2
/-- the law's call at the head's heap, for a promise that knows the guards; cs: code objects and their tables -/
theorem law_callG {P : Program} {w : World} {K : PySem.W.Frag} {mg mb : Str → Option Value} {CX : CXT} {k : Nat} {fa a : Addr} {cs : List (Addr × Addr)} {fd : FuncData} {x : Str} {sp : Sp} {s₁ : Shared} {vs : List Value} {ns : List Int}
    (KX : K.In s₁.heap) (hns : s₁.heap.Ns mainGlobals mg) (hb : s₁.heap.Ns builtinsNs mb) (hbb : ∀ x : Str, x ≠ "__name__" → mb x = bootBuiltins x) (hlim : s₁.heap.NoLimit) (hg : s₁.gens = #[])
    (hT : ∀ p ∈ cs, s₁.heap.get? p.2 = some { cls := .none, data := .fields #[] }) (nT : ∀ p ∈ cs, K.lookup p.2 = none) (C : ∀ p ∈ cs, PySem.W.CodeHd s₁.heap p.1 p.2)
    (hbm : ∃ (bm : Addr) (ob : Obj), mg "__builtins__" = some (.ref bm) ∧ bm ≠ builtinsNs ∧ s₁.heap.get? bm = some ob ∧ ob.cls = .type "module" ∧ ob.dict = some builtinsNs ∧ ob.data = .plain)
    (ha : s₁.heap.get? a = some { cls := .type "list", data := .seq vs.toArray }) (hi : IntsAre vs ns) (hl : ns.length ≤ sizeLine) (hr : RmG k callerA)
    (F : ∀ base : Heap, K.In base → base.Ns mainGlobals mg → (∀ p ∈ cs, TabB base mg p.1 p.2) → FnG P w K mg base CX k fa fd [x] sp) (hbind : ∀ (s : Shared) (u : Value), BindsTo s fd ⟨[u], []⟩ [(x, u)])
    (hsp : ∀ H : Hp, (∀ p ∈ cs, H p.2 = some (.tbl #[])) → SqL K H a (ns.map V.int) → sp [.ref a] H (fun v _ => v = .bl true) fun _ _ _ => False)
    (hCX : ∀ H e s', CX [] H s₁ (fun _ _ _ => False) e s' → False) :
    codeAny (model P w) callerA (.call (.ref fa) ⟨[.ref a], []⟩) (fun r s' => r = .ok (.ret (.bool true)) ∧ OldK s₁.heap s'.heap ∧ s'.os = s₁.os ∧ AllBare s'.gens) s₁ := by
  have rv := vals_ints hi
  have lenV := hi.length
  have isT : ∀ b : Addr, b ∈ tabs cs → s₁.heap.get? b = some { cls := .none, data := .fields #[] } := fun b hb => by
    obtain ⟨p, hp, e⟩ := List.mem_map.mp hb
    rw [← e]
    exact hT p hp
  have aT : a ∉ tabs cs := fun z => by
    have q := isT a z
    rw [ha] at q
    have z' : Data.seq vs.toArray _ = Data.fields #[] := congrArg Obj.data (Option.some.inj q)
    cases z'
  have memT : ∀ p ∈ cs, p.2 ∈ tabs cs := fun p hp => List.mem_map.mpr ⟨p, hp, rfl⟩
  -- from an abstract heap in which nothing but the script and the tables may be tracked
  have core : ∀ H : Hp, (∀ p ∈ cs, H p.2 = some (.tbl #[])) → (∀ b, H b = none ∨ b ∈ tabs cs ∨ ∃ o xs, H b = some (.frz o (.lst xs))) → SqL K H a (ns.map V.int) → HOk P w H s₁.heap → (∀ b, H b ≠ none → b = a ∨ b ∈ tabs cs) → (H a ≠ none → K.lookup a = none) →
      codeAny (model P w) callerA (.call (.ref fa) ⟨[.ref a], []⟩) (fun r s' => r = .ok (.ret (.bool true)) ∧ OldK s₁.heap s'.heap ∧ s'.os = s₁.os ∧ AllBare s'.gens) s₁ := by
    intro H hH hO hS hok hA hK
    have base_of : ∀ {b : Addr} {o : Obj}, s₁.heap.get? b = some o → H b = none → (hidT s₁.heap H).get? b = some o := fun e n => hidT_get e n
    have noD : ∀ {b : Addr} {o : Obj}, s₁.heap.get? b = some o → (∀ vs n, o.data ≠ .seq vs n) → o.data ≠ .fields #[] → H b = none := fun {b o} e h1 h2 => by
      cases q : H b with
      | none => rfl
      | some u =>
        rcases hA b (by rw [q]; simp) with e' | e'
        · rw [e', ha] at e
          cases e
          exact (h1 _ _ rfl).elim
        · rw [isT b e'] at e
          cases e
          exact (h2 rfl).elim
    have noA : ∀ {b : Addr} {o : Obj} {es : Array DictEntry} {ep : Nat}, s₁.heap.get? b = some o → o.data = .dict es ep → H b = none := fun {b o es ep} e d => by
      refine noD e (fun vs n z => ?_) fun z => ?_
      · rw [d] at z
        cases z
      · rw [d] at z
        cases z
    have nsK : ∀ {b : Addr} {m : Str → Option Value}, s₁.heap.Ns b m → (hidT s₁.heap H).Ns b m := fun {b m} ⟨o, es, ep, e, d, r⟩ => ⟨o, es, ep, base_of e (noA e d), d, r⟩
    have hKb : K.In (hidT s₁.heap H) := fun b o e => base_of (KX b o e) (by
      cases q : H b with
      | none => rfl
      | some u =>
        rcases hA b (by rw [q]; simp) with e' | e'
        · rw [e'] at e q
          rw [hK (by rw [q]; simp)] at e
          cases e
        · obtain ⟨p, hp, ep⟩ := List.mem_map.mp e'
          rw [← ep, nT p hp] at e
          cases e)
    have hM : L2.Mod K mg (hidT s₁.heap H) := ⟨hKb, nsK hns, ⟨mb, nsK hb, hbb⟩, let ⟨mc, h1, h2⟩ := hlim; ⟨mc, nsK h1, h2⟩⟩
    have TB : ∀ p ∈ cs, TabB (hidT s₁.heap H) mg p.1 p.2 := fun p hp => by
      have hTp := hT p hp
      refine ⟨?_, ?_, fun z => ?_⟩
      · obtain ⟨o, us, file, tf, flags, tg, inF, text, tt, e1, r1, r2, r3, r4, r5, r6, r7, r8, hne⟩ := C p hp
        refine ⟨o, us, file, tf, flags, tg, inF, text, tt, base_of e1 (noD e1 (fun vs n z => ?_) fun z => ?_), r1, r2, r3, r4, r5, r6, r7, r8, hne⟩
        · rw [r2] at z
          cases z
        · rw [r2] at z
          cases z
          simp at r3
      · obtain ⟨bm, ob, b1, b2, b3, b4, b5, b6⟩ := hbm
        have nG : bm ≠ mainGlobals := fun q => by
          obtain ⟨o, es, ep, e, hd, _⟩ := hns
          rw [q, e] at b3
          cases b3
          rw [hd] at b6
          cases b6
        have nP : bm ≠ p.2 := fun q => by
          rw [q, hTp] at b3
          cases b3
          cases b6
        refine ⟨bm, ob, b1, b2, nG, nP, base_of b3 (noD b3 (fun vs n z => ?_) fun z => ?_), b4, b5, b6⟩
        · rw [b6] at z
          cases z
        · rw [b6] at z
          cases z
      · obtain ⟨o, es, ep, e, hd, _⟩ := hns
        rw [z, hTp] at e
        cases e
        cases hd
    have e0 : Env0 P w K mg (hidT s₁.heap H) callerA [] s₁ H := ⟨rfl, hM, fun b o e => of_hidT e, Nat.le_of_eq (hidT_size _ _), trivial, fun b hb => absurd (show b ∈ ([] : List Addr) from hb) (by simp), hok, .of_eq hg⟩
    refine codeAny_mono ((F _ hKb (nsK hns) TB).run callerA [] s₁ H ⟨[.ref a], []⟩ [.ref a] [.ref a] _ _ hr e0 (hbind s₁ (.ref a)) (.cons rfl .nil) (hsp H hH hS)) fun r s' h => ?_
    cases r with
    | error e => exact (hCX H e s' h).elim
    | ok fl =>
      cases fl with
      | next => exact False.elim h
      | brk => exact False.elim h
      | cont => exact False.elim h
      | ret u =>
        obtain ⟨v, H', os, bare, un, hok', r', q⟩ := h
        have q' : v = .bl true := q
        subst q'
        obtain rfl : u = Value.bool true := r'
        have key : ∀ b o, b ∉ tabs cs → s₁.heap.get? b = some o → s'.heap.get? b = some o := fun b o nb e => by
          cases q : H b with
          | none => exact un.keep b o e q (by intro z; exact absurd (show b ∈ ([] : List Addr) from z) (by simp)) (by simp)
          | some u =>
            rcases hO b with z | z | ⟨ob, xs, z⟩
            · rw [q] at z; cases z
            · exact absurd z nb
            · have z2 := un.frzs b ob _ z
              obtain ⟨e1, _⟩ := hok b _ z
              obtain ⟨e2, _⟩ := hok' b _ z2
              rw [e] at e1; cases e1
              exact e2
        have grown : ∀ p ∈ cs, ∃ more : Array Value, s'.heap.get? p.2 = some { cls := .none, data := .fields more } := fun p hp => by
          obtain ⟨more, z⟩ := un.tbls p.2 #[] (hH p hp)
          exact ⟨_, hok' p.2 _ z⟩
        refine ⟨rfl, ⟨fun b o e => ?_, fun b o e => ?_⟩, os, bare⟩
        · by_cases hb : b ∈ tabs cs
          · obtain ⟨p, hp, ep⟩ := List.mem_map.mp hb
            obtain ⟨more, hm⟩ := grown p hp
            rw [← ep] at e ⊢
            rw [hT p hp] at e
            cases e
            exact .inr (.inl ⟨((C p hp).tab (hT p hp)).isCodeTable, rfl, #[], more, rfl, by rw [Array.empty_append]; exact hm⟩)
          · exact .inl (key b o hb e)
        · by_cases hb : b ∈ tabs cs
          · obtain ⟨p, hp, ep⟩ := List.mem_map.mp hb
            obtain ⟨more, hm⟩ := grown p hp
            rw [← ep]
            exact ⟨_, hm⟩
          · exact ⟨o, key b o hb e⟩
  cases hk : K.lookup a with
  | some o =>
    have e := KX a o hk
    rw [ha] at e
    cases e
    refine core (fun b => if b ∈ tabs cs then some (.tbl #[]) else none) (fun p hp => if_pos (memT p hp)) (fun b => ?_) (.inr ⟨_, vs.toArray, _, hk, rfl, rfl, rfl, by rw [List.size_toArray, lenV]; exact hl, by simpa using rv⟩) (fun b u z => ?_) (fun b z => ?_) fun z => absurd (show (if a ∈ tabs cs then some (HO.tbl #[]) else none) = none from if_neg aT) z
    · by_cases hb : b ∈ tabs cs
      · exact .inr (.inl hb)
      · exact .inl (if_neg hb)
    · by_cases hb : b ∈ tabs cs
      · have z' := (if_pos hb).symm.trans z
        cases z'
        exact isT b hb
      · have z' := (if_neg hb).symm.trans z
        cases z'
    · by_cases hb : b ∈ tabs cs
      · exact .inr hb
      · exact absurd (if_neg hb) z
  | none =>
    refine core (fun b => if b = a then some (.frz { cls := .type "list", data := .seq vs.toArray } (.lst (ns.map V.int))) else if b ∈ tabs cs then some (.tbl #[]) else none) (fun p hp => (if_neg (show ¬ p.2 = a from fun z => aT (by rw [← z]; exact memT p hp))).trans (if_pos (memT p hp))) (fun b => ?_)
      (.inl (.inr ⟨{ cls := .type "list", data := .seq vs.toArray }, if_pos rfl⟩)) (fun b u z => ?_) (fun b z => ?_) fun _ => hk
    · by_cases hb : b = a
      · exact .inr (.inr ⟨_, _, if_pos hb⟩)
      · by_cases hb2 : b ∈ tabs cs
        · exact .inr (.inl hb2)
        · exact .inl ((if_neg hb).trans (if_neg hb2))
    · by_cases hb : b = a
      · have z' := (if_pos hb).symm.trans z
        cases z'
        rw [hb]
        exact ⟨ha, by rw [List.length_map]; exact hl, vs, _, rv, ha⟩
      · have z1 := (if_neg hb).symm.trans z
        by_cases hb2 : b ∈ tabs cs
        · have z' := (if_pos hb2).symm.trans z1
          cases z'
          exact isT b hb2
        · have z' := (if_neg hb2).symm.trans z1
          cases z'
    · by_cases hb : b = a
      · exact .inl hb
      · by_cases hb2 : b ∈ tabs cs
        · exact .inr hb2
        · exact absurd ((if_neg hb).trans (if_neg hb2)) z
/-- what is known of the law's promise at the head's heap h -/
def LawAtG (l : PySem.W.OpenLaw) (w : World) (K : PySem.W.Frag) (CX : CXT) (k n : Nat) (x : Str) (mg : Str → Option Value) (fa : Addr) (h : Heap) : Prop :=
  ∃ (fd : FuncData) (cs : List (Addr × Addr)) (sp : Sp), (∀ p ∈ cs, h.get? p.2 = some { cls := .none, data := .fields #[] }) ∧ (∀ p ∈ cs, K.lookup p.2 = none) ∧ (∀ p ∈ cs, PySem.W.CodeHd h p.1 p.2) ∧
    (∀ (s : Shared) (u : Value), BindsTo s fd ⟨[u], []⟩ [(x, u)]) ∧
    (∀ (H : Hp) (a : Addr) (ns : List Int), ns.length ≤ n → (∀ z ∈ ns, Builtin.Int.intBits z ≤ 1048576) → (∀ p ∈ cs, H p.2 = some (.tbl #[])) → SqL K H a (ns.map V.int) → sp [.ref a] H (fun v _ => v = .bl true) fun _ _ _ => False) ∧
    ∀ base : Heap, K.In base → base.Ns mainGlobals mg → (∀ p ∈ cs, TabB base mg p.1 p.2) → FnG l.prog w K mg base CX k fa fd [x] sp
theorem walk_ofG {l : PySem.W.OpenLaw} {n k : Nat} {q : Program} {loose : List Str} {XP : (Str → Option Value) → Heap → Prop} {YP : World → Heap → Prop} {d : DefRec} {K : Params → PySem.W.Frag} {CX : World → CXT} {x : Str}
    (hn : l.most = some n) (hn2 : n ≤ sizeLine) (hdf : d.params.defaults = []) (hr : RmG k callerA) (hY : ∀ (w : World) (h : Heap), YP w h → (K w.params).In h)
    (F : ∀ (w : World) (mg : Str → Option Value) (fa : Addr) (h : Heap), YP w h → (K w.params).In h → h.Ns mainGlobals mg → mg d.name = some (.ref fa) → LawAtG l w (K w.params) (CX w) k n x mg fa h)
    (hCX : ∀ (w : World) (H : Hp) (s : Shared) (e : Value) (s' : Shared), CX w [] H s (fun _ _ _ => False) e s' → False) :
    PySem.W.WalkO q loose XP YP l.row.toRowW d [] (fun f vs => PySem.call f vs) := by
  refine Att.attach_callB hn hdf fun w s₀ s₁ mg mb fa o pm cd doc a vs ns G Y ho hd hcd hmg hobj hints hlen hbits hg => ?_
  have KX := hY w _ Y
  obtain ⟨fd, cs, sp, hT, nT, C, hb, hsp, hF⟩ := F w mg fa _ Y KX G.T.g hmg
  exact law_callG KX G.T.g G.T.b G.T.builtins G.T.nolimit hg hT nT C G.T.bmain hobj hints (Nat.le_trans hlen hn2) hr hF hb (fun H hH hS => hsp H a ns hlen hbits hH hS) fun H e s' => hCX w H s₁ e s'

/-! ### xs[-2::-1] -/
theorem take_all {α : Type} : ∀ (l : List α) (m : Nat), m ≤ l.length → (List.range m).filterMap (fun i => l[i]?) = l.take m
  | l, 0, _ => by simp
  | l, m + 1, h => by
    rw [List.range_succ, List.filterMap_append, take_all l m (by omega)]
    have e : l[m]? = some l[m] := List.getElem?_eq_getElem (by omega)
    rw [List.take_succ, e]
    simp [e]
theorem bounds_back (n : Nat) (h : 2 ≤ n) : sliceBounds (some (-2)) none (some (-1)) n = (((n - 1 : Nat) : Int) - 1, -1, -1) := by
  have e : max (-1) (min (-2 + (n : Int)) ((n : Int) - 1)) = ((n - 1 : Nat) : Int) - 1 := by omega
  show (max (-1) (min (-2 + (n : Int)) ((n : Int) - 1)), (-1 : Int), (-1 : Int)) = _
  rw [e]
theorem pick_back (its : Array Value) (h : 2 ≤ its.size) : slicePick its (some (-2)) none (some (-1)) = (its.toList.take (its.size - 1)).reverse.toArray := by
  unfold slicePick
  rw [bounds_back _ h]
  show ((sliceRange (((its.size - 1 : Nat) : Int) - 1) (-1) (-1)).filterMap (its[·]?)).toArray = _
  rw [PySem.W.krv_sliceRange, PySem.W.krv_range, List.filterMap_reverse]
  have e : (List.range (its.size - 1)).filterMap (its[·]?) = its.toList.take (its.size - 1) := by
    rw [← take_all its.toList (its.size - 1) (by rw [Array.length_toList]; omega)]
    congr 1
    funext i
    rw [Array.getElem?_toList]
  rw [e]
def tBackL (K : PySem.W.Frag) (te : TE) : TE := fun σ H Q => te σ H fun x H1 => ∃ a xs, x = .ref a ∧ SqL K H1 a xs ∧ 2 ≤ xs.length ∧ ∀ p, H1 p = none → Q (.ref p) (upd H1 p (.lst (xs.take (xs.length - 1)).reverse))
theorem pe_backL {X : Cx} {e : Expr} {te : TE} {k k' : Nat} {p0 p1 p2 p3 p4 pos : Pos} (he : PE X e te) :
    PE X (.Subscript e (.Slice (some (.UnaryOp .USub (.Constant (.int 2) k' p0) p4)) none (some (.UnaryOp .USub (.Constant (.int 1) k p1) p2)) p3) pos) (tBackL X.K te) := by
  refine ⟨fun pins s σ H Q I h => ?_⟩
  refine Subscript_ (thn (he.run pins s σ H _ I h) fun v s1 ⟨x, H1, I1, r1, q1⟩ => ?_)
  obtain ⟨a, xs, ex, hx, h2, q⟩ := q1
  subst ex
  cases r1
  have hst : PO X (some (.UnaryOp .USub (.Constant (.int 1) k p1) p2)) (tPart (tUn (rU fun i => .int (-i)) (tC (.int 1)))) := po_some (pe_un un_neg pe_int)
  have hlo : PO X (some (.UnaryOp .USub (.Constant (.int 2) k' p0) p4)) (tPart (tUn (rU fun i => .int (-i)) (tC (.int 2)))) := po_some (pe_un un_neg pe_int)
  refine wpAny_Slice (thn (hlo.run pins s1 σ H1 (fun o H2 => o = some (-2) ∧ H2 = H1) I1 ⟨2, rfl, -2, rfl, rfl, rfl⟩) fun vl s2 ⟨l, H2, I2, pl, el, e2⟩ => ?_)
  subst el e2
  refine thn (po_none.run pins s2 σ H2 (fun o H3 => o = none ∧ H3 = H2) I2 ⟨rfl, rfl⟩) fun vu s3 ⟨u, H3, I3, pu, eu, e3⟩ => ?_
  subst eu e3
  refine thn (hst.run pins s3 σ H3 (fun o H4 => o = some (-1) ∧ H4 = H3) I3 ⟨1, rfl, -1, rfl, rfl, rfl⟩) fun vs s4 ⟨o, H4, I4, ps, eo, e4⟩ => ?_
  subst eo e4
  have I5 : Inv X pins σ H4 { s4 with heap := s4.heap.push { cls := .type "slice", data := .fields #[vl, vu, vs] } } := I4.kept (t' := s4.toks) fun b ob q => Heap.get?_push_of_some _ q
  obtain ⟨its, r, ht, hz⟩ := I5.list hx
  have hlen := r.length
  refine tail_any (ops := [.ref a, .ref s4.heap.objs.size]) ht.isList.typeIs (PySem.slot_list_getitem.lookup) ?_ (by with_unfolding_all rfl)
  refine wpAny_getItem_list_slice ht.isList (Heap.IsSliceOf.new _ vl vu vs) pl pu ps (by decide) ?_ (by rw [List.size_toArray]; omega)
  rw [pick_back _ (by rw [List.size_toArray]; omega)]
  refine ⟨.ref _, _, I5.laid (t' := s4.toks) (o := .lst (xs.take (xs.length - 1)).reverse) (fun b ob q => Heap.get?_push_of_some _ q) (Nat.le_refl _) ?_, rfl, q _ (I5.hok.fresh (Nat.le_refl _))⟩
  refine ⟨by rw [List.length_reverse, List.length_take]; omega, _, 0, ?_, Heap.get?_push_size _ rfl⟩
  have e : its.toArray.toList.take (its.toArray.size - 1) = its.take (xs.length - 1) := by
    rw [List.size_toArray, hlen]
  rw [e]
  exact (r.take (xs.length - 1)).reverse
end OG


set_option Elab.async false
set_option linter.all false
set_option maxRecDepth 100000
set_option maxHeartbeats 4000000
namespace K8
open PySem PySem.Spec PyProof.Rows L2 OG
def top (i : Nat) : Stmt := PySem.Challenge.pw_otherdiagonal_k80_angles_added_and_compa.main.body.getD i (.Pass ⟨0, 0, 0, 0⟩)
abbrev s_BV_init : Stmt := inClass (top 3) 0
abbrev N_BV_init : List Str := ["self", "part"]
theorem sc_BV_init : FnScope ["self", "part"] ["self", "part"] (defScope s_BV_init) := ⟨rfl, rfl, rfl, by decide +kernel, rfl, by decide +kernel, by decide +kernel⟩
abbrev s_BN_init : Stmt := inClass (top 4) 0
abbrev N_BN_init : List Str := ["self", "part"]
theorem sc_BN_init : FnScope ["self", "part"] ["self", "part"] (defScope s_BN_init) := ⟨rfl, rfl, rfl, by decide +kernel, rfl, by decide +kernel, by decide +kernel⟩
abbrev s_need_integer : Stmt := top 7
abbrev N_need_integer : List Str := ["part", "value", "least", "most"]
theorem sc_need_integer : FnScope ["part", "value", "least", "most"] ["part", "value", "least", "most"] (defScope s_need_integer) := ⟨rfl, rfl, rfl, by decide +kernel, rfl, by decide +kernel, by decide +kernel⟩
abbrev s_is_integer : Stmt := top 9
abbrev N_is_integer : List Str := ["value"]
theorem sc_is_integer : FnScope ["value"] ["value"] (defScope s_is_integer) := ⟨rfl, rfl, rfl, by decide +kernel, rfl, by decide +kernel, by decide +kernel⟩
abbrev s_reduced : Stmt := top 10
abbrev N_reduced : List Str := ["p", "q", "common"]
theorem sc_reduced : FnScope ["p", "q", "common"] ["p", "q"] (defScope s_reduced) := ⟨rfl, rfl, rfl, by decide +kernel, rfl, by decide +kernel, by decide +kernel⟩
abbrev s_need_fraction : Stmt := top 11
abbrev N_need_fraction : List Str := ["part", "value", "one"]
theorem sc_need_fraction : FnScope ["part", "value", "one"] ["part", "value"] (defScope s_need_fraction) := ⟨rfl, rfl, rfl, by decide +kernel, rfl, by decide +kernel, by decide +kernel⟩
abbrev s_added : Stmt := top 12
abbrev N_added : List Str := ["one", "other", "p", "q", "r", "s"]
theorem sc_added : FnScope ["one", "other", "p", "q", "r", "s"] ["one", "other"] (defScope s_added) := ⟨rfl, rfl, rfl, by decide +kernel, rfl, by decide +kernel, by decide +kernel⟩
abbrev s_less : Stmt := top 13
abbrev N_less : List Str := ["one", "other", "p", "q", "r", "s"]
theorem sc_less : FnScope ["one", "other", "p", "q", "r", "s"] ["one", "other"] (defScope s_less) := ⟨rfl, rfl, rfl, by decide +kernel, rfl, by decide +kernel, by decide +kernel⟩
abbrev s_times : Stmt := top 14
abbrev N_times : List Str := ["one", "other", "p", "q", "r", "s"]
theorem sc_times : FnScope ["one", "other", "p", "q", "r", "s"] ["one", "other"] (defScope s_times) := ⟨rfl, rfl, rfl, by decide +kernel, rfl, by decide +kernel, by decide +kernel⟩
abbrev s_over : Stmt := top 15
abbrev N_over : List Str := ["one", "other", "p", "q", "r", "s"]
theorem sc_over : FnScope ["one", "other", "p", "q", "r", "s"] ["one", "other"] (defScope s_over) := ⟨rfl, rfl, rfl, by decide +kernel, rfl, by decide +kernel, by decide +kernel⟩
abbrev s_order_of : Stmt := top 16
abbrev N_order_of : List Str := ["one", "other", "p", "q", "r", "s"]
theorem sc_order_of : FnScope ["one", "other", "p", "q", "r", "s"] ["one", "other"] (defScope s_order_of) := ⟨rfl, rfl, rfl, by decide +kernel, rfl, by decide +kernel, by decide +kernel⟩
abbrev s_need_angle : Stmt := top 20
abbrev N_need_angle : List Str := ["part", "value", "left"]
theorem sc_need_angle : FnScope ["part", "value", "left"] ["part", "value"] (defScope s_need_angle) := ⟨rfl, rfl, rfl, by decide +kernel, rfl, by decide +kernel, by decide +kernel⟩
abbrev s_joined : Stmt := top 21
abbrev N_joined : List Str := ["one", "other", "root", "halves", "first", "last", "both", "sign"]
theorem sc_joined : FnScope ["one", "other", "root", "halves", "first", "last", "both", "sign"] ["one", "other", "root"] (defScope s_joined) := ⟨rfl, rfl, rfl, by decide +kernel, rfl, by decide +kernel, by decide +kernel⟩
abbrev s_order_between : Stmt := top 22
abbrev N_order_between : List Str := ["one", "other"]
theorem sc_order_between : FnScope ["one", "other"] ["one", "other"] (defScope s_order_between) := ⟨rfl, rfl, rfl, by decide +kernel, rfl, by decide +kernel, by decide +kernel⟩
abbrev s_angle_sum : Stmt := top 23
abbrev N_angle_sum : List Str := ["one", "other", "root", "first", "last", "square"]
theorem sc_angle_sum : FnScope ["one", "other", "root", "first", "last", "square"] ["one", "other", "root"] (defScope s_angle_sum) := ⟨rfl, rfl, rfl, by decide +kernel, rfl, by decide +kernel, by decide +kernel⟩
abbrev s_order_of_angles : Stmt := top 24
abbrev N_order_of_angles : List Str := ["one", "other"]
theorem sc_order_of_angles : FnScope ["one", "other"] ["one", "other"] (defScope s_order_of_angles) := ⟨rfl, rfl, rfl, by decide +kernel, rfl, by decide +kernel, by decide +kernel⟩

/-! ### where the defs stand -/
structure Ad where
  f_need_integer : Addr
  d_need_integer : FuncData
  f_is_integer : Addr
  d_is_integer : FuncData
  f_reduced : Addr
  d_reduced : FuncData
  f_need_fraction : Addr
  d_need_fraction : FuncData
  f_added : Addr
  d_added : FuncData
  f_less : Addr
  d_less : FuncData
  f_times : Addr
  d_times : FuncData
  f_over : Addr
  d_over : FuncData
  f_order_of : Addr
  d_order_of : FuncData
  f_need_angle : Addr
  d_need_angle : FuncData
  f_joined : Addr
  d_joined : FuncData
  f_order_between : Addr
  d_order_between : FuncData
  f_angle_sum : Addr
  d_angle_sum : FuncData
  f_order_of_angles : Addr
  d_order_of_angles : FuncData
  f_law_pen : Addr
  d_law_pen : FuncData
  f_law_draw : Addr
  d_law_draw : FuncData
  f_law_pick : Addr
  d_law_pick : FuncData
  f_law_gcd : Addr
  d_law_gcd : FuncData
  f_law_low : Addr
  d_law_low : FuncData
  f_law_plus : Addr
  d_law_plus : FuncData
  f_law_by : Addr
  d_law_by : FuncData
  f_law_minus : Addr
  d_law_minus : FuncData
  f_law_over : Addr
  d_law_over : FuncData
  f_law_product : Addr
  d_law_product : FuncData
  f_law_on : Addr
  d_law_on : FuncData
  f_law_angle : Addr
  d_law_angle : FuncData
  f_law_heard : Addr
  d_law_heard : FuncData
  f_law_drawn : Addr
  d_law_drawn : FuncData
  f_law_sum : Addr
  d_law_sum : FuncData
  f_law_order : Addr
  d_law_order : FuncData
  f_law_odd : Addr
  d_law_odd : FuncData
  f_law_refused_right : Addr
  d_law_refused_right : FuncData
  f_law : Addr
  d_law : FuncData
  c_BV : Addr
  c_BN : Addr
  c_MF : Addr
  c_TM : Addr
  f_BV_init : Addr
  d_BV_init : FuncData
  f_BN_init : Addr
  d_BN_init : FuncData
  c_PE : Addr
  m_PE : Value
  zero : Addr
  cd_rr : Addr
  tb_rr : Addr
  tk : Tok

/-- what the top has written -/
structure Txt (K : PySem.W.Frag) (mg : Str → Option Value) (A : Ad) : Prop where
  F_need_integer : Fun K "need_integer" "need_integer" s_need_integer A.f_need_integer A.d_need_integer
  g_need_integer : mg "need_integer" = some (.ref A.f_need_integer)
  F_is_integer : Fun K "is_integer" "is_integer" s_is_integer A.f_is_integer A.d_is_integer
  g_is_integer : mg "is_integer" = some (.ref A.f_is_integer)
  F_reduced : Fun K "reduced" "reduced" s_reduced A.f_reduced A.d_reduced
  g_reduced : mg "reduced" = some (.ref A.f_reduced)
  F_need_fraction : Fun K "need_fraction" "need_fraction" s_need_fraction A.f_need_fraction A.d_need_fraction
  g_need_fraction : mg "need_fraction" = some (.ref A.f_need_fraction)
  F_added : Fun K "added" "added" s_added A.f_added A.d_added
  g_added : mg "added" = some (.ref A.f_added)
  F_less : Fun K "less" "less" s_less A.f_less A.d_less
  g_less : mg "less" = some (.ref A.f_less)
  F_times : Fun K "times" "times" s_times A.f_times A.d_times
  g_times : mg "times" = some (.ref A.f_times)
  F_over : Fun K "over" "over" s_over A.f_over A.d_over
  g_over : mg "over" = some (.ref A.f_over)
  F_order_of : Fun K "order_of" "order_of" s_order_of A.f_order_of A.d_order_of
  g_order_of : mg "order_of" = some (.ref A.f_order_of)
  F_need_angle : Fun K "need_angle" "need_angle" s_need_angle A.f_need_angle A.d_need_angle
  g_need_angle : mg "need_angle" = some (.ref A.f_need_angle)
  F_joined : Fun K "joined" "joined" s_joined A.f_joined A.d_joined
  g_joined : mg "joined" = some (.ref A.f_joined)
  F_order_between : Fun K "order_between" "order_between" s_order_between A.f_order_between A.d_order_between
  g_order_between : mg "order_between" = some (.ref A.f_order_between)
  F_angle_sum : Fun K "angle_sum" "angle_sum" s_angle_sum A.f_angle_sum A.d_angle_sum
  g_angle_sum : mg "angle_sum" = some (.ref A.f_angle_sum)
  F_order_of_angles : Fun K "order_of_angles" "order_of_angles" s_order_of_angles A.f_order_of_angles A.d_order_of_angles
  g_order_of_angles : mg "order_of_angles" = some (.ref A.f_order_of_angles)
  n_isinstance : mg "isinstance" = none
  n_int : mg "int" = none
  n_bool : mg "bool" = none
  n_list : mg "list" = none
  n_tuple : mg "tuple" = none
  n_len : mg "len" = none
  n_all : mg "all" = none
  n_abs : mg "abs" = none
  n_range : mg "range" = none
  n_repr : mg "repr" = none
  g_gcd : mg "gcd" = some (.builtin "math.gcd")
  g_ZERO : mg "ZERO" = some (.ref A.zero)
  l_ZERO : ∀ H : Hp, SqT K H A.zero [.int 0, .int 1]
  g_MOST : mg "MOST_HALVES" = some (.int 1000000 A.tk)
  g_PlanError : mg "PlanError" = some (.ref A.c_PE)
  base : BaseC K A.c_PE A.m_PE
  g_BadValue : mg "BadValue" = some (.ref A.c_BV)
  o_BV : OexC K A.c_BV
  n_BV : PySem.W.findIn K (.ref A.c_BV) "part" = some none
  i_BV : PySem.W.findIn K (.ref A.c_BV) "__init__" = some (some (.ref A.f_BV_init))
  t_BV : PySem.W.typeIn K (.ref A.f_BV_init) = some (.type "function")
  F_BV_init : Fun K "__init__" "BadValue.__init__" s_BV_init A.f_BV_init A.d_BV_init
  g_BadNumber : mg "BadNumber" = some (.ref A.c_BN)
  o_BN : OexC K A.c_BN
  n_BN : PySem.W.findIn K (.ref A.c_BN) "part" = some none
  i_BN : PySem.W.findIn K (.ref A.c_BN) "__init__" = some (some (.ref A.f_BN_init))
  t_BN : PySem.W.typeIn K (.ref A.f_BN_init) = some (.type "function")
  F_BN_init : Fun K "__init__" "BadNumber.__init__" s_BN_init A.f_BN_init A.d_BN_init

/-! ### kinds of values -/
inductive Knd (K : PySem.W.Frag) (H : Hp) : V → Prop
  | non : Knd K H .non
  | bl (b : Bool) : Knd K H (.bl b)
  | int (i : Int) : Knd K H (.int i)
  | str (x : Str) : Knd K H (.str x)
  | lst {a : Addr} {xs : List V} (h : SqL K H a xs) : Knd K H (.ref a)
  | tup {a : Addr} {xs : List V} (h : SqT K H a xs) : Knd K H (.ref a)
  | dct {a : Addr} {kvs : List (Key × V)} (h : H a = some (.dK kvs)) : Knd K H (.ref a)
def isI : V → Bool
  | .int _ => true
  | _ => false
def isB : V → Bool
  | .bl _ => true
  | _ => false
section
variable {K : PySem.W.Frag} {mg : Str → Option Value} {H H' : Hp} {a : Addr} {xs : List V} {x : V}
theorem same_t (e : Same H H') (h : SqT K H a xs) : SqT K H' a xs := by
  rcases h with (h | ⟨o, h⟩) | h
  · exact .inl (.inl (e _ _ h))
  · exact .inl (.inr ⟨o, e _ _ h⟩)
  · exact .inr h
theorem same_s (e : Same H H') (h : SqS K H a xs) : SqS K H' a xs := h.elim (fun h => .inl (e.seq h)) fun h => .inr (same_t e h)
theorem tyL (h : SqL K H a xs) : TyX K H (.ref a) (.type "list") := by
  rcases h with (h | ⟨o, h⟩) | ⟨o, its, n, h, c, _⟩
  · exact .base (.lst h)
  · exact .base (.frz h)
  · exact .kList h c
theorem tyT (h : SqT K H a xs) : TyX K H (.ref a) (.type "tuple") := by
  rcases h with (h | ⟨o, h⟩) | ⟨o, its, n, h, c, _⟩
  · exact .base (.tup h)
  · exact .fTuple h
  · exact .kTuple h c
theorem Knd.mono (e : Same H H') (k : Knd K H x) : Knd K H' x := by
  cases k with
  | non => exact .non
  | bl b => exact .bl b
  | int i => exact .int i
  | str s => exact .str s
  | lst h => exact .lst (e.seq h)
  | tup h => exact .tup (same_t e h)
  | dct h => exact .dct (e _ _ h)
theorem Knd.isint (k : Knd K H x) : ∃ t, TyX K H x t ∧ PySem.W.kitOne K t (.type "int") = some (isI x || isB x) ∧ PySem.W.kitOne K t (.type "bool") = some (isB x) := by
  cases k with
  | non => exact ⟨_, .base .non, kit_ty (a := "NoneType") (r := false) (by decide +kernel), kit_ty (a := "NoneType") (r := false) (by decide +kernel)⟩
  | bl b => exact ⟨_, .base (.bl b), kit_ty (a := "bool") (r := true) (by decide +kernel), kit_ty (a := "bool") (r := true) (by decide +kernel)⟩
  | int i => exact ⟨_, .base (.int i), kit_ty (a := "int") (r := true) (by decide +kernel), kit_ty (a := "int") (r := false) (by decide +kernel)⟩
  | str s => exact ⟨_, .base (.str s), kit_ty (a := "str") (r := false) (by decide +kernel), kit_ty (a := "str") (r := false) (by decide +kernel)⟩
  | lst h => exact ⟨_, tyL h, kit_ty (a := "list") (r := false) (by decide +kernel), kit_ty (a := "list") (r := false) (by decide +kernel)⟩
  | tup h => exact ⟨_, tyT h, kit_ty (a := "tuple") (r := false) (by decide +kernel), kit_ty (a := "tuple") (r := false) (by decide +kernel)⟩
  | dct h => exact ⟨_, .base (.dK h), kit_ty (a := "dict") (r := false) (by decide +kernel), kit_ty (a := "dict") (r := false) (by decide +kernel)⟩
theorem kit2 {t : String} {b c r : Bool} (h1 : kitB t "list" = some b) (h2 : kitB t "tuple" = some c) (hr : (b || c) = r) : PySem.W.kitAny K (.type t) [.type "list", .type "tuple"] = some r := by
  subst hr
  refine kitAny_cons (kit_ty h1) (fun hb => ?_) (fun hb => by rw [hb]; rfl)
  refine kitAny_cons (kit_ty h2) (fun hc => ?_) (fun hc => by rw [hb, hc]; rfl)
  rw [hb, hc]
  exact kitAny_nil
/-- a list or a tuple, or none of both -/
theorem Knd.seq (k : Knd K H x) : (∃ a xs t, x = .ref a ∧ SqS K H a xs ∧ TyX K H x t ∧ PySem.W.kitAny K t [.type "list", .type "tuple"] = some true) ∨
    ∃ t, TyX K H x t ∧ PySem.W.kitAny K t [.type "list", .type "tuple"] = some false := by
  cases k with
  | non => exact .inr ⟨_, .base .non, kit2 (b := false) (c := false) (by decide +kernel) (by decide +kernel) rfl⟩
  | bl b => exact .inr ⟨_, .base (.bl b), kit2 (b := false) (c := false) (by decide +kernel) (by decide +kernel) rfl⟩
  | int i => exact .inr ⟨_, .base (.int i), kit2 (b := false) (c := false) (by decide +kernel) (by decide +kernel) rfl⟩
  | str s => exact .inr ⟨_, .base (.str s), kit2 (b := false) (c := false) (by decide +kernel) (by decide +kernel) rfl⟩
  | lst h => exact .inl ⟨_, _, _, rfl, .inl h, tyL h, kit2 (b := true) (c := false) (by decide +kernel) (by decide +kernel) rfl⟩
  | tup h => exact .inl ⟨_, _, _, rfl, .inr h, tyT h, kit2 (b := false) (c := true) (by decide +kernel) (by decide +kernel) rfl⟩
  | dct h => exact .inr ⟨_, .base (.dK h), kit2 (b := false) (c := false) (by decide +kernel) (by decide +kernel) rfl⟩

/-! ### fractions -/
abbrev rv (x : Rat) : List V := [.int x.num, .int (x.den : Int)]
/-- what two items are worth -/
def seqFr : List V → Option Rat
  | [.int p, .int q] => if 1 ≤ q then some (Rat.divInt p q) else none
  | _ => none
def SzI (n : Nat) (i : Int) : Prop := i.natAbs < 2 ^ n
def Sz (n : Nat) (x : Rat) : Prop := SzI n x.num ∧ SzI n (x.den : Int)
/-- v told as a fraction: what it is worth -/
inductive FrV (K : PySem.W.Frag) (H : Hp) : V → Option Rat → Prop
  | int (i : Int) : FrV K H (.int i) (some (i : Rat))
  | non : FrV K H .non none
  | bl (b : Bool) : FrV K H (.bl b) none
  | str (x : Str) : FrV K H (.str x) none
  | dct {a : Addr} {kvs : List (Key × V)} (h : H a = some (.dK kvs)) : FrV K H (.ref a) none
  | seq {a : Addr} {xs : List V} (h : SqS K H a xs) (hk : ∀ x ∈ xs, Knd K H x) (hl : xs.length ≤ 100) (hs : ∀ p q, xs = [.int p, .int q] → SzI 4000 q) : FrV K H (.ref a) (seqFr xs)
theorem FrV.mono {r : Option Rat} (e : Same H H') (k : FrV K H x r) : FrV K H' x r := by
  cases k with
  | int i => exact .int i
  | non => exact .non
  | bl b => exact .bl b
  | str s => exact .str s
  | dct h => exact .dct (e _ _ h)
  | seq h hk hl hs => exact .seq (same_s e h) (fun y hy => (hk y hy).mono e) hl hs
theorem FrV.knd {r : Option Rat} (k : FrV K H x r) : Knd K H x := by
  cases k with
  | int i => exact .int i
  | non => exact .non
  | bl b => exact .bl b
  | str s => exact .str s
  | dct h => exact .dct h
  | seq h hk hl hs => exact h.elim (fun h => .lst h) fun h => .tup h
theorem seqFr_rv (x : Rat) : seqFr (rv x) = some x := by
  show (if 1 ≤ (x.den : Int) then some (Rat.divInt x.num x.den) else none) = some x
  rw [if_pos (by have := x.den_pos; omega), Rat.num_divInt_den]
/-- a made fraction -/
def FrT (K : PySem.W.Frag) (H : Hp) (v : V) (x : Rat) : Prop := ∃ a, v = .ref a ∧ SqT K H a (rv x)
theorem FrT.mono {v : V} {x : Rat} (e : Same H H') (h : FrT K H v x) : FrT K H' v x := let ⟨a, h1, h2⟩ := h; ⟨a, h1, same_t e h2⟩
theorem FrT.fr {v : V} {x : Rat} (h : FrT K H v x) (hz : Sz 4000 x) : FrV K H v (some x) := by
  obtain ⟨a, rfl, h⟩ := h
  rw [← seqFr_rv x]
  refine .seq (.inr h) (fun y hy => ?_) (by show 2 ≤ 100; decide) fun p q e => ?_
  · rcases List.mem_cons.mp hy with rfl | hy
    · exact .int _
    · rcases List.mem_cons.mp hy with rfl | hy
      · exact .int _
      · cases hy
  · have e2 : V.int (x.den : Int) = V.int q := by injection e with _ e2; injection e2
    injection e2 with e2
    rw [← e2]
    exact hz.2
end
/-- the ends of promises -/
def BadE (C : Addr) (w : Str) (H : Hp) (E : XK) : Prop := ∀ d H', Same H H' → H' d = some (.xd [("part", .str w)]) → E (.ref C) (some d) H'
def RetF (x : Rat) (H : Hp) (Q : VK) : Prop := ∀ a H', Same H H' → H' a = some (.tup (rv x)) → Q (.ref a) H'
theorem BadE.mono {C : Addr} {w : Str} {H H' : Hp} {E : XK} (e : Same H H') (h : BadE C w H E) : BadE C w H' E := fun d H2 s h2 => h d H2 (e.trans s) h2
theorem RetF.mono {x : Rat} {H H' : Hp} {Q : VK} (e : Same H H') (h : RetF x H Q) : RetF x H' Q := fun a H2 s h2 => h a H2 (e.trans s) h2
theorem same_new {H : Hp} {p : Addr} {o : HO} (h : H p = none) : Same H (upd H p o) := fun b u e => by
  rw [upd_ne (ne_of_none e h)]
  exact e

section
variable {P : Program} {w : World} {K : PySem.W.Frag} {mg : Str → Option Value} {base : Heap} {A : Ad}
theorem b_need_integer {f : Addr} {fd : FuncData} (F : Fun K "need_integer" "need_integer" s_need_integer f fd) : Binds K fd ["part", "value", "least", "most"] [] := F.binds (ps := ["part", "value", "least", "most"]) fun _ _ _ _ _ _ us hl => match us, hl with | [_, _, _, _], _ => rfl
theorem b_is_integer {f : Addr} {fd : FuncData} (F : Fun K "is_integer" "is_integer" s_is_integer f fd) : Binds K fd ["value"] [] := F.binds (ps := ["value"]) fun _ _ _ _ _ _ us hl => match us, hl with | [_], _ => rfl
theorem b_reduced {f : Addr} {fd : FuncData} (F : Fun K "reduced" "reduced" s_reduced f fd) : Binds K fd ["p", "q"] [] := F.binds (ps := ["p", "q"]) fun _ _ _ _ _ _ us hl => match us, hl with | [_, _], _ => rfl
theorem b_need_fraction {f : Addr} {fd : FuncData} (F : Fun K "need_fraction" "need_fraction" s_need_fraction f fd) : Binds K fd ["part", "value"] [] := F.binds (ps := ["part", "value"]) fun _ _ _ _ _ _ us hl => match us, hl with | [_, _], _ => rfl
theorem b_added {f : Addr} {fd : FuncData} (F : Fun K "added" "added" s_added f fd) : Binds K fd ["one", "other"] [] := F.binds (ps := ["one", "other"]) fun _ _ _ _ _ _ us hl => match us, hl with | [_, _], _ => rfl
theorem b_less {f : Addr} {fd : FuncData} (F : Fun K "less" "less" s_less f fd) : Binds K fd ["one", "other"] [] := F.binds (ps := ["one", "other"]) fun _ _ _ _ _ _ us hl => match us, hl with | [_, _], _ => rfl
theorem b_times {f : Addr} {fd : FuncData} (F : Fun K "times" "times" s_times f fd) : Binds K fd ["one", "other"] [] := F.binds (ps := ["one", "other"]) fun _ _ _ _ _ _ us hl => match us, hl with | [_, _], _ => rfl
theorem b_over {f : Addr} {fd : FuncData} (F : Fun K "over" "over" s_over f fd) : Binds K fd ["one", "other"] [] := F.binds (ps := ["one", "other"]) fun _ _ _ _ _ _ us hl => match us, hl with | [_, _], _ => rfl
theorem b_order_of {f : Addr} {fd : FuncData} (F : Fun K "order_of" "order_of" s_order_of f fd) : Binds K fd ["one", "other"] [] := F.binds (ps := ["one", "other"]) fun _ _ _ _ _ _ us hl => match us, hl with | [_, _], _ => rfl
theorem b_need_angle {f : Addr} {fd : FuncData} (F : Fun K "need_angle" "need_angle" s_need_angle f fd) : Binds K fd ["part", "value"] [] := F.binds (ps := ["part", "value"]) fun _ _ _ _ _ _ us hl => match us, hl with | [_, _], _ => rfl
theorem b_joined {f : Addr} {fd : FuncData} (F : Fun K "joined" "joined" s_joined f fd) : Binds K fd ["one", "other", "root"] [] := F.binds (ps := ["one", "other", "root"]) fun _ _ _ _ _ _ us hl => match us, hl with | [_, _, _], _ => rfl
theorem b_order_between {f : Addr} {fd : FuncData} (F : Fun K "order_between" "order_between" s_order_between f fd) : Binds K fd ["one", "other"] [] := F.binds (ps := ["one", "other"]) fun _ _ _ _ _ _ us hl => match us, hl with | [_, _], _ => rfl
theorem b_angle_sum {f : Addr} {fd : FuncData} (F : Fun K "angle_sum" "angle_sum" s_angle_sum f fd) : Binds K fd ["one", "other", "root"] [] := F.binds (ps := ["one", "other", "root"]) fun _ _ _ _ _ _ us hl => match us, hl with | [_, _, _], _ => rfl
theorem b_order_of_angles {f : Addr} {fd : FuncData} (F : Fun K "order_of_angles" "order_of_angles" s_order_of_angles f fd) : Binds K fd ["one", "other"] [] := F.binds (ps := ["one", "other"]) fun _ _ _ _ _ _ us hl => match us, hl with | [_, _], _ => rfl
theorem b_BV_init {f : Addr} {fd : FuncData} (F : Fun K "__init__" "BadValue.__init__" s_BV_init f fd) : Binds K fd ["self", "part"] [] := F.binds (ps := ["self", "part"]) fun _ _ _ _ _ _ us hl => match us, hl with | [_, _], _ => rfl
theorem b_BN_init {f : Addr} {fd : FuncData} (F : Fun K "__init__" "BadNumber.__init__" s_BN_init f fd) : Binds K fd ["self", "part"] [] := F.binds (ps := ["self", "part"]) fun _ _ _ _ _ _ us hl => match us, hl with | [_, _], _ => rfl

/-! ### the errors' __init__ -/
def spInit (K : PySem.W.Frag) (C : Addr) : Sp := fun vs H Q _ => ∃ (a : Addr) (v : V), vs = [.ref a, v] ∧ H a = some (exo a C none) ∧ ∀ dx, H dx = none → dx ≠ a → Q .non (upd (upd H dx (exd dx [("part", v)])) a (exo a C (some dx)))
theorem ok_BV_init (T : Txt K mg A) : FnOk P w K mg base CX0 1 A.f_BV_init A.d_BV_init ["self", "part"] (spInit K A.c_BV) := by
  refine T.F_BV_init.ok sc_BV_init (fun vs H Q E h => ?_) (fun cdv Ar outer s H vs Q E hr h => ?_)
  · obtain ⟨a, v, rfl, _⟩ := h
    rfl
  · obtain ⟨a, v, rfl, ha, k⟩ := h
    refine ⟨_, (pss_cons (ps_expr (pe_binit T.base rfl T.g_PlanError (pa_cons (pv 0) (pa_cons (pv 1) pa_nil))))
      (pss_one (ps_ost (pv 0) (pv 1)))), ?_⟩
    exact ⟨_, rfl, _, rfl, a, A.c_BV, [v], rfl, by show 1 ≤ 1000; decide, T.o_BV, ha, _, rfl, _, rfl, a, A.c_BV, rfl, T.o_BV, T.n_BV, .inl ⟨ha, k⟩⟩
theorem ok_BN_init (T : Txt K mg A) : FnOk P w K mg base CX0 1 A.f_BN_init A.d_BN_init ["self", "part"] (spInit K A.c_BN) := by
  refine T.F_BN_init.ok sc_BN_init (fun vs H Q E h => ?_) (fun cdv Ar outer s H vs Q E hr h => ?_)
  · obtain ⟨a, v, rfl, _⟩ := h
    rfl
  · obtain ⟨a, v, rfl, ha, k⟩ := h
    refine ⟨_, (pss_cons (ps_expr (pe_binit T.base rfl T.g_PlanError (pa_cons (pv 0) (pa_cons (pv 1) pa_nil))))
      (pss_one (ps_ost (pv 0) (pv 1)))), ?_⟩
    exact ⟨_, rfl, _, rfl, a, A.c_BN, [v], rfl, by show 1 ≤ 1000; decide, T.o_BN, ha, _, rfl, _, rfl, a, A.c_BN, rfl, T.o_BN, T.n_BN, .inl ⟨ha, k⟩⟩
/-- the reading of raise C(..): what is wished of it -/
theorem raise_go {C : Addr} {v : V} {H : Hp} {Q : XK} (h : ∀ d H', Same H H' → H' d = some (.xd [("part", v)]) → Q (.ref C) (some d) H') :
    [v].length ≤ 1000 ∧ ∀ a, H a = none → spInit K C (.ref a :: ([v] ++ [])) (upd H a (exo a C none))
      (fun u H2 => u = .non ∧ ∃ (d : Addr) (fs : List (Str × V)), H2 a = some (exo a C (some d)) ∧ H2 d = some (exd d fs) ∧ H d = none ∧ Q (.ref C) (some d) (upd (del H2 a) d (.xd fs))) (fun _ _ _ => False) := by
  refine ⟨by show 1 ≤ 1000; decide, fun a ha => ⟨a, v, rfl, upd_same, fun dx hdx nda => ?_⟩⟩
  have hd0 : H dx = none := by
    rw [upd_ne nda] at hdx
    exact hdx
  refine ⟨rfl, dx, _, upd_same, by rw [upd_ne nda]; exact upd_same, hd0, h dx _ (fun b o e => ?_) upd_same⟩
  have n1 := ne_of_none e ha
  have n2 := ne_of_none e hd0
  rw [upd_ne n2, del_ne n1, upd_ne n1, upd_ne n2, upd_ne n1]
  exact e

/-! ### integers -/
def spIsInt (K : PySem.W.Frag) : Sp := fun vs H Q _ => ∃ x, vs = [x] ∧ Knd K H x ∧ Q (.bl (isI x)) H
theorem ok_is_integer (T : Txt K mg A) : FnOk P w K mg base CX0 1 A.f_is_integer A.d_is_integer ["value"] (spIsInt K) := by
  refine T.F_is_integer.ok sc_is_integer (fun vs H Q E h => ?_) (fun cdv Ar outer s H vs Q E hr h => ?_)
  · obtain ⟨x, rfl, _⟩ := h
    rfl
  · obtain ⟨x, rfl, kx, q⟩ := h
    refine ⟨_, (pss_one (ps_ret (pe_and (pe_callB call_isi (by rfl) T.n_isinstance (by decide +kernel) (pa_cons (pv 0) (pa_cons (pe_bltn (v := .ty "int") (by rfl) T.n_int (by decide +kernel) rfl) pa_nil))) (pe_one (pe_not (pe_callB call_isi (by rfl) T.n_isinstance (by decide +kernel) (pa_cons (pv 0) (pa_cons (pe_bltn (v := .ty "bool") (by rfl) T.n_bool (by decide +kernel) rfl) pa_nil)))))))), ?_⟩
    obtain ⟨t, ht, h1, h2⟩ := kx.isint
    refine ⟨_, rfl, x, .ty "int", t, .type "int", _, rfl, .ty _, ht, h1, _, rfl, ?_⟩
    cases x with
    | int i => exact iteT ⟨_, rfl, _, .ty "bool", t, .type "bool", _, rfl, .ty _, ht, h2, _, rfl, q⟩
    | bl b => exact iteT ⟨_, rfl, _, .ty "bool", t, .type "bool", _, rfl, .ty _, ht, h2, _, rfl, q⟩
    | _ => exact iteF q
def spNeedInt (A : Ad) : Sp := fun vs H Q E => ∃ (p : Str) (i lo hi : Int), vs = [.str p, .int i, .int lo, .int hi] ∧ (lo ≤ i → i ≤ hi → Q .non H) ∧ (i < lo ∨ hi < i → BadE A.c_BN p H E)
theorem ok_need_integer (T : Txt K mg A) : FnOk P w K mg base (L2.CX P w) 3 A.f_need_integer A.d_need_integer ["part", "value", "least", "most"] (spNeedInt A) := by
  refine T.F_need_integer.okX sc_need_integer (fun vs H Q E h => ?_) (fun cdv Ar outer s H vs Q E hr h => ?_)
  · obtain ⟨_, _, _, _, rfl, _⟩ := h
    rfl
  · obtain ⟨p, i, lo, hi, rfl, q1, q2⟩ := h
    refine ⟨_, (pss_one (ps_if (PW.pt (pw_or (pt_not (pt_val (pe_callB call_isi (by rfl) T.n_isinstance (by decide +kernel) (pa_cons (pv 1) (pa_cons (pe_bltn (v := .ty "int") (by rfl) T.n_int (by decide +kernel) rfl) pa_nil))))) (pw_or (pt_val (pe_callB call_isi (by rfl) T.n_isinstance (by decide +kernel) (pa_cons (pv 1) (pa_cons (pe_bltn (v := .ty "bool") (by rfl) T.n_bool (by decide +kernel) rfl) pa_nil)))) (pw_or (pt_cmpR op_lt (pv 1) (pv 2) (nomark _)) (pw_or1 (PW.pt (pw_and (pt_cmpR op_notN (pv 3) pe_non (nomark _)) (pw_and1 (pt_cmpR op_gt (pv 1) (pv 3) (nomark _)))))))))) (pss_one (ps_raise rfl (takes_of rfl rfl rfl rfl) (pmk_oex T.o_BN T.i_BN T.t_BN (ok_BN_init T) (hr.mono (by decide)) (b_BN_init T.F_BN_init) .nil pass0 rfl T.g_BadNumber (pa_cons (pv 0) pa_nil)))) pss_nil)), ?_⟩
    obtain ⟨t, ht, h1, h2⟩ := (Knd.int (K := K) (H := H) i).isint
    refine ⟨_, rfl, _, .ty "int", t, .type "int", _, rfl, .ty _, ht, h1, _, rfl, iteF ?_⟩
    refine ⟨_, rfl, _, .ty "bool", t, .type "bool", _, rfl, .ty _, ht, h2, _, rfl, iteF ?_⟩
    refine ⟨_, rfl, _, rfl, _, _, rfl, rfl, _, rfl, ?_⟩
    have bad : i < lo ∨ hi < i → [V.str p].length ≤ 1000 ∧ ∀ a, H a = none → spInit K A.c_BN (.ref a :: ([.str p] ++ [])) (upd H a (exo a A.c_BN none))
      (fun u H2 => u = .non ∧ ∃ (d : Addr) (fs : List (Str × V)), H2 a = some (exo a A.c_BN (some d)) ∧ H2 d = some (exd d fs) ∧ H d = none ∧ E (.ref A.c_BN) (some d) (upd (del H2 a) d (.xd fs))) (fun _ _ _ => False) := fun hb => raise_go (q2 hb)
    by_cases c1 : i < lo
    · rw [decide_eq_true c1]
      exact iteT (iteT ⟨_, rfl, bad (.inl c1)⟩)
    · rw [decide_eq_false c1]
      refine iteF ⟨_, rfl, rfl, _, rfl, iteT ⟨_, rfl, _, rfl, _, _, rfl, rfl, _, rfl, ?_⟩⟩
      by_cases c2 : hi < i
      · rw [decide_eq_true c2]
        exact iteT ⟨_, rfl, bad (.inr c2)⟩
      · rw [decide_eq_false c2]
        exact iteF (q1 (by omega) (by omega))
end
end K8


set_option Elab.async false
set_option linter.all false
set_option maxRecDepth 100000
set_option maxHeartbeats 4000000
namespace K8
open PySem PySem.Spec PyProof.Rows L2 OG
section
variable {P : Program} {w : World} {K : PySem.W.Frag} {mg : Str → Option Value} {base : Heap} {A : Ad}
theorem two_line : (2 : Nat) ≤ sizeLine := by decide

/-! ### lowest terms -/
theorem gcd_is (p q : Int) : ((Nat.gcd p.natAbs q.natAbs : Nat) : Int) = ((Int.gcd q p : Nat) : Int) := by
  rw [Int.gcd_comm] <;> rfl
theorem gcd_pos {p q : Int} (h : q ≠ 0) : 0 < Nat.gcd p.natAbs q.natAbs := Nat.gcd_pos_of_pos_right _ (by omega)
theorem gcd_div {p q : Int} {n : Nat} (h : q ≠ 0) (hz : SzI n q) (h0 : 0 < n) (h9 : n ≤ 9000) : CDivW p ((Nat.gcd p.natAbs q.natAbs : Nat) : Int) := by
  refine wide_div (b := n) (by have := gcd_pos (p := p) h; omega) ?_ h0 h9
  refine Nat.lt_of_le_of_lt ?_ hz
  rw [Int.natAbs_natCast]
  exact Nat.le_of_dvd (by omega) (Nat.gcd_dvd_right _ _)
theorem red_neg {p q : Int} (h : q < 0) : ([V.int (-p / ((Nat.gcd p.natAbs q.natAbs : Nat) : Int)), V.int (-q / ((Nat.gcd p.natAbs q.natAbs : Nat) : Int))] : List V) = rv (Rat.divInt p q) := by
  rw [gcd_is]
  have e1 : (Rat.divInt p q).num = -p / ((Int.gcd q p : Nat) : Int) := by
    rw [Rat.num_divInt, Int.sign_eq_neg_one_of_neg h]
    congr 1
    omega
  have e2 : ((Rat.divInt p q).den : Int) = -q / ((Int.gcd q p : Nat) : Int) := by
    rw [Rat.den_divInt, if_neg (by omega), Int.natCast_ediv]
    congr 1
    omega
  rw [← e1, ← e2]
theorem red_pos {p q : Int} (h : 0 < q) : ([V.int (p / ((Nat.gcd p.natAbs q.natAbs : Nat) : Int)), V.int (q / ((Nat.gcd p.natAbs q.natAbs : Nat) : Int))] : List V) = rv (Rat.divInt p q) := by
  rw [gcd_is]
  have e1 : (Rat.divInt p q).num = p / ((Int.gcd q p : Nat) : Int) := by
    rw [Rat.num_divInt, Int.sign_eq_one_of_pos h]
    congr 1
    omega
  have e2 : ((Rat.divInt p q).den : Int) = q / ((Int.gcd q p : Nat) : Int) := by
    rw [Rat.den_divInt, if_neg (by omega), Int.natCast_ediv]
    congr 1
    omega
  rw [← e1, ← e2]
def spReduced : Sp := fun vs H Q _ => ∃ p q : Int, vs = [.int p, .int q] ∧ q ≠ 0 ∧ SzI 9000 q ∧ RetF (Rat.divInt p q) H Q
theorem ok_reduced (T : Txt K mg A) : FnOk P w K mg base CX0 1 A.f_reduced A.d_reduced ["p", "q"] spReduced := by
  refine T.F_reduced.ok sc_reduced (fun vs H Q E h => ?_) (fun cdv Ar outer s H vs Q E hr h => ?_)
  · obtain ⟨_, _, rfl, _⟩ := h
    rfl
  · obtain ⟨p, q, rfl, hq, hz, k⟩ := h
    refine ⟨_, (pss_cons (ps_set (i := 2) sc_reduced.nd rfl (Or.inl rfl) (pe_callBfun cr_gcd (by rfl) T.g_gcd (pa_cons (pv 0) (pa_cons (pv 1) pa_nil))))
      (pss_one (ps_ret (pe_ifExp (pt_cmpR op_lt (pv 1) pe_int (nomark _)) (pe_tup (pa_cons (pe_op op_fdivW (pe_un un_neg (pv 0)) (pv 2)) (pa_cons (pe_op op_fdivW (pe_un un_neg (pv 1)) (pv 2)) pa_nil))) (pe_tup (pa_cons (pe_op op_fdivW (pv 0) (pv 2)) (pa_cons (pe_op op_fdivW (pv 1) (pv 2)) pa_nil))))))), ?_⟩
    have hd : ∀ i, CDivW i ((Nat.gcd p.natAbs q.natAbs : Nat) : Int) := fun i => gcd_div (p := p) hq hz (by decide) (by decide)
    refine ⟨_, rfl, _, rfl, p, q, rfl, ?_⟩
    refine ⟨_, rfl, _, _, rfl, rfl, _, rfl, ?_⟩
    by_cases c : q < 0
    · rw [decide_eq_true c]
      refine iteT ⟨_, rfl, _, rfl, _, rfl, _, _, rfl, rfl, hd _, _, rfl, _, rfl, _, rfl, _, _, rfl, rfl, hd _, two_line, fun a ha => ?_⟩
      refine k a _ (same_new ha) ?_
      rw [upd_same, red_neg c]
    · rw [decide_eq_false c]
      refine iteF ⟨_, rfl, _, rfl, _, _, rfl, rfl, hd _, _, rfl, _, rfl, _, _, rfl, rfl, hd _, two_line, fun a ha => ?_⟩
      refine k a _ (same_new ha) ?_
      rw [upd_same, red_pos (by omega)]

/-! ### any value as a fraction -/
theorem rix_s {H : Hp} {Q : VK} {p : Addr} {xs : List V} {i : Int} {v : V} (h : SqS K H p xs) (ha : atI xs i = some v) (q : Q v H) : rIx K (.ref p) (.int i) H Q := by
  rcases h with h | h
  · exact .inl ⟨p, xs, i, v, rfl, rfl, h, ha, q⟩
  · exact .inr (.inl ⟨p, xs, i, v, rfl, rfl, h, ha, q⟩)
theorem len_s {H : Hp} {p : Addr} {xs : List V} (h : SqS K H p xs) : LenV K (.ref p) H xs.length := h.elim (fun h => .inl ⟨xs, h, rfl⟩) fun h => .inr ⟨xs, h, rfl⟩
/-- what a comprehension has made so far -/
def Made (H0 : Hp) (D : Addr) (ys : List V) (H : Hp) : Prop := Same H0 H ∧ H D = some (.lst ys)
theorem made0 {H0 : Hp} {D : Addr} (h : H0 D = none) : Made H0 D [] (upd H0 D (.lst [])) := ⟨same_new h, upd_same⟩
theorem made1 {H0 H : Hp} {D : Addr} {ys : List V} {y : V} (h0 : H0 D = none) (s : Same H0 H) : Made H0 D (ys ++ [y]) (upd H D (.lst (ys ++ [y]))) := by
  refine ⟨fun b o e => ?_, upd_same⟩
  rw [upd_ne (ne_of_none e h0)]
  exact s b o e
theorem take_next {α β : Type} {xs : List α} {f : α → β} {i : Nat} {x : α} (h : xs[i]? = some x) : (xs.take (i + 1)).map f = (xs.take i).map f ++ [f x] := by
  rw [List.take_succ, h]
  simp
theorem tyes {σ : L2.St} {H : Hp} {A B : Hp → Prop} (h : A H) : tYes σ H (fun b H3 => if b = true then A H3 else B H3) := by
  show if true = true then A H else B H
  exact iteT h
theorem not_all {te : TE} {σ : L2.St} {H : Hp} {Q : Bool → Hp → Prop} (h : te σ H fun x H1 => rAll K [x] H1 fun y H2 => ∃ c, y = .bl c ∧ Q (!c) H2) : tNot (tB (tCB (rAll K) (tCons te tNil))) σ H Q := h
theorem ints_comp {H : Hp} {Q : VK} {a : Addr} {xs : List V} {v0 : V} (hq : SqS K H a xs) (hk : ∀ x ∈ xs, Knd K H x) (hl : xs.length ≤ 100) (kont : ∀ D H', Same H H' → H' D = some (.lst (xs.map fun x => V.bl (isI x))) → Q (.ref D) H') :
    tLc (iSeq K (tVar 1)) (gName 2) tYes (tCall (spIsInt K) [] E0 (tCons (tVar 2) tNil)) [2] [some v0, some (.ref a), none] H Q := by
  have h0 : ∀ D, H D = none → Made H D ((xs.take 0).map fun x => V.bl (isI x)) (upd H D (.lst [])) := fun D hD => by
    rw [List.take_zero]
    exact made0 hD
  have turn : ∀ (D : Addr) (i : Nat) (x : V) (H' : Hp), H D = none → xs[i]? = some x → Made H D ((xs.take i).map fun x => V.bl (isI x)) H' →
      ∃ acc, H' D = some (.lst acc) ∧ acc.length < sizeLine ∧ Made H D ((xs.take (i + 1)).map fun x => V.bl (isI x)) (upd H' D (.lst (acc ++ [V.bl (isI x)]))) := fun D i x H' hD hx m => by
    refine ⟨_, m.2, ?_, ?_⟩
    · rw [List.length_map, List.length_take]
      exact Nat.lt_of_le_of_lt (Nat.le_trans (Nat.min_le_right _ _) hl) (by decide)
    · rw [take_next hx]
      exact made1 (H := H') hD m.1
  have fin : ∀ (D : Addr) (H' : Hp), Made H D ((xs.take xs.length).map fun x => V.bl (isI x)) H' → Q (.ref D) H' := fun D H' m => kont D H' m.1 (by rw [List.take_length] at m; exact m.2)
  refine ⟨_, rfl, a, rfl, ?_⟩
  rcases hq with hq | hq
  · refine .inl ⟨⟨xs, hq⟩, fun D hD => lc_list (K := K) (a := a) (xs := xs) (fun i H' => Made H D ((xs.take i).map fun x => V.bl (isI x)) H') (h0 D hD) (fun i H' _ m => m.1.seq hq) (fun i x H' hx m => ?_) (fun H' m => fin D H' m)⟩
    exact ⟨rfl, tyes (A := fun H3 => tCall (spIsInt K) [] E0 (tCons (tVar 2) tNil) _ H3 _) ⟨_, rfl, x, rfl, (hk x (List.mem_of_getElem? hx)).mono m.1, turn D i x H' hD hx m⟩⟩
  · refine .inr ⟨⟨xs, hq⟩, fun D hD => lc_tup (K := K) (a := a) (xs := xs) (fun i H' => Made H D ((xs.take i).map fun x => V.bl (isI x)) H') (h0 D hD) (fun i H' _ m => same_t m.1 hq) (fun i x H' hx m => ?_) (fun H' m => fin D H' m)⟩
    exact ⟨rfl, tyes (A := fun H3 => tCall (spIsInt K) [] E0 (tCons (tVar 2) tNil) _ H3 _) ⟨_, rfl, x, rfl, (hk x (List.mem_of_getElem? hx)).mono m.1, turn D i x H' hD hx m⟩⟩
def spNeedFr (K : PySem.W.Frag) (A : Ad) : Sp := fun vs H Q E => ∃ (p : Str) (v : V) (r : Option Rat), vs = [.str p, v] ∧ FrV K H v r ∧ (r = none → BadE A.c_BV p H E) ∧ ∀ x, r = some x → RetF x H Q
theorem ok_need_fraction (T : Txt K mg A) : FnOk P w K mg base (L2.CX P w) 3 A.f_need_fraction A.d_need_fraction ["part", "value"] (spNeedFr K A) := by
  refine T.F_need_fraction.okX sc_need_fraction (fun vs H Q E h => ?_) (fun cdv Ar outer s H vs Q E hr h => ?_)
  · obtain ⟨_, _, _, rfl, _⟩ := h
    rfl
  · obtain ⟨p, v, r, rfl, hv, q1, q2⟩ := h
    refine ⟨_, (pss_cons (ps_if (pt_val (pe_call (ok_is_integer T) (hr.mono (by decide)) rfl T.g_is_integer T.F_is_integer.kp (b_is_integer T.F_is_integer) .nil pass0 (pa_cons (pv 1) pa_nil))) (pss_one (ps_ret (pe_tup (pa_cons (pv 1) (pa_cons pe_int pa_nil))))) pss_nil)
      (pss_cons (ps_if (PW.pt (pw_or (pt_not (pt_val (pe_callB call_isiT (by rfl) T.n_isinstance (by decide +kernel) (pa_cons (pv 1) (pa_cons (pe_tup (pa_cons (pe_bltn (v := .ty "list") (by rfl) T.n_list (by decide +kernel) rfl) (pa_cons (pe_bltn (v := .ty "tuple") (by rfl) T.n_tuple (by decide +kernel) rfl) pa_nil))) pa_nil))))) (pw_or (pt_cmpR op_ne (pe_callB call_len (by rfl) T.n_len (by decide +kernel) (pa_cons (pv 1) pa_nil)) pe_int (nomark _)) (pw_or1 (pt_not (pt_val (pe_callB (cr_all rfl) (by rfl) T.n_all (by decide +kernel) (pa_cons (pe_lc (own := [("one", 2)]) (g := gName 2) (by rfl) sc_need_fraction.nd (pi_seq (pv 1)) (blkOk_by (own := [("one", 2)]) (N := N_need_fraction) (sc := defScope s_need_fraction) (by decide +kernel)) (fun _ _ _ _ _ => pg_name (i := 2) sc_need_fraction.nd rfl (Or.inl rfl)) (fun _ _ _ _ _ => pts_nil) (fun _ _ _ _ _ => (pe_call (ok_is_integer T) (hr.mono (by decide)) rfl T.g_is_integer T.F_is_integer.kp (b_is_integer T.F_is_integer) .nil pass0 (pa_cons (pv 2) pa_nil)))) pa_nil)))))))) (pss_one (ps_raise rfl (takes_of rfl rfl rfl rfl) (pmk_oex T.o_BV T.i_BV T.t_BV (ok_BV_init T) (hr.mono (by decide)) (b_BV_init T.F_BV_init) .nil pass0 rfl T.g_BadValue (pa_cons (pv 0) pa_nil)))) pss_nil)
      (pss_cons (ps_if (pt_cmpR op_lt (pe_ix ix_seq (pv 1) pe_int (fun _ _ => rfl)) pe_int (nomark _)) (pss_one (ps_raise rfl (takes_of rfl rfl rfl rfl) (pmk_oex T.o_BV T.i_BV T.t_BV (ok_BV_init T) (hr.mono (by decide)) (b_BV_init T.F_BV_init) .nil pass0 rfl T.g_BadValue (pa_cons (pv 0) pa_nil)))) pss_nil)
      (pss_one (ps_ret (pe_call (ok_reduced T) (hr.mono (by decide)) rfl T.g_reduced T.F_reduced.kp (b_reduced T.F_reduced) .nil pass0 (pa_cons (pe_ix ix_seq (pv 1) pe_int (fun _ _ => rfl)) (pa_cons (pe_ix ix_seq (pv 1) pe_int (fun _ _ => rfl)) pa_nil)))))))), ?_⟩
    refine ⟨_, rfl, v, rfl, hv.knd, _, rfl, ?_⟩
    by_cases hi : ∃ i, v = .int i
    · obtain ⟨i, rfl⟩ := hi
      refine iteT ⟨_, rfl, two_line, fun a ha => ?_⟩
      cases hv with
      | int i => exact q2 _ rfl a _ (same_new ha) upd_same
    · have hb : isI v = false := by
        cases v with
        | int i => exact absurd ⟨i, rfl⟩ hi
        | _ => rfl
      rw [hb]
      refine iteF ⟨_, rfl, two_line, fun tp htp => ?_⟩
      have k2 := hv.knd.mono (same_new (o := .tup [.ty "list", .ty "tuple"]) htp)
      have s1 : Same H (upd H tp (.tup [.ty "list", .ty "tuple"])) := same_new htp
      have bad : ∀ H', Same H H' → r = none → [V.str p].length ≤ 1000 ∧ ∀ a, H' a = none → spInit K A.c_BV (.ref a :: ([.str p] ++ [])) (upd H' a (exo a A.c_BV none))
        (fun u H2 => u = .non ∧ ∃ (d : Addr) (fs : List (Str × V)), H2 a = some (exo a A.c_BV (some d)) ∧ H2 d = some (exd d fs) ∧ H' d = none ∧ E (.ref A.c_BV) (some d) (upd (del H2 a) d (.xd fs))) (fun _ _ _ => False) := fun H' sH hn => raise_go ((q1 hn).mono sH)
      have pcl : Paired ClsV [.ty "list", .ty "tuple"] [.type "list", .type "tuple"] := .cons (.ty _) (.cons (.ty _) .nil)
      cases hv with
      | int i => exact absurd ⟨i, rfl⟩ hi
      | non =>
        rcases k2.seq with ⟨a, xs, t, e, _⟩ | ⟨t, ty, ka⟩
        · cases e
        · exact ⟨_, tp, _, t, _, _, rfl, upd_same, pcl, ty, ka, _, rfl, iteT (iteT ⟨_, rfl, bad _ s1 rfl⟩)⟩
      | bl b =>
        rcases k2.seq with ⟨a, xs, t, e, _⟩ | ⟨t, ty, ka⟩
        · cases e
        · exact ⟨_, tp, _, t, _, _, rfl, upd_same, pcl, ty, ka, _, rfl, iteT (iteT ⟨_, rfl, bad _ s1 rfl⟩)⟩
      | str x =>
        rcases k2.seq with ⟨a, xs, t, e, _⟩ | ⟨t, ty, ka⟩
        · cases e
        · exact ⟨_, tp, _, t, _, _, rfl, upd_same, pcl, ty, ka, _, rfl, iteT (iteT ⟨_, rfl, bad _ s1 rfl⟩)⟩
      | @dct a kvs hd =>
        exact ⟨_, tp, _, .type "dict", _, _, rfl, upd_same, pcl, .base (.dK (s1 _ _ hd)), kit2 (b := false) (c := false) (by decide +kernel) (by decide +kernel) rfl, _, rfl, iteT (iteT ⟨_, rfl, bad _ s1 rfl⟩)⟩
      | @seq a xs hq hk hl hs =>
        have hq1 := same_s s1 hq
        have ty : ∃ t, TyX K (upd H tp (.tup [.ty "list", .ty "tuple"])) (.ref a) t ∧ PySem.W.kitAny K t [.type "list", .type "tuple"] = some true := by
          rcases hq1 with z | z
          · exact ⟨_, tyL z, kit2 (b := true) (c := false) (by decide +kernel) (by decide +kernel) rfl⟩
          · exact ⟨_, tyT z, kit2 (b := false) (c := true) (by decide +kernel) (by decide +kernel) rfl⟩
        obtain ⟨t, ty, ka⟩ := ty
        refine ⟨_, tp, _, t, _, _, rfl, upd_same, pcl, ty, ka, _, rfl, iteF ?_⟩
        refine ⟨_, rfl, _, xs.length, rfl, len_s hq1, rfl, _, rfl, ?_⟩
        by_cases h2 : xs.length = 2
        · have e2 : decide (V.int ((xs.length : Nat) : Int) = V.int 2) = true := decide_eq_true (by rw [h2] <;> rfl)
          rw [e2]
          refine iteF ?_
          refine not_all ?_
          refine ints_comp hq1 (fun y hy => (hk y hy).mono s1) hl fun D H2 s2 hD => ⟨D, xs.map isI, rfl, SqL.of (by rw [List.map_map]; exact hD), _, rfl, ?_⟩
          obtain ⟨x0, x1, rfl⟩ : ∃ x0 x1, xs = [x0, x1] := by
            match xs, h2 with
            | [x0, x1], _ => exact ⟨x0, x1, rfl⟩
          · have hq2 := same_s s2 hq1
            by_cases hb2 : ∃ p0 p1, x0 = .int p0 ∧ x1 = .int p1
            · obtain ⟨p0, p1, rfl, rfl⟩ := hb2
              refine iteF ⟨_, rfl, rix_s hq2 (atI_nat (j := 1) rfl) ⟨_, _, rfl, rfl, _, rfl, ?_⟩⟩
              have er : seqFr [V.int p0, V.int p1] = if 1 ≤ p1 then some (Rat.divInt p0 p1) else none := rfl
              by_cases h1 : p1 < 1
              · rw [decide_eq_true h1]
                refine iteT ⟨_, rfl, bad _ (s1.trans s2) ?_⟩
                rw [er, if_neg (by omega)]
              · rw [decide_eq_false h1]
                refine iteF ⟨_, rfl, rix_s hq2 (atI_nat (j := 0) rfl) ⟨_, rfl, rix_s hq2 (atI_nat (j := 1) rfl) ⟨p0, p1, rfl, by omega, Nat.lt_of_lt_of_le (hs _ _ rfl) (Nat.pow_le_pow_right (by decide) (by decide)), ?_⟩⟩⟩
                exact (q2 _ (by rw [er, if_pos (by omega)])).mono (s1.trans s2)
            · have e3 : ([x0, x1].map isI).all id = false := by
                cases x0 with
                | int p0 =>
                  cases x1 with
                  | int p1 => exact absurd ⟨p0, p1, rfl, rfl⟩ hb2
                  | _ => rfl
                | _ => rfl
              have e4 : seqFr [x0, x1] = none := by
                cases x0 with
                | int p0 =>
                  cases x1 with
                  | int p1 => exact absurd ⟨p0, p1, rfl, rfl⟩ hb2
                  | _ => rfl
                | _ => rfl
              rw [e3]
              exact iteT ⟨_, rfl, bad _ (s1.trans s2) e4⟩
        · have e2 : decide (V.int ((xs.length : Nat) : Int) = V.int 2) = false := decide_eq_false fun z => h2 (by injection z with z; omega)
          rw [e2]
          refine iteT (iteT ⟨_, rfl, bad _ s1 ?_⟩)
          match xs, h2 with
          | [], _ => rfl
          | [y], _ => cases y <;> rfl
          | [_, _], h2 => exact absurd rfl h2
          | y :: z :: _ :: _, _ => cases y <;> (first | rfl | (cases z <;> rfl))
end
end K8


set_option Elab.async false
set_option linter.all false
set_option maxRecDepth 100000
set_option maxHeartbeats 4000000
namespace K8
open PySem PySem.Spec PyProof.Rows L2 OG
section
variable {P : Program} {w : World} {K : PySem.W.Frag} {mg : Str → Option Value} {base : Heap} {A : Ad}
/-! ### two fractions told -/
abbrev tTwo (K : PySem.W.Frag) (A : Ad) (E : XK) : TS := tAsg (tTup (tCons (tCall (spNeedFr K A) [] E (tCons (tC (.str "one")) (tCons (tVar 0) tNil))) (tCons (tCall (spNeedFr K A) [] E (tCons (tC (.str "other")) (tCons (tVar 1) tNil))) tNil)))
  (gTup K 2 (gCons (gTup K 2 (gCons (gName 2) (gCons (gName 3) gNil))) (gCons (gTup K 2 (gCons (gName 4) (gCons (gName 5) gNil))) gNil)))
theorem two_go {tz : TS} {D : Ends} {v1 v2 : V} {r1 r2 : Option Rat} {H : Hp} {E : XK} (h1 : FrV K H v1 r1) (h2 : FrV K H v2 r2) (b1 : r1 = none → BadE A.c_BV "one" H E) (b2 : ∀ x, r1 = some x → r2 = none → BadE A.c_BV "other" H E)
    (k : ∀ (x y : Rat) (H' : Hp), r1 = some x → r2 = some y → Same H H' → tz D [some v1, some v2, some (.int x.num), some (.int (x.den : Int)), some (.int y.num), some (.int (y.den : Int))] H') :
    tSeq (tTwo K A E) tz D [some v1, some v2, none, none, none, none] H := by
  refine ⟨_, rfl, "one", v1, r1, rfl, h1, b1, fun x hx a H1 s1 ha => ⟨_, rfl, "other", v2, r2, rfl, h2.mono s1, fun e => (b2 x hx e).mono s1, fun y hy b H2 s2 hb => ⟨two_line, fun p hp => ?_⟩⟩⟩
  have s3 : Same H2 (upd H2 p (.tup [.ref a, .ref b])) := same_new hp
  refine ⟨p, _, rfl, SqT.of upd_same, rfl, _, _, rfl, a, _, rfl, SqT.of (s3 _ _ (s2 _ _ ha)), rfl, _, _, rfl, _, _, rfl, rfl, ?_⟩
  refine ⟨_, _, rfl, b, _, rfl, SqT.of (s3 _ _ hb), rfl, _, _, rfl, _, _, rfl, rfl, rfl, ?_⟩
  exact k x y _ hx hy ((s1.trans s2).trans s3)
theorem pow_le {a b : Nat} (h : a ≤ b) : 2 ^ a ≤ 2 ^ b := Nat.pow_le_pow_right (by decide) h
theorem SzI.mono {a b : Nat} {i : Int} (z : SzI a i) (h : a ≤ b) : SzI b i := Nat.lt_of_lt_of_le z (pow_le h)
theorem SzI.mul {a b : Nat} {i j : Int} (hi : SzI a i) (hj : SzI b j) : SzI (a + b) (i * j) := wide_lt hi hj
theorem mulW {a b : Nat} {i j : Int} (hi : SzI a i) (hj : SzI b j) (h : a + b ≤ 100000) : CMulW i j :=
  wide_mul (a := a + 1) (b := b + 1) (hi.mono (Nat.le_succ a)) (hj.mono (Nat.le_succ b)) (Nat.succ_pos a) (Nat.succ_pos b) (by omega)
theorem den_ne (x : Rat) : (x.den : Int) ≠ 0 := by
  have := x.den_pos
  omega
theorem den_mul_ne (x y : Rat) : (x.den : Int) * (y.den : Int) ≠ 0 := Int.mul_ne_zero (den_ne x) (den_ne y)
theorem rat_add (x y : Rat) : Rat.divInt (x.num * (y.den : Int) + y.num * (x.den : Int)) ((x.den : Int) * (y.den : Int)) = x + y := by
  rw [Rat.add_def', ← Rat.divInt_ofNat, Int.natCast_mul]
theorem rat_sub (x y : Rat) : Rat.divInt (x.num * (y.den : Int) - y.num * (x.den : Int)) ((x.den : Int) * (y.den : Int)) = x - y := by
  rw [Rat.sub_def', ← Rat.divInt_ofNat, Int.natCast_mul]
theorem rat_mul (x y : Rat) : Rat.divInt (x.num * y.num) ((x.den : Int) * (y.den : Int)) = x * y := by
  rw [Rat.mul_def', ← Rat.divInt_ofNat, Int.natCast_mul]
theorem rat_div (x y : Rat) : Rat.divInt (x.num * (y.den : Int)) ((x.den : Int) * y.num) = x / y := by
  rw [Rat.div_def, Rat.inv_def, ← Rat.divInt_mul_divInt, Rat.num_divInt_den]
/-- how two fractions stand -/
def ord (x y : Rat) : Int := if y < x then 1 else if x < y then -1 else 0
theorem ord_is (x y : Rat) : (if decide (y.num * (x.den : Int) < x.num * (y.den : Int)) = true then (1 : Int) else 0) - (if decide (x.num * (y.den : Int) < y.num * (x.den : Int)) = true then (1 : Int) else 0) = ord x y := by
  have e1 := Rat.lt_iff y x
  have e2 := Rat.lt_iff x y
  unfold ord
  by_cases h1 : y < x
  · have h3 := e1.mp h1
    have h4 : ¬ x.num * (y.den : Int) < y.num * (x.den : Int) := by omega
    rw [decide_eq_true h3, decide_eq_false h4, if_pos rfl, if_neg Bool.false_ne_true, if_pos h1] <;> rfl
  · have h3 : ¬ y.num * (x.den : Int) < x.num * (y.den : Int) := fun z => h1 (e1.mpr z)
    by_cases h2 : x < y
    · rw [decide_eq_false h3, decide_eq_true (e2.mp h2), if_pos rfl, if_neg Bool.false_ne_true, if_neg h1, if_pos h2] <;> rfl
    · have h4 : ¬ x.num * (y.den : Int) < y.num * (x.den : Int) := fun z => h2 (e2.mpr z)
      rw [decide_eq_false h3, decide_eq_false h4, if_neg Bool.false_ne_true, if_neg h1, if_neg h2] <;> rfl
/-- the promise of a function of two fractions -/
def spTwo (K : PySem.W.Frag) (A : Ad) (R : Rat → Rat → Hp → VK → XK → Prop) : Sp := fun vs H Q E => ∃ (v1 v2 : V) (r1 r2 : Option Rat), vs = [v1, v2] ∧ FrV K H v1 r1 ∧ FrV K H v2 r2 ∧ (r1 = none → BadE A.c_BV "one" H E) ∧ (∀ x, r1 = some x → r2 = none → BadE A.c_BV "other" H E) ∧
  ∀ x y, r1 = some x → r2 = some y → Sz 4000 x ∧ Sz 4000 y ∧ ∀ H', Same H H' → R x y H' Q E
abbrev spAdded (K : PySem.W.Frag) (A : Ad) := spTwo K A fun x y H Q _ => RetF (x + y) H Q
abbrev spLess (K : PySem.W.Frag) (A : Ad) := spTwo K A fun x y H Q _ => RetF (x - y) H Q
abbrev spTimes (K : PySem.W.Frag) (A : Ad) := spTwo K A fun x y H Q _ => RetF (x * y) H Q
abbrev spOver (K : PySem.W.Frag) (A : Ad) := spTwo K A fun x y H Q E => (y = 0 → BadE A.c_BN "other" H E) ∧ (y ≠ 0 → RetF (x / y) H Q)
abbrev spOrder (K : PySem.W.Frag) (A : Ad) := spTwo K A fun x y H Q _ => Q (.int (ord x y)) H
theorem ok_added (T : Txt K mg A) : FnOk P w K mg base (L2.CX P w) 4 A.f_added A.d_added ["one", "other"] (spAdded K A) := by
  refine T.F_added.okX sc_added (fun vs H Q E h => ?_) (fun cdv Ar outer s H vs Q E hr h => ?_)
  · obtain ⟨_, _, _, _, rfl, _⟩ := h
    rfl
  · obtain ⟨v1, v2, r1, r2, rfl, h1, h2, b1, b2, k⟩ := h
    refine ⟨_, (pss_cons (ps_asg (pe_tup (pa_cons (pe_call (ok_need_fraction T) (hr.mono (by decide)) rfl T.g_need_fraction T.F_need_fraction.kp (b_need_fraction T.F_need_fraction) .nil (passes_call (takes_of rfl rfl rfl rfl) fun _ _ _ _ h => h) (pa_cons pe_str (pa_cons (pv 0) pa_nil))) (pa_cons (pe_call (ok_need_fraction T) (hr.mono (by decide)) rfl T.g_need_fraction T.F_need_fraction.kp (b_need_fraction T.F_need_fraction) .nil (passes_call (takes_of rfl rfl rfl rfl) fun _ _ _ _ h => h) (pa_cons pe_str (pa_cons (pv 1) pa_nil))) pa_nil))) (pg_tup rfl (pgs_cons (pg_tup rfl (pgs_cons (pg_name (i := 2) sc_added.nd rfl (Or.inl rfl)) (pgs_cons (pg_name (i := 3) sc_added.nd rfl (Or.inl rfl)) pgs_nil))) (pgs_cons (pg_tup rfl (pgs_cons (pg_name (i := 4) sc_added.nd rfl (Or.inl rfl)) (pgs_cons (pg_name (i := 5) sc_added.nd rfl (Or.inl rfl)) pgs_nil))) pgs_nil))))
      (pss_one (ps_ret (pe_call (ok_reduced T) (hr.mono (by decide)) rfl T.g_reduced T.F_reduced.kp (b_reduced T.F_reduced) .nil pass0 (pa_cons (pe_op op_add (pe_op op_mulW (pv 2) (pv 5)) (pe_op op_mulW (pv 4) (pv 3))) (pa_cons (pe_op op_mulW (pv 3) (pv 5)) pa_nil)))))), ?_⟩
    refine two_go h1 h2 b1 b2 fun x y H' e1 e2 sm => ?_
    obtain ⟨z1, z2, k⟩ := k x y e1 e2
    refine ⟨_, rfl, _, rfl, _, _, rfl, rfl, mulW z1.1 z2.2 (by decide), _, rfl, _, rfl, _, _, rfl, rfl, mulW z2.1 z1.2 (by decide), _, _, rfl, rfl, _, rfl, _, rfl, _, _, rfl, rfl, mulW z1.2 z2.2 (by decide), _, _, rfl, den_mul_ne x y, (z1.2.mul z2.2).mono (by decide), ?_⟩
    rw [rat_add]
    exact k H' sm
theorem ok_less (T : Txt K mg A) : FnOk P w K mg base (L2.CX P w) 4 A.f_less A.d_less ["one", "other"] (spLess K A) := by
  refine T.F_less.okX sc_less (fun vs H Q E h => ?_) (fun cdv Ar outer s H vs Q E hr h => ?_)
  · obtain ⟨_, _, _, _, rfl, _⟩ := h
    rfl
  · obtain ⟨v1, v2, r1, r2, rfl, h1, h2, b1, b2, k⟩ := h
    refine ⟨_, (pss_cons (ps_asg (pe_tup (pa_cons (pe_call (ok_need_fraction T) (hr.mono (by decide)) rfl T.g_need_fraction T.F_need_fraction.kp (b_need_fraction T.F_need_fraction) .nil (passes_call (takes_of rfl rfl rfl rfl) fun _ _ _ _ h => h) (pa_cons pe_str (pa_cons (pv 0) pa_nil))) (pa_cons (pe_call (ok_need_fraction T) (hr.mono (by decide)) rfl T.g_need_fraction T.F_need_fraction.kp (b_need_fraction T.F_need_fraction) .nil (passes_call (takes_of rfl rfl rfl rfl) fun _ _ _ _ h => h) (pa_cons pe_str (pa_cons (pv 1) pa_nil))) pa_nil))) (pg_tup rfl (pgs_cons (pg_tup rfl (pgs_cons (pg_name (i := 2) sc_less.nd rfl (Or.inl rfl)) (pgs_cons (pg_name (i := 3) sc_less.nd rfl (Or.inl rfl)) pgs_nil))) (pgs_cons (pg_tup rfl (pgs_cons (pg_name (i := 4) sc_less.nd rfl (Or.inl rfl)) (pgs_cons (pg_name (i := 5) sc_less.nd rfl (Or.inl rfl)) pgs_nil))) pgs_nil))))
      (pss_one (ps_ret (pe_call (ok_reduced T) (hr.mono (by decide)) rfl T.g_reduced T.F_reduced.kp (b_reduced T.F_reduced) .nil pass0 (pa_cons (pe_op op_sub (pe_op op_mulW (pv 2) (pv 5)) (pe_op op_mulW (pv 4) (pv 3))) (pa_cons (pe_op op_mulW (pv 3) (pv 5)) pa_nil)))))), ?_⟩
    refine two_go h1 h2 b1 b2 fun x y H' e1 e2 sm => ?_
    obtain ⟨z1, z2, k⟩ := k x y e1 e2
    refine ⟨_, rfl, _, rfl, _, _, rfl, rfl, mulW z1.1 z2.2 (by decide), _, rfl, _, rfl, _, _, rfl, rfl, mulW z2.1 z1.2 (by decide), _, _, rfl, rfl, _, rfl, _, rfl, _, _, rfl, rfl, mulW z1.2 z2.2 (by decide), _, _, rfl, den_mul_ne x y, (z1.2.mul z2.2).mono (by decide), ?_⟩
    rw [rat_sub]
    exact k H' sm
theorem ok_times (T : Txt K mg A) : FnOk P w K mg base (L2.CX P w) 4 A.f_times A.d_times ["one", "other"] (spTimes K A) := by
  refine T.F_times.okX sc_times (fun vs H Q E h => ?_) (fun cdv Ar outer s H vs Q E hr h => ?_)
  · obtain ⟨_, _, _, _, rfl, _⟩ := h
    rfl
  · obtain ⟨v1, v2, r1, r2, rfl, h1, h2, b1, b2, k⟩ := h
    refine ⟨_, (pss_cons (ps_asg (pe_tup (pa_cons (pe_call (ok_need_fraction T) (hr.mono (by decide)) rfl T.g_need_fraction T.F_need_fraction.kp (b_need_fraction T.F_need_fraction) .nil (passes_call (takes_of rfl rfl rfl rfl) fun _ _ _ _ h => h) (pa_cons pe_str (pa_cons (pv 0) pa_nil))) (pa_cons (pe_call (ok_need_fraction T) (hr.mono (by decide)) rfl T.g_need_fraction T.F_need_fraction.kp (b_need_fraction T.F_need_fraction) .nil (passes_call (takes_of rfl rfl rfl rfl) fun _ _ _ _ h => h) (pa_cons pe_str (pa_cons (pv 1) pa_nil))) pa_nil))) (pg_tup rfl (pgs_cons (pg_tup rfl (pgs_cons (pg_name (i := 2) sc_times.nd rfl (Or.inl rfl)) (pgs_cons (pg_name (i := 3) sc_times.nd rfl (Or.inl rfl)) pgs_nil))) (pgs_cons (pg_tup rfl (pgs_cons (pg_name (i := 4) sc_times.nd rfl (Or.inl rfl)) (pgs_cons (pg_name (i := 5) sc_times.nd rfl (Or.inl rfl)) pgs_nil))) pgs_nil))))
      (pss_one (ps_ret (pe_call (ok_reduced T) (hr.mono (by decide)) rfl T.g_reduced T.F_reduced.kp (b_reduced T.F_reduced) .nil pass0 (pa_cons (pe_op op_mulW (pv 2) (pv 4)) (pa_cons (pe_op op_mulW (pv 3) (pv 5)) pa_nil)))))), ?_⟩
    refine two_go h1 h2 b1 b2 fun x y H' e1 e2 sm => ?_
    obtain ⟨z1, z2, k⟩ := k x y e1 e2
    refine ⟨_, rfl, _, rfl, _, _, rfl, rfl, mulW z1.1 z2.1 (by decide), _, rfl, _, rfl, _, _, rfl, rfl, mulW z1.2 z2.2 (by decide), _, _, rfl, den_mul_ne x y, (z1.2.mul z2.2).mono (by decide), ?_⟩
    rw [rat_mul]
    exact k H' sm
theorem ok_over (T : Txt K mg A) : FnOk P w K mg base (L2.CX P w) 4 A.f_over A.d_over ["one", "other"] (spOver K A) := by
  refine T.F_over.okX sc_over (fun vs H Q E h => ?_) (fun cdv Ar outer s H vs Q E hr h => ?_)
  · obtain ⟨_, _, _, _, rfl, _⟩ := h
    rfl
  · obtain ⟨v1, v2, r1, r2, rfl, h1, h2, b1, b2, k⟩ := h
    refine ⟨_, (pss_cons (ps_asg (pe_tup (pa_cons (pe_call (ok_need_fraction T) (hr.mono (by decide)) rfl T.g_need_fraction T.F_need_fraction.kp (b_need_fraction T.F_need_fraction) .nil (passes_call (takes_of rfl rfl rfl rfl) fun _ _ _ _ h => h) (pa_cons pe_str (pa_cons (pv 0) pa_nil))) (pa_cons (pe_call (ok_need_fraction T) (hr.mono (by decide)) rfl T.g_need_fraction T.F_need_fraction.kp (b_need_fraction T.F_need_fraction) .nil (passes_call (takes_of rfl rfl rfl rfl) fun _ _ _ _ h => h) (pa_cons pe_str (pa_cons (pv 1) pa_nil))) pa_nil))) (pg_tup rfl (pgs_cons (pg_tup rfl (pgs_cons (pg_name (i := 2) sc_over.nd rfl (Or.inl rfl)) (pgs_cons (pg_name (i := 3) sc_over.nd rfl (Or.inl rfl)) pgs_nil))) (pgs_cons (pg_tup rfl (pgs_cons (pg_name (i := 4) sc_over.nd rfl (Or.inl rfl)) (pgs_cons (pg_name (i := 5) sc_over.nd rfl (Or.inl rfl)) pgs_nil))) pgs_nil))))
      (pss_cons (ps_if (pt_cmpR op_eq (pv 4) pe_int (nomark _)) (pss_one (ps_raise rfl (takes_of rfl rfl rfl rfl) (pmk_oex T.o_BN T.i_BN T.t_BN (ok_BN_init T) (hr.mono (by decide)) (b_BN_init T.F_BN_init) .nil pass0 rfl T.g_BadNumber (pa_cons pe_str pa_nil)))) pss_nil)
      (pss_one (ps_ret (pe_call (ok_reduced T) (hr.mono (by decide)) rfl T.g_reduced T.F_reduced.kp (b_reduced T.F_reduced) .nil pass0 (pa_cons (pe_op op_mulW (pv 2) (pv 5)) (pa_cons (pe_op op_mulW (pv 3) (pv 4)) pa_nil))))))), ?_⟩
    refine two_go h1 h2 b1 b2 fun x y H' e1 e2 sm => ?_
    obtain ⟨z1, z2, k⟩ := k x y e1 e2
    obtain ⟨k1, k2⟩ := k H' sm
    refine ⟨_, rfl, rfl, _, rfl, ?_⟩
    by_cases hy : y.num = 0
    · have hd : decide (V.int y.num = V.int 0) = true := decide_eq_true (by rw [hy])
      rw [hd]
      exact iteT (raise_go (k1 (Rat.num_eq_zero.mp hy)))
    · have hd : decide (V.int y.num = V.int 0) = false := decide_eq_false fun z => hy (by injection z)
      rw [hd]
      refine iteF ⟨_, rfl, _, rfl, _, _, rfl, rfl, mulW z1.1 z2.2 (by decide), _, rfl, _, rfl, _, _, rfl, rfl, mulW z1.2 z2.1 (by decide), _, _, rfl, Int.mul_ne_zero (den_ne x) hy, (z1.2.mul z2.1).mono (by decide), ?_⟩
      rw [rat_div]
      exact k2 fun e => hy (Rat.num_eq_zero.mpr e)
theorem ok_order_of (T : Txt K mg A) : FnOk P w K mg base (L2.CX P w) 4 A.f_order_of A.d_order_of ["one", "other"] (spOrder K A) := by
  refine T.F_order_of.okX sc_order_of (fun vs H Q E h => ?_) (fun cdv Ar outer s H vs Q E hr h => ?_)
  · obtain ⟨_, _, _, _, rfl, _⟩ := h
    rfl
  · obtain ⟨v1, v2, r1, r2, rfl, h1, h2, b1, b2, k⟩ := h
    refine ⟨_, (pss_cons (ps_asg (pe_tup (pa_cons (pe_call (ok_need_fraction T) (hr.mono (by decide)) rfl T.g_need_fraction T.F_need_fraction.kp (b_need_fraction T.F_need_fraction) .nil (passes_call (takes_of rfl rfl rfl rfl) fun _ _ _ _ h => h) (pa_cons pe_str (pa_cons (pv 0) pa_nil))) (pa_cons (pe_call (ok_need_fraction T) (hr.mono (by decide)) rfl T.g_need_fraction T.F_need_fraction.kp (b_need_fraction T.F_need_fraction) .nil (passes_call (takes_of rfl rfl rfl rfl) fun _ _ _ _ h => h) (pa_cons pe_str (pa_cons (pv 1) pa_nil))) pa_nil))) (pg_tup rfl (pgs_cons (pg_tup rfl (pgs_cons (pg_name (i := 2) sc_order_of.nd rfl (Or.inl rfl)) (pgs_cons (pg_name (i := 3) sc_order_of.nd rfl (Or.inl rfl)) pgs_nil))) (pgs_cons (pg_tup rfl (pgs_cons (pg_name (i := 4) sc_order_of.nd rfl (Or.inl rfl)) (pgs_cons (pg_name (i := 5) sc_order_of.nd rfl (Or.inl rfl)) pgs_nil))) pgs_nil))))
      (pss_one (ps_ret (pe_op op_sub (pe_callTy call_int1 (by rfl) T.n_int (by decide +kernel) (pa_cons (pe_cmpR op_gt (pe_op op_mulW (pv 2) (pv 5)) (pe_op op_mulW (pv 4) (pv 3)) (nomark _)) pa_nil)) (pe_callTy call_int1 (by rfl) T.n_int (by decide +kernel) (pa_cons (pe_cmpR op_lt (pe_op op_mulW (pv 2) (pv 5)) (pe_op op_mulW (pv 4) (pv 3)) (nomark _)) pa_nil)))))), ?_⟩
    refine two_go h1 h2 b1 b2 fun x y H' e1 e2 sm => ?_
    obtain ⟨z1, z2, k⟩ := k x y e1 e2
    have m1 := mulW z1.1 z2.2 (by decide)
    have m2 := mulW z2.1 z1.2 (by decide)
    refine ⟨_, rfl, _, rfl, _, _, rfl, rfl, m1, _, rfl, _, rfl, _, _, rfl, rfl, m2, _, _, rfl, rfl, .inr ⟨_, rfl, ?_⟩⟩
    refine ⟨_, rfl, _, rfl, _, _, rfl, rfl, m1, _, rfl, _, rfl, _, _, rfl, rfl, m2, _, _, rfl, rfl, .inr ⟨_, rfl, _, _, rfl, rfl, ?_⟩⟩
    have q : Q (.int (ord x y)) H' := k H' sm
    rw [← ord_is] at q
    exact q
end
end K8


set_option Elab.async false
set_option linter.all false
set_option maxRecDepth 100000
set_option maxHeartbeats 4000000
namespace K8
open PySem PySem.Spec PyProof.Rows L2 OG
/-! ### angles -/
inductive Out
  | val | num
  | ok (h : Int) (l : Option Rat)
def rng (h : Int) (l : Option Rat) : Out := if 0 ≤ h ∧ h ≤ 1000000 then .ok h l else .num
def outFr (h : Int) : Option Rat → Out
  | none => .val
  | some x => rng h (some x)
section
variable {K : PySem.W.Frag} {H H' : Hp}
inductive AnO (K : PySem.W.Frag) (H : Hp) : List V → Out → Prop
  | len {xs : List V} (h : xs.length ≠ 2) : AnO K H xs .val
  | noint {x0 x1 : V} (h : isI x0 = false) : AnO K H [x0, x1] .val
  | none (h : Int) : AnO K H [.int h, .non] (rng h none)
  | fr (h : Int) {x1 : V} {r : Option Rat} (hn : x1 ≠ .non) (hf : FrV K H x1 r) : AnO K H [.int h, x1] (outFr h r)
theorem AnO.mono {xs : List V} {o : Out} (e : Same H H') (k : AnO K H xs o) : AnO K H' xs o := by
  cases k with
  | len h => exact .len h
  | noint h => exact .noint h
  | none h => exact .none h
  | fr h hn hf => exact .fr h hn (hf.mono e)
/-- v told as an angle -/
inductive AnV (K : PySem.W.Frag) (H : Hp) : V → Out → Prop
  | non : AnV K H .non .val
  | bl (b : Bool) : AnV K H (.bl b) .val
  | int (i : Int) : AnV K H (.int i) .val
  | str (x : Str) : AnV K H (.str x) .val
  | dct {a : Addr} {kvs : List (Key × V)} (h : H a = some (.dK kvs)) : AnV K H (.ref a) .val
  | seq {a : Addr} {xs : List V} {o : Out} (h : SqS K H a xs) (hk : ∀ x ∈ xs, Knd K H x) (hl : xs.length ≤ 100) (ho : AnO K H xs o) : AnV K H (.ref a) o
theorem AnV.mono {v : V} {o : Out} (e : Same H H') (k : AnV K H v o) : AnV K H' v o := by
  cases k with
  | non => exact .non
  | bl b => exact .bl b
  | int i => exact .int i
  | str s => exact .str s
  | dct h => exact .dct (e _ _ h)
  | seq h hk hl ho => exact .seq (same_s e h) (fun y hy => (hk y hy).mono e) hl (ho.mono e)
theorem AnV.knd {v : V} {o : Out} (k : AnV K H v o) : Knd K H v := by
  cases k with
  | non => exact .non
  | bl b => exact .bl b
  | int i => exact .int i
  | str s => exact .str s
  | dct h => exact .dct h
  | seq h hk hl ho => exact h.elim (fun h => .lst h) fun h => .tup h
/-- a made angle -/
def LeT (K : PySem.W.Frag) (H : Hp) (w : V) : Option Rat → Prop
  | none => w = .non
  | some x => FrT K H w x
def AnT (K : PySem.W.Frag) (H : Hp) (v : V) (h : Int) (l : Option Rat) : Prop := ∃ a w, v = .ref a ∧ SqT K H a [.int h, w] ∧ LeT K H w l
theorem LeT.mono {w : V} {l : Option Rat} (e : Same H H') (h : LeT K H w l) : LeT K H' w l := by
  cases l with
  | none => exact h
  | some x => exact FrT.mono e h
theorem AnT.mono {v : V} {h : Int} {l : Option Rat} (e : Same H H') (k : AnT K H v h l) : AnT K H' v h l := by
  obtain ⟨a, w, h1, h2, h3⟩ := k
  exact ⟨a, w, h1, same_t e h2, h3.mono e⟩
end
def RetA (K : PySem.W.Frag) (h : Int) (l : Option Rat) (H : Hp) (Q : VK) : Prop := ∀ v H', Same H H' → AnT K H' v h l → Q v H'
theorem RetA.mono {K : PySem.W.Frag} {h : Int} {l : Option Rat} {H H' : Hp} {Q : VK} (e : Same H H') (k : RetA K h l H Q) : RetA K h l H' Q := fun v H2 s a => k v H2 (e.trans s) a
/-- what need_angle's outcome asks -/
def OutP (K : PySem.W.Frag) (A : Ad) (p : Str) (o : Out) (H : Hp) (E : XK) (k : Int → Option Rat → Prop) : Prop :=
  match o with
  | .val => BadE A.c_BV p H E
  | .num => BadE A.c_BN p H E
  | .ok h l => k h l
section
variable {P : Program} {w : World} {K : PySem.W.Frag} {mg : Str → Option Value} {base : Heap} {A : Ad}
def spNeedAn (K : PySem.W.Frag) (A : Ad) : Sp := fun vs H Q E => ∃ (p : Str) (v : V) (o : Out), vs = [.str p, v] ∧ AnV K H v o ∧ OutP K A p o H E fun h l => RetA K h l H Q
theorem pcl2 : Paired ClsV [.ty "list", .ty "tuple"] [.type "list", .type "tuple"] := .cons (.ty _) (.cons (.ty _) .nil)
theorem ok_need_angle (T : Txt K mg A) : FnOk P w K mg base (L2.CX P w) 4 A.f_need_angle A.d_need_angle ["part", "value"] (spNeedAn K A) := by
  refine T.F_need_angle.okX sc_need_angle (fun vs H Q E h => ?_) (fun cdv Ar outer s H vs Q E hr h => ?_)
  · obtain ⟨_, _, _, rfl, _⟩ := h
    rfl
  · obtain ⟨p, v, o, rfl, hv, q⟩ := h
    refine ⟨_, (pss_cons (ps_if (PW.pt (pw_or (pt_not (pt_val (pe_callB call_isiT (by rfl) T.n_isinstance (by decide +kernel) (pa_cons (pv 1) (pa_cons (pe_tup (pa_cons (pe_bltn (v := .ty "list") (by rfl) T.n_list (by decide +kernel) rfl) (pa_cons (pe_bltn (v := .ty "tuple") (by rfl) T.n_tuple (by decide +kernel) rfl) pa_nil))) pa_nil))))) (pw_or (pt_cmpR op_ne (pe_callB call_len (by rfl) T.n_len (by decide +kernel) (pa_cons (pv 1) pa_nil)) pe_int (nomark _)) (pw_or1 (pt_not (pt_val (pe_call (ok_is_integer T) (hr.mono (by decide)) rfl T.g_is_integer T.F_is_integer.kp (b_is_integer T.F_is_integer) .nil pass0 (pa_cons (pe_ix ix_seq (pv 1) pe_int (fun _ _ => rfl)) pa_nil)))))))) (pss_one (ps_raise rfl (takes_of rfl rfl rfl rfl) (pmk_oex T.o_BV T.i_BV T.t_BV (ok_BV_init T) (hr.mono (by decide)) (b_BV_init T.F_BV_init) .nil pass0 rfl T.g_BadValue (pa_cons (pv 0) pa_nil)))) pss_nil)
      (pss_cons (ps_set (i := 2) sc_need_angle.nd rfl (Or.inl rfl) (pe_ifExp (pt_cmpR op_isN (pe_ix ix_seq (pv 1) pe_int (fun _ _ => rfl)) pe_non (nomark _)) pe_non (pe_call (ok_need_fraction T) (hr.mono (by decide)) rfl T.g_need_fraction T.F_need_fraction.kp (b_need_fraction T.F_need_fraction) .nil (passes_call (takes_of rfl rfl rfl rfl) fun _ _ _ _ h => h) (pa_cons (pv 0) (pa_cons (pe_ix ix_seq (pv 1) pe_int (fun _ _ => rfl)) pa_nil)))))
      (pss_cons (ps_expr (pe_call (ok_need_integer T) (hr.mono (by decide)) rfl T.g_need_integer T.F_need_integer.kp (b_need_integer T.F_need_integer) .nil (passes_call (takes_of rfl rfl rfl rfl) fun _ _ _ _ h => h) (pa_cons (pv 0) (pa_cons (pe_ix ix_seq (pv 1) pe_int (fun _ _ => rfl)) (pa_cons pe_int (pa_cons (pe_glob (v := .int 1000000) rfl T.g_MOST ⟨_, rfl⟩) pa_nil))))))
      (pss_one (ps_ret (pe_tup (pa_cons (pe_ix ix_seq (pv 1) pe_int (fun _ _ => rfl)) (pa_cons (pv 2) pa_nil)))))))), ?_⟩
    refine ⟨_, rfl, two_line, fun tp htp => ?_⟩
    have k2 := hv.knd.mono (same_new (o := .tup [.ty "list", .ty "tuple"]) htp)
    have s1 : Same H (upd H tp (.tup [.ty "list", .ty "tuple"])) := same_new htp
    have bad : ∀ H', Same H H' → BadE A.c_BV p H E → [V.str p].length ≤ 1000 ∧ ∀ a, H' a = none → spInit K A.c_BV (.ref a :: ([.str p] ++ [])) (upd H' a (exo a A.c_BV none))
      (fun u H2 => u = .non ∧ ∃ (d : Addr) (fs : List (Str × V)), H2 a = some (exo a A.c_BV (some d)) ∧ H2 d = some (exd d fs) ∧ H' d = none ∧ E (.ref A.c_BV) (some d) (upd (del H2 a) d (.xd fs))) (fun _ _ _ => False) := fun H' sH hn => raise_go (hn.mono sH)
    cases hv with
    | non =>
      rcases k2.seq with ⟨a, xs, t, e, _⟩ | ⟨t, ty, ka⟩
      · cases e
      · exact ⟨_, tp, _, t, _, _, rfl, upd_same, pcl2, ty, ka, _, rfl, iteT (iteT ⟨_, rfl, bad _ s1 q⟩)⟩
    | bl b =>
      rcases k2.seq with ⟨a, xs, t, e, _⟩ | ⟨t, ty, ka⟩
      · cases e
      · exact ⟨_, tp, _, t, _, _, rfl, upd_same, pcl2, ty, ka, _, rfl, iteT (iteT ⟨_, rfl, bad _ s1 q⟩)⟩
    | int i =>
      rcases k2.seq with ⟨a, xs, t, e, _⟩ | ⟨t, ty, ka⟩
      · cases e
      · exact ⟨_, tp, _, t, _, _, rfl, upd_same, pcl2, ty, ka, _, rfl, iteT (iteT ⟨_, rfl, bad _ s1 q⟩)⟩
    | str x =>
      rcases k2.seq with ⟨a, xs, t, e, _⟩ | ⟨t, ty, ka⟩
      · cases e
      · exact ⟨_, tp, _, t, _, _, rfl, upd_same, pcl2, ty, ka, _, rfl, iteT (iteT ⟨_, rfl, bad _ s1 q⟩)⟩
    | @dct a kvs hd =>
      exact ⟨_, tp, _, .type "dict", _, _, rfl, upd_same, pcl2, .base (.dK (s1 _ _ hd)), kit2 (b := false) (c := false) (by decide +kernel) (by decide +kernel) rfl, _, rfl, iteT (iteT ⟨_, rfl, bad _ s1 q⟩)⟩
    | @seq a xs o hq hk hl ho =>
      have hq1 := same_s s1 hq
      have ty : ∃ t, TyX K (upd H tp (.tup [.ty "list", .ty "tuple"])) (.ref a) t ∧ PySem.W.kitAny K t [.type "list", .type "tuple"] = some true := by
        rcases hq1 with z | z
        · exact ⟨_, tyL z, kit2 (b := true) (c := false) (by decide +kernel) (by decide +kernel) rfl⟩
        · exact ⟨_, tyT z, kit2 (b := false) (c := true) (by decide +kernel) (by decide +kernel) rfl⟩
      obtain ⟨t, ty, ka⟩ := ty
      refine ⟨_, tp, _, t, _, _, rfl, upd_same, pcl2, ty, ka, _, rfl, iteF ?_⟩
      refine ⟨_, rfl, _, xs.length, rfl, len_s hq1, rfl, _, rfl, ?_⟩
      cases ho with
      | len h =>
        have e2 : decide (V.int ((xs.length : Nat) : Int) = V.int 2) = false := decide_eq_false fun z => h (by injection z with z; omega)
        rw [e2]
        exact iteT (iteT ⟨_, rfl, bad _ s1 q⟩)
      | @noint x0 x1 h =>
        refine iteF ⟨_, rfl, rix_s hq1 (atI_nat (j := 0) rfl) ⟨x0, rfl, (hk x0 (List.mem_cons_self ..)).mono s1, _, rfl, ?_⟩⟩
        rw [h]
        exact iteT ⟨_, rfl, bad _ s1 q⟩
      | none h =>
        refine iteF ⟨_, rfl, rix_s hq1 (atI_nat (j := 0) rfl) ⟨_, rfl, .int h, _, rfl, iteF ?_⟩⟩
        refine ⟨_, rfl, rix_s hq1 (atI_nat (j := 1) rfl) ⟨rfl, _, rfl, iteT ?_⟩⟩
        refine ⟨_, rfl, _, rfl, rix_s hq1 (atI_nat (j := 0) rfl) ⟨p, h, 0, 1000000, rfl, fun h1 h2 => ?_, fun hb => ?_⟩⟩
        · refine ⟨_, rfl, rix_s hq1 (atI_nat (j := 0) rfl) ⟨_, rfl, two_line, fun b hb => ?_⟩⟩
          have q' : RetA K h none H Q := by
            have z : OutP K A p (rng h none) H E fun h l => RetA K h l H Q := q
            unfold rng at z
            rw [if_pos ⟨h1, h2⟩] at z
            exact z
          exact q' _ _ (s1.trans (same_new hb)) ⟨b, .non, rfl, SqT.of upd_same, rfl⟩
        · have z : OutP K A p (rng h none) H E fun h l => RetA K h l H Q := q
          unfold rng at z
          rw [if_neg (by omega)] at z
          exact BadE.mono s1 z
      | @fr h x1 r hn hf =>
        refine iteF ⟨_, rfl, rix_s hq1 (atI_nat (j := 0) rfl) ⟨_, rfl, .int h, _, rfl, iteF ?_⟩⟩
        refine ⟨_, rfl, rix_s hq1 (atI_nat (j := 1) rfl) ⟨rfl, _, rfl, ?_⟩⟩
        rw [decide_eq_false hn]
        refine iteF ⟨_, rfl, _, rfl, rix_s hq1 (atI_nat (j := 1) rfl) ⟨p, x1, r, rfl, hf.mono s1, fun e => ?_, fun x hx b H2 s2 hb => ?_⟩⟩
        · subst e
          exact BadE.mono s1 q
        · subst hx
          have hq2 := same_s s2 hq1
          refine ⟨_, rfl, _, rfl, rix_s hq2 (atI_nat (j := 0) rfl) ⟨p, h, 0, 1000000, rfl, fun h1 h2 => ?_, fun hb => ?_⟩⟩
          · refine ⟨_, rfl, rix_s hq2 (atI_nat (j := 0) rfl) ⟨_, rfl, two_line, fun c hc => ?_⟩⟩
            have q' : RetA K h (some x) H Q := by
              have z : OutP K A p (rng h (some x)) H E fun h l => RetA K h l H Q := q
              unfold rng at z
              rw [if_pos ⟨h1, h2⟩] at z
              exact z
            refine q' _ _ ((s1.trans s2).trans (same_new hc)) ⟨c, .ref b, rfl, SqT.of upd_same, b, rfl, same_t (same_new hc) (SqT.of hb)⟩
          · have z : OutP K A p (rng h (some x)) H E fun h l => RetA K h l H Q := q
            unfold rng at z
            rw [if_neg (by omega)] at z
            exact BadE.mono (s1.trans s2) z
end
end K8


set_option Elab.async false
set_option linter.all false
set_option maxRecDepth 100000
set_option maxHeartbeats 4000000
set_option exponentiation.threshold 10000
namespace K8
open PySem PySem.Spec PyProof.Rows L2 OG
/-! ### angles added and compared -/
abbrev Ang := Int × Option Rat
def aadd (r : Rat) (a b : Ang) : Ang :=
  match a.2, b.2 with
  | none, l => (a.1 + b.1, l)
  | some x, none => (a.1 + b.1, some x)
  | some x, some y => if x + y = 0 then (a.1 + b.1 + 1, none) else (if 0 < x + y then a.1 + b.1 else a.1 + b.1 + 1, some ((x * y - r) / (x + y)))
def aord (a b : Ang) : Int :=
  if a.1 ≠ b.1 then if a.1 < b.1 then -1 else 1
  else match a.2, b.2 with
    | some x, some y => ord y x
    | l, m => (if l.isSome then 1 else 0) - (if m.isSome then 1 else 0)
/-- the sizes that adding asks -/
def JSz (r : Rat) (l m : Option Rat) : Prop := ∀ x y, l = some x → m = some y → Sz 4000 x ∧ Sz 4000 y ∧ Sz 4000 r ∧ Sz 4000 (x + y) ∧ Sz 4000 (x * y) ∧ Sz 4000 (x * y - r)
def OSz (l : Option Rat) : Prop := ∀ x, l = some x → Sz 4000 x
section
variable {P : Program} {w : World} {K : PySem.W.Frag} {mg : Str → Option Value} {base : Heap} {A : Ad}
theorem rixt {H : Hp} {a : Addr} {xs : List V} {v : V} {Q : VK} (h : SqT K H a xs) (i : Int) (e : atI xs i = some v) (q : Q v H) : rIxT K (.ref a) (.int i) H Q := ⟨a, xs, i, v, rfl, rfl, h, e, q⟩
def spJoined (K : PySem.W.Frag) (A : Ad) : Sp := fun vs H Q _ => ∃ (v1 v2 v3 : V) (a b : Ang) (r : Rat), vs = [v1, v2, v3] ∧ AnT K H v1 a.1 a.2 ∧ AnT K H v2 b.1 b.2 ∧ FrT K H v3 r ∧ JSz r a.2 b.2 ∧ RetA K (aadd r a b).1 (aadd r a b).2 H Q
theorem ok_joined (T : Txt K mg A) : FnOk P w K mg base (L2.CX P w) 5 A.f_joined A.d_joined ["one", "other", "root"] (spJoined K A) := by
  refine T.F_joined.okX sc_joined (fun vs H Q E h => ?_) (fun cdv Ar outer s H vs Q E hr h => ?_)
  · obtain ⟨_, _, _, _, _, _, rfl, _⟩ := h
    rfl
  · obtain ⟨v1, v2, v3, ⟨h1, l1⟩, ⟨h2, l2⟩, r, rfl, A1, A2, FR, sz, q⟩ := h
    refine ⟨_, (pss_cons (ps_par3 (i := 3) (j := 4) (l := 5) (by rfl) sc_joined.nd rfl rfl rfl (by decide) (by decide) (by decide) rfl rfl rfl (pa_cons (pe_op op_add (pe_ix ix_tup (pv 0) pe_int (fun _ _ => rfl)) (pe_ix ix_tup (pv 1) pe_int (fun _ _ => rfl))) (pa_cons (pe_ix ix_tup (pv 0) pe_int (fun _ _ => rfl)) (pa_cons (pe_ix ix_tup (pv 1) pe_int (fun _ _ => rfl)) pa_nil))) (by rfl))
      (pss_cons (ps_if (PW.pt (pw_or (pt_cmpR op_isN (pv 4) pe_non (nomark _)) (pw_or1 (pt_cmpR op_isN (pv 5) pe_non (nomark _))))) (pss_one (ps_ret (pe_tup (pa_cons (pv 3) (pa_cons (pe_ifExp (pt_cmpR op_isN (pv 4) pe_non (nomark _)) (pv 5) (pv 4)) pa_nil))))) pss_nil)
      (pss_cons (ps_set (i := 6) sc_joined.nd rfl (Or.inl rfl) (pe_call (ok_added T) (hr.mono (by decide)) rfl T.g_added T.F_added.kp (b_added T.F_added) .nil (passes_call (takes_of rfl rfl rfl rfl) fun _ _ _ _ h => h) (pa_cons (pv 4) (pa_cons (pv 5) pa_nil))))
      (pss_cons (ps_set (i := 7) sc_joined.nd rfl (Or.inl rfl) (pe_call (ok_order_of T) (hr.mono (by decide)) rfl T.g_order_of T.F_order_of.kp (b_order_of T.F_order_of) .nil (passes_call (takes_of rfl rfl rfl rfl) fun _ _ _ _ h => h) (pa_cons (pv 6) (pa_cons (pe_glob (v := .ref A.zero) rfl T.g_ZERO rfl) pa_nil))))
      (pss_cons (ps_if (pt_cmpR op_eq (pv 7) pe_int (nomark _)) (pss_one (ps_ret (pe_tup (pa_cons (pe_op op_add (pv 3) pe_int) (pa_cons pe_non pa_nil))))) pss_nil)
      (pss_one (ps_ret (pe_tup (pa_cons (pe_ifExp (pt_cmpR op_gt (pv 7) pe_int (nomark _)) (pv 3) (pe_op op_add (pv 3) pe_int)) (pa_cons (pe_call (ok_over T) (hr.mono (by decide)) rfl T.g_over T.F_over.kp (b_over T.F_over) .nil (passes_call (takes_of rfl rfl rfl rfl) fun _ _ _ _ h => h) (pa_cons (pe_call (ok_less T) (hr.mono (by decide)) rfl T.g_less T.F_less.kp (b_less T.F_less) .nil (passes_call (takes_of rfl rfl rfl rfl) fun _ _ _ _ h => h) (pa_cons (pe_call (ok_times T) (hr.mono (by decide)) rfl T.g_times T.F_times.kp (b_times T.F_times) .nil (passes_call (takes_of rfl rfl rfl rfl) fun _ _ _ _ h => h) (pa_cons (pv 4) (pa_cons (pv 5) pa_nil))) (pa_cons (pv 2) pa_nil))) (pa_cons (pv 6) pa_nil))) pa_nil)))))))))), ?_⟩
    obtain ⟨a1, w1, rfl, q1, L1⟩ := A1
    obtain ⟨a2, w2, rfl, q2, M2⟩ := A2
    refine ⟨_, rfl, _, _, _, _, rfl, rfl, q1, rfl, _, rfl, _, _, _, _, rfl, rfl, q2, rfl, h1, h2, rfl, rfl, _, rfl, _, _, _, _, rfl, rfl, q1, rfl, _, rfl, _, _, _, _, rfl, rfl, q2, rfl, _, _, _, rfl, ?_⟩
    refine ⟨_, rfl, rfl, _, rfl, ?_⟩
    cases l1 with
    | none =>
      obtain rfl : w1 = .non := L1
      refine iteT (iteT ⟨_, rfl, _, rfl, rfl, _, rfl, iteT ⟨_, rfl, two_line, fun b hb => ?_⟩⟩)
      exact q _ _ (same_new hb) ⟨b, w2, rfl, SqT.of upd_same, M2.mono (same_new hb)⟩
    | some x =>
      obtain ⟨b1, rfl, f1⟩ : FrT K H w1 x := L1
      refine iteF ⟨_, rfl, rfl, _, rfl, ?_⟩
      cases l2 with
      | none =>
        obtain rfl : w2 = .non := M2
        refine iteT ⟨_, rfl, _, rfl, rfl, _, rfl, iteF ⟨_, rfl, two_line, fun b hb => ?_⟩⟩
        exact q _ _ (same_new hb) ⟨b, _, rfl, SqT.of upd_same, LeT.mono (same_new hb) (show LeT K H (.ref b1) (some x) from ⟨b1, rfl, f1⟩)⟩
      | some y =>
        obtain ⟨b2, rfl, f2⟩ : FrT K H w2 y := M2
        obtain ⟨zx, zy, zr, zs, zp, zd⟩ := sz x y rfl rfl
        have fx : FrT K H (.ref b1) x := ⟨b1, rfl, f1⟩
        have fy : FrT K H (.ref b2) y := ⟨b2, rfl, f2⟩
        have F0 : ∀ H : Hp, FrV K H (.ref A.zero) (some 0) := fun H => .seq (xs := [.int 0, .int 1]) (.inr (T.l_ZERO H)) (fun y hy => by
          rcases List.mem_cons.mp hy with rfl | hy
          · exact .int _
          · rcases List.mem_cons.mp hy with rfl | hy
            · exact .int _
            · cases hy) (by show 2 ≤ 100; decide) fun p q e => by
              have e2 : V.int 1 = V.int q := by injection e with _ e2; injection e2
              injection e2 with e2
              rw [← e2]
              exact (by show (1 : Int).natAbs < 2 ^ 4000; exact Nat.one_lt_two_pow (by decide))
        refine iteF ⟨_, rfl, _, rfl, _, _, _, _, rfl, fx.fr zx, fy.fr zy, nofun, nofun, fun x' y' ex ey => ?_⟩
        cases ex
        cases ey
        refine ⟨zx, zy, fun H0 s0 b H1 s1 hb => ?_⟩
        have hs : Same H H1 := s0.trans s1
        have fs : FrT K H1 (.ref b) (x + y) := ⟨b, rfl, SqT.of hb⟩
        refine ⟨_, rfl, _, _, _, _, rfl, fs.fr zs, F0 H1, nofun, nofun, fun x' y' ex ey => ?_⟩
        cases ex
        cases ey
        refine ⟨zs, ⟨by show (0 : Int).natAbs < 2 ^ 4000; exact Nat.two_pow_pos _, by show (1 : Int).natAbs < 2 ^ 4000; exact Nat.one_lt_two_pow (by decide)⟩, fun H2 s2 => ?_⟩
        have hs2 : Same H H2 := hs.trans s2
        refine ⟨_, rfl, rfl, _, rfl, ?_⟩
        have qa : RetA K (aadd r (h1, some x) (h2, some y)).1 (aadd r (h1, some x) (h2, some y)).2 H Q := q
        by_cases c0 : x + y = 0
        · have e0 : ord (x + y) 0 = 0 := by
            rw [c0]
            unfold ord
            rw [if_neg (by decide), if_neg (by decide)]
          rw [e0]
          refine iteT ⟨_, rfl, _, _, rfl, rfl, two_line, fun c hc => ?_⟩
          have ea : aadd r (h1, some x) (h2, some y) = (h1 + h2 + 1, none) := if_pos c0
          rw [ea] at qa
          exact qa _ _ (hs2.trans (same_new hc)) ⟨c, .non, rfl, SqT.of upd_same, rfl⟩
        · have ea : aadd r (h1, some x) (h2, some y) = (if 0 < x + y then h1 + h2 else h1 + h2 + 1, some ((x * y - r) / (x + y))) := if_neg c0
          rw [ea] at qa
          have tl : ∀ (hh : Int), hh = (if 0 < x + y then h1 + h2 else h1 + h2 + 1) → ∀ H3 : Hp, Same H H3 → ∀ c d, H3 c = none → H3 d = some (.tup (rv ((x * y - r) / (x + y)))) → Q (.ref c) (upd H3 c (.tup [.int hh, .ref d])) := fun hh eh H3 s3 c d hc hd => by
            refine qa _ _ (s3.trans (same_new hc)) ⟨c, .ref d, rfl, ?_, d, rfl, same_t (same_new hc) (SqT.of hd)⟩
            rw [← eh]
            exact SqT.of upd_same
          by_cases cp : 0 < x + y
          · have e0 : ord (x + y) 0 = 1 := if_pos cp
            rw [e0]
            refine iteF ⟨_, rfl, _, _, rfl, rfl, _, rfl, iteT ⟨_, rfl, _, rfl, _, rfl, ?_⟩⟩
            refine ⟨_, _, _, _, rfl, (fx.mono hs2).fr zx, (fy.mono hs2).fr zy, nofun, nofun, fun x' y' ex ey => ?_⟩
            cases ex
            cases ey
            refine ⟨zx, zy, fun H3 s3 c H4 s4 hc => ?_⟩
            have fp : FrT K H4 (.ref c) (x * y) := ⟨c, rfl, SqT.of hc⟩
            have hs4 : Same H H4 := hs2.trans (s3.trans s4)
            refine ⟨_, rfl, _, _, _, _, rfl, fp.fr zp, (FR.mono hs4).fr zr, nofun, nofun, fun x' y' ex ey => ?_⟩
            cases ex
            cases ey
            refine ⟨zp, zr, fun H5 s5 d H6 s6 hd => ?_⟩
            have fd : FrT K H6 (.ref d) (x * y - r) := ⟨d, rfl, SqT.of hd⟩
            have hs6 : Same H H6 := hs4.trans (s5.trans s6)
            refine ⟨_, rfl, _, _, _, _, rfl, fd.fr zd, (fs.mono (s2.trans (s3.trans (s4.trans (s5.trans s6))))).fr zs, nofun, nofun, fun x' y' ex ey => ?_⟩
            cases ex
            cases ey
            refine ⟨zd, zs, fun H7 s7 => ⟨fun z => absurd z c0, fun _ e H8 s8 he => ⟨two_line, fun g hg => ?_⟩⟩⟩
            exact tl _ (by rw [if_pos cp]) H8 (hs6.trans (s7.trans s8)) g e hg he
          · have cn : x + y < 0 := Rat.not_le.mp fun z => (Rat.not_lt.mp cp |> fun z2 => c0 (Rat.le_antisymm z2 z))
            have e0 : ord (x + y) 0 = -1 := by
              unfold ord
              rw [if_neg cp, if_pos cn]
            rw [e0]
            refine iteF ⟨_, rfl, _, _, rfl, rfl, _, rfl, iteF ⟨_, rfl, _, _, rfl, rfl, _, rfl, _, rfl, ?_⟩⟩
            refine ⟨_, _, _, _, rfl, (fx.mono hs2).fr zx, (fy.mono hs2).fr zy, nofun, nofun, fun x' y' ex ey => ?_⟩
            cases ex
            cases ey
            refine ⟨zx, zy, fun H3 s3 c H4 s4 hc => ?_⟩
            have fp : FrT K H4 (.ref c) (x * y) := ⟨c, rfl, SqT.of hc⟩
            have hs4 : Same H H4 := hs2.trans (s3.trans s4)
            refine ⟨_, rfl, _, _, _, _, rfl, fp.fr zp, (FR.mono hs4).fr zr, nofun, nofun, fun x' y' ex ey => ?_⟩
            cases ex
            cases ey
            refine ⟨zp, zr, fun H5 s5 d H6 s6 hd => ?_⟩
            have fd : FrT K H6 (.ref d) (x * y - r) := ⟨d, rfl, SqT.of hd⟩
            have hs6 : Same H H6 := hs4.trans (s5.trans s6)
            refine ⟨_, rfl, _, _, _, _, rfl, fd.fr zd, (fs.mono (s2.trans (s3.trans (s4.trans (s5.trans s6))))).fr zs, nofun, nofun, fun x' y' ex ey => ?_⟩
            cases ex
            cases ey
            refine ⟨zd, zs, fun H7 s7 => ⟨fun z => absurd z c0, fun _ e H8 s8 he => ⟨two_line, fun g hg => ?_⟩⟩⟩
            exact tl _ (by rw [if_neg cp]) H8 (hs6.trans (s7.trans s8)) g e hg he
end
end K8


set_option Elab.async false
set_option linter.all false
set_option maxRecDepth 100000
set_option maxHeartbeats 4000000
set_option exponentiation.threshold 10000
namespace K8
open PySem PySem.Spec PyProof.Rows L2 OG
section
variable {P : Program} {w : World} {K : PySem.W.Frag} {mg : Str → Option Value} {base : Heap} {A : Ad}
theorem OutP.mono {p : Str} {o : Out} {H H' : Hp} {E : XK} {k k' : Int → Option Rat → Prop} (e : Same H H') (kk : ∀ h l, k h l → k' h l) (q : OutP K A p o H E k) : OutP K A p o H' E k' := by
  cases o with
  | val => exact BadE.mono e q
  | num => exact BadE.mono e q
  | ok h l => exact kk _ _ q
theorem ne_dec {i j : Int} (h : i ≠ j) : decide (V.int i = V.int j) = false := decide_eq_false fun z => h (by injection z)
def spBetween (K : PySem.W.Frag) : Sp := fun vs H Q _ => ∃ (v1 v2 : V) (a b : Ang), vs = [v1, v2] ∧ AnT K H v1 a.1 a.2 ∧ AnT K H v2 b.1 b.2 ∧ OSz a.2 ∧ OSz b.2 ∧ ∀ H', Same H H' → Q (.int (aord a b)) H'
theorem ok_order_between (T : Txt K mg A) : FnOk P w K mg base (L2.CX P w) 5 A.f_order_between A.d_order_between ["one", "other"] (spBetween K) := by
  refine T.F_order_between.okX sc_order_between (fun vs H Q E h => ?_) (fun cdv Ar outer s H vs Q E hr h => ?_)
  · obtain ⟨_, _, _, _, rfl, _⟩ := h
    rfl
  · obtain ⟨v1, v2, ⟨h1, l1⟩, ⟨h2, l2⟩, rfl, A1, A2, z1, z2, q⟩ := h
    refine ⟨_, (pss_cons (ps_if (pt_cmpR op_ne (pe_ix ix_tup (pv 0) pe_int (fun _ _ => rfl)) (pe_ix ix_tup (pv 1) pe_int (fun _ _ => rfl)) (nomark _)) (pss_one (ps_ret (pe_ifExp (pt_cmpR op_lt (pe_ix ix_tup (pv 0) pe_int (fun _ _ => rfl)) (pe_ix ix_tup (pv 1) pe_int (fun _ _ => rfl)) (nomark _)) (pe_un un_neg pe_int) pe_int))) pss_nil)
      (pss_cons (ps_if (PW.pt (pw_or (pt_cmpR op_isN (pe_ix ix_tup (pv 0) pe_int (fun _ _ => rfl)) pe_non (nomark _)) (pw_or1 (pt_cmpR op_isN (pe_ix ix_tup (pv 1) pe_int (fun _ _ => rfl)) pe_non (nomark _))))) (pss_one (ps_ret (pe_op op_sub (pe_callTy call_int1 (by rfl) T.n_int (by decide +kernel) (pa_cons (pe_cmpR op_notN (pe_ix ix_tup (pv 0) pe_int (fun _ _ => rfl)) pe_non (nomark _)) pa_nil)) (pe_callTy call_int1 (by rfl) T.n_int (by decide +kernel) (pa_cons (pe_cmpR op_notN (pe_ix ix_tup (pv 1) pe_int (fun _ _ => rfl)) pe_non (nomark _)) pa_nil))))) pss_nil)
      (pss_one (ps_ret (pe_call (ok_order_of T) (hr.mono (by decide)) rfl T.g_order_of T.F_order_of.kp (b_order_of T.F_order_of) .nil (passes_call (takes_of rfl rfl rfl rfl) fun _ _ _ _ h => h) (pa_cons (pe_ix ix_tup (pv 1) pe_int (fun _ _ => rfl)) (pa_cons (pe_ix ix_tup (pv 0) pe_int (fun _ _ => rfl)) pa_nil))))))), ?_⟩
    obtain ⟨a1, w1, rfl, q1, L1⟩ := A1
    obtain ⟨a2, w2, rfl, q2, M2⟩ := A2
    have q0 : Q (.int (aord (h1, l1) (h2, l2))) H := q H (Same.refl H)
    refine ⟨_, rfl, _, _, _, _, rfl, rfl, q1, rfl, _, rfl, _, _, _, _, rfl, rfl, q2, rfl, rfl, _, rfl, ?_⟩
    by_cases e : h1 = h2
    · subst e
      have ea : ∀ l m, aord (h1, l) (h1, m) = match l, m with
        | some x, some y => ord y x
        | l, m => (if l.isSome then 1 else 0) - (if m.isSome then 1 else 0) := fun l m => if_neg fun z => z rfl
      rw [show decide (V.int (h1, l1).1 = V.int (h1, l2).1) = true from decide_eq_true rfl]
      refine iteF ?_
      refine ⟨_, rfl, _, _, _, _, rfl, rfl, q1, rfl, rfl, _, rfl, ?_⟩
      cases l1 with
      | none =>
        obtain rfl : w1 = .non := L1
        rw [ea] at q0
        cases l2 with
        | none =>
          obtain rfl : w2 = .non := M2
          exact iteT (iteT ⟨_, rfl, _, _, _, _, rfl, rfl, q1, rfl, rfl, .inr ⟨_, rfl, _, rfl, _, _, _, _, rfl, rfl, q2, rfl, rfl, .inr ⟨_, rfl, _, _, rfl, rfl, q0⟩⟩⟩)
        | some y =>
          obtain ⟨b2, rfl, f2⟩ : FrT K H w2 y := M2
          exact iteT (iteT ⟨_, rfl, _, _, _, _, rfl, rfl, q1, rfl, rfl, .inr ⟨_, rfl, _, rfl, _, _, _, _, rfl, rfl, q2, rfl, rfl, .inr ⟨_, rfl, _, _, rfl, rfl, q0⟩⟩⟩)
      | some x =>
        obtain ⟨b1, rfl, f1⟩ : FrT K H w1 x := L1
        refine iteF ⟨_, rfl, _, _, _, _, rfl, rfl, q2, rfl, rfl, _, rfl, ?_⟩
        cases l2 with
        | none =>
          obtain rfl : w2 = .non := M2
          rw [ea] at q0
          exact iteT ⟨_, rfl, _, _, _, _, rfl, rfl, q1, rfl, rfl, .inr ⟨_, rfl, _, rfl, _, _, _, _, rfl, rfl, q2, rfl, rfl, .inr ⟨_, rfl, _, _, rfl, rfl, q0⟩⟩⟩
        | some y =>
          obtain ⟨b2, rfl, f2⟩ : FrT K H w2 y := M2
          have fx : FrT K H (.ref b1) x := ⟨b1, rfl, f1⟩
          have fy : FrT K H (.ref b2) y := ⟨b2, rfl, f2⟩
          refine iteF ⟨_, rfl, _, _, _, _, rfl, rfl, q2, rfl, _, rfl, _, _, _, _, rfl, rfl, q1, rfl, _, _, _, _, rfl, fy.fr (z2 _ rfl), fx.fr (z1 _ rfl), nofun, nofun, fun x' y' ex ey => ?_⟩
          cases ex
          cases ey
          refine ⟨z2 _ rfl, z1 _ rfl, fun H' s' => ?_⟩
          have q9 := q H' s'
          rw [ea] at q9
          exact q9
    · rw [ne_dec (show (h1, l1).1 ≠ (h2, l2).1 from e)]
      have ea : aord (h1, l1) (h2, l2) = if h1 < h2 then -1 else 1 := if_pos e
      rw [ea] at q0
      refine iteT ⟨_, rfl, _, _, _, _, rfl, rfl, q1, rfl, _, rfl, _, _, _, _, rfl, rfl, q2, rfl, _, _, rfl, rfl, _, rfl, ?_⟩
      by_cases c : h1 < h2
      · rw [if_pos c] at q0
        rw [show decide ((h1, l1).1 < (h2, l2).1) = true from decide_eq_true c]
        exact iteT ⟨_, rfl, q0⟩
      · rw [if_neg c] at q0
        rw [show decide ((h1, l1).1 < (h2, l2).1) = false from decide_eq_false c]
        exact iteF q0
/-! ### what is asked from outside -/
def spAngleSum (K : PySem.W.Frag) (A : Ad) : Sp := fun vs H Q E => ∃ (v1 v2 v3 : V) (o1 o2 : Out) (r3 : Option Rat), vs = [v1, v2, v3] ∧ AnV K H v1 o1 ∧ (∀ h l, o1 = .ok h l → AnV K H v2 o2) ∧ (∀ h l h' l', o1 = .ok h l → o2 = .ok h' l' → FrV K H v3 r3) ∧
  OutP K A "one" o1 H E fun h1 l1 => OutP K A "other" o2 H E fun h2 l2 => (r3 = none → BadE A.c_BV "root" H E) ∧ ∀ r, r3 = some r → JSz r l1 l2 ∧ RetA K (aadd r (h1, l1) (h2, l2)).1 (aadd r (h1, l1) (h2, l2)).2 H Q
theorem ok_angle_sum (T : Txt K mg A) : FnOk P w K mg base (L2.CX P w) 6 A.f_angle_sum A.d_angle_sum ["one", "other", "root"] (spAngleSum K A) := by
  refine T.F_angle_sum.okX sc_angle_sum (fun vs H Q E h => ?_) (fun cdv Ar outer s H vs Q E hr h => ?_)
  · obtain ⟨_, _, _, _, _, _, rfl, _⟩ := h
    rfl
  · obtain ⟨v1, v2, v3, o1, o2, r3, rfl, V1, V2, V3, q⟩ := h
    refine ⟨_, (pss_cons (ps_par3 (i := 3) (j := 4) (l := 5) (by rfl) sc_angle_sum.nd rfl rfl rfl (by decide) (by decide) (by decide) rfl rfl rfl (pa_cons (pe_call (ok_need_angle T) (hr.mono (by decide)) rfl T.g_need_angle T.F_need_angle.kp (b_need_angle T.F_need_angle) .nil (passes_call (takes_of rfl rfl rfl rfl) fun _ _ _ _ h => h) (pa_cons pe_str (pa_cons (pv 0) pa_nil))) (pa_cons (pe_call (ok_need_angle T) (hr.mono (by decide)) rfl T.g_need_angle T.F_need_angle.kp (b_need_angle T.F_need_angle) .nil (passes_call (takes_of rfl rfl rfl rfl) fun _ _ _ _ h => h) (pa_cons pe_str (pa_cons (pv 1) pa_nil))) (pa_cons (pe_call (ok_need_fraction T) (hr.mono (by decide)) rfl T.g_need_fraction T.F_need_fraction.kp (b_need_fraction T.F_need_fraction) .nil (passes_call (takes_of rfl rfl rfl rfl) fun _ _ _ _ h => h) (pa_cons pe_str (pa_cons (pv 2) pa_nil))) pa_nil))) (by rfl))
      (pss_one (ps_ret (pe_call (ok_joined T) (hr.mono (by decide)) rfl T.g_joined T.F_joined.kp (b_joined T.F_joined) .nil (passes_call (takes_of rfl rfl rfl rfl) fun _ _ _ _ h => h) (pa_cons (pv 3) (pa_cons (pv 4) (pa_cons (pv 5) pa_nil))))))), ?_⟩
    refine ⟨_, rfl, _, _, o1, rfl, V1, ?_⟩
    cases o1 with
    | val => exact q
    | num => exact q
    | ok h1 l1 =>
      refine fun u1 H1 s1 t1 => ⟨_, rfl, _, _, o2, rfl, (V2 _ _ rfl).mono s1, ?_⟩
      have q' : OutP K A "other" o2 H E fun h2 l2 => (r3 = none → BadE A.c_BV "root" H E) ∧ ∀ r, r3 = some r → JSz r l1 l2 ∧ RetA K (aadd r (h1, l1) (h2, l2)).1 (aadd r (h1, l1) (h2, l2)).2 H Q := q
      cases o2 with
      | val => exact BadE.mono s1 q'
      | num => exact BadE.mono s1 q'
      | ok h2 l2 =>
        obtain ⟨k1, k2⟩ : (r3 = none → BadE A.c_BV "root" H E) ∧ ∀ r, r3 = some r → JSz r l1 l2 ∧ RetA K (aadd r (h1, l1) (h2, l2)).1 (aadd r (h1, l1) (h2, l2)).2 H Q := q'
        refine fun u2 H2 s2 t2 => ⟨_, rfl, _, _, r3, rfl, (V3 _ _ _ _ rfl rfl).mono (s1.trans s2), fun e => (k1 e).mono (s1.trans s2), fun r er b H3 s3 hb => ⟨_, _, _, rfl, ?_⟩⟩
        obtain ⟨jz, k⟩ := k2 r er
        have s4 := s1.trans (s2.trans s3)
        exact ⟨_, rfl, _, rfl, _, rfl, _, _, _, (h1, l1), (h2, l2), r, rfl, t1.mono (s2.trans s3), t2.mono s3, ⟨b, rfl, SqT.of hb⟩, jz, k.mono s4⟩
def spOrderA (K : PySem.W.Frag) (A : Ad) : Sp := fun vs H Q E => ∃ (v1 v2 : V) (o1 o2 : Out), vs = [v1, v2] ∧ AnV K H v1 o1 ∧ (∀ h l, o1 = .ok h l → AnV K H v2 o2) ∧
  OutP K A "one" o1 H E fun h1 l1 => OutP K A "other" o2 H E fun h2 l2 => OSz l1 ∧ OSz l2 ∧ ∀ H', Same H H' → Q (.int (aord (h1, l1) (h2, l2))) H'
theorem ok_order_of_angles (T : Txt K mg A) : FnOk P w K mg base (L2.CX P w) 6 A.f_order_of_angles A.d_order_of_angles ["one", "other"] (spOrderA K A) := by
  refine T.F_order_of_angles.okX sc_order_of_angles (fun vs H Q E h => ?_) (fun cdv Ar outer s H vs Q E hr h => ?_)
  · obtain ⟨_, _, _, _, rfl, _⟩ := h
    rfl
  · obtain ⟨v1, v2, o1, o2, rfl, V1, V2, q⟩ := h
    refine ⟨_, (pss_one (ps_ret (pe_call (ok_order_between T) (hr.mono (by decide)) rfl T.g_order_between T.F_order_between.kp (b_order_between T.F_order_between) .nil (passes_call (takes_of rfl rfl rfl rfl) fun _ _ _ _ h => h) (pa_cons (pe_call (ok_need_angle T) (hr.mono (by decide)) rfl T.g_need_angle T.F_need_angle.kp (b_need_angle T.F_need_angle) .nil (passes_call (takes_of rfl rfl rfl rfl) fun _ _ _ _ h => h) (pa_cons pe_str (pa_cons (pv 0) pa_nil))) (pa_cons (pe_call (ok_need_angle T) (hr.mono (by decide)) rfl T.g_need_angle T.F_need_angle.kp (b_need_angle T.F_need_angle) .nil (passes_call (takes_of rfl rfl rfl rfl) fun _ _ _ _ h => h) (pa_cons pe_str (pa_cons (pv 1) pa_nil))) pa_nil))))), ?_⟩
    refine ⟨_, rfl, _, _, o1, rfl, V1, ?_⟩
    cases o1 with
    | val => exact q
    | num => exact q
    | ok h1 l1 =>
      refine fun u1 H1 s1 t1 => ⟨_, rfl, _, _, o2, rfl, (V2 _ _ rfl).mono s1, ?_⟩
      have q' : OutP K A "other" o2 H E fun h2 l2 => OSz l1 ∧ OSz l2 ∧ ∀ H', Same H H' → Q (.int (aord (h1, l1) (h2, l2))) H' := q
      cases o2 with
      | val => exact BadE.mono s1 q'
      | num => exact BadE.mono s1 q'
      | ok h2 l2 =>
        obtain ⟨z1, z2, k⟩ : OSz l1 ∧ OSz l2 ∧ ∀ H', Same H H' → Q (.int (aord (h1, l1) (h2, l2))) H' := q'
        exact fun u2 H2 s2 t2 => ⟨_, _, (h1, l1), (h2, l2), rfl, t1.mono s2, t2, z1, z2, fun H' s' => k H' (s1.trans (s2.trans s'))⟩
end
end K8


set_option Elab.async false
set_option linter.all false
set_option maxRecDepth 100000
set_option maxHeartbeats 4000000
set_option exponentiation.threshold 10000
namespace K8
open PySem PySem.Spec PyProof.Rows L2 OG
abbrev s_law_pen : Stmt := top 26
abbrev N_law_pen : List Str := ["script"]
theorem sc_law_pen : FnScope ["script"] ["script"] (defScope s_law_pen) := ⟨rfl, rfl, rfl, by decide +kernel, rfl, by decide +kernel, by decide +kernel⟩
abbrev s_law_draw : Stmt := top 27
abbrev N_law_draw : List Str := ["pen", "many", "digit", "at", "cell", "great", "mixed"]
theorem sc_law_draw : FnScope ["pen", "many", "digit", "at", "cell", "great", "mixed"] ["pen", "many"] (defScope s_law_draw) := ⟨rfl, rfl, rfl, by decide +kernel, rfl, by decide +kernel, by decide +kernel⟩
abbrev s_law_pick : Stmt := top 28
abbrev N_law_pick : List Str := ["pen", "some"]
theorem sc_law_pick : FnScope ["pen", "some"] ["pen", "some"] (defScope s_law_pick) := ⟨rfl, rfl, rfl, by decide +kernel, rfl, by decide +kernel, by decide +kernel⟩
abbrev s_law_gcd : Stmt := top 29
abbrev N_law_gcd : List Str := ["one", "other", "first", "last"]
theorem sc_law_gcd : FnScope ["one", "other", "first", "last"] ["one", "other"] (defScope s_law_gcd) := ⟨rfl, rfl, rfl, by decide +kernel, rfl, by decide +kernel, by decide +kernel⟩
abbrev s_law_low : Stmt := top 30
abbrev N_law_low : List Str := ["top", "low", "common"]
theorem sc_law_low : FnScope ["top", "low", "common"] ["top", "low"] (defScope s_law_low) := ⟨rfl, rfl, rfl, by decide +kernel, rfl, by decide +kernel, by decide +kernel⟩
abbrev s_law_plus : Stmt := top 31
abbrev N_law_plus : List Str := ["one", "other"]
theorem sc_law_plus : FnScope ["one", "other"] ["one", "other"] (defScope s_law_plus) := ⟨rfl, rfl, rfl, by decide +kernel, rfl, by decide +kernel, by decide +kernel⟩
abbrev s_law_by : Stmt := top 32
abbrev N_law_by : List Str := ["one", "other"]
theorem sc_law_by : FnScope ["one", "other"] ["one", "other"] (defScope s_law_by) := ⟨rfl, rfl, rfl, by decide +kernel, rfl, by decide +kernel, by decide +kernel⟩
abbrev s_law_minus : Stmt := top 33
abbrev N_law_minus : List Str := ["one", "other"]
theorem sc_law_minus : FnScope ["one", "other"] ["one", "other"] (defScope s_law_minus) := ⟨rfl, rfl, rfl, by decide +kernel, rfl, by decide +kernel, by decide +kernel⟩
abbrev s_law_over : Stmt := top 34
abbrev N_law_over : List Str := ["one", "other"]
theorem sc_law_over : FnScope ["one", "other"] ["one", "other"] (defScope s_law_over) := ⟨rfl, rfl, rfl, by decide +kernel, rfl, by decide +kernel, by decide +kernel⟩
abbrev s_law_product : Stmt := top 35
abbrev N_law_product : List Str := ["one", "other", "root", "a", "b", "c", "d"]
theorem sc_law_product : FnScope ["one", "other", "root", "a", "b", "c", "d"] ["one", "other", "root"] (defScope s_law_product) := ⟨rfl, rfl, rfl, by decide +kernel, rfl, by decide +kernel, by decide +kernel⟩
abbrev s_law_on : Stmt := top 36
abbrev N_law_on : List Str := ["told", "other", "root", "halves", "number", "a", "b"]
theorem sc_law_on : FnScope ["told", "other", "root", "halves", "number", "a", "b"] ["told", "other", "root"] (defScope s_law_on) := ⟨rfl, rfl, rfl, by decide +kernel, rfl, by decide +kernel, by decide +kernel⟩
abbrev s_law_angle : Stmt := top 37
abbrev N_law_angle : List Str := ["told", "halves", "a", "b"]
theorem sc_law_angle : FnScope ["told", "halves", "a", "b"] ["told"] (defScope s_law_angle) := ⟨rfl, rfl, rfl, by decide +kernel, rfl, by decide +kernel, by decide +kernel⟩
abbrev s_law_heard : Stmt := top 38
abbrev N_law_heard : List Str := ["ask", "error"]
theorem sc_law_heard : FnScope ["ask", "error"] ["ask"] (defScope s_law_heard) := ⟨rfl, rfl, rfl, by decide +kernel, rfl, by decide +kernel, by decide +kernel⟩
abbrev s_law_drawn : Stmt := top 39
abbrev N_law_drawn : List Str := ["pen", "most", "lean"]
theorem sc_law_drawn : FnScope ["pen", "most", "lean"] ["pen"] (defScope s_law_drawn) := ⟨rfl, rfl, rfl, by decide +kernel, rfl, by decide +kernel, by decide +kernel⟩
abbrev s_law_sum : Stmt := top 40
abbrev N_law_sum : List Str := ["some", "root", "told", "halves", "lean"]
theorem sc_law_sum : FnScope ["some", "root", "told", "halves", "lean"] ["some", "root"] (defScope s_law_sum) := ⟨rfl, rfl, rfl, by decide +kernel, rfl, by decide +kernel, by decide +kernel⟩
abbrev s_law_order : Stmt := top 41
abbrev N_law_order : List Str := ["one", "other"]
theorem sc_law_order : FnScope ["one", "other"] ["one", "other"] (defScope s_law_order) := ⟨rfl, rfl, rfl, by decide +kernel, rfl, by decide +kernel, by decide +kernel⟩
abbrev s_law_odd : Stmt := top 42
abbrev N_law_odd : List Str := ["pen", "wrong", "bad"]
theorem sc_law_odd : FnScope ["pen", "wrong", "bad"] ["pen"] (defScope s_law_odd) := ⟨rfl, rfl, rfl, by decide +kernel, rfl, by decide +kernel, by decide +kernel⟩
abbrev s_law_refused_right : Stmt := top 43
abbrev N_law_refused_right : List Str := ["pen", "fine", "word", "heard", "odd"]
theorem sc_law_refused_right : FnScope ["pen", "fine", "word", "heard", "odd"] ["pen", "fine"] (defScope s_law_refused_right) := ⟨rfl, rfl, rfl, by decide +kernel, rfl, by decide +kernel, by decide +kernel⟩
abbrev s_law : Stmt := top 44
abbrev N_law : List Str := ["script", "pen", "turn", "root", "some", "found", "angle", "back", "one", "other", "due", "at"]
theorem sc_law : FnScope ["script", "pen", "turn", "root", "some", "found", "angle", "back", "one", "other", "due", "at"] ["script"] (defScope s_law) := ⟨rfl, rfl, rfl, by decide +kernel, rfl, by decide +kernel, by decide +kernel⟩

structure LawT (K : PySem.W.Frag) (mg : Str → Option Value) (A : Ad) : Prop extends Txt K mg A where
  F_law_pen : Fun K "_law_pen" "_law_pen" s_law_pen A.f_law_pen A.d_law_pen
  g_law_pen : mg "_law_pen" = some (.ref A.f_law_pen)
  F_law_draw : Fun K "_law_draw" "_law_draw" s_law_draw A.f_law_draw A.d_law_draw
  g_law_draw : mg "_law_draw" = some (.ref A.f_law_draw)
  F_law_pick : Fun K "_law_pick" "_law_pick" s_law_pick A.f_law_pick A.d_law_pick
  g_law_pick : mg "_law_pick" = some (.ref A.f_law_pick)
  F_law_gcd : Fun K "_law_gcd" "_law_gcd" s_law_gcd A.f_law_gcd A.d_law_gcd
  g_law_gcd : mg "_law_gcd" = some (.ref A.f_law_gcd)
  F_law_low : Fun K "_law_low" "_law_low" s_law_low A.f_law_low A.d_law_low
  g_law_low : mg "_law_low" = some (.ref A.f_law_low)
  F_law_plus : Fun K "_law_plus" "_law_plus" s_law_plus A.f_law_plus A.d_law_plus
  g_law_plus : mg "_law_plus" = some (.ref A.f_law_plus)
  F_law_by : Fun K "_law_by" "_law_by" s_law_by A.f_law_by A.d_law_by
  g_law_by : mg "_law_by" = some (.ref A.f_law_by)
  F_law_minus : Fun K "_law_minus" "_law_minus" s_law_minus A.f_law_minus A.d_law_minus
  g_law_minus : mg "_law_minus" = some (.ref A.f_law_minus)
  F_law_over : Fun K "_law_over" "_law_over" s_law_over A.f_law_over A.d_law_over
  g_law_over : mg "_law_over" = some (.ref A.f_law_over)
  F_law_product : Fun K "_law_product" "_law_product" s_law_product A.f_law_product A.d_law_product
  g_law_product : mg "_law_product" = some (.ref A.f_law_product)
  F_law_on : Fun K "_law_on" "_law_on" s_law_on A.f_law_on A.d_law_on
  g_law_on : mg "_law_on" = some (.ref A.f_law_on)
  F_law_angle : Fun K "_law_angle" "_law_angle" s_law_angle A.f_law_angle A.d_law_angle
  g_law_angle : mg "_law_angle" = some (.ref A.f_law_angle)
  F_law_heard : Fun K "_law_heard" "_law_heard" s_law_heard A.f_law_heard A.d_law_heard
  g_law_heard : mg "_law_heard" = some (.ref A.f_law_heard)
  F_law_drawn : Fun K "_law_drawn" "_law_drawn" s_law_drawn A.f_law_drawn A.d_law_drawn
  g_law_drawn : mg "_law_drawn" = some (.ref A.f_law_drawn)
  F_law_sum : Fun K "_law_sum" "_law_sum" s_law_sum A.f_law_sum A.d_law_sum
  g_law_sum : mg "_law_sum" = some (.ref A.f_law_sum)
  F_law_order : Fun K "_law_order" "_law_order" s_law_order A.f_law_order A.d_law_order
  g_law_order : mg "_law_order" = some (.ref A.f_law_order)
  F_law_odd : Fun K "_law_odd" "_law_odd" s_law_odd A.f_law_odd A.d_law_odd
  g_law_odd : mg "_law_odd" = some (.ref A.f_law_odd)
  F_law_refused_right : Fun K "_law_refused_right" "_law_refused_right" s_law_refused_right A.f_law_refused_right A.d_law_refused_right
  g_law_refused_right : mg "_law_refused_right" = some (.ref A.f_law_refused_right)
section
variable {P : Program} {w : World} {K : PySem.W.Frag} {mg : Str → Option Value} {base : Heap} {A : Ad}
theorem b_law_pen {f : Addr} {fd : FuncData} (F : Fun K "_law_pen" "_law_pen" s_law_pen f fd) : Binds K fd ["script"] [] := F.binds (ps := ["script"]) fun _ _ _ _ _ _ us hl => match us, hl with | [_], _ => rfl
theorem b_law_draw {f : Addr} {fd : FuncData} (F : Fun K "_law_draw" "_law_draw" s_law_draw f fd) : Binds K fd ["pen", "many"] [] := F.binds (ps := ["pen", "many"]) fun _ _ _ _ _ _ us hl => match us, hl with | [_, _], _ => rfl
theorem b_law_pick {f : Addr} {fd : FuncData} (F : Fun K "_law_pick" "_law_pick" s_law_pick f fd) : Binds K fd ["pen", "some"] [] := F.binds (ps := ["pen", "some"]) fun _ _ _ _ _ _ us hl => match us, hl with | [_, _], _ => rfl
theorem b_law_gcd {f : Addr} {fd : FuncData} (F : Fun K "_law_gcd" "_law_gcd" s_law_gcd f fd) : Binds K fd ["one", "other"] [] := F.binds (ps := ["one", "other"]) fun _ _ _ _ _ _ us hl => match us, hl with | [_, _], _ => rfl
theorem b_law_low {f : Addr} {fd : FuncData} (F : Fun K "_law_low" "_law_low" s_law_low f fd) : Binds K fd ["top", "low"] [] := F.binds (ps := ["top", "low"]) fun _ _ _ _ _ _ us hl => match us, hl with | [_, _], _ => rfl
theorem b_law_plus {f : Addr} {fd : FuncData} (F : Fun K "_law_plus" "_law_plus" s_law_plus f fd) : Binds K fd ["one", "other"] [] := F.binds (ps := ["one", "other"]) fun _ _ _ _ _ _ us hl => match us, hl with | [_, _], _ => rfl
theorem b_law_by {f : Addr} {fd : FuncData} (F : Fun K "_law_by" "_law_by" s_law_by f fd) : Binds K fd ["one", "other"] [] := F.binds (ps := ["one", "other"]) fun _ _ _ _ _ _ us hl => match us, hl with | [_, _], _ => rfl
theorem b_law_minus {f : Addr} {fd : FuncData} (F : Fun K "_law_minus" "_law_minus" s_law_minus f fd) : Binds K fd ["one", "other"] [] := F.binds (ps := ["one", "other"]) fun _ _ _ _ _ _ us hl => match us, hl with | [_, _], _ => rfl
theorem b_law_over {f : Addr} {fd : FuncData} (F : Fun K "_law_over" "_law_over" s_law_over f fd) : Binds K fd ["one", "other"] [] := F.binds (ps := ["one", "other"]) fun _ _ _ _ _ _ us hl => match us, hl with | [_, _], _ => rfl
theorem b_law_product {f : Addr} {fd : FuncData} (F : Fun K "_law_product" "_law_product" s_law_product f fd) : Binds K fd ["one", "other", "root"] [] := F.binds (ps := ["one", "other", "root"]) fun _ _ _ _ _ _ us hl => match us, hl with | [_, _, _], _ => rfl
theorem b_law_on {f : Addr} {fd : FuncData} (F : Fun K "_law_on" "_law_on" s_law_on f fd) : Binds K fd ["told", "other", "root"] [] := F.binds (ps := ["told", "other", "root"]) fun _ _ _ _ _ _ us hl => match us, hl with | [_, _, _], _ => rfl
theorem b_law_angle {f : Addr} {fd : FuncData} (F : Fun K "_law_angle" "_law_angle" s_law_angle f fd) : Binds K fd ["told"] [] := F.binds (ps := ["told"]) fun _ _ _ _ _ _ us hl => match us, hl with | [_], _ => rfl
theorem b_law_heard {f : Addr} {fd : FuncData} (F : Fun K "_law_heard" "_law_heard" s_law_heard f fd) : Binds K fd ["ask"] [] := F.binds (ps := ["ask"]) fun _ _ _ _ _ _ us hl => match us, hl with | [_], _ => rfl
theorem b_law_drawn {f : Addr} {fd : FuncData} (F : Fun K "_law_drawn" "_law_drawn" s_law_drawn f fd) : Binds K fd ["pen"] [] := F.binds (ps := ["pen"]) fun _ _ _ _ _ _ us hl => match us, hl with | [_], _ => rfl
theorem b_law_sum {f : Addr} {fd : FuncData} (F : Fun K "_law_sum" "_law_sum" s_law_sum f fd) : Binds K fd ["some", "root"] [] := F.binds (ps := ["some", "root"]) fun _ _ _ _ _ _ us hl => match us, hl with | [_, _], _ => rfl
theorem b_law_order {f : Addr} {fd : FuncData} (F : Fun K "_law_order" "_law_order" s_law_order f fd) : Binds K fd ["one", "other"] [] := F.binds (ps := ["one", "other"]) fun _ _ _ _ _ _ us hl => match us, hl with | [_, _], _ => rfl
theorem b_law_odd {f : Addr} {fd : FuncData} (F : Fun K "_law_odd" "_law_odd" s_law_odd f fd) : Binds K fd ["pen"] [] := F.binds (ps := ["pen"]) fun _ _ _ _ _ _ us hl => match us, hl with | [_], _ => rfl
theorem b_law_refused_right {f : Addr} {fd : FuncData} (F : Fun K "_law_refused_right" "_law_refused_right" s_law_refused_right f fd) : Binds K fd ["pen", "fine"] [] := F.binds (ps := ["pen", "fine"]) fun _ _ _ _ _ _ us hl => match us, hl with | [_, _], _ => rfl
/-! ### the law's own fractions -/
def spGcd : Sp := fun vs H Q _ => ∃ n m : Nat, vs = [.int (n : Int), .int (m : Int)] ∧ Q (.int ((Nat.gcd n m : Nat) : Int)) H
theorem ok_law_gcd (T : LawT K mg A) : FnOk P w K mg base CX0 1 A.f_law_gcd A.d_law_gcd ["one", "other"] spGcd := by
  refine T.F_law_gcd.ok sc_law_gcd (fun vs H Q E h => ?_) (fun cdv Ar outer s H vs Q E hr h => ?_)
  · obtain ⟨_, _, rfl, _⟩ := h
    rfl
  · obtain ⟨n, m, rfl, q⟩ := h
    refine ⟨_, (pss_cons (ps_par (i := 2) (j := 3) (by rfl) sc_law_gcd.nd rfl rfl (by decide) rfl rfl (pa_cons (pv 0) (pa_cons (pv 1) pa_nil)) (by rfl))
      (pss_cons (ps_while PassesOwn.never (pt_cmpR op_gt (pv 3) pe_int (nomark _)) (pss_one (ps_par (i := 2) (j := 3) (by rfl) sc_law_gcd.nd rfl rfl (by decide) rfl rfl (pa_cons (pv 3) (pa_cons (pe_op op_modN (pe_callTy call_int1 (by rfl) T.n_int (by decide +kernel) (pa_cons (pv 2) pa_nil)) (pe_callTy call_int1 (by rfl) T.n_int (by decide +kernel) (pa_cons (pv 3) pa_nil))) pa_nil)) (by rfl))))
      (pss_one (ps_ret (pv 2))))), ?_⟩
    refine ⟨_, rfl, _, rfl, _, _, rfl, ?_⟩
    refine ⟨fun k σ H' => H' = H ∧ ∃ n' : Nat, σ = [some (.int (n : Int)), some (.int (m : Int)), some (.int (n' : Int)), some (.int (k : Int))] ∧ Nat.gcd n' k = Nat.gcd n m, ⟨m, rfl, n, rfl, rfl⟩, ?_⟩
    rintro k σ H' ⟨rfl, n', rfl, e⟩
    refine ⟨_, rfl, _, _, rfl, rfl, _, rfl, ?_⟩
    cases k with
    | zero =>
      refine iteF ⟨_, rfl, ?_⟩
      rw [Nat.gcd_zero_right] at e
      rw [e]
      exact q
    | succ k =>
      rw [show decide ((0 : Int) < ((k + 1 : Nat) : Int)) = true from decide_eq_true (by omega)]
      refine iteT ⟨_, fun σ' H2 h2 => h2, _, rfl, _, rfl, .inl ⟨_, rfl, _, rfl, .inl ⟨_, rfl, _, _, rfl, rfl, by omega, _, _, rfl, n' % (k + 1), Nat.mod_lt _ (by omega), rfl, k + 1, ?_, ?_⟩⟩⟩
      · rw [Int.ofNat_fmod]
        rfl
      · rw [← e, Nat.gcd_comm n' (k + 1), Nat.gcd_rec (k + 1) n', Nat.gcd_comm]
def spLow : Sp := fun vs H Q _ => ∃ p q : Int, vs = [.int p, .int q] ∧ 0 < q ∧ SzI 9000 q ∧ RetF (Rat.divInt p q) H Q
theorem abs_is (i : Int) : (if i < 0 then -i else i) = ((i.natAbs : Nat) : Int) := by split <;> omega
theorem ok_law_low (T : LawT K mg A) : FnOk P w K mg base CX0 2 A.f_law_low A.d_law_low ["top", "low"] spLow := by
  refine T.F_law_low.ok sc_law_low (fun vs H Q E h => ?_) (fun cdv Ar outer s H vs Q E hr h => ?_)
  · obtain ⟨_, _, rfl, _⟩ := h
    rfl
  · obtain ⟨p, q, rfl, hq, hz, k⟩ := h
    refine ⟨_, (pss_cons (ps_set (i := 2) sc_law_low.nd rfl (Or.inl rfl) (pe_call (ok_law_gcd T) (hr.mono (by decide)) rfl T.g_law_gcd T.F_law_gcd.kp (b_law_gcd T.F_law_gcd) .nil pass0 (pa_cons (pe_callB call_abs (by rfl) T.n_abs (by decide +kernel) (pa_cons (pe_callTy call_int1 (by rfl) T.n_int (by decide +kernel) (pa_cons (pv 0) pa_nil)) pa_nil)) (pa_cons (pe_callB call_abs (by rfl) T.n_abs (by decide +kernel) (pa_cons (pe_callTy call_int1 (by rfl) T.n_int (by decide +kernel) (pa_cons (pv 1) pa_nil)) pa_nil)) pa_nil))))
      (pss_cons (ps_set (i := 2) sc_law_low.nd rfl (Or.inl rfl) (pe_ifExp (pt_cmpR op_gt (pv 1) pe_int (nomark _)) (pv 2) (pe_op op_sub pe_int (pv 2))))
      (pss_one (ps_ret (pe_tup (pa_cons (pe_op op_fdivW (pe_callTy call_int1 (by rfl) T.n_int (by decide +kernel) (pa_cons (pv 0) pa_nil)) (pv 2)) (pa_cons (pe_op op_fdivW (pe_callTy call_int1 (by rfl) T.n_int (by decide +kernel) (pa_cons (pv 1) pa_nil)) (pv 2)) pa_nil))))))), ?_⟩
    have hd : ∀ i, CDivW i ((Nat.gcd p.natAbs q.natAbs : Nat) : Int) := fun i => gcd_div (p := p) (by omega) hz (by decide) (by decide)
    refine ⟨_, rfl, .inl ⟨_, rfl, _, rfl, _, rfl, .inl ⟨_, rfl, _, rfl, p.natAbs, q.natAbs, ?_, ?_⟩⟩⟩
    · rw [abs_is, abs_is]
      rfl
    · refine ⟨_, rfl, _, _, rfl, rfl, _, rfl, ?_⟩
      rw [show decide (0 < q) = true from decide_eq_true hq]
      refine iteT ⟨_, rfl, _, rfl, .inl ⟨_, rfl, _, rfl, _, _, rfl, rfl, hd _, _, rfl, .inl ⟨_, rfl, _, rfl, _, _, rfl, rfl, hd _, two_line, fun a ha => ?_⟩⟩⟩
      refine k a _ (same_new ha) ?_
      rw [upd_same, red_pos hq]
theorem ret_fr {x : Rat} {H : Hp} {Q : VK} (q : ∀ v H', Same H H' → FrT K H' v x → Q v H') : RetF x H Q := fun a H' s ha => q _ H' s ⟨a, rfl, SqT.of ha⟩
def RetT (K : PySem.W.Frag) (x : Rat) (H : Hp) (Q : VK) : Prop := ∀ v H', Same H H' → FrT K H' v x → Q v H'
theorem RetT.f {x : Rat} {H : Hp} {Q : VK} (q : RetT K x H Q) : RetF x H Q := ret_fr q
theorem RetT.mono {x : Rat} {H H' : Hp} {Q : VK} (e : Same H H') (q : RetT K x H Q) : RetT K x H' Q := fun v H2 s f => q v H2 (e.trans s) f
def spPlus (K : PySem.W.Frag) : Sp := fun vs H Q _ => ∃ (v1 v2 : V) (x y : Rat), vs = [v1, v2] ∧ FrT K H v1 x ∧ FrT K H v2 y ∧ Sz 4000 x ∧ Sz 4000 y ∧ RetT K (x + y) H Q
def spBy (K : PySem.W.Frag) : Sp := fun vs H Q _ => ∃ (v1 v2 : V) (x y : Rat), vs = [v1, v2] ∧ FrT K H v1 x ∧ FrT K H v2 y ∧ Sz 4000 x ∧ Sz 4000 y ∧ RetT K (x * y) H Q
def spMinus (K : PySem.W.Frag) : Sp := fun vs H Q _ => ∃ (v1 v2 : V) (x y : Rat), vs = [v1, v2] ∧ FrT K H v1 x ∧ FrT K H v2 y ∧ Sz 4000 x ∧ Sz 4000 y ∧ RetT K (x - y) H Q
def spLOver (K : PySem.W.Frag) : Sp := fun vs H Q _ => ∃ (v1 v2 : V) (x y : Rat), vs = [v1, v2] ∧ FrT K H v1 x ∧ FrT K H v2 y ∧ Sz 4000 x ∧ Sz 4000 y ∧ 0 < y ∧ RetT K (x / y) H Q
theorem den_pos' (x : Rat) : (0 : Int) < (x.den : Int) := by
  have := x.den_pos
  omega
theorem num_pos' {x : Rat} (h : 0 < x) : 0 < x.num := by
  have e := (Rat.lt_iff 0 x).mp h
  rw [show (0 : Rat).num = 0 from rfl, show (0 : Rat).den = 1 from rfl] at e
  omega
theorem ok_law_plus (T : LawT K mg A) : FnOk P w K mg base CX0 3 A.f_law_plus A.d_law_plus ["one", "other"] (spPlus K) := by
  refine T.F_law_plus.ok sc_law_plus (fun vs H Q E h => ?_) (fun cdv Ar outer s H vs Q E hr h => ?_)
  · obtain ⟨_, _, _, _, rfl, _⟩ := h
    rfl
  · obtain ⟨v1, v2, x, y, rfl, ⟨a, rfl, f1⟩, ⟨b, rfl, f2⟩, z1, z2, q⟩ := h
    refine ⟨_, (pss_one (ps_ret (pe_call (ok_law_low T) (hr.mono (by decide)) rfl T.g_law_low T.F_law_low.kp (b_law_low T.F_law_low) .nil pass0 (pa_cons (pe_op op_add (pe_op op_mulW (pe_ix ix_tup (pv 0) pe_int (fun _ _ => rfl)) (pe_ix ix_tup (pv 1) pe_int (fun _ _ => rfl))) (pe_op op_mulW (pe_ix ix_tup (pv 1) pe_int (fun _ _ => rfl)) (pe_ix ix_tup (pv 0) pe_int (fun _ _ => rfl)))) (pa_cons (pe_op op_mulW (pe_ix ix_tup (pv 0) pe_int (fun _ _ => rfl)) (pe_ix ix_tup (pv 1) pe_int (fun _ _ => rfl))) pa_nil))))), ?_⟩
    refine ⟨_, rfl, _, _, _, _, rfl, rfl, f1, rfl, _, rfl, _, _, _, _, rfl, rfl, f2, rfl, _, _, rfl, rfl, mulW z1.1 z2.2 (by decide), ?_⟩
    refine ⟨_, rfl, _, _, _, _, rfl, rfl, f2, rfl, _, rfl, _, _, _, _, rfl, rfl, f1, rfl, _, _, rfl, rfl, mulW z2.1 z1.2 (by decide), _, _, rfl, rfl, ?_⟩
    refine ⟨_, rfl, _, _, _, _, rfl, rfl, f1, rfl, _, rfl, _, _, _, _, rfl, rfl, f2, rfl, _, _, rfl, rfl, mulW z1.2 z2.2 (by decide), ?_⟩
    refine ⟨_, _, rfl, Int.mul_pos (den_pos' x) (den_pos' y), (z1.2.mul z2.2).mono (by decide), ?_⟩
    rw [rat_add]
    exact q.f
theorem ok_law_by (T : LawT K mg A) : FnOk P w K mg base CX0 3 A.f_law_by A.d_law_by ["one", "other"] (spBy K) := by
  refine T.F_law_by.ok sc_law_by (fun vs H Q E h => ?_) (fun cdv Ar outer s H vs Q E hr h => ?_)
  · obtain ⟨_, _, _, _, rfl, _⟩ := h
    rfl
  · obtain ⟨v1, v2, x, y, rfl, ⟨a, rfl, f1⟩, ⟨b, rfl, f2⟩, z1, z2, q⟩ := h
    refine ⟨_, (pss_one (ps_ret (pe_call (ok_law_low T) (hr.mono (by decide)) rfl T.g_law_low T.F_law_low.kp (b_law_low T.F_law_low) .nil pass0 (pa_cons (pe_op op_mulW (pe_ix ix_tup (pv 0) pe_int (fun _ _ => rfl)) (pe_ix ix_tup (pv 1) pe_int (fun _ _ => rfl))) (pa_cons (pe_op op_mulW (pe_ix ix_tup (pv 0) pe_int (fun _ _ => rfl)) (pe_ix ix_tup (pv 1) pe_int (fun _ _ => rfl))) pa_nil))))), ?_⟩
    refine ⟨_, rfl, _, _, _, _, rfl, rfl, f1, rfl, _, rfl, _, _, _, _, rfl, rfl, f2, rfl, _, _, rfl, rfl, mulW z1.1 z2.1 (by decide), ?_⟩
    refine ⟨_, rfl, _, _, _, _, rfl, rfl, f1, rfl, _, rfl, _, _, _, _, rfl, rfl, f2, rfl, _, _, rfl, rfl, mulW z1.2 z2.2 (by decide), ?_⟩
    refine ⟨_, _, rfl, Int.mul_pos (den_pos' x) (den_pos' y), (z1.2.mul z2.2).mono (by decide), ?_⟩
    rw [rat_mul]
    exact q.f
theorem ok_law_over (T : LawT K mg A) : FnOk P w K mg base CX0 3 A.f_law_over A.d_law_over ["one", "other"] (spLOver K) := by
  refine T.F_law_over.ok sc_law_over (fun vs H Q E h => ?_) (fun cdv Ar outer s H vs Q E hr h => ?_)
  · obtain ⟨_, _, _, _, rfl, _⟩ := h
    rfl
  · obtain ⟨v1, v2, x, y, rfl, ⟨a, rfl, f1⟩, ⟨b, rfl, f2⟩, z1, z2, hy, q⟩ := h
    refine ⟨_, (pss_one (ps_ret (pe_call (ok_law_low T) (hr.mono (by decide)) rfl T.g_law_low T.F_law_low.kp (b_law_low T.F_law_low) .nil pass0 (pa_cons (pe_op op_mulW (pe_ix ix_tup (pv 0) pe_int (fun _ _ => rfl)) (pe_ix ix_tup (pv 1) pe_int (fun _ _ => rfl))) (pa_cons (pe_op op_mulW (pe_ix ix_tup (pv 0) pe_int (fun _ _ => rfl)) (pe_ix ix_tup (pv 1) pe_int (fun _ _ => rfl))) pa_nil))))), ?_⟩
    refine ⟨_, rfl, _, _, _, _, rfl, rfl, f1, rfl, _, rfl, _, _, _, _, rfl, rfl, f2, rfl, _, _, rfl, rfl, mulW z1.1 z2.2 (by decide), ?_⟩
    refine ⟨_, rfl, _, _, _, _, rfl, rfl, f1, rfl, _, rfl, _, _, _, _, rfl, rfl, f2, rfl, _, _, rfl, rfl, mulW z1.2 z2.1 (by decide), ?_⟩
    refine ⟨_, _, rfl, Int.mul_pos (den_pos' x) (num_pos' hy), (z1.2.mul z2.1).mono (by decide), ?_⟩
    rw [rat_div]
    exact q.f
theorem rv_neg (y : Rat) : ([V.int (0 - y.num), V.int (y.den : Int)] : List V) = rv (-y) := by
  show _ = [V.int (-y).num, V.int ((-y).den : Int)]
  rw [Rat.neg_num, Rat.neg_den, Int.zero_sub]
theorem Sz.neg {n : Nat} {y : Rat} (z : Sz n y) : Sz n (-y) := by
  refine ⟨?_, ?_⟩
  · show (-y).num.natAbs < _
    rw [Rat.neg_num, Int.natAbs_neg]
    exact z.1
  · show ((-y).den : Int).natAbs < _
    rw [Rat.neg_den]
    exact z.2
theorem ok_law_minus (T : LawT K mg A) : FnOk P w K mg base CX0 4 A.f_law_minus A.d_law_minus ["one", "other"] (spMinus K) := by
  refine T.F_law_minus.ok sc_law_minus (fun vs H Q E h => ?_) (fun cdv Ar outer s H vs Q E hr h => ?_)
  · obtain ⟨_, _, _, _, rfl, _⟩ := h
    rfl
  · obtain ⟨v1, v2, x, y, rfl, f1, ⟨b, rfl, f2⟩, z1, z2, q⟩ := h
    refine ⟨_, (pss_one (ps_ret (pe_call (ok_law_plus T) (hr.mono (by decide)) rfl T.g_law_plus T.F_law_plus.kp (b_law_plus T.F_law_plus) .nil pass0 (pa_cons (pv 0) (pa_cons (pe_tup (pa_cons (pe_op op_sub pe_int (pe_ix ix_tup (pv 1) pe_int (fun _ _ => rfl))) (pa_cons (pe_ix ix_tup (pv 1) pe_int (fun _ _ => rfl)) pa_nil))) pa_nil))))), ?_⟩
    refine ⟨_, rfl, _, rfl, _, _, _, _, rfl, rfl, f2, rfl, _, _, rfl, rfl, _, rfl, _, _, _, _, rfl, rfl, f2, rfl, two_line, fun c hc => ?_⟩
    refine ⟨_, _, x, -y, rfl, f1.mono (same_new hc), ⟨c, rfl, ?_⟩, z1, z2.neg, ?_⟩
    · rw [← rv_neg]
      exact SqT.of upd_same
    · rw [← Rat.sub_eq_add_neg]
      exact q.mono (same_new hc)
end
end K8


set_option Elab.async false
set_option linter.all false
set_option maxRecDepth 100000
set_option maxHeartbeats 4000000
set_option exponentiation.threshold 10000
namespace K8
open PySem PySem.Spec PyProof.Rows L2 OG
/-! ### sizes -/
theorem sz_divInt {n : Nat} {p q : Int} (h : q ≠ 0) (hp : SzI n p) (hq : SzI n q) : Sz n (Rat.divInt p q) := by
  have hg : 0 < Int.gcd q p := Int.gcd_pos_of_ne_zero_left p h
  refine ⟨?_, ?_⟩
  · show (Rat.divInt p q).num.natAbs < 2 ^ n
    rw [Rat.num_divInt]
    refine Nat.lt_of_le_of_lt ?_ hp
    have hd : (((Int.gcd q p : Nat) : Int)) ∣ q.sign * p := Int.dvd_trans (Int.gcd_dvd_right q p) (Int.dvd_mul_left q.sign p)
    rw [Int.natAbs_ediv_of_dvd hd, Int.natAbs_mul, Int.natAbs_sign_of_ne_zero h, Nat.one_mul, Int.natAbs_natCast]
    exact Nat.div_le_self _ _
  · show ((Rat.divInt p q).den : Int).natAbs < 2 ^ n
    rw [Int.natAbs_natCast, Rat.den_divInt, if_neg h]
    exact Nat.lt_of_le_of_lt (Nat.div_le_self _ _) hq
theorem szI_add {n : Nat} {i j : Int} (hi : SzI n i) (hj : SzI n j) : SzI (n + 1) (i + j) := by
  unfold SzI at *
  rw [Nat.pow_succ]
  have := Int.natAbs_add_le i j
  omega
theorem SzI.neg {n : Nat} {i : Int} (h : SzI n i) : SzI n (-i) := by
  unfold SzI at *
  rw [Int.natAbs_neg]
  exact h
theorem szI_sub {n : Nat} {i j : Int} (hi : SzI n i) (hj : SzI n j) : SzI (n + 1) (i - j) := by
  rw [Int.sub_eq_add_neg]
  exact szI_add hi hj.neg
theorem Sz.mono {n m : Nat} {x : Rat} (z : Sz n x) (h : n ≤ m) : Sz m x := ⟨z.1.mono h, z.2.mono h⟩
theorem sz_mul {n m : Nat} {x y : Rat} (hx : Sz n x) (hy : Sz m y) : Sz (n + m) (x * y) := by
  rw [← rat_mul]
  exact sz_divInt (den_mul_ne x y) (hx.1.mul hy.1) (hx.2.mul hy.2)
theorem sz_add {n m : Nat} {x y : Rat} (hx : Sz n x) (hy : Sz m y) : Sz (n + m + 1) (x + y) := by
  rw [← rat_add]
  refine sz_divInt (den_mul_ne x y) (szI_add (hx.1.mul hy.2) ?_) ((hx.2.mul hy.2).mono (by omega))
  have := hy.1.mul hx.2
  rw [Nat.add_comm m n] at this
  exact this
theorem sz_sub {n m : Nat} {x y : Rat} (hx : Sz n x) (hy : Sz m y) : Sz (n + m + 1) (x - y) := by
  rw [Rat.sub_eq_add_neg]
  exact sz_add hx hy.neg
/-! ### numbers -/
section
variable {P : Program} {w : World} {K : PySem.W.Frag} {mg : Str → Option Value} {base : Heap} {A : Ad}
def NumT (K : PySem.W.Frag) (H : Hp) (v : V) (a b : Rat) : Prop := ∃ p va vb, v = .ref p ∧ SqT K H p [va, vb] ∧ FrT K H va a ∧ FrT K H vb b
theorem NumT.mono {H H' : Hp} {v : V} {a b : Rat} (e : Same H H') (h : NumT K H v a b) : NumT K H' v a b := by
  obtain ⟨p, va, vb, h1, h2, h3, h4⟩ := h
  exact ⟨p, va, vb, h1, same_t e h2, h3.mono e, h4.mono e⟩
def ToldT (K : PySem.W.Frag) (H : Hp) (v : V) (h : Int) (a b : Rat) : Prop := ∃ p vn, v = .ref p ∧ SqT K H p [.int h, vn] ∧ NumT K H vn a b
theorem ToldT.mono {H H' : Hp} {v : V} {h : Int} {a b : Rat} (e : Same H H') (k : ToldT K H v h a b) : ToldT K H' v h a b := by
  obtain ⟨p, vn, h1, h2, h3⟩ := k
  exact ⟨p, vn, h1, same_t e h2, h3.mono e⟩
def spProduct (K : PySem.W.Frag) : Sp := fun vs H Q _ => ∃ (v1 v2 v3 : V) (a b c d r : Rat), vs = [v1, v2, v3] ∧ NumT K H v1 a b ∧ NumT K H v2 c d ∧ FrT K H v3 r ∧ Sz 1500 a ∧ Sz 1500 b ∧ Sz 100 c ∧ Sz 100 d ∧ Sz 100 r ∧
  ∀ v H', Same H H' → NumT K H' v (a * c - r * (b * d)) (a * d + b * c) → Q v H'
theorem ok_law_product (T : LawT K mg A) : FnOk P w K mg base CX0 5 A.f_law_product A.d_law_product ["one", "other", "root"] (spProduct K) := by
  refine T.F_law_product.ok sc_law_product (fun vs H Q E h => ?_) (fun cdv Ar outer s H vs Q E hr h => ?_)
  · obtain ⟨_, _, _, _, _, _, _, _, rfl, _⟩ := h
    rfl
  · obtain ⟨v1, v2, v3, a, b, c, d, r, rfl, ⟨p1, va, vb, rfl, q1, fa, fb⟩, ⟨p2, vc, vd, rfl, q2, fc, fd⟩, fr, za, zb, zc, zd, zr, q⟩ := h
    refine ⟨_, (pss_cons (ps_asg (pe_tup (pa_cons (pv 0) (pa_cons (pv 1) pa_nil))) (pg_tup rfl (pgs_cons (pg_tup rfl (pgs_cons (pg_name (i := 3) sc_law_product.nd rfl (Or.inl rfl)) (pgs_cons (pg_name (i := 4) sc_law_product.nd rfl (Or.inl rfl)) pgs_nil))) (pgs_cons (pg_tup rfl (pgs_cons (pg_name (i := 5) sc_law_product.nd rfl (Or.inl rfl)) (pgs_cons (pg_name (i := 6) sc_law_product.nd rfl (Or.inl rfl)) pgs_nil))) pgs_nil))))
      (pss_one (ps_ret (pe_tup (pa_cons (pe_call (ok_law_minus T) (hr.mono (by decide)) rfl T.g_law_minus T.F_law_minus.kp (b_law_minus T.F_law_minus) .nil pass0 (pa_cons (pe_call (ok_law_by T) (hr.mono (by decide)) rfl T.g_law_by T.F_law_by.kp (b_law_by T.F_law_by) .nil pass0 (pa_cons (pv 3) (pa_cons (pv 5) pa_nil))) (pa_cons (pe_call (ok_law_by T) (hr.mono (by decide)) rfl T.g_law_by T.F_law_by.kp (b_law_by T.F_law_by) .nil pass0 (pa_cons (pv 2) (pa_cons (pe_call (ok_law_by T) (hr.mono (by decide)) rfl T.g_law_by T.F_law_by.kp (b_law_by T.F_law_by) .nil pass0 (pa_cons (pv 4) (pa_cons (pv 6) pa_nil))) pa_nil))) pa_nil))) (pa_cons (pe_call (ok_law_plus T) (hr.mono (by decide)) rfl T.g_law_plus T.F_law_plus.kp (b_law_plus T.F_law_plus) .nil pass0 (pa_cons (pe_call (ok_law_by T) (hr.mono (by decide)) rfl T.g_law_by T.F_law_by.kp (b_law_by T.F_law_by) .nil pass0 (pa_cons (pv 3) (pa_cons (pv 6) pa_nil))) (pa_cons (pe_call (ok_law_by T) (hr.mono (by decide)) rfl T.g_law_by T.F_law_by.kp (b_law_by T.F_law_by) .nil pass0 (pa_cons (pv 4) (pa_cons (pv 5) pa_nil))) pa_nil))) pa_nil)))))), ?_⟩
    refine ⟨_, rfl, _, rfl, two_line, fun t ht => ?_⟩
    have s1 : Same H (upd H t (.tup [.ref p1, .ref p2])) := same_new ht
    refine ⟨t, _, rfl, SqT.of upd_same, rfl, _, _, rfl, p1, _, rfl, same_t s1 q1, rfl, _, _, rfl, _, _, rfl, rfl, ?_⟩
    refine ⟨_, _, rfl, p2, _, rfl, same_t s1 q2, rfl, _, _, rfl, _, _, rfl, rfl, rfl, ?_⟩
    have zac := sz_mul za zc
    have zbd := sz_mul zb zd
    refine ⟨_, rfl, _, rfl, _, _, a, c, rfl, fa.mono s1, fc.mono s1, za.mono (by decide), zc.mono (by decide), fun w1 H1 s2 f1 => ?_⟩
    refine ⟨_, rfl, _, rfl, _, rfl, _, _, b, d, rfl, fb.mono (s1.trans s2), fd.mono (s1.trans s2), zb.mono (by decide), zd.mono (by decide), fun w2 H2 s3 f2 => ?_⟩
    have s123 := s1.trans (s2.trans s3)
    refine ⟨_, _, r, b * d, rfl, fr.mono s123, f2, zr.mono (by decide), zbd.mono (by decide), fun w3 H3 s4 f3 => ?_⟩
    have s1234 := s123.trans s4
    refine ⟨_, _, a * c, r * (b * d), rfl, f1.mono (s3.trans s4), f3, zac.mono (by decide), (sz_mul zr zbd).mono (by decide), fun w4 H4 s5 f4 => ?_⟩
    have s5' := s1234.trans s5
    refine ⟨_, rfl, _, rfl, _, _, a, d, rfl, fa.mono s5', fd.mono s5', za.mono (by decide), zd.mono (by decide), fun w5 H5 s6 f5 => ?_⟩
    have s6' := s5'.trans s6
    refine ⟨_, rfl, _, rfl, _, _, b, c, rfl, fb.mono s6', fc.mono s6', zb.mono (by decide), zc.mono (by decide), fun w6 H6 s7 f6 => ?_⟩
    have s7' := s6'.trans s7
    refine ⟨_, _, a * d, b * c, rfl, f5.mono s7, f6, (sz_mul za zd).mono (by decide), (sz_mul zb zc).mono (by decide), fun w7 H7 s8 f7 => ⟨two_line, fun u hu => ?_⟩⟩
    have s9 := same_new (o := .tup [w4, w7]) hu
    exact q _ _ (s7'.trans (s8.trans s9)) ⟨u, w4, w7, rfl, SqT.of upd_same, f4.mono (s6.trans (s7.trans (s8.trans s9))), f7.mono s9⟩
/-- told behind one factor more -/
def onA (r : Rat) (a b c d : Rat) : Rat := a * c - r * (b * d)
def onB (a b c d : Rat) : Rat := a * d + b * c
def spOn (K : PySem.W.Frag) : Sp := fun vs H Q _ => ∃ (v1 v2 v3 : V) (h : Int) (a b c d r : Rat), vs = [v1, v2, v3] ∧ ToldT K H v1 h a b ∧ NumT K H v2 c d ∧ FrT K H v3 r ∧ Sz 1500 a ∧ Sz 1500 b ∧ Sz 100 c ∧ Sz 100 d ∧ Sz 100 r ∧
  ∀ v H', Same H H' → (if onB a b c d < 0 ∨ (onB a b c d = 0 ∧ onA r a b c d < 0) then ToldT K H' v (h + 1) (-onA r a b c d) (-onB a b c d) else ToldT K H' v h (onA r a b c d) (onB a b c d)) → Q v H'
theorem num_neg' {x : Rat} : x.num < 0 ↔ x < 0 := by
  have e := Rat.lt_iff x 0
  rw [show (0 : Rat).num = 0 from rfl, show (0 : Rat).den = 1 from rfl] at e
  rw [e]
  omega
theorem ok_law_on (T : LawT K mg A) : FnOk P w K mg base CX0 6 A.f_law_on A.d_law_on ["told", "other", "root"] (spOn K) := by
  refine T.F_law_on.ok sc_law_on (fun vs H Q E h => ?_) (fun cdv Ar outer s H vs Q E hr h => ?_)
  · obtain ⟨_, _, _, _, _, _, _, _, _, rfl, _⟩ := h
    rfl
  · obtain ⟨v1, v2, v3, h, a, b, c, d, r, rfl, ⟨p1, vn, rfl, q1, n1⟩, n2, fr, za, zb, zc, zd, zr, q⟩ := h
    refine ⟨_, (pss_cons (ps_asg (pv 0) (pg_tup rfl (pgs_cons (pg_name (i := 3) sc_law_on.nd rfl (Or.inl rfl)) (pgs_cons (pg_name (i := 4) sc_law_on.nd rfl (Or.inl rfl)) pgs_nil))))
      (pss_cons (ps_asg (pe_call (ok_law_product T) (hr.mono (by decide)) rfl T.g_law_product T.F_law_product.kp (b_law_product T.F_law_product) .nil pass0 (pa_cons (pv 4) (pa_cons (pv 1) (pa_cons (pv 2) pa_nil)))) (pg_tup rfl (pgs_cons (pg_name (i := 5) sc_law_on.nd rfl (Or.inl rfl)) (pgs_cons (pg_name (i := 6) sc_law_on.nd rfl (Or.inl rfl)) pgs_nil))))
      (pss_cons (ps_if (PW.pt (pw_or (pt_cmpR op_lt (pe_ix ix_tup (pv 6) pe_int (fun _ _ => rfl)) pe_int (nomark _)) (pw_or1 (PW.pt (pw_and (pt_cmpR op_eq (pe_ix ix_tup (pv 6) pe_int (fun _ _ => rfl)) pe_int (nomark _)) (pw_and1 (pt_cmpR op_lt (pe_ix ix_tup (pv 5) pe_int (fun _ _ => rfl)) pe_int (nomark _)))))))) (pss_one (ps_ret (pe_tup (pa_cons (pe_op op_add (pv 3) pe_int) (pa_cons (pe_tup (pa_cons (pe_tup (pa_cons (pe_op op_sub pe_int (pe_ix ix_tup (pv 5) pe_int (fun _ _ => rfl))) (pa_cons (pe_ix ix_tup (pv 5) pe_int (fun _ _ => rfl)) pa_nil))) (pa_cons (pe_tup (pa_cons (pe_op op_sub pe_int (pe_ix ix_tup (pv 6) pe_int (fun _ _ => rfl))) (pa_cons (pe_ix ix_tup (pv 6) pe_int (fun _ _ => rfl)) pa_nil))) pa_nil))) pa_nil))))) pss_nil)
      (pss_one (ps_ret (pe_tup (pa_cons (pv 3) (pa_cons (pe_tup (pa_cons (pv 5) (pa_cons (pv 6) pa_nil))) pa_nil)))))))), ?_⟩
    refine ⟨_, rfl, p1, _, rfl, q1, rfl, _, _, rfl, _, _, rfl, rfl, ?_⟩
    refine ⟨_, rfl, _, rfl, _, rfl, _, _, _, a, b, c, d, r, rfl, n1, n2, fr, za, zb, zc, zd, zr, fun w1 H1 s1 m1 => ?_⟩
    obtain ⟨p2, va, vb, rfl, q2, ⟨pa, rfl, fa⟩, ⟨pb, rfl, fb⟩⟩ := m1
    refine ⟨p2, _, rfl, q2, rfl, _, _, rfl, _, _, rfl, rfl, ?_⟩
    change SqT K H1 pa (rv (onA r a b c d)) at fa
    change SqT K H1 pb (rv (onB a b c d)) at fb
    refine ⟨_, rfl, _, _, _, _, rfl, rfl, fb, rfl, _, _, rfl, rfl, _, rfl, ?_⟩
    have flip : ∀ (qq : onB a b c d < 0 ∨ (onB a b c d = 0 ∧ onA r a b c d < 0)), ∀ t1, H1 t1 = none → ∀ t2, (upd H1 t1 (.tup [.int (0 - (onA r a b c d).num), .int ((onA r a b c d).den : Int)])) t2 = none → ∀ t3, (upd (upd H1 t1 (.tup [.int (0 - (onA r a b c d).num), .int ((onA r a b c d).den : Int)])) t2 (.tup [.int (0 - (onB a b c d).num), .int ((onB a b c d).den : Int)])) t3 = none →
        ∀ t4, (upd (upd (upd H1 t1 (.tup [.int (0 - (onA r a b c d).num), .int ((onA r a b c d).den : Int)])) t2 (.tup [.int (0 - (onB a b c d).num), .int ((onB a b c d).den : Int)])) t3 (.tup [.ref t1, .ref t2])) t4 = none →
        Q (.ref t4) (upd (upd (upd (upd H1 t1 (.tup [.int (0 - (onA r a b c d).num), .int ((onA r a b c d).den : Int)])) t2 (.tup [.int (0 - (onB a b c d).num), .int ((onB a b c d).den : Int)])) t3 (.tup [.ref t1, .ref t2])) t4 (.tup [.int (h + 1), .ref t3])) := by
      rw [rv_neg, rv_neg]
      intro qq t1 h1 t2 h2 t3 h3 t4 h4
      have e1 := same_new (o := .tup (rv (-onA r a b c d))) h1
      have e2 := same_new (o := .tup (rv (-onB a b c d))) h2
      have e3 := same_new (o := .tup [.ref t1, .ref t2]) h3
      have e4 := same_new (o := .tup [.int (h + 1), .ref t3]) h4
      refine q _ _ (s1.trans (e1.trans (e2.trans (e3.trans e4)))) ?_
      rw [if_pos qq]
      exact ⟨t4, _, rfl, SqT.of upd_same, t3, .ref t1, .ref t2, rfl, SqT.of (e4 _ _ upd_same), ⟨t1, rfl, SqT.of (e4 _ _ (e3 _ _ (e2 _ _ upd_same)))⟩, ⟨t2, rfl, SqT.of (e4 _ _ (e3 _ _ upd_same))⟩⟩
    have stay : ∀ (qq : ¬ (onB a b c d < 0 ∨ (onB a b c d = 0 ∧ onA r a b c d < 0))), ∀ t1, H1 t1 = none → ∀ t2, (upd H1 t1 (.tup [.ref pa, .ref pb])) t2 = none →
        Q (.ref t2) (upd (upd H1 t1 (.tup [.ref pa, .ref pb])) t2 (.tup [.int h, .ref t1])) := by
      intro qq t1 h1 t2 h2
      have e1 := same_new (o := .tup [.ref pa, .ref pb]) h1
      have e2 := same_new (o := .tup [.int h, .ref t1]) h2
      refine q _ _ (s1.trans (e1.trans e2)) ?_
      rw [if_neg qq]
      exact ⟨t2, _, rfl, SqT.of upd_same, t1, .ref pa, .ref pb, rfl, SqT.of (e2 _ _ upd_same), ⟨pa, rfl, same_t (e1.trans e2) fa⟩, ⟨pb, rfl, same_t (e1.trans e2) fb⟩⟩
    by_cases c1 : (onB a b c d).num < 0
    · rw [decide_eq_true c1]
      refine iteT (iteT ?_)
      exact ⟨_, rfl, _, _, rfl, rfl, _, rfl, _, _, _, _, rfl, rfl, fa, rfl, _, _, rfl, rfl, _, rfl, _, _, _, _, rfl, rfl, fa, rfl, two_line, fun t1 h1 => ⟨_, rfl, _, _, _, _, rfl, rfl, same_t (same_new h1) fb, rfl, _, _, rfl, rfl, _, rfl, _, _, _, _, rfl, rfl, same_t (same_new h1) fb, rfl, two_line, fun t2 h2 => ⟨two_line, fun t3 h3 => ⟨two_line, fun t4 h4 => flip (.inl (num_neg'.mp c1)) t1 h1 t2 h2 t3 h3 t4 h4⟩⟩⟩⟩
    · rw [decide_eq_false c1]
      refine iteF ⟨_, rfl, _, _, _, _, rfl, rfl, fb, rfl, rfl, _, rfl, ?_⟩
      by_cases c2 : (onB a b c d).num = 0
      · rw [show decide (V.int (onB a b c d).num = V.int 0) = true from decide_eq_true (by rw [c2])]
        refine iteT ⟨_, rfl, _, _, _, _, rfl, rfl, fa, rfl, _, _, rfl, rfl, _, rfl, ?_⟩
        by_cases c3 : (onA r a b c d).num < 0
        · rw [decide_eq_true c3]
          refine iteT ?_
          exact ⟨_, rfl, _, _, rfl, rfl, _, rfl, _, _, _, _, rfl, rfl, fa, rfl, _, _, rfl, rfl, _, rfl, _, _, _, _, rfl, rfl, fa, rfl, two_line, fun t1 h1 => ⟨_, rfl, _, _, _, _, rfl, rfl, same_t (same_new h1) fb, rfl, _, _, rfl, rfl, _, rfl, _, _, _, _, rfl, rfl, same_t (same_new h1) fb, rfl, two_line, fun t2 h2 => ⟨two_line, fun t3 h3 => ⟨two_line, fun t4 h4 => flip (.inr ⟨Rat.num_eq_zero.mp c2, num_neg'.mp c3⟩) t1 h1 t2 h2 t3 h3 t4 h4⟩⟩⟩⟩
        · rw [decide_eq_false c3]
          refine iteF ⟨_, rfl, _, rfl, _, rfl, two_line, fun t1 h1 => ⟨two_line, fun t2 h2 => stay ?_ t1 h1 t2 h2⟩⟩
          rintro (z | ⟨_, z⟩)
          · exact c1 (num_neg'.mpr z)
          · exact c3 (num_neg'.mpr z)
      · rw [show decide (V.int (onB a b c d).num = V.int 0) = false from decide_eq_false fun z => c2 (by injection z)]
        refine iteF (iteF ⟨_, rfl, _, rfl, _, rfl, two_line, fun t1 h1 => ⟨two_line, fun t2 h2 => stay ?_ t1 h1 t2 h2⟩⟩)
        rintro (z | ⟨z, _⟩)
        · exact c1 (num_neg'.mpr z)
        · exact c2 (Rat.num_eq_zero.mpr z)
end
end K8


set_option Elab.async false
set_option linter.all false
set_option maxRecDepth 100000
set_option maxHeartbeats 4000000
set_option exponentiation.threshold 10000
namespace K8
open PySem PySem.Spec PyProof.Rows L2 OG
/-! ### told angles -/
structure Tld where
  h : Int
  a : Rat
  b : Rat
def told0 : Tld := ⟨0, 1, 0⟩
def stepT (r : Rat) (t : Tld) (g : Ang) : Tld :=
  match g.2 with
  | none => ⟨t.h + g.1, t.a, t.b⟩
  | some x => if onB t.a t.b x 1 < 0 ∨ (onB t.a t.b x 1 = 0 ∧ onA r t.a t.b x 1 < 0) then ⟨t.h + g.1 + 1, -onA r t.a t.b x 1, -onB t.a t.b x 1⟩ else ⟨t.h + g.1, onA r t.a t.b x 1, onB t.a t.b x 1⟩
def angOf (t : Tld) : Ang := (t.h, if t.b = 0 then none else some (t.a / t.b))
def Half (t : Tld) : Prop := 0 < t.b ∨ (t.b = 0 ∧ 0 < t.a)
theorem sq_nn (x : Rat) : 0 ≤ x * x := by
  by_cases h : 0 ≤ x
  · exact Rat.mul_nonneg h h
  · have h' : 0 ≤ -x := by grind
    have := Rat.mul_nonneg h' h'
    grind
theorem step_law {r : Rat} {t : Tld} {g : Ang} (hr : 0 < r) (ht : Half t) : Half (stepT r t g) ∧ angOf (stepT r t g) = aadd r (angOf t) g := by
  obtain ⟨h, a, b⟩ := t
  obtain ⟨h', l⟩ := g
  cases l with
  | none =>
    refine ⟨ht, ?_⟩
    show (h + h', if b = 0 then none else some (a / b)) = aadd r (h, if b = 0 then none else some (a / b)) (h', none)
    by_cases hb : b = 0
    · rw [if_pos hb]
      rfl
    · rw [if_neg hb]
      rfl
  | some x =>
    have eA : onA r a b x 1 = a * x - r * b := by unfold onA; grind
    have eB : onB a b x 1 = a + b * x := by unfold onB; grind
    have es : stepT r ⟨h, a, b⟩ (h', some x) = if a + b * x < 0 ∨ (a + b * x = 0 ∧ a * x - r * b < 0) then ⟨h + h' + 1, -(a * x - r * b), -(a + b * x)⟩ else ⟨h + h', a * x - r * b, a + b * x⟩ := by
      show (if onB a b x 1 < 0 ∨ (onB a b x 1 = 0 ∧ onA r a b x 1 < 0) then (⟨h + h' + 1, -onA r a b x 1, -onB a b x 1⟩ : Tld) else ⟨h + h', onA r a b x 1, onB a b x 1⟩) = _
      rw [eA, eB]
    rw [es]
    rcases ht with hb | ⟨hb, ha⟩
    · change 0 < b at hb
      have hb0 : b ≠ 0 := by grind
      have eo : angOf ⟨h, a, b⟩ = (h, some (a / b)) := by
        show (h, if b = 0 then none else some (a / b)) = _
        rw [if_neg hb0]
      rw [eo]
      have e1 : a / b + x = (a + b * x) / b := by grind
      have hpos : 0 < a / b + x ↔ 0 < a + b * x := by
        rw [e1]
        constructor
        · intro z
          have := Rat.mul_pos z hb
          rw [Rat.div_mul_cancel hb0] at this
          exact this
        · intro z
          rw [Rat.div_def]
          exact Rat.mul_pos z (Rat.inv_pos.mpr hb)
      by_cases c0 : a + b * x = 0
      · have c1 : a / b + x = 0 := by rw [e1, c0, Rat.div_def, Rat.zero_mul]
        have hneg : a * x - r * b < 0 := by
          have e2 : a = -(b * x) := by grind
          have h1 : 0 ≤ b * (x * x) := Rat.mul_nonneg (Rat.le_of_lt hb) (sq_nn x)
          have h2 : 0 < r * b := Rat.mul_pos hr hb
          have e3 : a * x = -(b * (x * x)) := by grind
          grind
        rw [if_pos (.inr ⟨c0, hneg⟩)]
        refine ⟨.inr ⟨by show -(a + b * x) = 0; grind, by show 0 < -(a * x - r * b); grind⟩, ?_⟩
        show (h + h' + 1, if -(a + b * x) = 0 then none else some (-(a * x - r * b) / -(a + b * x))) = (if a / b + x = 0 then (h + h' + 1, none) else _)
        rw [if_pos c1, if_pos (by grind)]
      · have c1 : a / b + x ≠ 0 := fun z => c0 (by
          have : (a + b * x) / b * b = 0 := by rw [← e1, z, Rat.zero_mul]
          grind)
        have el : (a / b * x - r) / (a / b + x) = (a * x - r * b) / (a + b * x) := by grind
        by_cases cn : a + b * x < 0
        · rw [if_pos (.inl cn)]
          refine ⟨.inl (by show 0 < -(a + b * x); grind), ?_⟩
          show (h + h' + 1, if -(a + b * x) = 0 then none else some (-(a * x - r * b) / -(a + b * x))) = (if a / b + x = 0 then (h + h' + 1, none) else (if 0 < a / b + x then h + h' else h + h' + 1, some ((a / b * x - r) / (a / b + x))))
          rw [if_neg c1, if_neg (by grind), if_neg (by rw [hpos]; grind), el]
          congr 2
          grind
        · rw [if_neg (by grind)]
          refine ⟨.inl (by show 0 < a + b * x; grind), ?_⟩
          show (h + h', if a + b * x = 0 then none else some ((a * x - r * b) / (a + b * x))) = (if a / b + x = 0 then (h + h' + 1, none) else (if 0 < a / b + x then h + h' else h + h' + 1, some ((a / b * x - r) / (a / b + x))))
          rw [if_neg c1, if_neg c0, if_pos (by rw [hpos]; grind), el]
    · change b = 0 at hb
      change 0 < a at ha
      subst hb
      have eo : angOf ⟨h, a, 0⟩ = (h, none) := rfl
      rw [eo, if_neg (by grind)]
      refine ⟨.inl (by show 0 < a + 0 * x; grind), ?_⟩
      show (h + h', if a + 0 * x = 0 then none else some ((a * x - r * 0) / (a + 0 * x))) = (h + h', some x)
      rw [if_neg (by grind)]
      congr 2
      grind
/-! sizes of told numbers -/
def NumOk (s : Nat) (a b : Rat) : Prop := ∃ A B D : Int, D ≠ 0 ∧ SzI s A ∧ SzI s B ∧ SzI s D ∧ a = Rat.divInt A D ∧ b = Rat.divInt B D
theorem NumOk.sz {s : Nat} {a b : Rat} (h : NumOk s a b) : Sz s a ∧ Sz s b := by
  obtain ⟨A, B, D, h0, h1, h2, h3, rfl, rfl⟩ := h
  exact ⟨sz_divInt h0 h1 h3, sz_divInt h0 h2 h3⟩
theorem NumOk.neg {s : Nat} {a b : Rat} (h : NumOk s a b) : NumOk s (-a) (-b) := by
  obtain ⟨A, B, D, h0, h1, h2, h3, rfl, rfl⟩ := h
  exact ⟨-A, -B, D, h0, h1.neg, h2.neg, h3, by rw [Rat.neg_divInt], by rw [Rat.neg_divInt]⟩
theorem NumOk.mono {s t : Nat} {a b : Rat} (h : NumOk s a b) (k : s ≤ t) : NumOk t a b := by
  obtain ⟨A, B, D, h0, h1, h2, h3, e1, e2⟩ := h
  exact ⟨A, B, D, h0, h1.mono k, h2.mono k, h3.mono k, e1, e2⟩
theorem rat_is (x : Rat) : x = (x.num : Rat) / (x.den : Rat) := by
  have := Rat.num_divInt_den x
  rw [Rat.divInt_eq_div] at this
  exact_mod_cast this.symm
theorem NumOk.step {s : Nat} {r a b x : Rat} (h : NumOk s a b) (hx : Sz 67 x) (hr : Sz 50 r) : NumOk (s + 118) (onA r a b x 1) (onB a b x 1) := by
  obtain ⟨A, B, D, h0, h1, h2, h3, rfl, rfl⟩ := h
  refine ⟨A * x.num * (r.den : Int) - r.num * (B * (x.den : Int)), A * (x.den : Int) * (r.den : Int) + B * x.num * (r.den : Int), D * (x.den : Int) * (r.den : Int), Int.mul_ne_zero (Int.mul_ne_zero h0 (den_ne x)) (den_ne r), ?_, ?_, ?_, ?_, ?_⟩
  · refine (szI_sub ((h1.mul hx.1).mul hr.2) ?_).mono (by omega)
    have := hr.1.mul (h2.mul hx.2)
    rw [show s + 67 + 50 = 50 + (s + 67) from by omega]
    exact this
  · exact (szI_add ((h1.mul hx.2).mul hr.2) ((h2.mul hx.1).mul hr.2)).mono (by omega)
  · exact ((h3.mul hx.2).mul hr.2).mono (by omega)
  · have ex := rat_is x
    have er := rat_is r
    have d1 : (x.den : Rat) ≠ 0 := by exact_mod_cast x.den_nz
    have d2 : (r.den : Rat) ≠ 0 := by exact_mod_cast r.den_nz
    have d3 : (D : Rat) ≠ 0 := by exact_mod_cast h0
    unfold onA
    rw [Rat.divInt_eq_div, Rat.divInt_eq_div, Rat.divInt_eq_div]
    simp only [Rat.intCast_sub, Rat.intCast_mul, Rat.intCast_add, Rat.intCast_natCast]
    generalize (A : Rat) = A' at *
    generalize (B : Rat) = B' at *
    generalize (D : Rat) = D' at *
    generalize (x.num : Rat) = xn at *
    generalize (x.den : Rat) = xd at *
    generalize (r.num : Rat) = rn at *
    generalize (r.den : Rat) = rd at *
    subst ex er
    grind
  · have ex := rat_is x
    have d1 : (x.den : Rat) ≠ 0 := by exact_mod_cast x.den_nz
    have d2 : (r.den : Rat) ≠ 0 := by exact_mod_cast r.den_nz
    have d3 : (D : Rat) ≠ 0 := by exact_mod_cast h0
    unfold onB
    rw [Rat.divInt_eq_div, Rat.divInt_eq_div, Rat.divInt_eq_div]
    simp only [Rat.intCast_sub, Rat.intCast_mul, Rat.intCast_add, Rat.intCast_natCast]
    generalize (A : Rat) = A' at *
    generalize (B : Rat) = B' at *
    generalize (D : Rat) = D' at *
    generalize (x.num : Rat) = xn at *
    generalize (x.den : Rat) = xd at *
    generalize (r.den : Rat) = rd at *
    subst ex
    grind
end K8


set_option Elab.async false
set_option linter.all false
set_option maxRecDepth 100000
set_option maxHeartbeats 4000000
set_option exponentiation.threshold 10000
namespace K8
open PySem PySem.Spec PyProof.Rows L2 OG
theorem un64 {k : Nat} {A : Around} (r : Room k A) : A.units + 64 < cLine := by have := r.un; omega
/-! ### angles as data -/
def dFr (x : Rat) : PyData := .tuple [.int x.num, .int (x.den : Int)]
def dLe : Option Rat → PyData
  | none => .none
  | some x => dFr x
def dAn (a : Ang) : PyData := .tuple [.int a.1, dLe a.2]
theorem rat_ext {x y : Rat} (h1 : x.num = y.num) (h2 : x.den = y.den) : x = y := by
  cases x
  cases y
  cases h1
  cases h2
  rfl
theorem eqv_fr (x y : Rat) : PyData.eqv (dFr x) (dFr y) = decide (x = y) := by
  rw [Bool.eq_iff_iff]
  show ((x.num == y.num) && (((x.den : Int) == (y.den : Int)) && true)) = true ↔ _
  rw [Bool.and_true, Bool.and_eq_true, beq_iff_eq, beq_iff_eq, decide_eq_true_iff]
  constructor
  · rintro ⟨h1, h2⟩
    exact rat_ext h1 (by omega)
  · rintro rfl
    exact ⟨rfl, rfl⟩
theorem eqv_le (l m : Option Rat) : PyData.eqv (dLe l) (dLe m) = decide (l = m) := by
  cases l with
  | none =>
    cases m with
    | none => rfl
    | some y => rfl
  | some x =>
    cases m with
    | none => rfl
    | some y =>
      rw [show dLe (some x) = dFr x from rfl, show dLe (some y) = dFr y from rfl, eqv_fr, Bool.eq_iff_iff, decide_eq_true_iff, decide_eq_true_iff]
      exact ⟨fun h => congrArg some h, fun h => Option.some.inj h⟩
theorem eqv_an (a b : Ang) : PyData.eqv (dAn a) (dAn b) = decide (a = b) := by
  obtain ⟨h, l⟩ := a
  obtain ⟨k, m⟩ := b
  rw [Bool.eq_iff_iff]
  show ((h == k) && (PyData.eqv (dLe l) (dLe m) && true)) = true ↔ _
  rw [Bool.and_true, eqv_le, Bool.and_eq_true, beq_iff_eq, decide_eq_true_iff, decide_eq_true_iff]
  constructor
  · rintro ⟨rfl, rfl⟩
    rfl
  · intro e
    cases e
    exact ⟨rfl, rfl⟩
theorem shaped_an (a : Ang) : SeqAt.shaped (dAn a) = true := by
  obtain ⟨h, l⟩ := a
  cases l with
  | none => rfl
  | some x => rfl
section
variable {K : PySem.W.Frag} {H : Hp} {v : V}
theorem dp_fr {x : Rat} (h : FrT K H v x) : Dp K H v (dFr x) := by
  obtain ⟨a, rfl, q⟩ := h
  exact .tup q (.cons (.int _) (.cons (.int _) .nil))
theorem dp_an {h : Int} {l : Option Rat} (k : AnT K H v h l) : Dp K H v (dAn (h, l)) := by
  obtain ⟨a, w, rfl, q, m⟩ := k
  refine .tup q (.cons (.int _) (.cons ?_ .nil))
  cases l with
  | none =>
    obtain rfl : w = .non := m
    exact .non
  | some x => exact dp_fr m
end
/-! ### the law's order -/
def lle : Option Rat → Option Rat → Int
  | none, none => 0
  | some _, none => 1
  | none, some _ => -1
  | some x, some y => if x = y then 0 else if x < y then 1 else -1
def lord (a b : Ang) : Int :=
  if a.1 ≠ b.1 then (if b.1 < a.1 then 1 else 0) - (if a.1 < b.1 then 1 else 0)
  else lle a.2 b.2
theorem lord_aord (a b : Ang) : lord a b = aord a b := by
  obtain ⟨h, l⟩ := a
  obtain ⟨k, m⟩ := b
  unfold lord aord
  by_cases e : h = k
  · subst e
    rw [if_neg (fun z => z rfl), if_neg (fun z => z rfl)]
    cases l with
    | none => cases m <;> rfl
    | some x =>
      cases m with
      | none => rfl
      | some y =>
        show (if x = y then (0 : Int) else if x < y then 1 else -1) = ord y x
        unfold ord
        grind
  · rw [if_pos e, if_pos e]
    show ((if k < h then (1 : Int) else 0) - (if h < k then 1 else 0)) = if h < k then -1 else 1
    by_cases c : h < k
    · rw [if_neg (by omega), if_pos c, if_pos c]
      rfl
    · rw [if_pos (by omega), if_neg c, if_neg c]
      rfl
section
variable {P : Program} {w : World} {K : PySem.W.Frag} {mg : Str → Option Value} {base : Heap} {A : Ad}
def spLOrder (K : PySem.W.Frag) : Sp := fun vs H Q _ => ∃ (v1 v2 : V) (a b : Ang), vs = [v1, v2] ∧ AnT K H v1 a.1 a.2 ∧ AnT K H v2 b.1 b.2 ∧ OSz a.2 ∧ OSz b.2 ∧ Q (.int (lord a b)) H
theorem ok_law_order (T : LawT K mg A) : FnOk P w K mg base CX0 1 A.f_law_order A.d_law_order ["one", "other"] (spLOrder K) := by
  refine T.F_law_order.ok sc_law_order (fun vs H Q E h => ?_) (fun cdv Ar outer s H vs Q E hr h => ?_)
  · obtain ⟨_, _, _, _, rfl, _⟩ := h
    rfl
  · obtain ⟨v1, v2, ⟨h, l⟩, ⟨k, m⟩, rfl, A1, A2, z1, z2, q⟩ := h
    refine ⟨_, (pss_cons (ps_if (PW.pt (pw_or (pt_cmpR op_ne (pe_ix ix_tup (pv 0) pe_int (fun _ _ => rfl)) (pe_ix ix_tup (pv 1) pe_int (fun _ _ => rfl)) (nomark _)) (pw_or1 (pt_cmpR (op_eqD (un64 hr)) (pv 0) (pv 1) (nomark _))))) (pss_one (ps_ret (pe_op op_sub (pe_callTy call_int1 (by rfl) T.n_int (by decide +kernel) (pa_cons (pe_cmpR op_gt (pe_ix ix_tup (pv 0) pe_int (fun _ _ => rfl)) (pe_ix ix_tup (pv 1) pe_int (fun _ _ => rfl)) (nomark _)) pa_nil)) (pe_callTy call_int1 (by rfl) T.n_int (by decide +kernel) (pa_cons (pe_cmpR op_lt (pe_ix ix_tup (pv 0) pe_int (fun _ _ => rfl)) (pe_ix ix_tup (pv 1) pe_int (fun _ _ => rfl)) (nomark _)) pa_nil))))) pss_nil)
      (pss_cons (ps_if (PW.pt (pw_or (pt_cmpR op_isN (pe_ix ix_tup (pv 0) pe_int (fun _ _ => rfl)) pe_non (nomark _)) (pw_or1 (pt_cmpR op_isN (pe_ix ix_tup (pv 1) pe_int (fun _ _ => rfl)) pe_non (nomark _))))) (pss_one (ps_ret (pe_ifExp (pt_cmpR op_isN (pe_ix ix_tup (pv 1) pe_int (fun _ _ => rfl)) pe_non (nomark _)) pe_int (pe_un un_neg pe_int)))) pss_nil)
      (pss_one (ps_ret (pe_ifExp (pt_cmpR op_lt (pe_op op_mulW (pe_ix ix_tup (pe_ix ix_tup (pv 0) pe_int (fun _ _ => rfl)) pe_int (fun _ _ => rfl)) (pe_ix ix_tup (pe_ix ix_tup (pv 1) pe_int (fun _ _ => rfl)) pe_int (fun _ _ => rfl))) (pe_op op_mulW (pe_ix ix_tup (pe_ix ix_tup (pv 1) pe_int (fun _ _ => rfl)) pe_int (fun _ _ => rfl)) (pe_ix ix_tup (pe_ix ix_tup (pv 0) pe_int (fun _ _ => rfl)) pe_int (fun _ _ => rfl))) (nomark _)) pe_int (pe_un un_neg pe_int)))))), ?_⟩
    have D1 := dp_an A1
    have D2 := dp_an A2
    obtain ⟨a1, w1, rfl, q1, L1⟩ := A1
    obtain ⟨a2, w2, rfl, q2, M2⟩ := A2
    refine ⟨_, rfl, _, _, _, _, rfl, rfl, q1, rfl, _, rfl, _, _, _, _, rfl, rfl, q2, rfl, rfl, _, rfl, ?_⟩
    have diff : ∀ c : (if h < k then (1 : Int) else 0) = (if h < k then (1 : Int) else 0), (if decide (k < h) = true then (1 : Int) else 0) - (if decide (h < k) = true then (1 : Int) else 0) = (if k < h then 1 else 0) - (if h < k then 1 else 0) := fun _ => by simp
    by_cases e : h = k
    · subst e
      rw [show decide (V.int (h, l).1 = V.int (h, m).1) = true from decide_eq_true rfl]
      refine iteF ⟨_, rfl, _, rfl, dAn (h, l), dAn (h, m), D1, D2, shaped_an _, shaped_an _, _, rfl, ?_⟩
      rw [eqv_an]
      have el : lord (h, l) (h, m) = lle l m := if_neg fun z => z rfl
      by_cases ee : l = m
      · subst ee
        rw [decide_eq_true rfl]
        refine iteT ⟨_, rfl, _, _, _, _, rfl, rfl, q1, rfl, _, rfl, _, _, _, _, rfl, rfl, q2, rfl, _, _, rfl, rfl, .inr ⟨_, rfl, ?_⟩⟩
        refine ⟨_, rfl, _, _, _, _, rfl, rfl, q1, rfl, _, rfl, _, _, _, _, rfl, rfl, q2, rfl, _, _, rfl, rfl, .inr ⟨_, rfl, _, _, rfl, rfl, ?_⟩⟩
        have e0 : lord (h, l) (h, l) = 0 := by
          rw [el]
          cases l with
          | none => rfl
          | some x => exact if_pos rfl
        rw [e0] at q
        have e1 : ((if decide (h < h) = true then (1 : Int) else 0) - (if decide (h < h) = true then (1 : Int) else 0)) = 0 := Int.sub_self _
        rw [← e1] at q
        exact q
      · rw [decide_eq_false (show ¬ ((h, l) : Ang) = (h, m) from fun z => ee (by injection z))]
        refine iteF ⟨_, rfl, _, _, _, _, rfl, rfl, q1, rfl, rfl, _, rfl, ?_⟩
        rw [el] at q
        cases l with
        | none =>
          obtain rfl : w1 = .non := L1
          cases m with
          | none => exact absurd rfl ee
          | some y =>
            obtain ⟨b2, rfl, f2⟩ : FrT K H w2 y := M2
            exact iteT (iteT ⟨_, rfl, _, _, _, _, rfl, rfl, q2, rfl, rfl, _, rfl, iteF ⟨_, rfl, q⟩⟩)
        | some x =>
          obtain ⟨b1, rfl, f1⟩ : FrT K H w1 x := L1
          refine iteF ⟨_, rfl, _, _, _, _, rfl, rfl, q2, rfl, rfl, _, rfl, ?_⟩
          cases m with
          | none =>
            obtain rfl : w2 = .non := M2
            exact iteT ⟨_, rfl, _, _, _, _, rfl, rfl, q2, rfl, rfl, _, rfl, iteT q⟩
          | some y =>
            obtain ⟨b2, rfl, f2⟩ : FrT K H w2 y := M2
            have nxy : x ≠ y := fun z => ee (by rw [z])
            have q' : Q (.int (if x = y then 0 else if x < y then 1 else -1)) H := q
            rw [if_neg nxy] at q'
            have zx := z1 x rfl
            have zy := z2 y rfl
            refine iteF ⟨_, rfl, _, _, _, _, rfl, rfl, q1, rfl, _, _, _, _, rfl, rfl, f1, rfl, _, rfl, _, _, _, _, rfl, rfl, q2, rfl, _, _, _, _, rfl, rfl, f2, rfl, _, _, rfl, rfl, mulW zx.1 zy.2 (by decide), ?_⟩
            refine ⟨_, rfl, _, _, _, _, rfl, rfl, q2, rfl, _, _, _, _, rfl, rfl, f2, rfl, _, rfl, _, _, _, _, rfl, rfl, q1, rfl, _, _, _, _, rfl, rfl, f1, rfl, _, _, rfl, rfl, mulW zy.1 zx.2 (by decide), _, _, rfl, rfl, _, rfl, ?_⟩
            have eq := Rat.lt_iff x y
            by_cases c : x < y
            · rw [if_pos c] at q'
              rw [decide_eq_true (eq.mp c)]
              exact iteT q'
            · rw [if_neg c] at q'
              rw [decide_eq_false (fun z => c (eq.mpr z))]
              exact iteF ⟨_, rfl, q'⟩
    · rw [ne_dec (show (h, l).1 ≠ (k, m).1 from e)]
      refine iteT (iteT ⟨_, rfl, _, _, _, _, rfl, rfl, q1, rfl, _, rfl, _, _, _, _, rfl, rfl, q2, rfl, _, _, rfl, rfl, .inr ⟨_, rfl, ?_⟩⟩)
      refine ⟨_, rfl, _, _, _, _, rfl, rfl, q1, rfl, _, rfl, _, _, _, _, rfl, rfl, q2, rfl, _, _, rfl, rfl, .inr ⟨_, rfl, _, _, rfl, rfl, ?_⟩⟩
      have el : lord (h, l) (k, m) = (if k < h then 1 else 0) - (if h < k then 1 else 0) := if_pos e
      rw [el, ← diff rfl] at q
      exact q
/-! ### the law's sum -/
def spLAngle (K : PySem.W.Frag) : Sp := fun vs H Q _ => ∃ (v1 : V) (t : Tld), vs = [v1] ∧ ToldT K H v1 t.h t.a t.b ∧ Sz 4000 t.a ∧ Sz 4000 t.b ∧ 0 ≤ t.b ∧ RetA K (angOf t).1 (angOf t).2 H Q
theorem ok_law_angle (T : LawT K mg A) : FnOk P w K mg base CX0 4 A.f_law_angle A.d_law_angle ["told"] (spLAngle K) := by
  refine T.F_law_angle.ok sc_law_angle (fun vs H Q E h => ?_) (fun cdv Ar outer s H vs Q E hr h => ?_)
  · obtain ⟨_, _, rfl, _⟩ := h
    rfl
  · obtain ⟨v1, ⟨h, a, b⟩, rfl, ⟨p1, vn, rfl, q1, p2, va, vb, rfl, q2, fa, ⟨pb, rfl, fb⟩⟩, za, zb, hb, q⟩ := h
    refine ⟨_, (pss_cons (ps_asg (pv 0) (pg_tup rfl (pgs_cons (pg_name (i := 1) sc_law_angle.nd rfl (Or.inl rfl)) (pgs_cons (pg_tup rfl (pgs_cons (pg_name (i := 2) sc_law_angle.nd rfl (Or.inl rfl)) (pgs_cons (pg_name (i := 3) sc_law_angle.nd rfl (Or.inl rfl)) pgs_nil))) pgs_nil))))
      (pss_one (ps_ret (pe_tup (pa_cons (pv 1) (pa_cons (pe_ifExp (pt_cmpR op_eq (pe_ix ix_tup (pv 3) pe_int (fun _ _ => rfl)) pe_int (nomark _)) pe_non (pe_call (ok_law_over T) (hr.mono (by decide)) rfl T.g_law_over T.F_law_over.kp (b_law_over T.F_law_over) .nil pass0 (pa_cons (pv 2) (pa_cons (pv 3) pa_nil)))) pa_nil)))))), ?_⟩
    refine ⟨_, rfl, p1, _, rfl, q1, rfl, _, _, rfl, _, _, rfl, p2, _, rfl, q2, rfl, _, _, rfl, _, _, rfl, rfl, rfl, ?_⟩
    refine ⟨_, rfl, _, rfl, _, _, _, _, rfl, rfl, fb, rfl, rfl, _, rfl, ?_⟩
    have qa : RetA K h (if b = 0 then none else some (a / b)) H Q := q
    by_cases c : b = 0
    · rw [show decide (V.int (Tld.mk h a b).b.num = V.int 0) = true from decide_eq_true (by show V.int b.num = _; rw [c]; rfl)]
      rw [if_pos c] at qa
      exact iteT ⟨two_line, fun t ht => qa _ _ (same_new ht) ⟨t, .non, rfl, SqT.of upd_same, rfl⟩⟩
    · rw [show decide (V.int (Tld.mk h a b).b.num = V.int 0) = false from decide_eq_false fun z => c (Rat.num_eq_zero.mp (by injection z))]
      rw [if_neg c] at qa
      have hb' : 0 < b := by
        have hb2 : 0 ≤ b := hb
        grind
      refine iteF ⟨_, rfl, _, rfl, _, _, a, b, rfl, fa, ⟨pb, rfl, fb⟩, za, zb, hb', fun w1 H1 s1 f1 => ⟨two_line, fun t ht => ?_⟩⟩
      exact qa _ _ (s1.trans (same_new ht)) ⟨t, w1, rfl, SqT.of upd_same, FrT.mono (same_new ht) f1⟩
theorem same_l {H H' : Hp} {a : Addr} {xs : List V} (e : Same H H') (h : SqL K H a xs) : SqL K H' a xs := e.seq h
def GoodA (a : Ang) : Prop := ∀ x, a.2 = some x → Sz 67 x
def AnsT (K : PySem.W.Frag) (H : Hp) (xs : List V) (as : List Ang) : Prop := xs.length = as.length ∧ ∀ (i : Nat) (x : V) (a : Ang), xs[i]? = some x → as[i]? = some a → AnT K H x a.1 a.2
theorem AnsT.mono {H H' : Hp} {xs : List V} {as : List Ang} (e : Same H H') (h : AnsT K H xs as) : AnsT K H' xs as := ⟨h.1, fun i x a h1 h2 => (h.2 i x a h1 h2).mono e⟩
theorem AnsT.at {H : Hp} {xs : List V} {as : List Ang} (h : AnsT K H xs as) {i : Nat} {x : V} (hx : xs[i]? = some x) : ∃ a, as[i]? = some a ∧ AnT K H x a.1 a.2 := by
  have hi : i < as.length := by
    rw [← h.1]
    exact (List.getElem?_eq_some_iff.mp hx).1
  exact ⟨as[i], List.getElem?_eq_getElem hi, h.2 i x _ hx (List.getElem?_eq_getElem hi)⟩
/-- told behind the first angles -/
def toldOf (r : Rat) (as : List Ang) : Tld := as.foldl (stepT r) told0
theorem toldOf_next {r : Rat} {as : List Ang} {i : Nat} {a : Ang} (h : as[i]? = some a) : toldOf r (as.take (i + 1)) = stepT r (toldOf r (as.take i)) a := by
  unfold toldOf
  rw [List.take_succ, h, List.foldl_append]
  rfl
theorem told_ok {r : Rat} (hr : 0 < r) (zr : Sz 50 r) {as : List Ang} (hg : ∀ a ∈ as, GoodA a) : ∀ i, i ≤ as.length → Half (toldOf r (as.take i)) ∧ NumOk (1 + 118 * i) (toldOf r (as.take i)).a (toldOf r (as.take i)).b
  | 0, _ => by
    rw [List.take_zero]
    have h1 : SzI 1 1 := by show (1 : Int).natAbs < 2 ^ 1; decide
    have h0 : SzI 1 0 := by show (0 : Int).natAbs < 2 ^ 1; decide
    exact ⟨.inr ⟨rfl, (by decide : (0 : Rat) < 1)⟩, 1, 0, 1, by decide, h1, h0, h1, (by decide : (1 : Rat) = Rat.divInt 1 1), (by decide : (0 : Rat) = Rat.divInt 0 1)⟩
  | i + 1, hi => by
    obtain ⟨h1, h2⟩ := told_ok hr zr hg i (by omega)
    have e : as[i]? = some as[i] := List.getElem?_eq_getElem (by omega)
    rw [toldOf_next e]
    refine ⟨(step_law hr h1).1, ?_⟩
    have gi := hg as[i] (List.getElem_mem _)
    generalize toldOf r (as.take i) = t at *
    generalize as[i] = g at *
    obtain ⟨h, l⟩ := g
    cases l with
    | none => exact h2.mono (by omega)
    | some x =>
      have st := h2.step (gi x rfl) zr
      have em : 1 + 118 * (i + 1) = 1 + 118 * i + 118 := by omega
      rw [em]
      show NumOk _ (stepT r t (h, some x)).a (stepT r t (h, some x)).b
      unfold stepT
      dsimp only
      split
      · exact st.neg
      · exact st
def spSum (K : PySem.W.Frag) : Sp := fun vs H Q _ => ∃ (p : Addr) (v3 : V) (xs : List V) (as : List Ang) (r : Rat), vs = [.ref p, v3] ∧ SqL K H p xs ∧ AnsT K H xs as ∧ as.length ≤ 6 ∧ (∀ a ∈ as, GoodA a) ∧ FrT K H v3 r ∧ Sz 50 r ∧ 0 < r ∧
  RetA K (angOf (toldOf r as)).1 (angOf (toldOf r as)).2 H Q
theorem ok_law_sum (T : LawT K mg A) : FnOk P w K mg base CX0 7 A.f_law_sum A.d_law_sum ["some", "root"] (spSum K) := by
  refine T.F_law_sum.ok sc_law_sum (fun vs H Q E h => ?_) (fun cdv Ar outer s H vs Q E hr h => ?_)
  · obtain ⟨_, _, _, _, _, rfl, _⟩ := h
    rfl
  · obtain ⟨p, v3, xs, as, r, rfl, qx, ax, hl, hg, fr, zr, r0, q⟩ := h
    refine ⟨_, (pss_cons (ps_set (i := 2) sc_law_sum.nd rfl (Or.inl rfl) (pe_tup (pa_cons pe_int (pa_cons (pe_tup (pa_cons (pe_tup (pa_cons pe_int (pa_cons pe_int pa_nil))) (pa_cons (pe_tup (pa_cons pe_int (pa_cons pe_int pa_nil))) pa_nil))) pa_nil))))
      (pss_cons (ps_for PassesOwn.never rfl (pi_list (pv 0)) (pg_tup rfl (pgs_cons (pg_name (i := 3) sc_law_sum.nd rfl (Or.inl rfl)) (pgs_cons (pg_name (i := 4) sc_law_sum.nd rfl (Or.inl rfl)) pgs_nil))) (pss_cons (ps_set (i := 2) sc_law_sum.nd rfl (Or.inl rfl) (pe_tup (pa_cons (pe_op op_add (pe_ix ix_tup (pv 2) pe_int (fun _ _ => rfl)) (pv 3)) (pa_cons (pe_ix ix_tup (pv 2) pe_int (fun _ _ => rfl)) pa_nil))))
      (pss_one (ps_if (pt_cmpR op_notN (pv 4) pe_non (nomark _)) (pss_one (ps_set (i := 2) sc_law_sum.nd rfl (Or.inl rfl) (pe_call (ok_law_on T) (hr.mono (by decide)) rfl T.g_law_on T.F_law_on.kp (b_law_on T.F_law_on) .nil pass0 (pa_cons (pv 2) (pa_cons (pe_tup (pa_cons (pv 4) (pa_cons (pe_tup (pa_cons pe_int (pa_cons pe_int pa_nil))) pa_nil))) (pa_cons (pv 1) pa_nil)))))) pss_nil))))
      (pss_one (ps_ret (pe_call (ok_law_angle T) (hr.mono (by decide)) rfl T.g_law_angle T.F_law_angle.kp (b_law_angle T.F_law_angle) .nil pass0 (pa_cons (pv 2) pa_nil)))))), ?_⟩
    refine ⟨two_line, fun t1 h1 => ⟨two_line, fun t2 h2 => ⟨two_line, fun t3 h3 => ⟨two_line, fun t4 h4 => ?_⟩⟩⟩⟩
    have e1 := same_new (o := .tup (rv 1)) h1
    have e2 := same_new (o := .tup (rv 0)) h2
    have e3 := same_new (o := .tup [.ref t1, .ref t2]) h3
    have e4 := same_new (o := .tup [.int 0, .ref t3]) h4
    have e14 := e1.trans (e2.trans (e3.trans e4))
    have T0 : ToldT K (upd (upd (upd (upd H t1 (.tup (rv 1))) t2 (.tup (rv 0))) t3 (.tup [.ref t1, .ref t2])) t4 (.tup [.int 0, .ref t3])) (.ref t4) (toldOf r []).h (toldOf r []).a (toldOf r []).b :=
      ⟨t4, _, rfl, SqT.of upd_same, t3, .ref t1, .ref t2, rfl, SqT.of (e4 _ _ upd_same), ⟨t1, rfl, SqT.of (e4 _ _ (e3 _ _ (e2 _ _ upd_same)))⟩, ⟨t2, rfl, SqT.of (e4 _ _ (e3 _ _ upd_same))⟩⟩
    refine ⟨_, rfl, p, rfl, ⟨xs, same_l e14 qx⟩, ?_⟩
    refine for_list (fun i σ H' => Same H H' ∧ ∃ vt w3 w4, σ = [some (.ref p), some v3, some vt, w3, w4] ∧ ToldT K H' vt (toldOf r (as.take i)).h (toldOf r (as.take i)).a (toldOf r (as.take i)).b)
      ⟨e14, _, _, _, rfl, T0⟩ (fun i σ H' _ k => same_l k.1 qx) (fun i x σ H' hx k => ?_) (fun σ H' k => ?_)
    · obtain ⟨sm, vt, w3, w4, rfl, pt, vn, rfl, qt, nt⟩ := k
      obtain ⟨a, ha, ax', w, rfl, qa, la⟩ := ax.at hx
      have qa' := same_t sm qa
      have hi := (List.getElem?_eq_some_iff.mp ha).1
      obtain ⟨half, nok⟩ := told_ok r0 zr hg i (by omega)
      have ga := hg a (List.mem_of_getElem? ha)
      refine ⟨_, _, rfl, qa', rfl, _, _, rfl, _, _, rfl, rfl, ?_⟩
      refine ⟨_, rfl, _, _, _, _, rfl, rfl, qt, rfl, _, rfl, _, _, rfl, rfl, _, rfl, _, _, _, _, rfl, rfl, qt, rfl, two_line, fun u hu => ?_⟩
      have eu := same_new (o := .tup [.int ((toldOf r (as.take i)).h + a.1), vn]) hu
      refine ⟨_, rfl, rfl, _, rfl, ?_⟩
      rw [toldOf_next ha]
      generalize toldOf r (as.take i) = t at *
      obtain ⟨h, l⟩ := a
      cases l with
      | none =>
        obtain rfl : w = .non := la
        refine iteF ⟨sm.trans eu, _, _, _, rfl, u, vn, rfl, SqT.of upd_same, nt.mono eu⟩
      | some x =>
        obtain ⟨b1, rfl, f1⟩ : FrT K H w x := la
        have hz := nok.sz
        refine iteT ⟨_, rfl, _, rfl, two_line, fun u1 hu1 => ⟨two_line, fun u2 hu2 => ⟨_, rfl, ?_⟩⟩⟩
        have eu1 := same_new (o := .tup (rv 1)) hu1
        have eu2 := same_new (o := .tup [.ref b1, .ref u1]) hu2
        have e9 := sm.trans (eu.trans (eu1.trans eu2))
        refine ⟨_, _, _, t.h + h, t.a, t.b, x, 1, r, rfl, ⟨u, vn, rfl, SqT.of (eu2 _ _ (eu1 _ _ upd_same)), nt.mono (eu.trans (eu1.trans eu2))⟩, ⟨u2, .ref b1, .ref u1, rfl, SqT.of upd_same, ⟨b1, rfl, same_t e9 f1⟩, ⟨u1, rfl, SqT.of (eu2 _ _ upd_same)⟩⟩, fr.mono e9, hz.1.mono (by omega), hz.2.mono (by omega), (ga x rfl).mono (by decide), ?_, zr.mono (by decide), fun v H2 s2 k2 => ?_⟩
        · exact ⟨by show (1 : Int).natAbs < 2 ^ 100; decide, by show (1 : Int).natAbs < 2 ^ 100; decide⟩
        · refine ⟨e9.trans s2, v, _, _, rfl, ?_⟩
          show ToldT K H2 v (stepT r t (h, some x)).h (stepT r t (h, some x)).a (stepT r t (h, some x)).b
          unfold stepT
          dsimp only
          split
          · rw [if_pos (by assumption)] at k2
            exact k2
          · rw [if_neg (by assumption)] at k2
            exact k2
    · obtain ⟨sm, vt, w3, w4, rfl, tt⟩ := k
      have hx : xs.length = as.length := ax.1
      obtain ⟨half, nok⟩ := told_ok r0 zr hg as.length (Nat.le_refl _)
      rw [hx, List.take_length] at tt
      rw [List.take_length] at half nok
      have hz := nok.sz
      refine ⟨_, rfl, vt, toldOf r as, rfl, tt, hz.1.mono (by omega), hz.2.mono (by omega), ?_, q.mono sm⟩
      rcases half with z | ⟨z, _⟩
      · exact Rat.le_of_lt z
      · rw [z]
        exact Rat.le_refl
end
end K8


set_option Elab.async false
set_option linter.all false
set_option maxRecDepth 100000
set_option maxHeartbeats 4000000
set_option exponentiation.threshold 10000
namespace K8
open PySem PySem.Spec PyProof.Rows L2 OG
/-! ### all but the pen stays -/
def HeadIs (c : Addr) (H : Hp) (p : Addr) : Prop := ∃ r, H p = some (.lst (.ref c :: r))
def But (p : Addr) (H H' : Hp) : Prop := (∃ xs, H p = some (.lst xs)) ∧ (∃ xs, H' p = some (.lst xs)) ∧ (∀ b u, b ≠ p → H b = some u → H' b = some u) ∧ ∀ c, HeadIs c H p → HeadIs c H' p
section
variable {K : PySem.W.Frag} {H H' H'' : Hp} {p a : Addr} {xs : List V} {v : V}
theorem But.trans (e : But p H H') (k : But p H' H'') : But p H H'' := ⟨e.1, k.2.1, fun b u n h => k.2.2.1 b u n (e.2.2.1 b u n h), fun c h => k.2.2.2 c (e.2.2.2 c h)⟩
theorem But.same (e : But p H H') (k : Same H' H'') : But p H H'' := ⟨e.1, let ⟨xs, h⟩ := e.2.1; ⟨xs, k _ _ h⟩, fun b u n h => k b u (e.2.2.1 b u n h), fun c h => let ⟨r, h⟩ := e.2.2.2 c h; ⟨r, k _ _ h⟩⟩
theorem same_but (k : Same H H') (e : But p H' H'') (h : ∃ xs, H p = some (.lst xs)) : But p H H'' := ⟨h, e.2.1, fun b u n hb => e.2.2.1 b u n (k b u hb), fun c ⟨r, hr⟩ => e.2.2.2 c ⟨r, k _ _ hr⟩⟩
theorem but_same (k : Same H H') (h : ∃ xs, H p = some (.lst xs)) : But p H H' := ⟨h, let ⟨xs, h⟩ := h; ⟨xs, k _ _ h⟩, fun b u _ hb => k b u hb, fun c ⟨r, hr⟩ => ⟨r, k _ _ hr⟩⟩
theorem But.t (e : But p H H') (h : SqT K H a xs) : SqT K H' a xs := by
  obtain ⟨ys, hp⟩ := e.1
  rcases h with (h | ⟨o, h⟩) | h
  · exact .inl (.inl (e.2.2.1 _ _ (fun z => by rw [z, hp] at h; cases h) h))
  · exact .inl (.inr ⟨o, e.2.2.1 _ _ (fun z => by rw [z, hp] at h; cases h) h⟩)
  · exact .inr h
theorem But.l (e : But p H H') (n : a ≠ p) (h : SqL K H a xs) : SqL K H' a xs := by
  rcases h with (h | ⟨o, h⟩) | h
  · exact .inl (.inl (e.2.2.1 _ _ n h))
  · exact .inl (.inr ⟨o, e.2.2.1 _ _ n h⟩)
  · exact .inr h
theorem But.fr {x : Rat} (e : But p H H') (h : FrT K H v x) : FrT K H' v x := let ⟨a, h1, h2⟩ := h; ⟨a, h1, e.t h2⟩
theorem But.an {h : Int} {l : Option Rat} (e : But p H H') (k : AnT K H v h l) : AnT K H' v h l := by
  obtain ⟨a, w, h1, h2, h3⟩ := k
  refine ⟨a, w, h1, e.t h2, ?_⟩
  cases l with
  | none => exact h3
  | some x => exact e.fr h3
theorem But.ans {as : List Ang} (e : But p H H') (k : AnsT K H xs as) : AnsT K H' xs as := ⟨k.1, fun i x a h1 h2 => e.an (k.2 i x a h1 h2)⟩
/-- the pen: its cells, how many are read, the rest -/
def PenK (H : Hp) (p : Addr) (n : Nat) : Prop := ∃ (c : Addr) (zs : List Int) (at_ rest : Int), H p = some (.lst [.ref c, .int at_, .int rest]) ∧ c ≠ p ∧ H c = some (.lst (zs.map .int)) ∧ 0 ≤ at_ ∧ at_ ≤ (n : Int) ∧ 0 ≤ rest
theorem PenK.lst {n : Nat} (k : PenK H p n) : ∃ xs, H p = some (.lst xs) := let ⟨_, _, _, _, h, _⟩ := k; ⟨_, h⟩
theorem PenK.same {n : Nat} (k : PenK H p n) (e : Same H H') : PenK H' p n := by
  obtain ⟨c, zs, at_, rest, h1, h2, h3, h4⟩ := k
  exact ⟨c, zs, at_, rest, e _ _ h1, h2, e _ _ h3, h4⟩
theorem PenK.mono {n m : Nat} (k : PenK H p n) (e : n ≤ m) : PenK H p m := by
  obtain ⟨c, zs, at_, rest, h1, h2, h3, h4, h5, h6⟩ := k
  exact ⟨c, zs, at_, rest, h1, h2, h3, h4, by omega, h6⟩
/-- the pen's own change -/
theorem pen_set {n : Nat} {c : Addr} {zs : List Int} {a0 r0 at_ rest : Int} (h1 : H p = some (.lst [.ref c, .int a0, .int r0])) (h2 : c ≠ p) (h3 : H c = some (.lst (zs.map .int))) (ha : 0 ≤ at_) (hb : at_ ≤ (n : Int)) (hc : 0 ≤ rest) :
    But p H (upd H p (.lst [.ref c, .int at_, .int rest])) ∧ PenK (upd H p (.lst [.ref c, .int at_, .int rest])) p n :=
  ⟨⟨⟨_, h1⟩, ⟨_, upd_same⟩, fun b u nb hb => by rw [upd_ne nb]; exact hb, fun c' ⟨r, hr⟩ => by rw [h1] at hr; cases hr; exact ⟨_, upd_same⟩⟩, c, zs, at_, rest, upd_same, h2, by rw [upd_ne h2]; exact h3, ha, hb, hc⟩
theorem dp_ints (zs : List Int) : DpAll K H (zs.map V.int) (zs.map PyData.int) := by
  induction zs with
  | nil => exact .nil
  | cons z zs ih => exact .cons (.int z) ih
theorem lay_ints (zs : List Int) : PyData.canLayAll0 (zs.map PyData.int) = true := by
  induction zs with
  | nil => rfl
  | cons z zs ih =>
    show (PyData.canLay0 (.int z) && PyData.canLayAll0 (zs.map PyData.int)) = true
    rw [ih]
    rfl
theorem depth_ints (zs : List Int) : PyData.depthAll (zs.map PyData.int) = 0 := by
  induction zs with
  | nil => rfl
  | cons z zs ih =>
    show Nat.max (PyData.depth (.int z)) (PyData.depthAll (zs.map PyData.int)) = 0
    rw [ih]
    rfl
theorem shaped_ints (zs : List Int) : SeqAt.shaped (.list (zs.map PyData.int)) = true := by
  refine Bool.and_eq_true_iff.mpr ⟨lay_ints zs, decide_eq_true ?_⟩
  show PyData.depthAll (zs.map PyData.int) + 1 ≤ 64
  rw [depth_ints]
  decide
theorem eqv_nil (zs : List Int) : PyData.eqv (.list (zs.map PyData.int)) (.list []) = decide (zs = []) := by
  cases zs <;> rfl
end
section
variable {P : Program} {w : World} {K : PySem.W.Frag} {mg : Str → Option Value} {base : Heap} {A : Ad}
def cutI (ns : List Int) : List Int := (ns.drop (HT.sIx (ns.map V.int).length 0 none)).take (HT.sIx (ns.map V.int).length (ns.map V.int).length (some 63) - HT.sIx (ns.map V.int).length 0 none)
theorem cutI_is (ns : List Int) : cutV (ns.map V.int) none (some 63) = (cutI ns).map V.int := by
  unfold cutV cutI
  rw [List.map_take, List.map_drop]
def spPen (K : PySem.W.Frag) : Sp := fun vs H Q _ => ∃ (a : Addr) (ns : List Int), vs = [.ref a] ∧ SqL K H a (ns.map V.int) ∧ ∀ p H', Same H H' → H p = none → PenK H' p 0 → Q (.ref p) H'
theorem ok_law_pen (T : LawT K mg A) : FnOk P w K mg base CX0 1 A.f_law_pen A.d_law_pen ["script"] (spPen K) := by
  refine T.F_law_pen.ok sc_law_pen (fun vs H Q E h => ?_) (fun cdv Ar outer s H vs Q E hr h => ?_)
  · obtain ⟨_, _, rfl, _⟩ := h
    rfl
  · obtain ⟨a, ns, rfl, hq, q⟩ := h
    refine ⟨_, (pss_one (ps_ret (pe_lst (pa_cons (pe_callTy call_list_of (by rfl) T.n_list (by decide +kernel) (pa_cons (pe_slice sl_list (pv 0) po_none (po_some pe_int)) pa_nil)) (pa_cons pe_int (pa_cons pe_int pa_nil)))))), ?_⟩
    refine ⟨_, rfl, _, rfl, a, _, rfl, hq, fun p1 h1 => ⟨p1, _, rfl, .inl (SqL.of upd_same), fun p2 h2 => ⟨by show 3 ≤ sizeLine; decide, fun p3 h3 => ?_⟩⟩⟩
    have e1 := same_new (o := .lst (cutV (ns.map V.int) none (some 63))) h1
    have e2 := same_new (o := .lst (cutV (ns.map V.int) none (some 63))) h2
    have e3 := same_new (o := .lst [.ref p2, .int 0, .int 0]) h3
    have h03 : H p3 = none := by
      cases z : H p3 with
      | none => rfl
      | some u =>
        have := e2 _ _ (e1 _ _ z)
        rw [h3] at this
        cases this
    refine q p3 _ (e1.trans (e2.trans e3)) h03 ⟨p2, cutI ns, 0, 0, upd_same, fun z => ?_, ?_, Int.le_refl 0, Int.le_refl 0, Int.le_refl 0⟩
    · rw [z, upd_same] at h3
      cases h3
    · refine e3 _ _ ?_
      rw [upd_same, cutI_is]
end
end K8


set_option Elab.async false
set_option linter.all false
set_option maxRecDepth 100000
set_option maxHeartbeats 4000000
set_option exponentiation.threshold 10000
namespace K8
open PySem PySem.Spec PyProof.Rows L2 OG
section
variable {P : Program} {w : World} {K : PySem.W.Frag} {mg : Str → Option Value} {base : Heap} {A : Ad}
theorem fmod_in (i : Int) {j : Int} (h : 0 < j) : 0 ≤ i.fmod j ∧ i.fmod j < j := by
  rw [Int.fmod_eq_emod_of_nonneg i (by omega)]
  exact ⟨Int.emod_nonneg i (by omega), Int.emod_lt_of_pos i h⟩
theorem divW {n : Nat} {i j : Int} (h : 0 < j) (z : SzI n j) (h0 : 0 < n) (h9 : n ≤ 9000) : CDivW i j := wide_div (b := n) h z h0 h9
def spDraw (K : PySem.W.Frag) : Sp := fun vs H Q _ => ∃ (p : Addr) (many : Int) (n : Nat), vs = [.ref p, .int many] ∧ PenK H p n ∧ n ≤ 100000 ∧ 0 < many ∧ SzI 100 many ∧
  ∀ r H', 0 ≤ r → r < many → But p H H' → PenK H' p (n + 1) → Q (.int r) H'
theorem ok_law_draw (T : LawT K mg A) : FnOk P w K mg base CX0 1 A.f_law_draw A.d_law_draw ["pen", "many"] (spDraw K) := by
  refine T.F_law_draw.ok sc_law_draw (fun vs H Q E h => ?_) (fun cdv Ar outer s H vs Q E hr h => ?_)
  · obtain ⟨_, _, _, rfl, _⟩ := h
    rfl
  · obtain ⟨p, many, n, rfl, ⟨c, zs, at_, rest, hp, ncp, hc, a0, an, r0⟩, hn, m0, mz, q⟩ := h
    refine ⟨_, (pss_cons (ps_if (pt_cmpR op_gt (pe_ix ix_list (pv 0) pe_int (fun _ _ => rfl)) pe_int (nomark _)) (pss_cons (ps_set (i := 2) sc_law_draw.nd rfl (Or.inl rfl) (pe_op op_modN (pe_callTy call_int1 (by rfl) T.n_int (by decide +kernel) (pa_cons (pe_ix ix_list (pv 0) pe_int (fun _ _ => rfl)) pa_nil)) (pv 1)))
      (pss_cons (ps_asg (pe_op op_fdivW (pe_callTy call_int1 (by rfl) T.n_int (by decide +kernel) (pa_cons (pe_ix ix_list (pv 0) pe_int (fun _ _ => rfl)) pa_nil)) (pv 1)) (pg_sub (pv 0) pe_int set_list))
      (pss_one (ps_ret (pv 2))))) pss_nil)
      (pss_cons (ps_set (i := 3) sc_law_draw.nd rfl (Or.inl rfl) (pe_ix ix_list (pv 0) pe_int (fun _ _ => rfl)))
      (pss_cons (ps_asg (pe_op op_add (pv 3) pe_int) (pg_sub (pv 0) pe_int set_list))
      (pss_cons (ps_set (i := 4) sc_law_draw.nd rfl (Or.inl rfl) (pe_op op_add (pe_op op_mul pe_int (pv 3)) pe_int))
      (pss_cons (ps_if (pt_cmpR (op_neD (un64 hr)) (pe_ix ix_list (pv 0) pe_int (fun _ _ => rfl)) (pe_lst pa_nil) (nomark _)) (pss_one (ps_set (i := 4) sc_law_draw.nd rfl (Or.inl rfl) (pe_ix ix_list (pe_ix ix_list (pv 0) pe_int (fun _ _ => rfl)) (pe_op op_modN (pe_callTy call_int1 (by rfl) T.n_int (by decide +kernel) (pa_cons (pv 3) pa_nil)) (pe_callB call_len (by rfl) T.n_len (by decide +kernel) (pa_cons (pe_ix ix_list (pv 0) pe_int (fun _ _ => rfl)) pa_nil))) (fun _ _ => rfl)))) pss_nil)
      (pss_cons (ps_if (PW.pt (pw_and (pt_cmpR op_lt (pv 3) (pe_callB call_len (by rfl) T.n_len (by decide +kernel) (pa_cons (pe_ix ix_list (pv 0) pe_int (fun _ _ => rfl)) pa_nil)) (nomark _)) (pw_and1 (pt_cmpR op_ge (pe_callB call_abs (by rfl) T.n_abs (by decide +kernel) (pa_cons (pv 4) pa_nil)) (pe_op op_pow pe_int pe_int) (nomark _))))) (pss_cons (ps_set (i := 5) sc_law_draw.nd rfl (Or.inl rfl) (pe_op op_add (pe_op op_mul pe_int (pe_op op_sub (pe_callB call_abs (by rfl) T.n_abs (by decide +kernel) (pa_cons (pv 4) pa_nil)) (pe_op op_pow pe_int pe_int))) (pe_callTy call_int1 (by rfl) T.n_int (by decide +kernel) (pa_cons (pe_cmpR op_lt (pv 4) pe_int (nomark _)) pa_nil))))
      (pss_cons (ps_asg (pe_op op_fdivW (pe_callTy call_int1 (by rfl) T.n_int (by decide +kernel) (pa_cons (pv 5) pa_nil)) (pv 1)) (pg_sub (pv 0) pe_int set_list))
      (pss_one (ps_ret (pe_op op_modN (pe_callTy call_int1 (by rfl) T.n_int (by decide +kernel) (pa_cons (pv 5) pa_nil)) (pv 1)))))) pss_nil)
      (pss_cons (ps_set (i := 6) sc_law_draw.nd rfl (Or.inl rfl) (pe_op op_modN (pe_callTy call_int1 (by rfl) T.n_int (by decide +kernel) (pa_cons (pe_op op_pow (pe_op op_add (pe_op op_add (pe_op op_modN (pe_callTy call_int1 (by rfl) T.n_int (by decide +kernel) (pa_cons (pv 4) pa_nil)) pe_int) (pe_op op_mul pe_int (pv 3))) pe_int) pe_int) pa_nil)) pe_int))
      (pss_cons (ps_set (i := 6) sc_law_draw.nd rfl (Or.inl rfl) (pe_op op_modN (pe_callTy call_int1 (by rfl) T.n_int (by decide +kernel) (pa_cons (pe_op op_pow (pe_op op_add (pe_op op_add (pe_op op_mul (pv 6) (pe_op op_add (pe_op op_mul pe_int (pv 3)) pe_int)) (pe_op op_mul (pe_op op_mul pe_int (pv 3)) (pv 3))) pe_int) pe_int) pa_nil)) pe_int))
      (pss_one (ps_ret (pe_op op_modN (pe_callTy call_int1 (by rfl) T.n_int (by decide +kernel) (pa_cons (pe_op op_fdivW (pv 6) pe_int) pa_nil)) (pv 1)))))))))))), ?_⟩
    have qp : SqL K H p [.ref c, .int at_, .int rest] := SqL.of hp
    have hd : ∀ i, CDivW i many := fun i => divW m0 mz (by decide) (by decide)
    refine ⟨_, rfl, _, _, _, _, rfl, rfl, qp, rfl, _, _, rfl, rfl, _, rfl, ?_⟩
    by_cases c1 : 0 < rest
    · rw [decide_eq_true c1]
      have hm := fmod_in rest m0
      obtain ⟨e1, k1⟩ := pen_set (n := n + 1) (at_ := at_) (rest := rest / many) hp ncp hc a0 (by omega) (Int.ediv_nonneg r0 (by omega))
      exact iteT ⟨_, rfl, _, _, _, _, rfl, rfl, qp, rfl, .inl ⟨_, rfl, _, rfl, _, _, rfl, rfl, by omega, _, rfl, _, _, _, _, rfl, rfl, qp, rfl, .inl ⟨_, rfl, _, rfl, _, _, rfl, rfl, hd _, _, rfl, p, _, 2, 2, rfl, rfl, hp, rfl, _, rfl, q _ _ hm.1 hm.2 e1 k1⟩⟩⟩
    · rw [decide_eq_false c1]
      refine iteF ?_
      refine ⟨_, rfl, _, _, _, _, rfl, rfl, qp, rfl, ?_⟩
      refine ⟨_, rfl, _, _, rfl, rfl, _, rfl, p, _, 1, 1, rfl, rfl, hp, rfl, ?_⟩
      obtain ⟨e1, k1⟩ := pen_set (n := n + 1) (at_ := at_ + 1) (rest := rest) hp ncp hc (by omega) (by omega) r0
      have hp1 : upd H p (.lst [.ref c, .int (at_ + 1), .int rest]) p = some (.lst [.ref c, .int (at_ + 1), .int rest]) := upd_same
      have hc1 : upd H p (.lst [.ref c, .int (at_ + 1), .int rest]) c = some (.lst (zs.map V.int)) := by
        rw [upd_ne ncp]
        exact hc
      show tSeq _ _ _ _ (upd H p (.lst [.ref c, .int (at_ + 1), .int rest]))
      generalize upd H p (.lst [.ref c, .int (at_ + 1), .int rest]) = H1 at *
      have qp1 : SqL K H1 p [.ref c, .int (at_ + 1), .int rest] := SqL.of hp1
      have qc1 : SqL K H1 c (zs.map V.int) := SqL.of hc1
      refine ⟨_, rfl, _, _, rfl, rfl, .inl ⟨by decide, by decide⟩, _, _, rfl, rfl, ?_⟩
      show tSeq _ _ _ (List.set _ 4 (some (V.int (9833 * at_ + 487)))) _
      generalize 9833 * at_ + 487 = cell0
      refine ⟨_, rfl, _, _, _, _, rfl, rfl, qp1, rfl, by show 0 ≤ sizeLine; decide, fun t ht => ?_⟩
      have e2 := same_new (o := .lst []) ht
      refine ⟨.list (zs.map PyData.int), .list [], .lst (same_l e2 qc1) (dp_ints zs), .lst (SqL.of upd_same) .nil, shaped_ints zs, rfl, _, rfl, ?_⟩
      rw [eqv_nil]
      have hp2 := e2 _ _ hp1
      have qp2 := same_l e2 qp1
      have qc2 := same_l e2 qc1
      have e12 : But p H (upd H1 t (.lst [])) := e1.same e2
      have k2 : PenK (upd H1 t (.lst [])) p (n + 1) := k1.same e2
      have hc2 := e2 _ _ hc1
      generalize upd H1 t (.lst []) = H2 at hp2 qp2 qc2 e12 k2 hc2 ⊢
      have hle : (zs.map V.int).length = zs.length := List.length_map ..
      by_cases h0 : zs = []
      rw [show (!decide (zs = [])) = false from by rw [decide_eq_true h0]; rfl]
      refine iteF ?_
      obtain ⟨cell, rfl⟩ : ∃ c, c = cell0 := ⟨_, rfl⟩
      rotate_left
      rw [show (!decide (zs = [])) = true from by rw [decide_eq_false h0]; rfl]
      have hz : 0 < (zs.length : Int) := by
        cases zs with
        | nil => exact absurd rfl h0
        | cons z zs => show (0 : Int) < ((zs.length + 1 : Nat) : Int); omega
      have hm := fmod_in at_ hz
      obtain ⟨j, hj⟩ : ∃ j : Nat, at_.fmod (zs.length : Int) = (j : Int) := ⟨(at_.fmod (zs.length : Int)).toNat, by omega⟩
      have hj2 : j < zs.length := by omega
      have hget : (zs.map V.int)[j]? = some (.int zs[j]) := by rw [List.getElem?_map, List.getElem?_eq_getElem hj2]; rfl
      refine iteT ⟨_, rfl, _, _, _, _, rfl, rfl, qp2, rfl, _, rfl, .inl ⟨_, rfl, _, rfl, _, _, _, _, rfl, rfl, qp2, rfl, _, (zs.map V.int).length, rfl, len_s (.inl qc2), _, _, rfl, rfl, by rw [hle]; omega, c, zs.map V.int, _, .int zs[j], rfl, rfl, qc2, by rw [hle, hj]; exact atI_nat hget, ?_⟩⟩
      generalize zs[j] = cell
      all_goals
        refine ⟨_, rfl, _, rfl, _, _, _, _, rfl, rfl, qp2, rfl, _, (zs.map V.int).length, rfl, len_s (.inl qc2), _, _, rfl, rfl, _, rfl, ?_⟩
        by_cases c2 : at_ < ((zs.map V.int).length : Int)
        rw [decide_eq_true c2]
        refine iteT ⟨_, rfl, cell, rfl, _, _, rfl, rfl, ⟨by decide, by decide, by decide⟩, _, _, rfl, rfl, _, rfl, ?_⟩
        by_cases hb2 : (10 : Int) ^ (18 : Int).toNat ≤ (if cell < 0 then -cell else cell)
        · rw [decide_eq_true hb2]
          refine iteT ?_
          refine ⟨_, rfl, cell, rfl, _, _, rfl, rfl, ⟨by decide, by decide, by decide⟩, _, _, rfl, rfl, _, _, rfl, rfl, .inl ⟨by decide, by decide⟩, _, rfl, _, _, rfl, rfl, .inr ⟨_, rfl, _, _, rfl, rfl, ?_⟩⟩
          have hG : 0 ≤ 2 * ((if cell < 0 then -cell else cell) - 10 ^ (18 : Int).toNat) + (if decide (cell < 0) = true then (1 : Int) else 0) := by
            generalize (10 : Int) ^ (18 : Int).toNat = PP at *
            have : (0 : Int) ≤ if decide (cell < 0) = true then 1 else 0 := by split <;> decide
            omega
          have pk := fun (G : Int) (hG : 0 ≤ G) => pen_set (n := n + 1) (at_ := at_ + 1) (rest := G / many) hp2 ncp hc2 (by omega) (by omega) (Int.ediv_nonneg hG (by omega))
          exact ⟨_, rfl, .inl ⟨_, rfl, _, rfl, _, _, rfl, rfl, hd _, _, rfl, p, _, 2, 2, rfl, rfl, hp2, rfl, _, rfl, .inl ⟨_, rfl, _, rfl, _, _, rfl, rfl, by omega, q _ _ (fmod_in _ m0).1 (fmod_in _ m0).2 (e12.trans (pk _ hG).1) (pk _ hG).2⟩⟩⟩
        rw [decide_eq_false hb2]
        refine iteF ?_
        rotate_left
        rw [decide_eq_false c2]
        refine iteF (iteF ?_)
        all_goals
          have b1 : 0 ≤ cell.fmod 2147483549 ∧ cell.fmod 2147483549 < 2147483549 := fmod_in cell (by decide)
          have key1 : ∀ m : Int, 0 ≤ m ∧ m < 2147483647 → -(2 ^ 64) < m ∧ m < 2 ^ 64 := fun m hm => by omega
          have key2 : ∀ m : Int, 0 ≤ m ∧ m < 2147483647 → (m * (2 * at_ + 29) + 61363 * at_ * at_ + 41).natAbs < 2 ^ 64 := fun m hm => by
            have g1 : 0 ≤ m * (2 * at_ + 29) := Int.mul_nonneg hm.1 (by omega)
            have g2 : m * (2 * at_ + 29) ≤ 2147483647 * 200029 := Int.mul_le_mul (by omega) (by omega) (by omega) (by decide)
            have g3 : 0 ≤ 61363 * at_ * at_ := Int.mul_nonneg (by omega) a0
            have g4 : 61363 * at_ * at_ ≤ 6136300000 * 100000 := Int.mul_le_mul (by omega) (by omega) a0 (by decide)
            omega
          have m32 : ∀ i : Int, CDivW i 32 := fun i => divW (n := 6) (by decide) (by show (32 : Int).natAbs < 2 ^ 6; decide) (by decide) (by decide)
          refine ⟨_, rfl, .inl ⟨_, rfl, _, _, rfl, rfl, (by decide : (2147483549 : Int) ≠ 0), _, rfl, _, _, rfl, rfl, .inl ⟨by decide, by decide⟩, _, _, rfl, rfl, _, _, rfl, rfl, _, _, rfl, rfl, ⟨by decide, by decide, by omega⟩, .inl ⟨_, rfl, _, _, rfl, rfl, (by decide : (2147483647 : Int) ≠ 0), ?_⟩⟩⟩
          refine ⟨_, rfl, _, rfl, _, _, rfl, rfl, .inl ⟨by decide, by decide⟩, _, _, rfl, rfl, _, _, rfl, rfl, .inl (key1 _ (fmod_in _ (by decide))), _, rfl, _, _, rfl, rfl, .inl ⟨by decide, by decide⟩, _, rfl, _, _, rfl, rfl, .inl ⟨by omega, by omega⟩, _, _, rfl, rfl, _, _, rfl, rfl, _, _, rfl, rfl, ⟨by decide, by decide, key2 _ (fmod_in _ (by decide))⟩, .inl ⟨_, rfl, _, _, rfl, rfl, (by decide : (2147483563 : Int) ≠ 0), ?_⟩⟩
          exact ⟨_, rfl, _, _, rfl, rfl, m32 _, .inl ⟨_, rfl, _, rfl, _, _, rfl, rfl, by omega, q _ _ (fmod_in _ m0).1 (fmod_in _ m0).2 e12 k2⟩⟩
end
end K8


set_option Elab.async false
set_option linter.all false
set_option maxRecDepth 100000
set_option maxHeartbeats 4000000
set_option exponentiation.threshold 10000
namespace K8
open PySem PySem.Spec PyProof.Rows L2 OG
section
variable {P : Program} {w : World} {K : PySem.W.Frag} {mg : Str → Option Value} {base : Heap} {A : Ad}
def spPick (K : PySem.W.Frag) : Sp := fun vs H Q _ => ∃ (p a : Addr) (xs : List V) (n : Nat), vs = [.ref p, .ref a] ∧ PenK H p n ∧ n ≤ 99999 ∧ SqL K H a xs ∧ a ≠ p ∧ 0 < xs.length ∧ xs.length ≤ 1000 ∧
  ∀ x H', x ∈ xs → But p H H' → PenK H' p (n + 1) → Q x H'
theorem szI_nat {n k : Nat} (h : n < 2 ^ k) : SzI k (n : Int) := by
  show (n : Int).natAbs < 2 ^ k
  rw [Int.natAbs_natCast]
  exact h
theorem ok_law_pick (T : LawT K mg A) : FnOk P w K mg base CX0 2 A.f_law_pick A.d_law_pick ["pen", "some"] (spPick K) := by
  refine T.F_law_pick.ok sc_law_pick (fun vs H Q E h => ?_) (fun cdv Ar outer s H vs Q E hr h => ?_)
  · obtain ⟨_, _, _, _, rfl, _⟩ := h
    rfl
  · obtain ⟨p, a, xs, n, rfl, k, hn, qx, nap, h0, h1, q⟩ := h
    refine ⟨_, (pss_one (ps_ret (pe_ix ix_list (pv 1) (pe_call (ok_law_draw T) (hr.mono (by decide)) rfl T.g_law_draw T.F_law_draw.kp (b_law_draw T.F_law_draw) .nil pass0 (pa_cons (pv 0) (pa_cons (pe_callB call_len (by rfl) T.n_len (by decide +kernel) (pa_cons (pv 1) pa_nil)) pa_nil))) (fun _ _ => rfl)))), ?_⟩
    refine ⟨_, rfl, _, rfl, _, rfl, _, xs.length, rfl, len_s (.inl qx), p, (xs.length : Int), n, rfl, k, by omega, by omega, (szI_nat (k := 10) (by omega)).mono (by decide), fun r H' r0 r1 e k' => ?_⟩
    obtain ⟨j, rfl⟩ : ∃ j : Nat, r = (j : Int) := ⟨r.toNat, by omega⟩
    have hj : j < xs.length := by omega
    exact ⟨a, xs, _, xs[j], rfl, rfl, e.l nap qx, atI_nat (List.getElem?_eq_getElem hj), q _ _ (List.getElem_mem hj) e k'⟩
theorem lst_new {p l : Addr} {H : Hp} (h : ∃ xs, H p = some (.lst xs)) (hl : H l = none) : l ≠ p := fun z => by
  obtain ⟨xs, h⟩ := h
  rw [← z, hl] at h
  cases h
def spDrawn (K : PySem.W.Frag) : Sp := fun vs H Q _ => ∃ (p : Addr) (n : Nat), vs = [.ref p] ∧ PenK H p n ∧ n ≤ 90000 ∧
  ∀ v (a : Ang) H', But p H H' → PenK H' p (n + 7) → AnT K H' v a.1 a.2 → 0 ≤ a.1 → a.1 ≤ 1000 → GoodA a → Q v H'
theorem big_is : (10 : Int) ^ (20 : Int).toNat = 100000000000000000000 := by decide
theorem ok_law_drawn (T : LawT K mg A) : FnOk P w K mg base CX0 3 A.f_law_drawn A.d_law_drawn ["pen"] (spDrawn K) := by
  refine T.F_law_drawn.ok sc_law_drawn (fun vs H Q E h => ?_) (fun cdv Ar outer s H vs Q E hr h => ?_)
  · obtain ⟨_, _, rfl, _⟩ := h
    rfl
  · obtain ⟨p, n, rfl, k0, hn, q⟩ := h
    refine ⟨_, (pss_cons (ps_set (i := 1) sc_law_drawn.nd rfl (Or.inl rfl) (pe_call (ok_law_pick T) (hr.mono (by decide)) rfl T.g_law_pick T.F_law_pick.kp (b_law_pick T.F_law_pick) .nil pass0 (pa_cons (pv 0) (pa_cons (pe_lst (pa_cons pe_int (pa_cons pe_int (pa_cons pe_int (pa_cons (pe_op op_pow pe_int pe_int) pa_nil))))) pa_nil))))
      (pss_cons (ps_set (i := 2) sc_law_drawn.nd rfl (Or.inl rfl) (pe_tup (pa_cons (pe_op op_sub (pe_call (ok_law_draw T) (hr.mono (by decide)) rfl T.g_law_draw T.F_law_draw.kp (b_law_draw T.F_law_draw) .nil pass0 (pa_cons (pv 0) (pa_cons (pv 1) pa_nil))) (pe_call (ok_law_draw T) (hr.mono (by decide)) rfl T.g_law_draw T.F_law_draw.kp (b_law_draw T.F_law_draw) .nil pass0 (pa_cons (pv 0) (pa_cons (pv 1) pa_nil)))) (pa_cons (pe_op op_add pe_int (pe_call (ok_law_draw T) (hr.mono (by decide)) rfl T.g_law_draw T.F_law_draw.kp (b_law_draw T.F_law_draw) .nil pass0 (pa_cons (pv 0) (pa_cons (pe_call (ok_law_pick T) (hr.mono (by decide)) rfl T.g_law_pick T.F_law_pick.kp (b_law_pick T.F_law_pick) .nil pass0 (pa_cons (pv 0) (pa_cons (pe_lst (pa_cons pe_int (pa_cons pe_int (pa_cons (pv 1) pa_nil)))) pa_nil))) pa_nil)))) pa_nil))))
      (pss_one (ps_ret (pe_tup (pa_cons (pe_call (ok_law_pick T) (hr.mono (by decide)) rfl T.g_law_pick T.F_law_pick.kp (b_law_pick T.F_law_pick) .nil pass0 (pa_cons (pv 0) (pa_cons (pe_lst (pa_cons pe_int (pa_cons pe_int (pa_cons pe_int (pa_cons pe_int (pa_cons pe_int (pa_cons pe_int (pa_cons pe_int pa_nil)))))))) pa_nil))) (pa_cons (pe_ifExp (pt_cmpR op_eq (pe_call (ok_law_draw T) (hr.mono (by decide)) rfl T.g_law_draw T.F_law_draw.kp (b_law_draw T.F_law_draw) .nil pass0 (pa_cons (pv 0) (pa_cons pe_int pa_nil))) pe_int (nomark _)) pe_non (pe_call (ok_law_low T) (hr.mono (by decide)) rfl T.g_law_low T.F_law_low.kp (b_law_low T.F_law_low) .nil pass0 (pa_cons (pe_ix ix_tup (pv 2) pe_int (fun _ _ => rfl)) (pa_cons (pe_ix ix_tup (pv 2) pe_int (fun _ _ => rfl)) pa_nil)))) pa_nil))))))), ?_⟩
    refine ⟨_, rfl, _, _, rfl, rfl, ⟨by decide, by decide, by decide⟩, by show 4 ≤ sizeLine; decide, fun l1 hl1 => ⟨p, l1, _, n, rfl, k0.same (same_new hl1), by omega, SqL.of upd_same, lst_new k0.lst hl1, by show 0 < 4; decide, by show 4 ≤ 1000; decide, fun x1 H1 m1 e1 k1 => ?_⟩⟩
    replace e1 := same_but (same_new hl1) e1 k0.lst
    obtain ⟨most, rfl, mp, mz⟩ : ∃ m : Int, x1 = .int m ∧ 0 < m ∧ m ≤ 100000000000000000000 := by
      rcases List.mem_cons.mp m1 with rfl | m1
      · exact ⟨_, rfl, by decide, by decide⟩
      · rcases List.mem_cons.mp m1 with rfl | m1
        · exact ⟨_, rfl, by decide, by decide⟩
        · rcases List.mem_cons.mp m1 with rfl | m1
          · exact ⟨_, rfl, by decide, by decide⟩
          · rcases List.mem_cons.mp m1 with rfl | m1
            · exact ⟨_, rfl, by decide, by decide⟩
            · cases m1
    have z67 : ∀ i : Int, -100000000000000000000 ≤ i → i ≤ 100000000000000000000 → SzI 67 i := fun i h1 h2 => by
      show i.natAbs < 2 ^ 67
      have : (2 : Nat) ^ 67 = 147573952589676412928 := by decide
      omega
    have mz' := (z67 most (by omega) mz).mono (show 67 ≤ 100 by decide)
    refine ⟨_, rfl, _, rfl, p, most, n + 1, rfl, k1, by omega, mp, mz', fun r2 H2 ra2 rb2 e2 k2 => ?_⟩
    refine ⟨_, rfl, _, rfl, p, most, n + 2, rfl, k2, by omega, mp, mz', fun r3 H3 ra3 rb3 e3 k3 => ?_⟩
    refine ⟨_, _, rfl, rfl, ?_⟩
    refine ⟨_, rfl, _, rfl, _, rfl, by show 3 ≤ sizeLine; decide, fun l4 hl4 => ⟨p, l4, _, n + 3, rfl, k3.same (same_new hl4), by omega, SqL.of upd_same, lst_new k3.lst hl4, by show 0 < 3; decide, by show 3 ≤ 1000; decide, fun x4 H4 m4 e4 k4 => ?_⟩⟩
    replace e4 := same_but (same_new hl4) e4 k3.lst
    obtain ⟨m5, rfl, mp5, mz5⟩ : ∃ m : Int, x4 = .int m ∧ 0 < m ∧ m ≤ 100000000000000000000 := by
      rcases List.mem_cons.mp m4 with rfl | m4
      · exact ⟨_, rfl, by decide, by decide⟩
      · rcases List.mem_cons.mp m4 with rfl | m4
        · exact ⟨_, rfl, by decide, by decide⟩
        · rcases List.mem_cons.mp m4 with rfl | m4
          · exact ⟨_, rfl, mp, mz⟩
          · cases m4
    refine ⟨p, m5, n + 4, rfl, k4, by omega, mp5, (z67 m5 (by omega) mz5).mono (by decide), fun r5 H5 ra5 rb5 e5 k5 => ?_⟩
    refine ⟨_, _, rfl, rfl, two_line, fun t6 ht6 => ?_⟩
    have s6 := same_new (o := .tup [.int (r2 - r3), .int (1 + r5)]) ht6
    have qt6 : SqT K (upd H5 t6 (.tup [.int (r2 - r3), .int (1 + r5)])) t6 [.int (r2 - r3), .int (1 + r5)] := SqT.of upd_same
    have e06 := (e1.trans (e2.trans (e3.trans (e4.trans e5)))).same s6
    have k6 := k5.same s6
    refine ⟨_, rfl, by show 7 ≤ sizeLine; decide, fun l7 hl7 => ⟨p, l7, _, n + 5, rfl, k6.same (same_new hl7), by omega, SqL.of upd_same, lst_new k6.lst hl7, by show 0 < 7; decide, by show 7 ≤ 1000; decide, fun x7 H7 m7 e7 k7 => ?_⟩⟩
    replace e7 := same_but (same_new hl7) e7 k6.lst
    obtain ⟨h, rfl, hp, hz⟩ : ∃ m : Int, x7 = .int m ∧ 0 ≤ m ∧ m ≤ 1000 := by
      have : ∀ y ∈ ([.int 0, .int 0, .int 0, .int 1, .int 2, .int 7, .int 1000] : List V), ∃ m : Int, y = .int m ∧ 0 ≤ m ∧ m ≤ 1000 := by
        intro y hy
        simp only [List.mem_cons, List.not_mem_nil, or_false] at hy
        rcases hy with rfl | rfl | rfl | rfl | rfl | rfl | rfl <;> exact ⟨_, rfl, by decide, by decide⟩
      exact this x7 m7
    refine ⟨_, rfl, p, 5, n + 6, rfl, k7, by omega, by decide, by show (5 : Int).natAbs < 2 ^ 100; decide, fun r8 H8 ra8 rb8 e8 k8 => ?_⟩
    refine ⟨rfl, _, rfl, ?_⟩
    have qt8 := e8.t (e7.t qt6)
    have e08 := e06.trans (e7.trans e8)
    by_cases c : r8 = 0
    · rw [show decide (V.int r8 = V.int 0) = true from decide_eq_true (by rw [c])]
      refine iteT ⟨two_line, fun t9 ht9 => ?_⟩
      have s9 := same_new (o := .tup [.int h, .non]) ht9
      exact q _ (h, none) _ (e08.same s9) (k8.same s9) ⟨t9, .non, rfl, SqT.of upd_same, rfl⟩ hp hz (fun x hx => by cases hx)
    · rw [show decide (V.int r8 = V.int 0) = false from decide_eq_false fun z => c (by injection z)]
      have q1 : SzI 67 (1 + r5) := z67 _ (by omega) (by omega)
      refine iteF ⟨_, rfl, _, _, _, _, rfl, rfl, qt8, rfl, _, rfl, _, _, _, _, rfl, rfl, qt8, rfl, r2 - r3, 1 + r5, rfl, by omega, q1.mono (by decide), fun t9 H9 s9 ht9 => ⟨two_line, fun u hu => ?_⟩⟩
      have s10 := same_new (o := .tup [.int h, .ref t9]) hu
      refine q _ (h, some (Rat.divInt (r2 - r3) (1 + r5))) _ (e08.same (s9.trans s10)) (k8.same (s9.trans s10)) ⟨u, .ref t9, rfl, SqT.of upd_same, t9, rfl, SqT.of (s10 _ _ ht9)⟩ hp hz (fun x hx => ?_)
      cases hx
      exact sz_divInt (by omega) (z67 _ (by omega) (by omega)) q1
end
end K8


set_option Elab.async false
set_option linter.all false
set_option maxRecDepth 100000
set_option maxHeartbeats 4000000
set_option exponentiation.threshold 10000
namespace K8
open PySem PySem.Spec PyProof.Rows L2 OG
/-! ### what stays: all but the pen and the tables -/
def core (p : Addr) (H : Hp) : Hp := fun b => if b = p then none else match H b with
  | some (.tbl _) => none
  | o => o
section
variable {K : PySem.W.Frag} {H H' H'' : Hp} {p a : Addr} {xs : List V} {v : V}
theorem core_some {b : Addr} {u : HO} (h : core p H b = some u) : b ≠ p ∧ H b = some u ∧ ∀ ps, u ≠ .tbl ps := by
  unfold core at h
  by_cases c : b = p
  · rw [if_pos c] at h
    cases h
  · rw [if_neg c] at h
    cases e : H b with
    | none =>
      rw [e] at h
      cases h
    | some o =>
      rw [e] at h
      cases o with
      | tbl ps => cases h
      | _ => (cases h; exact ⟨c, rfl, fun ps z => by cases z⟩)
theorem core_get {b : Addr} {u : HO} (n : b ≠ p) (h : H b = some u) (nt : ∀ ps, u ≠ .tbl ps) : core p H b = some u := by
  unfold core
  rw [if_neg n, h]
  cases u with
  | tbl ps => exact absurd rfl (nt ps)
  | _ => rfl
theorem core_le : Same (core p H) H := fun b u h => (core_some h).2.1
theorem same_core (e : Same H H') : Same (core p H) (core p H') := fun b u h => by
  obtain ⟨h1, h2, h3⟩ := core_some h
  exact core_get h1 (e b u h2) h3
theorem But.core (e : But p H H') : Same (core p H) (core p H') := fun b u h => by
  obtain ⟨h1, h2, h3⟩ := core_some h
  exact core_get h1 (e.2.2.1 b u h1 h2) h3
theorem ext_core (e : LamX.ExtN H H') : Same (core p H) (core p H') := fun b u h => by
  obtain ⟨h1, h2, h3⟩ := core_some h
  exact core_get h1 (e b u h2 h3) h3
theorem core_tup (n : a ≠ p) (h : H a = some (.tup xs)) : SqT K (core p H) a xs := SqT.of (core_get n h (fun _ z => by cases z))
theorem core_lst (n : a ≠ p) (h : H a = some (.lst xs)) : SqL K (core p H) a xs := SqL.of (core_get n h (fun _ z => by cases z))
theorem core_t (h : ∃ ys, H p = some (.lst ys)) (q : SqT K H a xs) : SqT K (core p H) a xs := by
  obtain ⟨ys, hp⟩ := h
  rcases q with (q | ⟨o, q⟩) | q
  · exact .inl (.inl (core_get (fun z => by rw [z, hp] at q; cases q) q (fun _ z => by cases z)))
  · exact .inl (.inr ⟨o, core_get (fun z => by rw [z, hp] at q; cases q) q (fun _ z => by cases z)⟩)
  · exact .inr q
theorem core_fr {x : Rat} (h : ∃ ys, H p = some (.lst ys)) (f : FrT K H v x) : FrT K (core p H) v x := let ⟨a, h1, h2⟩ := f; ⟨a, h1, core_t h h2⟩
theorem core_an {i : Int} {l : Option Rat} (h : ∃ ys, H p = some (.lst ys)) (f : AnT K H v i l) : AnT K (core p H) v i l := by
  obtain ⟨a, w, h1, h2, h3⟩ := f
  refine ⟨a, w, h1, core_t h h2, ?_⟩
  cases l with
  | none => exact h3
  | some x => exact core_fr h h3
theorem PenK.core {n : Nat} (k : PenK H p n) (e : LamX.ExtN H H') : PenK H' p n := by
  obtain ⟨c, zs, at_, rest, h1, h2, h3, h4⟩ := k
  exact ⟨c, zs, at_, rest, e _ _ h1 (fun _ z => by cases z), h2, e _ _ h3 (fun _ z => by cases z), h4⟩
theorem But.tabs {T : List (Addr × Str)} (e : But p H H') (t : LamX.Tabs T H) : LamX.Tabs T H' := fun q hq => by
  obtain ⟨ps, h1, h2, h3⟩ := t q hq
  obtain ⟨xs, hp⟩ := e.1
  refine ⟨ps, e.2.2.1 _ _ (fun z => by rw [z, hp] at h1; cases h1) h1, h2, fun pos cv hc => ?_⟩
  obtain ⟨c, e1, e2⟩ := h3 pos cv hc
  exact ⟨c, e1, e.2.2.1 _ _ (fun z => by rw [z, hp] at e2; unfold LamX.CodeO at e2; cases e2) e2⟩
theorem AnO.num {h : Int} {x1 : V} {x : Rat} (hb : ¬(0 ≤ h ∧ h ≤ 1000000)) (hn : x1 ≠ .non) (hf : FrV K H x1 (some x)) : AnO K H [.int h, x1] .num := by
  have e : outFr h (some x) = .num := if_neg hb
  rw [← e]
  exact .fr h hn hf
theorem AnO.num0 {h : Int} (hb : ¬(0 ≤ h ∧ h ≤ 1000000)) : AnO K H [.int h, .non] .num := by
  have e : rng h Option.none = .num := if_neg hb
  rw [← e]
  exact .none h
theorem AnO.bad {h : Int} {x1 : V} (hn : x1 ≠ .non) (hf : FrV K H x1 Option.none) : AnO K H [.int h, x1] .val := .fr h hn hf
end
section
variable {P : Program} {w : World} {K : PySem.W.Frag} {mg : Str → Option Value} {base : Heap} {A : Ad}
def OddR (K : PySem.W.Frag) (H : Hp) (v : V) (word : Str) (o : Out) : Prop := AnV K H v o ∧ (o = .val ∧ word = "value" ∨ o = .num ∧ word = "number")
def spOdd (K : PySem.W.Frag) : Sp := fun vs H Q _ => ∃ (p : Addr) (n : Nat), vs = [.ref p] ∧ PenK H p n ∧ n ≤ 90000 ∧
  ∀ t v word o H', But p H H' → PenK H' p (n + 3) → SqT K (core p H') t [v, .str word] → OddR K (core p H') v word o → Q (.ref t) H'
theorem z5 : 5 ≤ sizeLine := by decide
theorem z16 : 16 ≤ sizeLine := by decide
theorem fm_nil {α : Type} {P : α → Prop} : ∀ x ∈ ([] : List α), P x := fun _ h => by cases h
theorem fm_cons {α : Type} {P : α → Prop} {a : α} {l : List α} (h : P a) (k : ∀ x ∈ l, P x) : ∀ x ∈ a :: l, P x := fun x hx => by
  rcases List.mem_cons.mp hx with rfl | hx
  · exact h
  · exact k x hx
theorem fr_two {H : Hp} {u : Addr} {i j : Int} (g : SqT K H u [.int i, .int j]) (z : SzI 4000 j) : FrV K H (.ref u) (seqFr [.int i, .int j]) :=
  .seq (.inr g) (fm_cons (.int _) (fm_cons (.int _) fm_nil)) (by show 2 ≤ 100; decide) fun p q e => by cases e; exact z
theorem fr_10 {H : Hp} {u : Addr} (g : SqT K H u [.int 1, .int 0]) : FrV K H (.ref u) none := fr_two g (by show (0 : Int).natAbs < 2 ^ 4000; exact Nat.two_pow_pos _)
theorem fr_12 {H : Hp} {u : Addr} (g : SqT K H u [.int 1, .int 2]) : FrV K H (.ref u) (some (Rat.divInt 1 2)) := fr_two g (by show (2 : Int).natAbs < 2 ^ 4000; exact Nat.lt_of_lt_of_le (by decide : 2 < 2 ^ 2) (pow_le (by decide)))
theorem fr_123 {H : Hp} {u : Addr} (g : SqT K H u [.int 1, .int 2, .int 3]) : FrV K H (.ref u) none :=
  .seq (.inr g) (fm_cons (.int _) (fm_cons (.int _) (fm_cons (.int _) fm_nil))) (by show 3 ≤ 100; decide) fun p q e => by cases e
theorem ok_law_odd (T : LawT K mg A) : FnOk P w K mg base CX0 3 A.f_law_odd A.d_law_odd ["pen"] (spOdd K) := by
  refine T.F_law_odd.ok sc_law_odd (fun vs H Q E h => ?_) (fun cdv Ar outer s H vs Q E hr h => ?_)
  · obtain ⟨_, _, rfl, _⟩ := h
    rfl
  · obtain ⟨p, n, rfl, k0, hn, q⟩ := h
    refine ⟨_, (pss_cons (ps_set (i := 1) sc_law_odd.nd rfl (Or.inl rfl) (pe_lst (pa_cons pe_non (pa_cons pe_int (pa_cons pe_str (pa_cons (pe_tup pa_nil) (pa_cons (pe_tup (pa_cons pe_int pa_nil)) (pa_cons (pe_tup (pa_cons pe_int (pa_cons pe_non (pa_cons pe_int pa_nil)))) (pa_cons (pe_tup (pa_cons pe_int (pa_cons pe_str pa_nil))) (pa_cons (pe_tup (pa_cons pe_int (pa_cons (pe_tup (pa_cons pe_int (pa_cons pe_int pa_nil))) pa_nil))) (pa_cons (pe_tup (pa_cons pe_int (pa_cons (pe_tup (pa_cons pe_int (pa_cons pe_int (pa_cons pe_int pa_nil)))) pa_nil))) (pa_cons (pe_tup (pa_cons pe_int (pa_cons pe_bl pa_nil))) (pa_cons pe_dnewK pa_nil)))))))))))))
      (pss_cons (ps_set (i := 1) sc_law_odd.nd rfl (Or.inl rfl) (pe_call (ok_law_pick T) (hr.mono (by decide)) rfl T.g_law_pick T.F_law_pick.kp (b_law_pick T.F_law_pick) .nil pass0 (pa_cons (pv 0) (pa_cons (pe_op op_cat (pv 1) (pe_lst (pa_cons (pe_tup (pa_cons pe_bl (pa_cons pe_non pa_nil))) (pa_cons (pe_tup (pa_cons pe_non (pa_cons pe_int pa_nil))) (pa_cons (pe_tup (pa_cons pe_str (pa_cons pe_int pa_nil))) (pa_cons (pe_tup (pa_cons (pe_un un_neg pe_int) (pa_cons pe_str pa_nil))) (pa_cons (pe_lst (pa_cons pe_int (pa_cons pe_bl pa_nil))) pa_nil))))))) pa_nil))))
      (pss_cons (ps_set (i := 2) sc_law_odd.nd rfl (Or.inl rfl) (pe_call (ok_law_pick T) (hr.mono (by decide)) rfl T.g_law_pick T.F_law_pick.kp (b_law_pick T.F_law_pick) .nil pass0 (pa_cons (pv 0) (pa_cons (pe_lst (pa_cons (pe_tup (pa_cons (pe_un un_neg pe_int) (pa_cons pe_non pa_nil))) (pa_cons (pe_lst (pa_cons (pe_un un_neg pe_int) (pa_cons (pe_tup (pa_cons pe_int (pa_cons pe_int pa_nil))) pa_nil))) (pa_cons (pe_tup (pa_cons pe_int (pa_cons pe_non pa_nil))) (pa_cons (pe_tup (pa_cons (pe_op op_pow pe_int pe_int) (pa_cons (pe_tup (pa_cons pe_int (pa_cons pe_int pa_nil))) pa_nil))) (pa_cons (pe_tup (pa_cons (pe_un un_neg (pe_op op_pow pe_int pe_int)) (pa_cons pe_int pa_nil))) pa_nil)))))) pa_nil))))
      (pss_one (ps_ret (pe_ifExp (pt_cmpR op_eq (pe_call (ok_law_draw T) (hr.mono (by decide)) rfl T.g_law_draw T.F_law_draw.kp (b_law_draw T.F_law_draw) .nil pass0 (pa_cons (pv 0) (pa_cons pe_int pa_nil))) pe_int (nomark _)) (pe_tup (pa_cons (pv 1) (pa_cons pe_str pa_nil))) (pe_tup (pa_cons (pv 2) (pa_cons pe_str pa_nil))))))))), ?_⟩
    refine ⟨Nat.zero_le _, fun t1 ht1 => ?_⟩
    have st1 := same_new (o := .tup []) ht1
    have kt1 := k0.same st1
    have nt1 := lst_new k0.lst ht1
    refine ⟨by show 1 ≤ sizeLine; decide, fun t2 ht2 => ?_⟩
    have st2 := same_new (o := .tup [.int 1]) ht2
    have kt2 := kt1.same st2
    have nt2 := lst_new kt1.lst ht2
    refine ⟨by show 3 ≤ sizeLine; decide, fun t3 ht3 => ?_⟩
    have st3 := same_new (o := .tup [.int 1, .non, .int 2]) ht3
    have kt3 := kt2.same st3
    have nt3 := lst_new kt2.lst ht3
    refine ⟨two_line, fun t4 ht4 => ?_⟩
    have st4 := same_new (o := .tup [.int 1, .str "2"]) ht4
    have kt4 := kt3.same st4
    have nt4 := lst_new kt3.lst ht4
    refine ⟨two_line, fun t5 ht5 => ?_⟩
    have st5 := same_new (o := .tup [.int 1, .int 0]) ht5
    have kt5 := kt4.same st5
    have nt5 := lst_new kt4.lst ht5
    refine ⟨two_line, fun t6 ht6 => ?_⟩
    have st6 := same_new (o := .tup [.int 0, .ref t5]) ht6
    have kt6 := kt5.same st6
    have nt6 := lst_new kt5.lst ht6
    refine ⟨by show 3 ≤ sizeLine; decide, fun t7 ht7 => ?_⟩
    have st7 := same_new (o := .tup [.int 1, .int 2, .int 3]) ht7
    have kt7 := kt6.same st7
    have nt7 := lst_new kt6.lst ht7
    refine ⟨two_line, fun t8 ht8 => ?_⟩
    have st8 := same_new (o := .tup [.int 0, .ref t7]) ht8
    have kt8 := kt7.same st8
    have nt8 := lst_new kt7.lst ht8
    refine ⟨two_line, fun t9 ht9 => ?_⟩
    have st9 := same_new (o := .tup [.int 0, .bl true]) ht9
    have kt9 := kt8.same st9
    have nt9 := lst_new kt8.lst ht9
    intro t10 ht10
    have st10 := same_new (o := .dK []) ht10
    have kt10 := kt9.same st10
    have nt10 := lst_new kt9.lst ht10
    refine ⟨by show 11 ≤ sizeLine; decide, fun l1 hl1 => ?_⟩
    have sl1 := same_new (o := .lst [.non, .int 3, .str "12", .ref t1, .ref t2, .ref t3, .ref t4, .ref t6, .ref t8, .ref t9, .ref t10]) hl1
    have kl1 := kt10.same sl1
    have nl1 := lst_new kt10.lst hl1
    refine ⟨_, rfl, _, rfl, two_line, fun t11 ht11 => ?_⟩
    have st11 := same_new (o := .tup [.bl true, .non]) ht11
    have kt11 := kl1.same st11
    have nt11 := lst_new kl1.lst ht11
    refine ⟨two_line, fun t12 ht12 => ?_⟩
    have st12 := same_new (o := .tup [.non, .int 2]) ht12
    have kt12 := kt11.same st12
    have nt12 := lst_new kt11.lst ht12
    refine ⟨two_line, fun t13 ht13 => ?_⟩
    have st13 := same_new (o := .tup [.str "1", .int 0]) ht13
    have kt13 := kt12.same st13
    have nt13 := lst_new kt12.lst ht13
    refine ⟨_, rfl, two_line, fun t14 ht14 => ?_⟩
    have st14 := same_new (o := .tup [.int (-1), .str "2"]) ht14
    have kt14 := kt13.same st14
    have nt14 := lst_new kt13.lst ht14
    refine ⟨two_line, fun t15 ht15 => ?_⟩
    have st15 := same_new (o := .lst [.int 1000001, .bl true]) ht15
    have kt15 := kt14.same st15
    have nt15 := lst_new kt14.lst ht15
    refine ⟨by show 5 ≤ sizeLine; decide, fun l2 hl2 => ?_⟩
    have sl2 := same_new (o := .lst [.ref t11, .ref t12, .ref t13, .ref t14, .ref t15]) hl2
    have kl2 := kt15.same sl2
    have nl2 := lst_new kt15.lst hl2
    refine ⟨l1, l2, _, _, rfl, rfl, (sl2 _ _ (st15 _ _ (st14 _ _ (st13 _ _ (st12 _ _ (st11 _ _ upd_same)))))), upd_same, by show 16 ≤ sizeLine; decide, fun l3 hl3 => ?_⟩
    have sl3 := same_new (o := .lst ([.non, .int 3, .str "12", .ref t1, .ref t2, .ref t3, .ref t4, .ref t6, .ref t8, .ref t9, .ref t10] ++ [.ref t11, .ref t12, .ref t13, .ref t14, .ref t15])) hl3
    have kl3 := kl2.same sl3
    have nl3 := lst_new kl2.lst hl3
    have gt1 := core_tup (K := K) (H := _) nt1 (sl3 _ _ (sl2 _ _ (st15 _ _ (st14 _ _ (st13 _ _ (st12 _ _ (st11 _ _ (sl1 _ _ (st10 _ _ (st9 _ _ (st8 _ _ (st7 _ _ (st6 _ _ (st5 _ _ (st4 _ _ (st3 _ _ (st2 _ _ upd_same)))))))))))))))))
    have gt2 := core_tup (K := K) (H := _) nt2 (sl3 _ _ (sl2 _ _ (st15 _ _ (st14 _ _ (st13 _ _ (st12 _ _ (st11 _ _ (sl1 _ _ (st10 _ _ (st9 _ _ (st8 _ _ (st7 _ _ (st6 _ _ (st5 _ _ (st4 _ _ (st3 _ _ upd_same))))))))))))))))
    have gt3 := core_tup (K := K) (H := _) nt3 (sl3 _ _ (sl2 _ _ (st15 _ _ (st14 _ _ (st13 _ _ (st12 _ _ (st11 _ _ (sl1 _ _ (st10 _ _ (st9 _ _ (st8 _ _ (st7 _ _ (st6 _ _ (st5 _ _ (st4 _ _ upd_same)))))))))))))))
    have gt4 := core_tup (K := K) (H := _) nt4 (sl3 _ _ (sl2 _ _ (st15 _ _ (st14 _ _ (st13 _ _ (st12 _ _ (st11 _ _ (sl1 _ _ (st10 _ _ (st9 _ _ (st8 _ _ (st7 _ _ (st6 _ _ (st5 _ _ upd_same))))))))))))))
    have gt5 := core_tup (K := K) (H := _) nt5 (sl3 _ _ (sl2 _ _ (st15 _ _ (st14 _ _ (st13 _ _ (st12 _ _ (st11 _ _ (sl1 _ _ (st10 _ _ (st9 _ _ (st8 _ _ (st7 _ _ (st6 _ _ upd_same)))))))))))))
    have gt6 := core_tup (K := K) (H := _) nt6 (sl3 _ _ (sl2 _ _ (st15 _ _ (st14 _ _ (st13 _ _ (st12 _ _ (st11 _ _ (sl1 _ _ (st10 _ _ (st9 _ _ (st8 _ _ (st7 _ _ upd_same))))))))))))
    have gt7 := core_tup (K := K) (H := _) nt7 (sl3 _ _ (sl2 _ _ (st15 _ _ (st14 _ _ (st13 _ _ (st12 _ _ (st11 _ _ (sl1 _ _ (st10 _ _ (st9 _ _ (st8 _ _ upd_same)))))))))))
    have gt8 := core_tup (K := K) (H := _) nt8 (sl3 _ _ (sl2 _ _ (st15 _ _ (st14 _ _ (st13 _ _ (st12 _ _ (st11 _ _ (sl1 _ _ (st10 _ _ (st9 _ _ upd_same))))))))))
    have gt9 := core_tup (K := K) (H := _) nt9 (sl3 _ _ (sl2 _ _ (st15 _ _ (st14 _ _ (st13 _ _ (st12 _ _ (st11 _ _ (sl1 _ _ (st10 _ _ upd_same)))))))))
    have dt10 : core p _ t10 = some (.dK []) := core_get nt10 (sl3 _ _ (sl2 _ _ (st15 _ _ (st14 _ _ (st13 _ _ (st12 _ _ (st11 _ _ (sl1 _ _ upd_same)))))))) (fun _ z => by cases z)
    have gt11 := core_tup (K := K) (H := _) nt11 (sl3 _ _ (sl2 _ _ (st15 _ _ (st14 _ _ (st13 _ _ (st12 _ _ upd_same))))))
    have gt12 := core_tup (K := K) (H := _) nt12 (sl3 _ _ (sl2 _ _ (st15 _ _ (st14 _ _ (st13 _ _ upd_same)))))
    have gt13 := core_tup (K := K) (H := _) nt13 (sl3 _ _ (sl2 _ _ (st15 _ _ (st14 _ _ upd_same))))
    have gt14 := core_tup (K := K) (H := _) nt14 (sl3 _ _ (sl2 _ _ (st15 _ _ upd_same)))
    have gt15 := core_lst (K := K) (H := _) nt15 (sl3 _ _ (sl2 _ _ upd_same))
    have A1a : ∀ x ∈ ([.non, .int 3, .str "12", .ref t1, .ref t2, .ref t3, .ref t4, .ref t6, .ref t8, .ref t9, .ref t10] : List V), AnV K (core p _) x .val := (fm_cons .non (fm_cons (.int _) (fm_cons (.str _) (fm_cons (.seq (.inr gt1) fm_nil (by show 0 ≤ 100; decide) (.len (by show 0 ≠ 2; decide))) (fm_cons (.seq (.inr gt2) (fm_cons (.int _) fm_nil) (by show 1 ≤ 100; decide) (.len (by show 1 ≠ 2; decide))) (fm_cons (.seq (.inr gt3) (fm_cons (.int _) (fm_cons .non (fm_cons (.int _) fm_nil))) (by show 3 ≤ 100; decide) (.len (by show 3 ≠ 2; decide))) (fm_cons (.seq (.inr gt4) (fm_cons (.int _) (fm_cons (.str _) fm_nil)) (by show 2 ≤ 100; decide) (.bad (fun z => by cases z) (.str _))) (fm_cons (.seq (.inr gt6) (fm_cons (.int _) (fm_cons (.tup gt5) fm_nil)) (by show 2 ≤ 100; decide) (.bad (fun z => by cases z) (fr_10 gt5))) (fm_cons (.seq (.inr gt8) (fm_cons (.int _) (fm_cons (.tup gt7) fm_nil)) (by show 2 ≤ 100; decide) (.bad (fun z => by cases z) (fr_123 gt7))) (fm_cons (.seq (.inr gt9) (fm_cons (.int _) (fm_cons (.bl _) fm_nil)) (by show 2 ≤ 100; decide) (.bad (fun z => by cases z) (.bl _))) (fm_cons (.dct dt10) fm_nil)))))))))))
    have A1b : ∀ x ∈ ([.ref t11, .ref t12, .ref t13, .ref t14, .ref t15] : List V), AnV K (core p _) x .val := (fm_cons (.seq (.inr gt11) (fm_cons (.bl _) (fm_cons .non fm_nil)) (by show 2 ≤ 100; decide) (.noint rfl)) (fm_cons (.seq (.inr gt12) (fm_cons .non (fm_cons (.int _) fm_nil)) (by show 2 ≤ 100; decide) (.noint rfl)) (fm_cons (.seq (.inr gt13) (fm_cons (.str _) (fm_cons (.int _) fm_nil)) (by show 2 ≤ 100; decide) (.noint rfl)) (fm_cons (.seq (.inr gt14) (fm_cons (.int _) (fm_cons (.str _) fm_nil)) (by show 2 ≤ 100; decide) (.bad (fun z => by cases z) (.str _))) (fm_cons (.seq (.inl gt15) (fm_cons (.int _) (fm_cons (.bl _) fm_nil)) (by show 2 ≤ 100; decide) (.bad (fun z => by cases z) (.bl _))) fm_nil)))))
    have A1 : ∀ x ∈ ([.non, .int 3, .str "12", .ref t1, .ref t2, .ref t3, .ref t4, .ref t6, .ref t8, .ref t9, .ref t10] ++ [.ref t11, .ref t12, .ref t13, .ref t14, .ref t15] : List V), AnV K (core p _) x .val := fun x hx => (List.mem_append.mp hx).elim (A1a x) (A1b x)
    have S1 := (st1.trans (st2.trans (st3.trans (st4.trans (st5.trans (st6.trans (st7.trans (st8.trans (st9.trans (st10.trans (sl1.trans (st11.trans (st12.trans (st13.trans (st14.trans (st15.trans (sl2.trans sl3)))))))))))))))))
    refine ⟨p, l3, _, n, rfl, kl3, by omega, SqL.of upd_same, nl3, by show 0 < 16; decide, by show 16 ≤ 1000; decide, fun x1 H1 m1 e1 k1 => ?_⟩
    have w1 := (A1 x1 m1).mono e1.core
    replace e1 := same_but S1 e1 k0.lst
    clear A1 S1
    refine ⟨_, rfl, _, rfl, two_line, fun t16 ht16 => ?_⟩
    have st16 := same_new (o := .tup [.int (-1), .non]) ht16
    have kt16 := k1.same st16
    have nt16 := lst_new k1.lst ht16
    refine ⟨_, rfl, two_line, fun t17 ht17 => ?_⟩
    have st17 := same_new (o := .tup [.int 1, .int 2]) ht17
    have kt17 := kt16.same st17
    have nt17 := lst_new kt16.lst ht17
    refine ⟨two_line, fun t18 ht18 => ?_⟩
    have st18 := same_new (o := .lst [.int (-1), .ref t17]) ht18
    have kt18 := kt17.same st18
    have nt18 := lst_new kt17.lst ht18
    refine ⟨two_line, fun t19 ht19 => ?_⟩
    have st19 := same_new (o := .tup [.int 1000001, .non]) ht19
    have kt19 := kt18.same st19
    have nt19 := lst_new kt18.lst ht19
    refine ⟨_, _, rfl, rfl, ⟨by decide, by decide, by decide⟩, two_line, fun t20 ht20 => ?_⟩
    have st20 := same_new (o := .tup [.int 1, .int 2]) ht20
    have kt20 := kt19.same st20
    have nt20 := lst_new kt19.lst ht20
    refine ⟨two_line, fun t21 ht21 => ?_⟩
    have st21 := same_new (o := .tup [.int (10 ^ (30 : Int).toNat), .ref t20]) ht21
    have kt21 := kt20.same st21
    have nt21 := lst_new kt20.lst ht21
    refine ⟨_, _, rfl, rfl, ⟨by decide, by decide, by decide⟩, _, rfl, two_line, fun t22 ht22 => ?_⟩
    have st22 := same_new (o := .tup [.int (-(10 ^ (9 : Int).toNat)), .int 0]) ht22
    have kt22 := kt21.same st22
    have nt22 := lst_new kt21.lst ht22
    refine ⟨by show 5 ≤ sizeLine; decide, fun l4 hl4 => ?_⟩
    have sl4 := same_new (o := .lst [.ref t16, .ref t18, .ref t19, .ref t21, .ref t22]) hl4
    have kl4 := kt22.same sl4
    have nl4 := lst_new kt22.lst hl4
    have gt16 := core_tup (K := K) (H := _) nt16 (sl4 _ _ (st22 _ _ (st21 _ _ (st20 _ _ (st19 _ _ (st18 _ _ (st17 _ _ upd_same)))))))
    have gt17 := core_tup (K := K) (H := _) nt17 (sl4 _ _ (st22 _ _ (st21 _ _ (st20 _ _ (st19 _ _ (st18 _ _ upd_same))))))
    have gt18 := core_lst (K := K) (H := _) nt18 (sl4 _ _ (st22 _ _ (st21 _ _ (st20 _ _ (st19 _ _ upd_same)))))
    have gt19 := core_tup (K := K) (H := _) nt19 (sl4 _ _ (st22 _ _ (st21 _ _ (st20 _ _ upd_same))))
    have gt20 := core_tup (K := K) (H := _) nt20 (sl4 _ _ (st22 _ _ (st21 _ _ upd_same)))
    have gt21 := core_tup (K := K) (H := _) nt21 (sl4 _ _ (st22 _ _ upd_same))
    have gt22 := core_tup (K := K) (H := _) nt22 (sl4 _ _ upd_same)
    have A2 : ∀ x ∈ ([.ref t16, .ref t18, .ref t19, .ref t21, .ref t22] : List V), AnV K (core p _) x .num := (fm_cons (.seq (.inr gt16) (fm_cons (.int _) (fm_cons .non fm_nil)) (by show 2 ≤ 100; decide) (.num0 (by decide))) (fm_cons (.seq (.inl gt18) (fm_cons (.int _) (fm_cons (.tup gt17) fm_nil)) (by show 2 ≤ 100; decide) (.num (by decide) (fun z => by cases z) (fr_12 gt17))) (fm_cons (.seq (.inr gt19) (fm_cons (.int _) (fm_cons .non fm_nil)) (by show 2 ≤ 100; decide) (.num0 (by decide))) (fm_cons (.seq (.inr gt21) (fm_cons (.int _) (fm_cons (.tup gt20) fm_nil)) (by show 2 ≤ 100; decide) (.num (by decide) (fun z => by cases z) (fr_12 gt20))) (fm_cons (.seq (.inr gt22) (fm_cons (.int _) (fm_cons (.int _) fm_nil)) (by show 2 ≤ 100; decide) (.num (by decide) (fun z => by cases z) (.int 0))) fm_nil)))))
    have S2 := (st16.trans (st17.trans (st18.trans (st19.trans (st20.trans (st21.trans (st22.trans sl4)))))))
    refine ⟨p, l4, _, n + 1, rfl, kl4, by omega, SqL.of upd_same, nl4, by show 0 < 5; decide, by show 5 ≤ 1000; decide, fun x2 H2 m2 e2 k2 => ?_⟩
    have w2 := (A2 x2 m2).mono e2.core
    have w1 := w1.mono ((same_core S2).trans e2.core)
    replace e2 := e1.trans (same_but S2 e2 k1.lst)
    refine ⟨_, rfl, p, 2, n + 2, rfl, k2, by omega, by decide, by show (2 : Int).natAbs < 2 ^ 100; decide, fun r H3 ra rb e3 k3 => ?_⟩
    have w1 := w1.mono e3.core
    have w2 := w2.mono e3.core
    have e3' := e2.trans e3
    refine ⟨rfl, _, rfl, ?_⟩
    by_cases c : r = 0
    · rw [show decide (V.int r = V.int 0) = true from decide_eq_true (by rw [c])]
      refine iteT ⟨_, rfl, two_line, fun t ht => ?_⟩
      have s := same_new (o := .tup [x1, .str "value"]) ht
      exact q t x1 "value" .val _ (e3'.same s) (k3.same s) (core_tup (lst_new k3.lst ht) upd_same) ⟨w1.mono (same_core s), .inl ⟨rfl, rfl⟩⟩
    · rw [show decide (V.int r = V.int 0) = false from decide_eq_false fun z => c (by injection z)]
      refine iteF ⟨_, rfl, two_line, fun t ht => ?_⟩
      have s := same_new (o := .tup [x2, .str "number"]) ht
      exact q t x2 "number" .num _ (e3'.same s) (k3.same s) (core_tup (lst_new k3.lst ht) upd_same) ⟨w2.mono (same_core s), .inr ⟨rfl, rfl⟩⟩
end
end K8


set_option Elab.async false
set_option linter.all false
set_option maxRecDepth 100000
set_option maxHeartbeats 4000000
set_option exponentiation.threshold 10000
namespace K8
open PySem PySem.Spec PyProof.Rows L2 OG
def codeOf (o : Obj) : Value := match o.data with
  | .func fd => fd.code
  | _ => .none
/-- what the lambdas and the clauses ask -/
structure LamT (K : PySem.W.Frag) (mg : Str → Option Value) (A : Ad) : Prop extends LawT K mg A where
  xf_BV : XfC K A.c_BV
  xf_BN : XfC K A.c_BN
  ex_VV : PySem.W.exmOne K (.ref A.c_BV) (.ref A.c_BV) = some true
  ex_NV : PySem.W.exmOne K (.ref A.c_BN) (.ref A.c_BV) = some false
  ex_NN : PySem.W.exmOne K (.ref A.c_BN) (.ref A.c_BN) = some true
  g_Misfit : mg "Misfit" = some (.ref A.c_MF)
  g_TooMany : mg "TooMany" = some (.ref A.c_TM)
  cdv_rr : (K.lookup A.f_law_refused_right).map codeOf = some (.ref A.cd_rr)
theorem fun_okC {P : Program} {w : World} {K : PySem.W.Frag} {mg : Str → Option Value} {base : Heap} {x qual : Str} {st : Stmt} {f : Addr} {fd : FuncData} {N ps : List Str} {k : Nat} {sp : Sp} {c : Value} (F : Fun K x qual st f fd) (S : FnScope N ps (defScope st))
    (hc : (K.lookup f).map codeOf = some c) (len : ∀ vs H Q E, sp vs H Q E → vs.length = ps.length)
    (hbody : ∀ (A : Around) (outer : List Env) (s : Shared) (H : Hp) (vs : List V) (Q : VK) (E : XK), Room k (A.deeper (envOfC qual (defScope st) s.heap.objs.size f c)) → sp vs H Q E →
      ∃ t, PSs (cxOf CX0 P w K mg base N qual (defScope st) f c A outer s H E).nox (defBody st) t ∧ t { nx := fun _ H' => Q .non H', rt := Q } (L2.start N vs) H) : FnOk P w K mg base CX0 (k + 1) f fd ps sp := by
  obtain ⟨oc, od, kV, doc, pm, an, cdv, ct, osl, rfl, lk, hcd⟩ := F.ex
  rw [lk] at hc
  obtain rfl : cdv = c := Option.some.inj hc
  refine fn_of lk hcd S len fun A outer s H vs Q E hr hsp => ?_
  obtain ⟨t, h, q⟩ := hbody A outer s H vs Q E hr hsp
  exact ⟨t, h.nox, q⟩
/-- a variable, in a state of the right length -/
def tVarL (n i : Nat) : TE := fun σ H Q => σ.length = n → tVar i σ H Q
theorem pe_varL {X : Cx} {n i : Nat} {x : Str} {pos : Pos} (hn : X.N.length = n) (h : PE X (.Name x pos) (tVar i)) : PE X (.Name x pos) (tVarL n i) :=
  ⟨fun pins s σ H Q I hh => h.run pins s σ H Q I (hh (by rw [I.len, hn]))⟩
/-- what _law_heard makes of the lambda's reading -/
def HeardX (A : Ad) (Q : VK) : XK := fun cls d H' => ∃ (C : Addr) (word : Str) (dd : Addr) (w : Str), cls = .ref C ∧ d = some dd ∧ H' dd = some (.xd [("part", .str w)]) ∧ (C = A.c_BV ∧ word = "value" ∨ C = A.c_BN ∧ word = "number") ∧
  ∀ t, H' t = none → Q (.ref t) (upd H' t (.tup [.str word, .str w]))
def THeard (A : Ad) : (XK → Hp → VK → Prop) → Hp → VK → Prop := fun tl H Q => tl (HeardX A Q) H (fun _ H' => Q .non H')
section
variable {K : PySem.W.Frag} {mg : Str → Option Value} {A : Ad}
theorem heard_gives {X : Cx} {g : Addr} {cdg : Value} {q : Str} (T : LamT X.K X.mg A) : LamX.GivesTo X N_law_heard "_law_heard" (defScope s_law_heard) g cdg (defBody s_law_heard) "ask" q (THeard A) := by
  intro f c' s H Q tl act hc h
  refine ⟨_, pss_cons (ps_try_ns (X := (cxOf C8.CX0 X.prog X.w X.K X.mg X.base N_law_heard "_law_heard" (defScope s_law_heard) g cdg X.A X.stack s H C8.E0).nox) (Wout := fun _ _ _ _ => False)
      (tb := fun W D σ H => ∃ Ech : XK, (∀ cls d σ' H', Ech cls d H' → W cls d σ' H') ∧ σ[0]? = some (some (.ref f)) ∧ H c' = some (LamX.CodeO c' q) ∧ tl Ech H (fun _ H' => D.nx σ H'))
      (l := [(.ref A.c_BV, 1, fun a cls d => tRet (tTup (tCons (tC (.str "value")) (tCons (tXf a cls d A.c_BV "part" (tVarL 2 1)) tNil)))), (.ref A.c_BN, 1, fun a cls d => tRet (tTup (tCons (tC (.str "number")) (tCons (tXf a cls d A.c_BN "part" (tVarL 2 1)) tNil)))),
        (.ref A.c_MF, 1, fun _ _ _ => tNever), (.ref A.c_TM, 1, fun _ _ _ => tNever)])
      rfl rfl sc_law_heard.nd LamX.takes0 (fun W pn xe tk _ => ?_)
      (.cons rfl rfl ⟨rfl, by decide, .inl T.g_BadValue⟩ (fun a oe cls d pn hz hf => pss_one (ps_ret (pe_tup (pa_cons pe_str (pa_cons (pe_xf T.xf_BV T.n_BV hz hf (pe_varL rfl (pv 1))) pa_nil)))))
        (.cons rfl rfl ⟨rfl, by decide, .inl T.g_BadNumber⟩ (fun a oe cls d pn hz hf => pss_one (ps_ret (pe_tup (pa_cons pe_str (pa_cons (pe_xf T.xf_BN T.n_BN hz hf (pe_varL rfl (pv 1))) pa_nil)))))
          (.cons rfl rfl ⟨rfl, by decide, .inl T.g_Misfit⟩ (fun a oe cls d pn hz hf => pss_one ps_never)
            (.cons rfl rfl ⟨rfl, by decide, .inl T.g_TooMany⟩ (fun a oe cls d pn hz hf => pss_one ps_never) .nil)))))
    (pss_one (ps_ret pe_non)), ?_⟩
  · refine ⟨fun pins s' σ H' D I h' => ?_⟩
    obtain ⟨Ech, hW, h1, h2, h3⟩ := h'
    exact (pss_one (ps_expr (act W pn xe Ech _ _ tk hW))).run pins s' σ H' D I ⟨h1, h2, h3⟩
  · refine ⟨HeardX A Q, fun cls d σ' H' hh => ?_, rfl, hc, h⟩
    obtain ⟨C, word, dd, w, rfl, rfl, hx, hC, k⟩ := hh
    have get : ∀ a : Addr, (List.set σ' 1 (some (V.ref a))).length = 2 → (List.set σ' 1 (some (V.ref a)))[1]? = some (some (V.ref a)) := fun a hl => by
      rw [List.length_set] at hl
      rw [List.getElem?_set_self (by omega)]
    rcases hC with ⟨rfl, rfl⟩ | ⟨rfl, rfl⟩
    · exact ⟨true, T.ex_VV, fun _ a ha => fun hl => ⟨_, get a hl, rfl, rfl, dd, _, _, rfl, hx, rfl, two_line, fun t ht => k t ht⟩, fun z => by cases z⟩
    · exact ⟨false, T.ex_NV, (fun z => by cases z), fun _ => ⟨true, T.ex_NN, fun _ a ha => fun hl => ⟨_, get a hl, rfl, rfl, dd, _, _, rfl, hx, rfl, two_line, fun t ht => k t ht⟩, fun z => by cases z⟩⟩
end
end K8


set_option Elab.async false
set_option linter.all false
set_option maxRecDepth 100000
set_option maxHeartbeats 4000000
set_option exponentiation.threshold 10000
namespace K8
open PySem PySem.Spec PyProof.Rows L2 OG
section
variable {P : Program} {w : World} {K : PySem.W.Frag} {mg : Str → Option Value} {base : Heap} {A : Ad}
abbrev XR (P : Program) (w : World) (K : PySem.W.Frag) (mg : Str → Option Value) (base : Heap) (A : Ad) (Ar : Around) (outer : List Env) (s : Shared) (H : Hp) (E : XK) : Cx :=
  (cxOf CX0 P w K mg base N_law_refused_right "_law_refused_right" (defScope s_law_refused_right) A.f_law_refused_right (.ref A.cd_rr) Ar outer s H E).nox
def lamQ : Str := (envOfC "_law_refused_right" (defScope s_law_refused_right) 0 0 .none).qual ++ "<lambda>"
def tbs (A : Ad) : List (Addr × Str) := [(A.tb_rr, lamQ)]
theorem pe_heard {Ar : Around} {outer : List Env} {s : Shared} {H : Hp} {E : XK} (T : LamT K mg A) (B : LamX.TabB base mg A.cd_rr A.tb_rr) {k : Nat} (hr : Room (k + 2) (XR P w K mg base A Ar outer s H E).A) {params : Arguments} {body : Expr} {scope : Scope} {p lpos pos : Pos} {t : XK → TE}
    (L : LamX.LamS (defScope s_law_refused_right) scope) (hdef : defaultsOf params (XR P w K mg base A Ar outer s H E).env = ([], []))
    (hbind : ∀ (q : Str) (cl : List (Str × Addr)) (pm cv ctv : Value), bindArgs (PySem.W.kla_fn "<lambda>" q params body scope cl pm cv ctv) ⟨[], []⟩ = pure [])
    (hbody : ∀ (A2 : Around) (o2 : List Env) (s2 : Shared) (H2 : Hp) (E2 : XK) (f2 c2 : Addr), Room k (A2.deeper (LamX.lamEnv (XR P w K mg base A Ar outer s H E) scope s2.heap.objs.size f2 c2)) → PE (LamX.lamCx (XR P w K mg base A Ar outer s H E) A2 o2 s2 H2 E2 scope f2 c2) body (t E2)) :
    PE (XR P w K mg base A Ar outer s H E) (.Call (.Name "_law_heard" p) [.Lambda params body scope lpos] [] pos) (LamX.tLam (tbs A) (THeard A) t) := by
  obtain ⟨oc, od, kV, doc, pm, an, cdv, ct, osl, efd, lk, hcg⟩ := T.F_law_heard.ex
  have hb := b_law_heard T.F_law_heard
  rw [efd] at lk hb
  exact LamX.pe_lamcall rfl T.g_law_heard T.F_law_heard.kp lk hcg hb sc_law_heard rfl (Or.inl rfl) (heard_gives T) B rfl (List.mem_singleton.mpr rfl) (fun p hp _ => by rw [List.mem_singleton.mp hp]; rfl) hr L hdef hbind hbody
theorem pe_heardD {Ar : Around} {outer : List Env} {s : Shared} {H : Hp} {E : XK} (T : LamT K mg A) (B : LamX.TabB base mg A.cd_rr A.tb_rr) {k : Nat} (hr : Room (k + 2) (XR P w K mg base A Ar outer s H E).A) {params : Arguments} {body : Expr} {scope : Scope} {p lpos pos dp : Pos} {n : Int} {j : Nat} {t : XK → TE}
    (L : LamD N_law_refused_right "a" (defScope s_law_refused_right) scope) (hdef : defaultsOf params (XR P w K mg base A Ar outer s H E).env = ([eval (.Constant (.int n) j dp) (XR P w K mg base A Ar outer s H E).env], [])) (hkw : params.kwonlyargs = []) (hbind : LdBind params "a")
    (hbody : ∀ (A2 : Around) (o2 : List Env) (s2 : Shared) (H2 : Hp) (E2 : XK) (f2 c2 : Addr), Room k (A2.deeper (LamX.lamEnv (XR P w K mg base A Ar outer s H E) scope s2.heap.objs.size f2 c2)) → PE (LamX.lamCx (XR P w K mg base A Ar outer s H E) A2 o2 s2 H2 E2 scope f2 c2) body (t E2)) :
    PE (XR P w K mg base A Ar outer s H E) (.Call (.Name "_law_heard" p) [.Lambda params body scope lpos] [] pos) (LamX.tLam (tbs A) (THeard A) t) := by
  obtain ⟨oc, od, kV, doc, pm, an, cdv, ct, osl, efd, lk, hcg⟩ := T.F_law_heard.ex
  have hb := b_law_heard T.F_law_heard
  rw [efd] at lk hb
  exact pe_lamcallD rfl T.g_law_heard T.F_law_heard.kp lk hcg hb sc_law_heard rfl (Or.inl rfl) (heard_gives T) B rfl (List.mem_singleton.mpr rfl) (fun p hp _ => by rw [List.mem_singleton.mp hp]; rfl) hr L hdef hkw hbind hbody
/-- a refusal's outcome -/
def BadW (o : Out) (word : Str) : Prop := o = .val ∧ word = "value" ∨ o = .num ∧ word = "number"
theorem bad_go {o : Out} {word wd : Str} {H : Hp} {Q : VK} {kk : Int → Option Rat → Prop} (h : BadW o word) (k : ∀ t H', Same H H' → H' t = none → Q (.ref t) (upd H' t (.tup [.str word, .str wd]))) : OutP K A wd o H (HeardX A Q) kk := by
  rcases h with ⟨rfl, rfl⟩ | ⟨rfl, rfl⟩
  · exact fun d H' s hd => ⟨A.c_BV, "value", d, wd, rfl, rfl, hd, .inl ⟨rfl, rfl⟩, fun t ht => k t H' s ht⟩
  · exact fun d H' s hd => ⟨A.c_BN, "number", d, wd, rfl, rfl, hd, .inr ⟨rfl, rfl⟩, fun t ht => k t H' s ht⟩
theorem BadW.not {o : Out} {word : Str} (h : BadW o word) : ∀ i l, o ≠ .ok i l := fun i l e => by
  rcases h with ⟨rfl, _⟩ | ⟨rfl, _⟩ <;> cases e
theorem AnT.v {H : Hp} {v : V} {h : Int} {l : Option Rat} (k : AnT K H v h l) (h0 : 0 ≤ h) (h1 : h ≤ 1000000) (hz : OSz l) : AnV K H v (.ok h l) := by
  obtain ⟨a, w, rfl, q, m⟩ := k
  cases l with
  | none =>
    obtain rfl : w = .non := m
    refine .seq (.inr q) (fm_cons (.int _) (fm_cons .non fm_nil)) (by show 2 ≤ 100; decide) ?_
    have e : rng h none = .ok h none := if_pos ⟨h0, h1⟩
    rw [← e]
    exact .none h
  | some x =>
    have fx : FrT K H w x := m
    have fv := fx.fr (hz x rfl)
    refine .seq (.inr q) (fm_cons (.int _) (fm_cons fv.knd fm_nil)) (by show 2 ≤ 100; decide) ?_
    have e : outFr h (some x) = .ok h (some x) := if_pos ⟨h0, h1⟩
    rw [← e]
    refine .fr h (fun z => ?_) fv
    obtain ⟨b, rfl, _⟩ := fx
    cases z
theorem heard_sum1 {H : Hp} {Q : VK} {v x y : V} {o : Out} {word : Str} (hv : AnV K H v o) (hw : BadW o word) (k : ∀ t H', Same H H' → H' t = none → Q (.ref t) (upd H' t (.tup [.str word, .str "one"]))) : spAngleSum K A [v, x, y] H (fun _ H' => Q .non H') (HeardX A Q) :=
  ⟨v, x, y, o, .val, none, rfl, hv, fun h l e => absurd e (hw.not h l), fun h l _ _ e => absurd e (hw.not h l), bad_go hw k⟩
theorem heard_sum2 {H : Hp} {Q : VK} {u v y : V} {i : Int} {l : Option Rat} {o : Out} {word : Str} (hu : AnV K H u (.ok i l)) (hv : AnV K H v o) (hw : BadW o word) (k : ∀ t H', Same H H' → H' t = none → Q (.ref t) (upd H' t (.tup [.str word, .str "other"]))) : spAngleSum K A [u, v, y] H (fun _ H' => Q .non H') (HeardX A Q) :=
  ⟨u, v, y, _, o, none, rfl, hu, fun _ _ _ => hv, fun _ _ h l _ e => absurd e (hw.not h l), (bad_go hw k : OutP K A "other" o H (HeardX A Q) _)⟩
theorem heard_sum3 {H : Hp} {Q : VK} {u v y : V} {i j : Int} {l m : Option Rat} (hu : AnV K H u (.ok i l)) (hv : AnV K H v (.ok j m)) (hy : FrV K H y none) (k : ∀ t H', Same H H' → H' t = none → Q (.ref t) (upd H' t (.tup [.str "value", .str "root"]))) : spAngleSum K A [u, v, y] H (fun _ H' => Q .non H') (HeardX A Q) :=
  ⟨u, v, y, _, _, none, rfl, hu, fun _ _ _ => hv, fun _ _ _ _ _ _ => hy, ⟨fun _ d H' s hd => ⟨A.c_BV, "value", d, "root", rfl, rfl, hd, .inl ⟨rfl, rfl⟩, fun t ht => k t H' s ht⟩, nofun⟩⟩
theorem heard_ord1 {H : Hp} {Q : VK} {v x : V} {o : Out} {word : Str} (hv : AnV K H v o) (hw : BadW o word) (k : ∀ t H', Same H H' → H' t = none → Q (.ref t) (upd H' t (.tup [.str word, .str "one"]))) : spOrderA K A [v, x] H (fun _ H' => Q .non H') (HeardX A Q) :=
  ⟨v, x, o, .val, rfl, hv, fun h l e => absurd e (hw.not h l), bad_go hw k⟩
theorem heard_ord2 {H : Hp} {Q : VK} {u v : V} {i : Int} {l : Option Rat} {o : Out} {word : Str} (hu : AnV K H u (.ok i l)) (hv : AnV K H v o) (hw : BadW o word) (k : ∀ t H', Same H H' → H' t = none → Q (.ref t) (upd H' t (.tup [.str word, .str "other"]))) : spOrderA K A [u, v] H (fun _ H' => Q .non H') (HeardX A Q) :=
  ⟨u, v, _, o, rfl, hu, fun _ _ _ => hv, (bad_go hw k : OutP K A "other" o H (HeardX A Q) _)⟩
/-- a lambda heard: what is known behind it -/
structure Hrd (A : Ad) (p : Addr) (n : Nat) (H H' : Hp) : Prop where
  co : Same (core p H) (core p H')
  pk : PenK H' p n
  tb : LamX.Tabs (tbs A) H'
theorem Hrd.step {p : Addr} {n : Nat} {H H2 H' : Hp} {t : Addr} {xs : List V} (k : PenK H p n) (e : LamX.ExtN H H2) (t2 : LamX.Tabs (tbs A) H2) (s : Same H2 H') (ht : H' t = none) : Hrd A p n H (upd H' t (.tup xs)) ∧ SqT K (core p (upd H' t (.tup xs))) t xs := by
  have s2 := same_new (o := .tup xs) ht
  have k2 := (k.core e).same s
  exact ⟨⟨(ext_core e).trans (same_core (s.trans s2)), k2.same s2, t2.ext (s.trans s2)⟩, core_tup (lst_new k2.lst ht) upd_same⟩
theorem Hrd.trans {p : Addr} {n m : Nat} {H H2 H' : Hp} (a : Hrd A p n H H2) (b : Hrd A p m H2 H') : Hrd A p m H H' := ⟨a.co.trans b.co, b.pk, b.tb⟩
theorem Hrd.same {p : Addr} {n : Nat} {H H2 H' : Hp} (a : Hrd A p n H H2) (s : Same H2 H') : Hrd A p n H H' := ⟨a.co.trans (same_core s), a.pk.same s, a.tb.ext s⟩
def spRefused (K : PySem.W.Frag) (A : Ad) : Sp := fun vs H Q _ => ∃ (p : Addr) (v : V) (n : Nat) (a : Ang), vs = [.ref p, v] ∧ PenK H p n ∧ n ≤ 80000 ∧ AnT K (core p H) v a.1 a.2 ∧ 0 ≤ a.1 ∧ a.1 ≤ 1000000 ∧ OSz a.2 ∧ LamX.Tabs (tbs A) H ∧
  ∀ H', Hrd A p (n + 4) H H' → Q (.bl true) H'
def dPair (x y : Str) : PyData := .tuple [.str x, .str y]
theorem dp_pair {H : Hp} {t : Addr} {x y : Str} (q : SqT K H t [.str x, .str y]) : Dp K H (.ref t) (dPair x y) := .tup q (.cons (.str _) (.cons (.str _) .nil))
theorem LDB {p1 p2 : Pos} {n : Int} {j : Nat} : LdBind { posonlyargs := [], args := [{ arg := "a", annotation := none, pos := p1 : PySem.Arg }], vararg := none, kwonlyargs := [], kw_defaults := [], kwarg := none, defaults := [(PySem.Expr.Constant (PySem.Const.int n) j p2)] : PySem.Arguments } "a" :=
  fun _ _ _ _ _ _ _ _ => ⟨_, rfl, fun _ => rfl⟩
theorem ok_law_refused_right (T : LamT K mg A) (B : LamX.TabB base mg A.cd_rr A.tb_rr) : FnOk P w K mg base CX0 9 A.f_law_refused_right A.d_law_refused_right ["pen", "fine"] (spRefused K A) := by
  refine fun_okC T.F_law_refused_right sc_law_refused_right T.cdv_rr (fun vs H Q E h => ?_) (fun Ar outer s H vs Q E hr h => ?_)
  · obtain ⟨_, _, _, _, rfl, _⟩ := h
    rfl
  · obtain ⟨p, v, n, a, rfl, k0, hn, av, a0, a1, az, tb, q⟩ := h
    refine ⟨_, (pss_cons (ps_asg (pe_call (ok_law_odd T.toLawT) (hr.mono (by decide)) rfl T.g_law_odd T.F_law_odd.kp (b_law_odd T.F_law_odd) .nil pass0 (pa_cons (pv 0) pa_nil)) (pg_tup rfl (pgs_cons (pg_name (i := 4) sc_law_refused_right.nd rfl (Or.inr rfl)) (pgs_cons (pg_name (i := 2) sc_law_refused_right.nd rfl (Or.inl rfl)) pgs_nil))))
      (pss_cons (ps_set (i := 3) sc_law_refused_right.nd rfl (Or.inl rfl) (pe_lst (pa_cons (pe_heard (k := 6) T B hr (LamX.lamS_by (by decide +kernel)) (by rfl) (fun _ _ _ _ _ => rfl) fun A2 o2 s2 H2 E2 f2 c2 hr2 => (pe_call (ok_angle_sum T.toTxt) (hr2.mono (by decide)) rfl T.g_angle_sum T.F_angle_sum.kp (b_angle_sum T.F_angle_sum) .nil (passes_call (takes_of rfl rfl rfl rfl) fun _ _ _ _ h => h) (pa_cons (pv 4) (pa_cons pe_non (pa_cons pe_non pa_nil))))) (pa_cons (pe_heardD (k := 6) T B hr (lamD_by (by decide +kernel)) (by rfl) rfl LDB fun A2 o2 s2 H2 E2 f2 c2 hr2 => (pe_call (ok_angle_sum T.toTxt) (hr2.mono (by decide)) rfl T.g_angle_sum T.F_angle_sum.kp (b_angle_sum T.F_angle_sum) .nil (passes_call (takes_of rfl rfl rfl rfl) fun _ _ _ _ h => h) (pa_cons (pv 1) (pa_cons (pv 4) (pa_cons pe_non pa_nil))))) pa_nil))))
      (pss_cons (ps_set (i := 3) sc_law_refused_right.nd rfl (Or.inl rfl) (pe_op op_cat (pv 3) (pe_lst (pa_cons (pe_heard (k := 6) T B hr (LamX.lamS_by (by decide +kernel)) (by rfl) (fun _ _ _ _ _ => rfl) fun A2 o2 s2 H2 E2 f2 c2 hr2 => (pe_call (ok_order_of_angles T.toTxt) (hr2.mono (by decide)) rfl T.g_order_of_angles T.F_order_of_angles.kp (b_order_of_angles T.F_order_of_angles) .nil (passes_call (takes_of rfl rfl rfl rfl) fun _ _ _ _ h => h) (pa_cons (pv 4) (pa_cons pe_non pa_nil)))) (pa_cons (pe_heardD (k := 6) T B hr (lamD_by (by decide +kernel)) (by rfl) rfl LDB fun A2 o2 s2 H2 E2 f2 c2 hr2 => (pe_call (ok_order_of_angles T.toTxt) (hr2.mono (by decide)) rfl T.g_order_of_angles T.F_order_of_angles.kp (b_order_of_angles T.F_order_of_angles) .nil (passes_call (takes_of rfl rfl rfl rfl) fun _ _ _ _ h => h) (pa_cons (pv 1) (pa_cons (pv 4) pa_nil)))) pa_nil)))))
      (pss_cons (ps_if (pt_cmpR (op_neD (un64 hr)) (pv 3) (pe_op op_rep (pe_lst (pa_cons (pe_tup (pa_cons (pv 2) (pa_cons pe_str pa_nil))) (pa_cons (pe_tup (pa_cons (pv 2) (pa_cons pe_str pa_nil))) pa_nil))) pe_int) (nomark _)) (pss_one (ps_ret pe_bl)) pss_nil)
      (pss_one (ps_ret (pe_cmpR (op_eqD (un64 hr)) (pe_heard (k := 6) T B hr (LamX.lamS_by (by decide +kernel)) (by rfl) (fun _ _ _ _ _ => rfl) fun A2 o2 s2 H2 E2 f2 c2 hr2 => (pe_call (ok_angle_sum T.toTxt) (hr2.mono (by decide)) rfl T.g_angle_sum T.F_angle_sum.kp (b_angle_sum T.F_angle_sum) .nil (passes_call (takes_of rfl rfl rfl rfl) fun _ _ _ _ h => h) (pa_cons (pv 1) (pa_cons (pv 1) (pa_cons (pe_call (ok_law_pick T.toLawT) (hr2.mono (by decide)) rfl T.g_law_pick T.F_law_pick.kp (b_law_pick T.F_law_pick) .nil pass0 (pa_cons (pv 0) (pa_cons (pe_lst (pa_cons pe_non (pa_cons pe_str (pa_cons (pe_tup (pa_cons pe_int (pa_cons pe_int pa_nil))) (pa_cons pe_bl pa_nil))))) pa_nil))) pa_nil))))) (pe_tup (pa_cons pe_str (pa_cons pe_str pa_nil))) (nomark _)))))))), ?_⟩
    refine ⟨_, rfl, p, n, rfl, k0, by omega, fun t0 vo word o H1 e1 k1 qt ho => ?_⟩
    obtain ⟨va, hw⟩ := ho
    replace hw : BadW o word := hw
    have av := av.mono e1.core
    have x1 : Hrd A p (n + 3) H H1 := ⟨e1.core, k1, e1.tabs tb⟩
    refine ⟨t0, _, rfl, same_t core_le qt, rfl, _, _, rfl, _, _, rfl, rfl, ?_⟩
    have fine : ∀ H', Same (core p H1) (core p H') → AnV K H' v (.ok a.1 a.2) := fun H' s => ((av.mono s).mono core_le).v a0 a1 az
    have odd : ∀ H', Same (core p H1) (core p H') → AnV K H' vo o := fun H' s => (va.mono s).mono core_le
    clear qt
    refine ⟨x1.tb, fun H2 e2 tb2 => ⟨_, rfl, heard_sum1 (odd H2 (ext_core e2)) hw fun t1 H3 s3 h3 => ?_⟩⟩
    obtain ⟨x2, q1⟩ := Hrd.step (K := K) (xs := [.str word, .str "one"]) k1 e2 tb2 s3 h3
    refine ⟨x2.tb, fun H5 e5 tb5 => ⟨_, rfl, _, rfl, heard_sum2 (fine H5 (x2.co.trans (ext_core e5))) (odd H5 (x2.co.trans (ext_core e5))) hw fun t2 H6 s6 h6 => ⟨two_line, fun l1 hl1 => ?_⟩⟩⟩
    obtain ⟨x3, q2⟩ := Hrd.step (K := K) (xs := [.str word, .str "other"]) x2.pk e5 tb5 s6 h6
    have sl1 := same_new (o := .lst [.ref t1, .ref t2]) hl1
    have r1 := core_get (lst_new x3.pk.lst hl1) (upd_same (H := upd H6 t2 (.tup [.str word, .str "other"])) (a := l1) (o := .lst [.ref t1, .ref t2])) (fun _ z => by cases z)
    have x4 := x3.same sl1
    have q1 := same_t x4.co q1
    have q2 := same_t (same_core sl1) q2
    have c4 := x2.co.trans x4.co
    refine ⟨_, rfl, x4.tb, fun H8 e8 tb8 => ⟨_, rfl, heard_ord1 (odd H8 (c4.trans (ext_core e8))) hw fun t3 H9 s9 h9 => ?_⟩⟩
    obtain ⟨x5, q3⟩ := Hrd.step (K := K) (xs := [.str word, .str "one"]) x4.pk e8 tb8 s9 h9
    refine ⟨x5.tb, fun H11 e11 tb11 => ⟨_, rfl, _, rfl, heard_ord2 (fine H11 (c4.trans (x5.co.trans (ext_core e11)))) (odd H11 (c4.trans (x5.co.trans (ext_core e11)))) hw fun t4 H12 s12 h12 => ⟨two_line, fun l2 hl2 => ?_⟩⟩⟩
    obtain ⟨x6, q4⟩ := Hrd.step (K := K) (xs := [.str word, .str "other"]) x5.pk e11 tb11 s12 h12
    have sl2 := same_new (o := .lst [.ref t3, .ref t4]) hl2
    have x7 := x6.same sl2
    have x57 := x5.trans x7
    have r1 := x57.co _ _ r1
    refine ⟨l1, l2, _, _, rfl, rfl, (core_some r1).2.1, upd_same, by show 4 ≤ sizeLine; decide, fun l3 hl3 => ?_⟩
    have sl3 := same_new (o := .lst ([.ref t1, .ref t2] ++ [.ref t3, .ref t4])) hl3
    have x8 := x57.same sl3
    have q1 := same_t x8.co q1
    have q2 := same_t x8.co q2
    have q3 := same_t ((x7.co).trans (same_core sl3)) q3
    have q4 := same_t (same_core (sl2.trans sl3)) q4
    have g3 := core_get (lst_new x57.pk.lst hl3) (upd_same (H := upd (upd H12 t4 (.tup [.str word, .str "other"])) l2 (.lst [.ref t3, .ref t4])) (a := l3) (o := .lst ([.ref t1, .ref t2] ++ [.ref t3, .ref t4]))) (fun _ z => by cases z)
    have x9 : Hrd A p (n + 3) H _ := x1.trans (x2.trans (x4.trans x8))
    have c9 := c4.trans x8.co
    refine ⟨_, rfl, _, rfl, two_line, fun t5 h5 => ⟨_, rfl, two_line, fun t6 h6 => ⟨two_line, fun l4 h4 => ⟨l4, 2, _, rfl, rfl, upd_same, by decide, by decide, by show 4 ≤ sizeLine; decide, fun l5 h5' => ?_⟩⟩⟩⟩
    have s5 := same_new (o := .tup [.str word, .str "one"]) h5
    have s6 := same_new (o := .tup [.str word, .str "other"]) h6
    have s7 := same_new (o := .lst [.ref t5, .ref t6]) h4
    have s8 := same_new (o := .lst (List.replicate (2 : Int).toNat [.ref t5, .ref t6]).flatten) h5'
    have s58 := s5.trans (s6.trans (s7.trans s8))
    have q5 : SqT K _ t5 [.str word, .str "one"] := SqT.of (s8 _ _ (s7 _ _ (s6 _ _ upd_same)))
    have q6 : SqT K _ t6 [.str word, .str "other"] := SqT.of (s8 _ _ (s7 _ _ upd_same))
    have D1 := fun (t : Addr) (x y : Str) (q : SqT K (core p _) t [.str x, .str y]) => dp_pair (same_t s58 (same_t core_le q))
    have hsh : SeqAt.shaped (.list [dPair word "one", dPair word "other", dPair word "one", dPair word "other"]) = true := by rcases hw with ⟨_, rfl⟩ | ⟨_, rfl⟩ <;> decide +kernel
    have heq : PyData.eqv (.list [dPair word "one", dPair word "other", dPair word "one", dPair word "other"]) (.list [dPair word "one", dPair word "other", dPair word "one", dPair word "other"]) = true := by rcases hw with ⟨_, rfl⟩ | ⟨_, rfl⟩ <;> decide +kernel
    refine ⟨.list [dPair word "one", dPair word "other", dPair word "one", dPair word "other"], .list [dPair word "one", dPair word "other", dPair word "one", dPair word "other"],
      .lst (same_l s58 (SqL.of (core_some g3).2.1)) (.cons (D1 _ _ _ q1) (.cons (D1 _ _ _ q2) (.cons (D1 _ _ _ q3) (.cons (D1 _ _ _ q4) .nil)))),
      .lst (SqL.of upd_same) (.cons (dp_pair q5) (.cons (dp_pair q6) (.cons (dp_pair q5) (.cons (dp_pair q6) .nil)))), hsh, hsh, _, rfl, ?_⟩
    rw [heq]
    refine iteF ?_
    have y0 := x9.same s58
    have c0 := c9.trans (same_core s58)
    refine ⟨y0.tb, fun H20 e20 tb20 => ?_⟩
    have k20 := y0.pk.core e20
    refine ⟨_, rfl, _, rfl, _, rfl, two_line, fun t7 h7 => ⟨by show 4 ≤ sizeLine; decide, fun l6 hl6 => ⟨p, l6, [.non, .str "1", .ref t7, .bl true], n + 3, rfl, ?_⟩⟩⟩
    have s21 := same_new (o := .tup [.int 1, .int 0]) h7
    have s22 := same_new (o := .lst [.non, .str "1", .ref t7, .bl true]) hl6
    have k22 := k20.same (s21.trans s22)
    refine ⟨k22, by omega, SqL.of upd_same, lst_new (k20.same s21).lst hl6, by show 0 < 4; decide, by show 4 ≤ 1000; decide, fun y H23 my e23 k23 => ?_⟩
    have g7 := core_tup (K := K) (lst_new k20.lst h7) (s22 _ _ (upd_same (H := H20) (a := t7) (o := .tup [.int 1, .int 0])))
    have fy0 : ∀ x ∈ ([.non, .str "1", .ref t7, .bl true] : List V), FrV K (core p _) x none := fm_cons .non (fm_cons (.str _) (fm_cons (fr_10 g7) (fm_cons (.bl _) fm_nil)))
    have fy := ((fy0 y my).mono e23.core).mono core_le
    have c23 := c0.trans ((ext_core e20).trans ((same_core (s21.trans s22)).trans e23.core))
    have tb23 := e23.tabs (tb20.ext (s21.trans s22))
    refine heard_sum3 (fine H23 c23) (fine H23 c23) fy fun t8 H24 s24 h24 => ⟨two_line, fun t9 h9' => ?_⟩
    have s25 := same_new (o := .tup [.str "value", .str "root"]) h24
    have s26 := same_new (o := .tup [.str "value", .str "root"]) h9'
    have sz := s24.trans (s25.trans s26)
    refine ⟨dPair "value" "root", dPair "value" "root", dp_pair (SqT.of (s26 _ _ upd_same)), dp_pair (SqT.of upd_same), by decide +kernel, by decide +kernel, ?_⟩
    have ee : PyData.eqv (dPair "value" "root") (dPair "value" "root") = true := by decide +kernel
    rw [ee]
    exact q _ ⟨x1.co.trans (c23.trans (same_core sz)), k23.same sz, tb23.ext sz⟩
end
end K8


set_option Elab.async false
set_option linter.all false
set_option maxRecDepth 100000
set_option maxHeartbeats 4000000
set_option exponentiation.threshold 10000
namespace K8
open PySem PySem.Spec PyProof.Rows L2 OG
/-! ### f(k = v, ..): keywords alone -/
theorem pe_callK0 {X : Cx} {CX : CXT} {k : Nat} {f : Addr} {fd : FuncData} {ps ks : List Str} {sp : Sp} {E : XK} {x : Str} {p pos : Pos} {kws : List Keyword} {tk : TA} {g : List Value → List Value → List Value} {gV : List V → List V → List V}
    (F : FnOk X.prog X.w X.K X.mg X.base CX k f fd ps sp) (hr : Room k X.A) (hg : Gl X x) (hm : X.mg x = some (.ref f)) (hk : PySem.W.keepIn X.K (.ref f) = true) (hb : KBinds X.K fd ps ks g gV) (hx : Passes CX X E)
    (hkw : PK X kws tk) (hall : (backToKw pos (keywordEach kws X.env)).all (·.1.isSome) = true := by rfl) (hks : (backToKw pos (keywordEach kws X.env)).filterMap (·.1) = ks := by rfl)
    (hdb : (x == ("__debug__" : Str)) = false := by decide) (hpl : ((backTo pos (starEach [] X.env)).any (·.1) || (backToKw pos (keywordEach kws X.env)).any (·.1.isNone)) = false := by rfl) :
    PE X (.Call (.Name x p) [] kws pos) (tCallK sp gV E tNil tk) := by
  refine ⟨fun pins s σ H Q I h => ?_⟩
  refine wpAny_Call_Name_kw (ld_glob I hg hm ?_ hdb)
  refine PySem.W.callWith_KW0 (h₀ := X.base) I.ok.mod.kin hk hall (thn (hkw.run pos pins s σ H _ I h) fun ws s2 ⟨zs, H2, I2, rz, q2⟩ => ⟨I2.kIn, ?_⟩) hpl
  rw [hks]
  exact run_fnk (us := []) (vs := []) F hr hb hx I2 .nil rz q2
def gThree {α : Type} : List α → List α → List α
  | [], [o, a, r] => [a, o, r]
  | _, _ => []
def gTwo {α : Type} : List α → List α → List α
  | [], [o, a] => [a, o]
  | _, _ => []
section
variable {K : PySem.W.Frag}
theorem kb_angle_sum_other_one_root {f : Addr} {fd : FuncData} (F : Fun K "angle_sum" "angle_sum" s_angle_sum f fd) : KBinds K fd ["one", "other", "root"] ["other", "one", "root"] gThree gThree := by
  obtain ⟨oc, od, kV, doc, pm, an, cdv, ct, osl, rfl, lk, hcd⟩ := F.ex
  refine ⟨fun s us ws hK hl => ?_, fun {vs us zs ws} r rz => ?_⟩
  · match us, ws, hl with
    | [], [o, a, r], _ => exact .of_eq rfl
    | _ :: _, _, hl => exact absurd hl (by simp [gThree])
    | [], [], hl => exact absurd hl (by simp [gThree])
    | [], [_], hl => exact absurd hl (by simp [gThree])
    | [], [_, _], hl => exact absurd hl (by simp [gThree])
    | [], _ :: _ :: _ :: _ :: _, hl => exact absurd hl (by simp [gThree])
  · cases r with
    | cons _ _ => exact .nil
    | nil =>
      cases rz with
      | nil => exact .nil
      | cons r1 rz =>
        cases rz with
        | nil => exact .nil
        | cons r2 rz =>
          cases rz with
          | nil => exact .nil
          | cons r3 rz =>
            cases rz with
            | nil => exact .cons r2 (.cons r1 (.cons r3 .nil))
            | cons _ _ => exact .nil
theorem kb_order_of_angles_other_one {f : Addr} {fd : FuncData} (F : Fun K "order_of_angles" "order_of_angles" s_order_of_angles f fd) : KBinds K fd ["one", "other"] ["other", "one"] gTwo gTwo := by
  obtain ⟨oc, od, kV, doc, pm, an, cdv, ct, osl, rfl, lk, hcd⟩ := F.ex
  refine ⟨fun s us ws hK hl => ?_, fun {vs us zs ws} r rz => ?_⟩
  · match us, ws, hl with
    | [], [o, a], _ => exact .of_eq rfl
    | _ :: _, _, hl => exact absurd hl (by simp [gTwo])
    | [], [], hl => exact absurd hl (by simp [gTwo])
    | [], [_], hl => exact absurd hl (by simp [gTwo])
    | [], _ :: _ :: _ :: _, hl => exact absurd hl (by simp [gTwo])
  · cases r with
    | cons _ _ => exact .nil
    | nil =>
      cases rz with
      | nil => exact .nil
      | cons r1 rz =>
        cases rz with
        | nil => exact .nil
        | cons r2 rz =>
          cases rz with
          | nil => exact .cons r2 (.cons r1 .nil)
          | cons _ _ => exact .nil
end
/-! ### the plain law -/
def a0 : Ang := (0, none)
theorem add_l (r : Rat) (a : Ang) : aadd r a0 a = a := by
  obtain ⟨h, l⟩ := a
  show ((0 : Int) + h, l) = (h, l)
  rw [Int.zero_add]
theorem add_r (r : Rat) (a : Ang) : aadd r a a0 = a := by
  obtain ⟨h, l⟩ := a
  cases l with
  | none => show (h + 0, none) = _; rw [Int.add_zero]
  | some x => show (h + 0, some x) = _; rw [Int.add_zero]
/-- the sum of two leans: half rounds more, the lean -/
def ladd (r x y : Rat) : Ang := if x + y = 0 then (1, none) else (if 0 < x + y then 0 else 1, some ((x * y - r) / (x + y)))
theorem aadd_ss (r x y : Rat) (h k : Int) : aadd r (h, some x) (k, some y) = (h + k + (ladd r x y).1, (ladd r x y).2) := by
  show (if x + y = 0 then (h + k + 1, none) else (if 0 < x + y then h + k else h + k + 1, some ((x * y - r) / (x + y)))) = _
  unfold ladd
  by_cases c : x + y = 0
  · rw [if_pos c, if_pos c]
  · rw [if_neg c, if_neg c]
    by_cases d : 0 < x + y
    · rw [if_pos d, if_pos d]
      show (h + k, _) = (h + k + 0, _)
      rw [Int.add_zero]
    · rw [if_neg d, if_neg d]
theorem div_sign {a b : Rat} (hb : 0 < b) : (0 < a / b ↔ 0 < a) ∧ True := by
  have hb0 : b ≠ 0 := by grind
  have e : a / b * b = a := Rat.div_mul_cancel hb0
  refine ⟨⟨fun z => ?_, fun z => ?_⟩, trivial⟩
  · have := Rat.mul_pos z hb
    rw [e] at this
    exact this
  · rw [Rat.div_def]
    exact Rat.mul_pos z (Rat.inv_pos.mpr hb)
theorem div_zero' {a b : Rat} (h : b ≠ 0) : a / b = 0 ↔ a = 0 := by
  have e : a / b * b = a := Rat.div_mul_cancel h
  refine ⟨fun z => ?_, fun z => by rw [z, Rat.div_def, Rat.zero_mul]⟩
  rw [z, Rat.zero_mul] at e
  exact e.symm
theorem div_neg' (a b : Rat) : a / b = -a / -b := by grind
theorem frac1 {a S z r T : Rat} (hS : S ≠ 0) (hT : T ≠ 0) : (a / S * z - r) / (T / S) = (a * z - r * S) / T := by grind
theorem frac2 {a S z r T : Rat} (hS : S ≠ 0) (hT : T ≠ 0) : (z * (a / S) - r) / (T / S) = (z * a - r * S) / T := by grind
/-- sign and value of the second sum -/
theorem lean3 {r x y z : Rat} (hs : x + y ≠ 0) : (x * y - r) / (x + y) + z = (x * y + x * z + y * z - r) / (x + y) := by grind
theorem prod_neg {a b : Rat} (ha : 0 < a) (hb : b < 0) : a * b < 0 := by
  have := Rat.mul_pos ha (show 0 < -b by grind)
  grind
theorem sum3 {r x y z : Rat} (hr : 0 < r) (hs : x + y ≠ 0) (ht : y + z ≠ 0) :
    aadd r (ladd r x y) (0, some z) = aadd r (0, some x) (ladd r y z) := by
  have e1 : ladd r x y = (if 0 < x + y then 0 else 1, some ((x * y - r) / (x + y))) := if_neg hs
  have e2 : ladd r y z = (if 0 < y + z then 0 else 1, some ((y * z - r) / (y + z))) := if_neg ht
  rw [e1, e2, aadd_ss, aadd_ss]
  have l3 : (x * y - r) / (x + y) + z = (x * y + x * z + y * z - r) / (x + y) := lean3 hs
  have r3 : x + (y * z - r) / (y + z) = (x * y + x * z + y * z - r) / (y + z) := by grind
  have key : (x + y) * (y + z) = (x * y + x * z + y * z - r) + y * y + r := by grind
  have yy := sq_nn y
  unfold ladd
  rw [l3, r3]
  have ev : x * y + x * z + y * z - r ≠ 0 → ((x * y - r) / (x + y) * z - r) / ((x * y + x * z + y * z - r) / (x + y)) = (x * ((y * z - r) / (y + z)) - r) / ((x * y + x * z + y * z - r) / (y + z)) := fun h => by
    rw [frac1 hs h, frac2 ht h]
    congr 1
    grind
  generalize x * y + x * z + y * z - r = T at *
  have hA : T / (x + y) = 0 ↔ T = 0 := div_zero' hs
  have hB : T / (y + z) = 0 ↔ T = 0 := div_zero' ht
  simp only [hA, hB]
  by_cases c : T = 0
  · simp only [if_pos c]
    by_cases s : 0 < x + y
    · by_cases t : 0 < y + z
      · simp only [if_pos s, if_pos t] <;> rfl
      · have pn := prod_neg s (show y + z < 0 by grind)
        exact absurd c (by grind)
    · by_cases t : 0 < y + z
      · have pn := prod_neg t (show x + y < 0 by grind)
        exact absurd c (by grind)
      · simp only [if_neg s, if_neg t] <;> rfl
  · simp only [if_neg c, ev c]
    by_cases s : 0 < x + y
    · by_cases t : 0 < y + z
      · have q : 0 < T / (x + y) ↔ 0 < T / (y + z) := by rw [(div_sign s).1, (div_sign t).1]
        simp only [if_pos s, if_pos t, q] <;> rfl
      · have t' : y + z < 0 := by grind
        have pn := prod_neg s t'
        have A : ¬ 0 < T / (x + y) := fun h => by have := (div_sign s).1.mp h; grind
        have B : 0 < T / (y + z) := by rw [div_neg' T]; exact (div_sign (show 0 < -(y + z) by grind)).1.mpr (by grind)
        simp only [if_pos s, if_neg t, if_neg A, if_pos B] <;> rfl
    · have s' : x + y < 0 := by grind
      by_cases t : 0 < y + z
      · have pn := prod_neg t s'
        have A : 0 < T / (x + y) := by rw [div_neg' T]; exact (div_sign (show 0 < -(x + y) by grind)).1.mpr (by grind)
        have B : ¬ 0 < T / (y + z) := fun h => by have := (div_sign t).1.mp h; grind
        simp only [if_neg s, if_pos t, if_pos A, if_neg B] <;> rfl
      · have q : 0 < T / (x + y) ↔ 0 < T / (y + z) := by
          rw [div_neg' T, div_neg' T, (div_sign (show 0 < -(x + y) by grind)).1, (div_sign (show 0 < -(y + z) by grind)).1]
        simp only [if_neg s, if_neg t, q] <;> rfl
end K8


set_option Elab.async false
set_option linter.all false
set_option maxRecDepth 100000
set_option maxHeartbeats 4000000
set_option exponentiation.threshold 10000
namespace K8
open PySem PySem.Spec PyProof.Rows L2 OG
def ll (r : Rat) : Option Rat → Option Rat → Ang
  | none, m => (0, m)
  | some x, none => (0, some x)
  | some x, some y => ladd r x y
theorem aadd_ll (r : Rat) (a b : Ang) : aadd r a b = (a.1 + b.1 + (ll r a.2 b.2).1, (ll r a.2 b.2).2) := by
  obtain ⟨h, l⟩ := a
  obtain ⟨k, m⟩ := b
  cases l with
  | none => show (h + k, m) = (h + k + 0, m); rw [Int.add_zero]
  | some x =>
    cases m with
    | none => show (h + k, some x) = (h + k + 0, some x); rw [Int.add_zero]
    | some y => exact aadd_ss r x y h k
theorem half1 {r x y z : Rat} (hr : 0 < r) (hs : x + y = 0) (ht : y + z ≠ 0) : aadd r (0, some x) (ladd r y z) = (1, some z) := by
  have e2 : ladd r y z = (if 0 < y + z then 0 else 1, some ((y * z - r) / (y + z))) := if_neg ht
  have hx : x = -y := by grind
  subst hx
  rw [e2, aadd_ss]
  have yy := sq_nn y
  have r3 : -y + (y * z - r) / (y + z) = (-(y * y) - r) / (y + z) := by grind
  have hT : -(y * y) - r ≠ 0 := by grind
  have hn : -(y * y) - r < 0 := by grind
  have el : (-y * ((y * z - r) / (y + z)) - r) / ((-(y * y) - r) / (y + z)) = z := by
    rw [frac2 ht hT]
    have : -y * (y * z - r) - r * (y + z) = z * (-(y * y) - r) := by grind
    rw [this]
    grind
  unfold ladd
  rw [r3]
  have hB : (-(y * y) - r) / (y + z) = 0 ↔ -(y * y) - r = 0 := div_zero' ht
  simp only [hB, if_neg hT, el]
  by_cases t : 0 < y + z
  · have B : ¬ 0 < (-(y * y) - r) / (y + z) := fun h => by have := (div_sign t).1.mp h; grind
    simp only [if_pos t, if_neg B] <;> rfl
  · have B : 0 < (-(y * y) - r) / (y + z) := by rw [div_neg' (-(y * y) - r)]; exact (div_sign (show 0 < -(y + z) by grind)).1.mpr (by grind)
    simp only [if_neg t, if_pos B] <;> rfl
theorem half2 {r x y z : Rat} (hr : 0 < r) (hs : x + y ≠ 0) (ht : y + z = 0) : aadd r (ladd r x y) (0, some z) = (1, some x) := by
  have e2 : ladd r x y = (if 0 < x + y then 0 else 1, some ((x * y - r) / (x + y))) := if_neg hs
  have hx : z = -y := by grind
  subst hx
  rw [e2, aadd_ss]
  have yy := sq_nn y
  have r3 : (x * y - r) / (x + y) + -y = (-(y * y) - r) / (x + y) := by grind
  have hT : -(y * y) - r ≠ 0 := by grind
  have hn : -(y * y) - r < 0 := by grind
  have el : ((x * y - r) / (x + y) * -y - r) / ((-(y * y) - r) / (x + y)) = x := by
    rw [frac1 hs hT]
    have : (x * y - r) * -y - r * (x + y) = x * (-(y * y) - r) := by grind
    rw [this]
    grind
  unfold ladd
  rw [r3]
  have hB : (-(y * y) - r) / (x + y) = 0 ↔ -(y * y) - r = 0 := div_zero' hs
  simp only [hB, if_neg hT, el]
  by_cases t : 0 < x + y
  · have B : ¬ 0 < (-(y * y) - r) / (x + y) := fun h => by have := (div_sign t).1.mp h; grind
    simp only [if_pos t, if_neg B] <;> rfl
  · have B : 0 < (-(y * y) - r) / (x + y) := by rw [div_neg' (-(y * y) - r)]; exact (div_sign (show 0 < -(x + y) by grind)).1.mpr (by grind)
    simp only [if_neg t, if_pos B] <;> rfl
theorem ll3 {r : Rat} (hr : 0 < r) (l m n : Option Rat) : aadd r (ll r l m) (0, n) = aadd r (0, l) (ll r m n) := by
  cases l with
  | none =>
    show aadd r (0, m) (0, n) = aadd r (0, none) (ll r m n)
    rw [show ((0 : Int), (none : Option Rat)) = a0 from rfl, add_l, aadd_ll]
    show (0 + 0 + (ll r m n).1, (ll r m n).2) = _
    rw [Int.add_zero, Int.zero_add]
  | some x =>
    cases n with
    | none =>
      rw [show ((0 : Int), (none : Option Rat)) = a0 from rfl, add_r]
      cases m with
      | none => rfl
      | some y =>
        show ladd r x y = aadd r (0, some x) (0, some y)
        rw [aadd_ss]
        show _ = (0 + 0 + (ladd r x y).1, (ladd r x y).2)
        rw [Int.add_zero, Int.zero_add]
    | some z =>
      cases m with
      | none => rfl
      | some y =>
        show aadd r (ladd r x y) (0, some z) = aadd r (0, some x) (ladd r y z)
        by_cases hs : x + y = 0
        · have e1 : ladd r x y = (1, none) := if_pos hs
          rw [e1]
          by_cases ht : y + z = 0
          · have e2 : ladd r y z = (1, none) := if_pos ht
            rw [e2]
            have : x = z := by grind
            subst this
            rfl
          · rw [half1 hr hs ht]
            rfl
        · by_cases ht : y + z = 0
          · have e2 : ladd r y z = (1, none) := if_pos ht
            rw [e2, half2 hr hs ht]
            rfl
          · exact sum3 hr hs ht
theorem add_assoc {r : Rat} (hr : 0 < r) (a b c : Ang) : aadd r (aadd r a b) c = aadd r a (aadd r b c) := by
  have k := ll3 hr a.2 b.2 c.2
  rw [aadd_ll, aadd_ll r (0, a.2)] at k
  rw [aadd_ll r (aadd r a b) c, aadd_ll r a (aadd r b c), aadd_ll r a b, aadd_ll r b c]
  have k1 := congrArg Prod.fst k
  have k2 := congrArg Prod.snd k
  dsimp only at k1 k2 ⊢
  rw [k2]
  refine congrArg (fun i => (i, _)) ?_
  omega
/-- the sum from the left -/
def asum (r : Rat) (as : List Ang) : Ang := as.foldl (aadd r) a0
theorem foldl_add {r : Rat} (hr : 0 < r) : ∀ (as : List Ang) (x : Ang), as.foldl (aadd r) x = aadd r x (asum r as)
  | [], x => (add_r r x).symm
  | a :: as, x => by
    show as.foldl (aadd r) (aadd r x a) = aadd r x (as.foldl (aadd r) (aadd r a0 a))
    rw [foldl_add hr as (aadd r x a), foldl_add hr as (aadd r a0 a), add_l, add_assoc hr]
theorem asum_cons {r : Rat} (hr : 0 < r) (a : Ang) (as : List Ang) : asum r (a :: as) = aadd r a (asum r as) := by
  show as.foldl (aadd r) (aadd r a0 a) = _
  rw [add_l, foldl_add hr]
theorem asum_told {r : Rat} (hr : 0 < r) : ∀ (as : List Ang) (t : Tld), Half t → angOf (as.foldl (stepT r) t) = as.foldl (aadd r) (angOf t)
  | [], t, _ => rfl
  | a :: as, t, ht => by
    obtain ⟨h1, h2⟩ := step_law (g := a) hr ht
    show angOf (as.foldl (stepT r) (stepT r t a)) = as.foldl (aadd r) (aadd r (angOf t) a)
    rw [asum_told hr as _ h1, h2]
theorem asum_is {r : Rat} (hr : 0 < r) (as : List Ang) : angOf (toldOf r as) = asum r as := asum_told hr as told0 (.inr ⟨rfl, (by decide : (0 : Rat) < 1)⟩)
/-- the first angles' sum, one more -/
theorem asum_next {r : Rat} {as : List Ang} {i : Nat} {a : Ang} (h : as[i]? = some a) : asum r (as.take (i + 1)) = aadd r (asum r (as.take i)) a := by
  unfold asum
  rw [List.take_succ, h, List.foldl_append]
  rfl
/-- halves stay small -/
theorem asum_h {r : Rat} : ∀ (as : List Ang) (x : Ang) (n : Int), (∀ a ∈ as, 0 ≤ a.1 ∧ a.1 ≤ 1000) → 0 ≤ x.1 → x.1 ≤ n → 0 ≤ (as.foldl (aadd r) x).1 ∧ (as.foldl (aadd r) x).1 ≤ n + 1001 * as.length
  | [], x, n, _, h0, h1 => ⟨h0, by show x.1 ≤ n + 1001 * ((0 : Nat) : Int); omega⟩
  | a :: as, x, n, hg, h0, h1 => by
    have ha := hg a (List.mem_cons_self ..)
    have hl : 0 ≤ (ll r x.2 a.2).1 ∧ (ll r x.2 a.2).1 ≤ 1 := by
      cases x.2 with
      | none => exact ⟨Int.le_refl 0, by show (0 : Int) ≤ 1; decide⟩
      | some u =>
        cases a.2 with
        | none => exact ⟨Int.le_refl 0, by show (0 : Int) ≤ 1; decide⟩
        | some v =>
          show 0 ≤ (ladd r u v).1 ∧ (ladd r u v).1 ≤ 1
          unfold ladd
          split
          · exact ⟨by show (0 : Int) ≤ 1; decide, by show (1 : Int) ≤ 1; decide⟩
          · dsimp only
            split <;> exact ⟨by decide, by decide⟩
    have e := aadd_ll r x a
    have e1 : (aadd r x a).1 = x.1 + a.1 + (ll r x.2 a.2).1 := by rw [e]
    have k := asum_h (r := r) as (aadd r x a) (n + 1001) (fun b hb => hg b (List.mem_cons_of_mem _ hb)) (by omega) (by omega)
    have el : ((a :: as).length : Int) = (as.length : Int) + 1 := by rw [List.length_cons]; omega
    show 0 ≤ (as.foldl (aadd r) (aadd r x a)).1 ∧ (as.foldl (aadd r) (aadd r x a)).1 ≤ n + 1001 * ((a :: as).length : Int)
    rw [el]
    omega
theorem quot_sz {s : Nat} {a b : Rat} (h : NumOk s a b) (hb : b ≠ 0) : Sz s (a / b) := by
  obtain ⟨A, B, D, h0, h1, h2, h3, rfl, rfl⟩ := h
  have hB : B ≠ 0 := fun z => hb (by rw [z, Rat.zero_divInt])
  have d0 : (D : Rat) ≠ 0 := by exact_mod_cast h0
  have b0 : (B : Rat) ≠ 0 := by exact_mod_cast hB
  have e : Rat.divInt A D / Rat.divInt B D = Rat.divInt A B := by
    rw [Rat.divInt_eq_div, Rat.divInt_eq_div, Rat.divInt_eq_div]
    grind
  rw [e]
  exact sz_divInt hB h1 h2
/-- an angle of the sums: small -/
def SumOk (a : Ang) : Prop := 0 ≤ a.1 ∧ a.1 ≤ 7000 ∧ ∀ x, a.2 = some x → Sz 800 x
theorem asum_ok {r : Rat} (hr : 0 < r) (zr : Sz 50 r) {as : List Ang} (hl : as.length ≤ 6) (hh : ∀ a ∈ as, 0 ≤ a.1 ∧ a.1 ≤ 1000) (hg : ∀ a ∈ as, GoodA a) : SumOk (asum r as) := by
  have k := asum_h (r := r) as a0 0 hh (Int.le_refl 0) (Int.le_refl 0)
  refine ⟨k.1, by unfold asum; omega, fun x hx => ?_⟩
  rw [← asum_is hr] at hx
  obtain ⟨h1, h2⟩ := told_ok hr zr hg as.length (Nat.le_refl _)
  rw [List.take_length] at h1 h2
  have e : (angOf (toldOf r as)).2 = if (toldOf r as).b = 0 then none else some ((toldOf r as).a / (toldOf r as).b) := rfl
  rw [e] at hx
  by_cases c : (toldOf r as).b = 0
  · rw [if_pos c] at hx
    cases hx
  · rw [if_neg c] at hx
    cases hx
    exact (quot_sz h2 c).mono (by omega)
theorem good_ok {a : Ang} (h0 : 0 ≤ a.1) (h1 : a.1 ≤ 1000) (g : GoodA a) : SumOk a := ⟨h0, by omega, fun x hx => (g x hx).mono (by decide)⟩
theorem SumOk.osz {a : Ang} (h : SumOk a) : OSz a.2 := fun x hx => (h.2.2 x hx).mono (by decide)
theorem jsz {r : Rat} {a b : Ang} (ha : SumOk a) (hb : SumOk b) (zr : Sz 50 r) : JSz r a.2 b.2 := fun x y hx hy => by
  have zx := ha.2.2 x hx
  have zy := hb.2.2 y hy
  exact ⟨zx.mono (by decide), zy.mono (by decide), zr.mono (by decide), (sz_add zx zy).mono (by decide), (sz_mul zx zy).mono (by decide), (sz_sub (sz_mul zx zy) zr).mono (by decide)⟩
/-! order -/
theorem ord_swap (x y : Rat) : ord x y = 0 - ord y x := by
  unfold ord
  grind
theorem aord_swap (a b : Ang) : aord b a = 0 - aord a b := by
  obtain ⟨h, l⟩ := a
  obtain ⟨k, m⟩ := b
  unfold aord
  by_cases e : h = k
  · subst e
    rw [if_neg (fun z => z rfl), if_neg (fun z => z rfl)]
    cases l with
    | none => cases m <;> rfl
    | some x =>
      cases m with
      | none => rfl
      | some y => exact ord_swap x y
  · rw [if_pos e, if_pos (fun z => e z.symm)]
    show (if k < h then (-1 : Int) else 1) = 0 - if h < k then -1 else 1
    by_cases c : h < k
    · rw [if_neg (by omega), if_pos c]
      rfl
    · rw [if_pos (by omega), if_neg c]
      rfl
theorem aord_self (a : Ang) : aord a a = 0 := by
  have := aord_swap a a
  omega
/-- a sum is greater than its first angle, or the second is nothing -/
theorem aord_sum {r : Rat} (hr : 0 < r) {a b : Ang} (hb : 0 ≤ b.1) : aord (aadd r a b) a = if b = (0, none) then 0 else 1 := by
  obtain ⟨h, l⟩ := a
  obtain ⟨k, m⟩ := b
  have hb' : 0 ≤ k := hb
  by_cases z : (k, m) = ((0 : Int), (none : Option Rat))
  · rw [if_pos z, show ((k, m) : Ang) = a0 from z, add_r, aord_self]
  · rw [if_neg z, aadd_ll]
    show aord (h + k + (ll r l m).1, (ll r l m).2) (h, l) = 1
    have gt : ∀ (i : Int) (n : Option Rat), 0 < i → aord (h + k + i, n) (h, l) = 1 := fun i n hi => by
      unfold aord
      dsimp only
      rw [if_pos (by omega), if_neg (by omega)]
    have gt0 : ∀ (n : Option Rat), 0 < k → aord (h + k + 0, n) (h, l) = 1 := fun n hi => by
      unfold aord
      dsimp only
      rw [if_pos (by omega), if_neg (by omega)]
    have same : ∀ (n : Option Rat), k = 0 → aord (h + k + 0, n) (h, l) = aord (0, n) (0, l) := fun n hk => by
      subst hk
      unfold aord
      dsimp only
      rw [Int.add_zero, Int.add_zero, if_neg (fun z => z rfl), if_neg (fun z => z rfl)]
    by_cases hk : k = 0
    · cases m with
      | none => exact absurd (by rw [hk]) z
      | some y =>
        cases l with
        | none =>
          show aord (h + k + 0, some y) (h, none) = 1
          rw [same _ hk]
          rfl
        | some x =>
          show aord (h + k + (ladd r x y).1, (ladd r x y).2) (h, some x) = 1
          unfold ladd
          by_cases c : x + y = 0
          · rw [if_pos c]
            exact gt 1 none (by decide)
          · rw [if_neg c]
            by_cases d : 0 < x + y
            · rw [if_pos d]
              show aord (h + k + 0, some ((x * y - r) / (x + y))) (h, some x) = 1
              rw [same _ hk]
              show ord x ((x * y - r) / (x + y)) = 1
              have xx := sq_nn x
              have e : x - (x * y - r) / (x + y) = (x * x + r) / (x + y) := by grind
              have p : 0 < (x * x + r) / (x + y) := (div_sign d).1.mpr (by grind)
              have lt : (x * y - r) / (x + y) < x := by grind
              unfold ord
              rw [if_pos lt]
            · rw [if_neg d]
              exact gt 1 _ (by decide)
    · cases l with
      | none => exact gt0 m (by omega)
      | some x =>
        cases m with
        | none => exact gt0 _ (by omega)
        | some y =>
          show aord (h + k + (ladd r x y).1, (ladd r x y).2) (h, some x) = 1
          unfold ladd
          by_cases c : x + y = 0
          · rw [if_pos c]
            exact gt 1 none (by decide)
          · rw [if_neg c]
            by_cases d : 0 < x + y
            · rw [if_pos d]
              exact gt0 _ (by omega)
            · rw [if_neg d]
              exact gt 1 _ (by decide)
end K8


set_option Elab.async false
set_option linter.all false
set_option maxRecDepth 100000
set_option maxHeartbeats 4000000
set_option exponentiation.threshold 10000
namespace K8
open PySem PySem.Spec PyProof.Rows L2 OG
theorem un65 {k : Nat} {A : Around} (r : Room k A) : A.units + 65 < cLine := by have := r.un; omega
/-! ### shown -/
theorem log_lt {n : Nat} {i : Int} (h : SzI n i) (h0 : 0 < n) : i.natAbs.log2 < n := by
  by_cases c : i.natAbs = 0
  · rw [c]
    exact h0
  · exact (Nat.log2_lt c).mpr h
theorem int_show {n : Nat} {i : Int} (h : SzI n i) (h0 : 0 < n) (h1 : n ≤ 999) : (PyData.shown (.int i)).length ≤ 1000 := by
  have e := int_text_length_le h0 (log_lt h h0)
  have e2 : (PyData.shown (.int i)).length = (toString i).length := by
    show (Str.ofString (toString i)).length = _
    exact PySem.ofString_length _
  omega
theorem int_able {n : Nat} {i : Int} (h : SzI n i) (h0 : 0 < n) (h1 : n ≤ 1920) : PyData.showable (.int i) = true := decide_eq_true (Nat.lt_of_lt_of_le (log_lt h h0) h1)
theorem int_weight {n : Nat} {i : Int} (h : SzI n i) (h0 : 0 < n) : PyData.weight (.int i) ≤ n := by
  have := log_lt h h0
  show (if i == 0 then 0 else i.natAbs.log2 + 1) ≤ n
  split <;> omega
structure Shw (d : PyData) : Prop where
  a : d.showable = true
  n : d.hasDict = false
  p : d.depth ≤ 64
  l : d.shown.length ≤ sizeLine
theorem shw_an {a : Ang} (h : SumOk a) : Shw (dAn a) := by
  obtain ⟨i, l⟩ := a
  obtain ⟨h0, h1, h2⟩ := h
  have zi : SzI 20 i := by
    show i.natAbs < 2 ^ 20
    have : (2 : Nat) ^ 20 = 1048576 := by decide
    have h0' : 0 ≤ i := h0
    have h1' : i ≤ 7000 := h1
    omega
  cases l with
  | none =>
    refine ⟨?_, rfl, by show 1 ≤ 64; decide, ?_⟩
    · show (PyData.showable (.int i) && (true && true)) = true
      rw [int_able zi (by decide) (by decide)]
      rfl
    · have k := PyData.shown_le 1000 (by decide) (dAn (i, none)) (by
        show (decide _ && (true && true)) = true
        rw [decide_eq_true (int_show zi (by decide) (by decide))]
        rfl)
      have w : (dAn (i, none)).weight ≤ 2000 := by
        have a1 := int_weight zi (by decide)
        show PyData.weight (.int i) + 1 + (0 + 1 + 0) ≤ 2000
        omega
      have : (1000 + 2) * (dAn (i, none)).weight ≤ (1000 + 2) * 2000 := Nat.mul_le_mul_left _ w
      rw [sizeLine_eq]
      omega
  | some x =>
    have zx := h2 x rfl
    refine ⟨?_, rfl, by show 2 ≤ 64; decide, ?_⟩
    · show (PyData.showable (.int i) && ((PyData.showable (.int x.num) && (PyData.showable (.int (x.den : Int)) && true)) && true)) = true
      rw [int_able zi (by decide) (by decide), int_able zx.1 (by decide) (by decide), int_able zx.2 (by decide) (by decide)]
      rfl
    · have k := PyData.shown_le 1000 (by decide) (dAn (i, some x)) (by
        show (decide _ && ((decide _ && (decide _ && true)) && true)) = true
        rw [decide_eq_true (int_show zi (by decide) (by decide)), decide_eq_true (int_show zx.1 (by decide) (by decide)), decide_eq_true (int_show zx.2 (by decide) (by decide))]
        rfl)
      have w : (dAn (i, some x)).weight ≤ 2000 := by
        have a1 := int_weight zi (by decide)
        have a2 := int_weight zx.1 (by decide)
        have a3 := int_weight zx.2 (by decide)
        show PyData.weight (.int i) + 1 + ((PyData.weight (.int x.num) + 1 + (PyData.weight (.int (x.den : Int)) + 1 + 0)) + 1 + 0) ≤ 2000
        omega
      have : (1000 + 2) * (dAn (i, some x)).weight ≤ (1000 + 2) * 2000 := Nat.mul_le_mul_left _ w
      rw [sizeLine_eq]
      omega
def dInts (i j k : Int) : PyData := .list [.int i, .int j, .int k]
theorem shw_ints {i j k : Int} (hi : SzI 20 i) (hj : SzI 20 j) (hk : SzI 20 k) : Shw (dInts i j k) := by
  refine ⟨?_, rfl, by show 1 ≤ 64; decide, ?_⟩
  · show (PyData.showable (.int i) && (PyData.showable (.int j) && (PyData.showable (.int k) && true))) = true
    rw [int_able hi (by decide) (by decide), int_able hj (by decide) (by decide), int_able hk (by decide) (by decide)]
    rfl
  · have q := PyData.shown_le 1000 (by decide) (dInts i j k) (by
      show (decide _ && (decide _ && (decide _ && true))) = true
      rw [decide_eq_true (int_show hi (by decide) (by decide)), decide_eq_true (int_show hj (by decide) (by decide)), decide_eq_true (int_show hk (by decide) (by decide))]
      rfl)
    have w : (dInts i j k).weight ≤ 2000 := by
      have a1 := int_weight hi (by decide)
      have a2 := int_weight hj (by decide)
      have a3 := int_weight hk (by decide)
      show PyData.weight (.int i) + 1 + (PyData.weight (.int j) + 1 + (PyData.weight (.int k) + 1 + 0)) ≤ 2000
      omega
    have : (1000 + 2) * (dInts i j k).weight ≤ (1000 + 2) * 2000 := Nat.mul_le_mul_left _ w
    rw [sizeLine_eq]
    omega
section
variable {P : Program} {w : World} {K : PySem.W.Frag} {mg : Str → Option Value} {base : Heap} {A : Ad}
theorem AnT.vl {H : Hp} {l : Addr} {h : Int} {w0 : V} {m : Option Rat} (q : SqL K H l [.int h, w0]) (k : LeT K H w0 m) (h0 : 0 ≤ h) (h1 : h ≤ 1000000) (hz : OSz m) : AnV K H (.ref l) (.ok h m) := by
  cases m with
  | none =>
    obtain rfl : w0 = .non := k
    refine .seq (.inl q) (fm_cons (.int _) (fm_cons .non fm_nil)) (by show 2 ≤ 100; decide) ?_
    have e : rng h none = .ok h none := if_pos ⟨h0, h1⟩
    rw [← e]
    exact .none h
  | some x =>
    have fx : FrT K H w0 x := k
    have fv := fx.fr (hz x rfl)
    refine .seq (.inl q) (fm_cons (.int _) (fm_cons fv.knd fm_nil)) (by show 2 ≤ 100; decide) ?_
    have e : outFr h (some x) = .ok h (some x) := if_pos ⟨h0, h1⟩
    rw [← e]
    refine .fr h (fun z => ?_) fv
    obtain ⟨b, rfl, _⟩ := fx
    cases z
theorem AnT.vs {H : Hp} {v : V} {a : Ang} (k : AnT K H v a.1 a.2) (s : SumOk a) : AnV K H v (.ok a.1 a.2) := k.v s.1 (by have := s.2.1; omega) s.osz
theorem sum_good {H : Hp} {Q : VK} {E : XK} {v1 v2 v3 : V} {f b : Ang} {r : Rat} {r3 : Option Rat} (h1 : AnV K H v1 (.ok f.1 f.2)) (h2 : AnV K H v2 (.ok b.1 b.2)) (fr : FrV K H v3 r3) (er : r3 = some r) (sf : SumOk f) (sb : SumOk b) (zr : Sz 50 r)
    (k : ∀ v H', Same H H' → AnT K H' v (aadd r f b).1 (aadd r f b).2 → Q v H') : spAngleSum K A [v1, v2, v3] H Q E := by
  subst er
  refine ⟨v1, v2, v3, _, _, _, rfl, h1, fun _ _ _ => h2, fun _ _ _ _ _ _ => fr, ⟨nofun, fun r' e => ?_⟩⟩
  cases e
  exact ⟨jsz sf sb zr, k⟩
theorem ord_good {H : Hp} {Q : VK} {E : XK} {v1 v2 : V} {f b : Ang} (h1 : AnV K H v1 (.ok f.1 f.2)) (h2 : AnV K H v2 (.ok b.1 b.2)) (sf : SumOk f) (sb : SumOk b) (k : ∀ H', Same H H' → Q (.int (aord f b)) H') : spOrderA K A [v1, v2] H Q E :=
  ⟨v1, v2, _, _, rfl, h1, fun _ _ _ => h2, ⟨sf.osz, sb.osz, k⟩⟩
/-! ### lists -/
theorem cut1 {xs : List V} (h : 1 ≤ xs.length) : cutV xs (some 1) none = xs.drop 1 := by
  unfold cutV
  have e1 : HT.sIx xs.length 0 (some 1) = 1 := by
    rw [show (1 : Int) = ((1 : Nat) : Int) from rfl, HT.sIx_nat]
    omega
  rw [e1, HT.sIx_none, List.take_of_length_le (by rw [List.length_drop]; omega)]
theorem atI_end {xs : List V} {v : V} (h : xs[xs.length - 1]? = some v) : atI xs (-1) = some v := by
  have h1 : 0 < xs.length := by
    cases xs with
    | nil => cases h
    | cons x xs => show 0 < xs.length + 1; omega
  have e : xs = xs.take (xs.length - 1) ++ [v] := by
    have k := List.take_succ (l := xs) (i := xs.length - 1)
    rw [h, Nat.sub_add_cancel h1, List.take_length] at k
    exact k
  rw [e]
  exact atI_last _ _
/-- all but one list stays -/
def LstW (D : Addr) (H H' : Hp) : Prop := (∃ xs, H D = some (.lst xs)) ∧ ∀ b u, b ≠ D → H b = some u → H' b = some u
section
variable {H H' : Hp} {D a : Addr} {xs : List V} {v : V}
theorem lstW_upd {o : HO} (h : H D = some (.lst xs)) : LstW D H (upd H D o) := ⟨⟨xs, h⟩, fun b u n e => by rw [upd_ne n]; exact e⟩
theorem LstW.t (e : LstW D H H') (h : SqT K H a xs) : SqT K H' a xs := by
  obtain ⟨ys, hp⟩ := e.1
  rcases h with (h | ⟨o, h⟩) | h
  · exact .inl (.inl (e.2 _ _ (fun z => by rw [z, hp] at h; cases h) h))
  · exact .inl (.inr ⟨o, e.2 _ _ (fun z => by rw [z, hp] at h; cases h) h⟩)
  · exact .inr h
theorem LstW.fr {x : Rat} (e : LstW D H H') (h : FrT K H v x) : FrT K H' v x := let ⟨a, h1, h2⟩ := h; ⟨a, h1, e.t h2⟩
theorem LstW.an {h : Int} {l : Option Rat} (e : LstW D H H') (k : AnT K H v h l) : AnT K H' v h l := by
  obtain ⟨a, w, h1, h2, h3⟩ := k
  refine ⟨a, w, h1, e.t h2, ?_⟩
  cases l with
  | none => exact h3
  | some x => exact e.fr h3
theorem LstW.ans {as : List Ang} (e : LstW D H H') (k : AnsT K H xs as) : AnsT K H' xs as := ⟨k.1, fun i x a h1 h2 => e.an (k.2 i x a h1 h2)⟩
theorem LstW.tabs {T : List (Addr × Str)} (e : LstW D H H') (t : LamX.Tabs T H) : LamX.Tabs T H' := fun q hq => by
  obtain ⟨ps, h1, h2, h3⟩ := t q hq
  obtain ⟨xs, hp⟩ := e.1
  refine ⟨ps, e.2 _ _ (fun z => by rw [z, hp] at h1; cases h1) h1, h2, fun pos cv hc => ?_⟩
  obtain ⟨c, e1, e2⟩ := h3 pos cv hc
  exact ⟨c, e1, e.2 _ _ (fun z => by rw [z, hp] at e2; unfold LamX.CodeO at e2; cases e2) e2⟩
theorem LstW.pen {p c : Addr} {n : Nat} (e : LstW D H H') (k : PenK H p n) (hc : HeadIs c H p) (hp : p ≠ D) (hcD : c ≠ D) : PenK H' p n ∧ HeadIs c H' p := by
  obtain ⟨c', zs, at_, rest, h1, h2, h3, h4⟩ := k
  obtain ⟨r, hr⟩ := hc
  have ec : c' = c := by
    rw [h1] at hr
    cases hr
    rfl
  subst ec
  exact ⟨⟨c', zs, at_, rest, e.2 _ _ hp h1, h2, e.2 _ _ hcD h3, h4⟩, r, e.2 _ _ hp hr⟩
theorem PenK.head {p : Addr} {n : Nat} (k : PenK H p n) (hD : H D = none) : ∃ c, HeadIs c H p ∧ p ≠ D ∧ c ≠ D := by
  obtain ⟨c', zs, at_, rest, h1, h2, h3, h4⟩ := k
  exact ⟨c', ⟨_, h1⟩, ne_of_none h1 hD, ne_of_none h3 hD⟩
theorem AnsT.snoc {as : List Ang} {g : Ang} (k : AnsT K H xs as) (h : AnT K H v g.1 g.2) : AnsT K H (xs ++ [v]) (as ++ [g]) := by
  refine ⟨by rw [List.length_append, List.length_append, k.1]; rfl, fun i x a h1 h2 => ?_⟩
  by_cases c : i < xs.length
  · rw [List.getElem?_append_left c] at h1
    rw [List.getElem?_append_left (by rw [← k.1]; exact c)] at h2
    exact k.2 i x a h1 h2
  · have hi : i = xs.length := by
      have := (List.getElem?_eq_some_iff.mp h1).1
      rw [List.length_append] at this
      have e1 : [v].length = 1 := rfl
      omega
    subst hi
    rw [List.getElem?_append_right (Nat.le_refl _), Nat.sub_self] at h1
    rw [k.1, List.getElem?_append_right (Nat.le_refl _), Nat.sub_self] at h2
    cases h1
    cases h2
    exact h
end
theorem root_ok {p q : Int} (hp : 1 ≤ p) (hp2 : p ≤ 1000000000000000) (hq : 1 ≤ q) (hq2 : q ≤ 6) : 0 < Rat.divInt p q ∧ Sz 50 (Rat.divInt p q) := by
  refine ⟨?_, sz_divInt (by omega) ?_ ?_⟩
  · rw [Rat.divInt_eq_div]
    have h1 : (0 : Rat) < (p : Rat) := by exact_mod_cast (show (0 : Int) < p by omega)
    have h2 : (0 : Rat) < (q : Rat) := by exact_mod_cast (show (0 : Int) < q by omega)
    exact (div_sign h2).1.mpr h1
  · show p.natAbs < 2 ^ 50
    have : (2 : Nat) ^ 50 = 1125899906842624 := by decide
    omega
  · show q.natAbs < 2 ^ 50
    have : (2 : Nat) ^ 50 = 1125899906842624 := by decide
    omega
end
end K8


set_option Elab.async false
set_option linter.all false
set_option maxRecDepth 100000
set_option maxHeartbeats 4000000
set_option exponentiation.threshold 10000
namespace K8
open PySem PySem.Spec PyProof.Rows L2 OG
section
variable {P : Program} {w : World} {K : PySem.W.Frag} {mg : Str → Option Value} {base : Heap} {A : Ad}
def spLaw (K : PySem.W.Frag) (A : Ad) : Sp := fun vs H Q _ => ∃ (a : Addr) (ns : List Int), vs = [.ref a] ∧ SqL K H a (ns.map V.int) ∧ LamX.Tabs (tbs A) H ∧ ∀ H', Q (.bl true) H'
theorem sz_int {n : Nat} {i : Int} (h : i.natAbs < 100) (h0 : 7 ≤ n) : Sz n (i : Rat) := by
  have h1 : SzI 7 i := Nat.lt_of_lt_of_le h (by decide)
  refine ⟨?_, ?_⟩
  · rw [Rat.num_intCast]
    exact h1.mono h0
  · rw [Rat.den_intCast]
    exact SzI.mono (a := 7) (by show (1 : Int).natAbs < 2 ^ 7; decide) h0
theorem so_int {i : Int} (h : i.natAbs < 100) : SumOk (0, some (i : Rat)) := ⟨Int.le_refl 0, (by decide : (0 : Int) ≤ 7000), fun x hx => by cases hx; exact sz_int h (by decide)⟩
theorem an_int {H : Hp} {u : Addr} {i : Int} (q : SqT K H u [.int 0, .int i]) : AnV K H (.ref u) (.ok ((0, some (i : Rat)) : Ang).1 ((0, some (i : Rat)) : Ang).2) :=
  .seq (.inr q) (fm_cons (.int _) (fm_cons (.int _) fm_nil)) (by show 2 ≤ 100; decide) (.fr 0 (fun z => by cases z) (.int i))
theorem fin1 : aadd ((1 : Int) : Rat) (0, some ((1 : Int) : Rat)) (0, some ((1 : Int) : Rat)) = (0, some 0) := by decide +kernel
theorem fin2 : aadd ((1 : Int) : Rat) (0, some ((-1 : Int) : Rat)) (0, some ((-1 : Int) : Rat)) = (1, some 0) := by decide +kernel
theorem fin3 : aadd ((5 : Int) : Rat) (0, some ((1 : Int) : Rat)) (0, some ((-1 : Int) : Rat)) = (1, none) := by decide +kernel
theorem aord_small (a b : Ang) : SzI 20 (aord a b) := by
  have h : aord a b = -1 ∨ aord a b = 0 ∨ aord a b = 1 := by
    obtain ⟨h, l⟩ := a
    obtain ⟨k, m⟩ := b
    unfold aord
    dsimp only
    split
    · split
      · exact .inl rfl
      · exact .inr (.inr rfl)
    · split
      · unfold ord
        split
        · exact .inr (.inr rfl)
        · split
          · exact .inl rfl
          · exact .inr (.inl rfl)
      · cases l <;> cases m <;> (first | exact .inl rfl | exact .inr (.inl rfl) | exact .inr (.inr rfl))
  rcases h with h | h | h <;> rw [h]
  · show (-1 : Int).natAbs < 2 ^ 20; decide
  · show (0 : Int).natAbs < 2 ^ 20; decide
  · show (1 : Int).natAbs < 2 ^ 20; decide
theorem ok_law (T : LamT K mg A) (B : LamX.TabB base mg A.cd_rr A.tb_rr) (F : Fun K "law" "law" s_law A.f_law A.d_law) : FnG P w K mg base CX0 10 A.f_law A.d_law ["script"] (spLaw K A) := by
  refine Fun_okG F sc_law (fun vs H Q E h => ?_) (fun cdv Ar outer s H vs Q E hg _ _ h => ?_)
  · obtain ⟨_, _, rfl, _⟩ := h
    rfl
  · obtain ⟨a, ns, rfl, hq, tb, q⟩ := h
    have hr := hg.rm
    suffices z : ∃ t, PSs (cxOf CX0 P w K mg base N_law "law" (defScope s_law) A.f_law cdv Ar outer s H E).nox (defBody s_law) t ∧ t { nx := fun _ H' => Q .non H', rt := Q } (L2.start N_law [.ref a]) H from by
      obtain ⟨t, h, q⟩ := z
      exact ⟨t, h.nox, q⟩
    refine ⟨_, (pss_cons (ps_set (i := 1) sc_law.nd rfl (Or.inr rfl) (pe_call (ok_law_pen T.toLawT) (hr.mono (by decide)) rfl T.g_law_pen T.F_law_pen.kp (b_law_pen T.F_law_pen) .nil pass0 (pa_cons (pv 0) pa_nil)))
      (pss_cons (ps_for PassesOwn.never rfl (pi_range1 (by rfl) T.n_range (pa_cons pe_int pa_nil)) (pg_name (i := 2) sc_law.nd rfl (Or.inl rfl)) (pss_cons (ps_set (i := 3) sc_law.nd rfl (Or.inl rfl) (pe_call (ok_law_low T.toLawT) (hr.mono (by decide)) rfl T.g_law_low T.F_law_low.kp (b_law_low T.F_law_low) .nil pass0 (pa_cons (pe_op op_add pe_int (pe_call (ok_law_draw T.toLawT) (hr.mono (by decide)) rfl T.g_law_draw T.F_law_draw.kp (b_law_draw T.F_law_draw) .nil pass0 (pa_cons (pv 1) (pa_cons (pe_call (ok_law_pick T.toLawT) (hr.mono (by decide)) rfl T.g_law_pick T.F_law_pick.kp (b_law_pick T.F_law_pick) .nil pass0 (pa_cons (pv 1) (pa_cons (pe_lst (pa_cons pe_int (pa_cons pe_int (pa_cons pe_int (pa_cons (pe_op op_pow pe_int pe_int) pa_nil))))) pa_nil))) pa_nil)))) (pa_cons (pe_op op_add pe_int (pe_call (ok_law_draw T.toLawT) (hr.mono (by decide)) rfl T.g_law_draw T.F_law_draw.kp (b_law_draw T.F_law_draw) .nil pass0 (pa_cons (pv 1) (pa_cons pe_int pa_nil)))) pa_nil))))
      (pss_cons (ps_setLc (i := 4) (own := [("at", 11)]) (g := gName 11) (by rfl) sc_law.nd rfl rfl (sw_true rfl rfl rfl (by decide +kernel)) (pi_range1 (by rfl) T.n_range (pa_cons (pe_op op_add pe_int (pe_call (ok_law_draw T.toLawT) (hr.mono (by decide)) rfl T.g_law_draw T.F_law_draw.kp (b_law_draw T.F_law_draw) .nil pass0 (pa_cons (pv 1) (pa_cons pe_int pa_nil)))) pa_nil)) (blkOk_by (own := [("at", 11)]) (N := N_law) (sc := defScope s_law) (by decide +kernel)) (fun _ _ _ _ _ => pg_name (i := 11) sc_law.nd rfl (Or.inl rfl)) (fun _ _ _ _ _ => pts_nil) (fun _ _ _ _ _ => (pe_call (ok_law_drawn T.toLawT) (hr.mono (by decide)) rfl T.g_law_drawn T.F_law_drawn.kp (b_law_drawn T.F_law_drawn) .nil pass0 (pa_cons (pv 1) pa_nil))))
      (pss_cons (ps_set (i := 5) sc_law.nd rfl (Or.inl rfl) (pe_ix ix_list (pv 4) pe_int (fun _ _ => rfl)))
      (pss_cons (ps_for PassesOwn.never rfl (pi_list (pe_slice sl_list (pv 4) (po_some pe_int) po_none)) (pg_name (i := 6) sc_law.nd rfl (Or.inl rfl)) (pss_one (ps_set (i := 5) sc_law.nd rfl (Or.inl rfl) (pe_call (ok_angle_sum T.toTxt) (hr.mono (by decide)) rfl T.g_angle_sum T.F_angle_sum.kp (b_angle_sum T.F_angle_sum) .nil passL (pa_cons (pv 5) (pa_cons (pe_callTy call_list_of (by rfl) T.n_list (by decide +kernel) (pa_cons (pv 6) pa_nil)) (pa_cons (pv 3) pa_nil)))))))
      (pss_cons (ps_if (pt_cmpR op_ne (pe_callB (call_repr hg.gd (un65 hr)) (by rfl) T.n_repr (by decide +kernel) (pa_cons (pv 5) pa_nil)) (pe_callB (call_repr hg.gd (un65 hr)) (by rfl) T.n_repr (by decide +kernel) (pa_cons (pe_call (ok_law_sum T.toLawT) (hr.mono (by decide)) rfl T.g_law_sum T.F_law_sum.kp (b_law_sum T.F_law_sum) .nil pass0 (pa_cons (pv 4) (pa_cons (pv 3) pa_nil))) pa_nil)) (nomark _)) (pss_one (ps_ret pe_bl)) pss_nil)
      (pss_cons (ps_set (i := 7) sc_law.nd rfl (Or.inl rfl) (pe_ix ix_list (pv 4) (pe_un un_neg pe_int) (fun _ _ => rfl)))
      (pss_cons (ps_for PassesOwn.never rfl (pi_list (pe_backL (pv 4))) (pg_name (i := 6) sc_law.nd rfl (Or.inl rfl)) (pss_one (ps_set (i := 7) sc_law.nd rfl (Or.inl rfl) (pe_callK0 (ok_angle_sum T.toTxt) (hr.mono (by decide)) rfl T.g_angle_sum T.F_angle_sum.kp (kb_angle_sum_other_one_root T.F_angle_sum) passL (pk_cons (pv 7) (pk_cons (pv 6) (pk_cons (pv 3) pk_nil)))))))
      (pss_cons (ps_if (PW.pt (pw_or (pt_cmpR (op_neD (un64 hr)) (pv 7) (pv 5) (nomark _)) (pw_or1 (pt_cmpR (op_neD (un64 hr)) (pe_call (ok_angle_sum T.toTxt) (hr.mono (by decide)) rfl T.g_angle_sum T.F_angle_sum.kp (b_angle_sum T.F_angle_sum) .nil passL (pa_cons (pv 5) (pa_cons (pe_tup (pa_cons pe_int (pa_cons pe_non pa_nil))) (pa_cons (pv 3) pa_nil)))) (pv 5) (nomark _))))) (pss_one (ps_ret pe_bl)) pss_nil)
      (pss_cons (ps_par (i := 8) (j := 9) (by rfl) sc_law.nd rfl rfl (by decide) rfl rfl (pa_cons (pe_ix ix_list (pv 4) pe_int (fun _ _ => rfl)) (pa_cons (pe_call (ok_law_pick T.toLawT) (hr.mono (by decide)) rfl T.g_law_pick T.F_law_pick.kp (b_law_pick T.F_law_pick) .nil pass0 (pa_cons (pv 1) (pa_cons (pv 4) pa_nil))) pa_nil)) (by rfl))
      (pss_cons (ps_set (i := 10) sc_law.nd rfl (Or.inl rfl) (pe_call (ok_law_order T.toLawT) (hr.mono (by decide)) rfl T.g_law_order T.F_law_order.kp (b_law_order T.F_law_order) .nil pass0 (pa_cons (pv 8) (pa_cons (pv 9) pa_nil))))
      (pss_cons (ps_if (pt_cmpR op_ne (pe_callB (call_repr hg.gd (un65 hr)) (by rfl) T.n_repr (by decide +kernel) (pa_cons (pe_lst (pa_cons (pe_call (ok_order_of_angles T.toTxt) (hr.mono (by decide)) rfl T.g_order_of_angles T.F_order_of_angles.kp (b_order_of_angles T.F_order_of_angles) .nil passL (pa_cons (pv 8) (pa_cons (pv 9) pa_nil))) (pa_cons (pe_call (ok_order_of_angles T.toTxt) (hr.mono (by decide)) rfl T.g_order_of_angles T.F_order_of_angles.kp (b_order_of_angles T.F_order_of_angles) .nil passL (pa_cons (pv 9) (pa_cons (pv 8) pa_nil))) (pa_cons (pe_callK0 (ok_order_of_angles T.toTxt) (hr.mono (by decide)) rfl T.g_order_of_angles T.F_order_of_angles.kp (kb_order_of_angles_other_one T.F_order_of_angles) passL (pk_cons (pv 8) (pk_cons (pe_callTy call_list_of (by rfl) T.n_list (by decide +kernel) (pa_cons (pv 8) pa_nil)) pk_nil))) pa_nil)))) pa_nil)) (pe_callB (call_repr hg.gd (un65 hr)) (by rfl) T.n_repr (by decide +kernel) (pa_cons (pe_lst (pa_cons (pv 10) (pa_cons (pe_op op_sub pe_int (pv 10)) (pa_cons pe_int pa_nil)))) pa_nil)) (nomark _)) (pss_one (ps_ret pe_bl)) pss_nil)
      (pss_one (ps_if (PW.pt (pw_or (pt_cmpR op_ne (pe_call (ok_order_of_angles T.toTxt) (hr.mono (by decide)) rfl T.g_order_of_angles T.F_order_of_angles.kp (b_order_of_angles T.F_order_of_angles) .nil passL (pa_cons (pe_call (ok_angle_sum T.toTxt) (hr.mono (by decide)) rfl T.g_angle_sum T.F_angle_sum.kp (b_angle_sum T.F_angle_sum) .nil passL (pa_cons (pv 8) (pa_cons (pv 9) (pa_cons (pv 3) pa_nil)))) (pa_cons (pv 8) pa_nil))) (pe_callTy call_int1 (by rfl) T.n_int (by decide +kernel) (pa_cons (pe_cmpR (op_neD (un64 hr)) (pv 9) (pe_tup (pa_cons pe_int (pa_cons pe_non pa_nil))) (nomark _)) pa_nil)) (nomark _)) (pw_or1 (pt_not (pt_val (pe_call (ok_law_refused_right T B) (hr.mono (by decide)) rfl T.g_law_refused_right T.F_law_refused_right.kp (b_law_refused_right T.F_law_refused_right) .nil pass0 (pa_cons (pv 1) (pa_cons (pv 8) pa_nil)))))))) (pss_one (ps_ret pe_bl)) pss_nil))))))))))))))
      (pss_one (ps_ret (pe_and (pe_cmpR (op_eqD (un64 hr)) (pe_call (ok_angle_sum T.toTxt) (hr.mono (by decide)) rfl T.g_angle_sum T.F_angle_sum.kp (b_angle_sum T.F_angle_sum) .nil passL (pa_cons (pe_tup (pa_cons pe_int (pa_cons pe_int pa_nil))) (pa_cons (pe_tup (pa_cons pe_int (pa_cons pe_int pa_nil))) (pa_cons pe_int pa_nil)))) (pe_tup (pa_cons pe_int (pa_cons (pe_tup (pa_cons pe_int (pa_cons pe_int pa_nil))) pa_nil))) (nomark _)) (pe_and (pe_cmpR (op_eqD (un64 hr)) (pe_call (ok_angle_sum T.toTxt) (hr.mono (by decide)) rfl T.g_angle_sum T.F_angle_sum.kp (b_angle_sum T.F_angle_sum) .nil passL (pa_cons (pe_tup (pa_cons pe_int (pa_cons (pe_un un_neg pe_int) pa_nil))) (pa_cons (pe_tup (pa_cons pe_int (pa_cons (pe_un un_neg pe_int) pa_nil))) (pa_cons pe_int pa_nil)))) (pe_tup (pa_cons pe_int (pa_cons (pe_tup (pa_cons pe_int (pa_cons pe_int pa_nil))) pa_nil))) (nomark _)) (pe_one (pe_cmpR (op_eqD (un64 hr)) (pe_call (ok_angle_sum T.toTxt) (hr.mono (by decide)) rfl T.g_angle_sum T.F_angle_sum.kp (b_angle_sum T.F_angle_sum) .nil passL (pa_cons (pe_tup (pa_cons pe_int (pa_cons pe_int pa_nil))) (pa_cons (pe_tup (pa_cons pe_int (pa_cons (pe_un un_neg pe_int) pa_nil))) (pa_cons pe_int pa_nil)))) (pe_tup (pa_cons pe_int (pa_cons pe_non pa_nil))) (nomark _))))))))), ?_⟩
    refine ⟨_, rfl, a, ns, rfl, hq, fun p H1 s1 hp0 k1 => ?_⟩
    have tb1 := tb.ext s1
    refine ⟨8, rfl, by decide, by decide, ?_⟩
    refine for_range (lo := 0) (n := 8) (fun i σ H' => ∃ w2 w3 w4 w5 w6 w7 w8 w9 w10 w11, σ = [some (.ref a), some (.ref p), w2, w3, w4, w5, w6, w7, w8, w9, w10, w11] ∧ PenK H' p (100 * i) ∧ LamX.Tabs (tbs A) H') ⟨_, _, _, _, _, _, _, _, _, _, rfl, k1, tb1⟩ (fun i σ H0 hi k => ?_) (fun σ H0 k => ?_)
    · obtain ⟨w2, w3, w4, w5, w6, w7, w8, w9, w10, w11, rfl, k0, tb0⟩ := k
      refine ⟨_, rfl, _, rfl, _, _, rfl, rfl, ⟨by decide, by decide, by decide⟩, by show 4 ≤ sizeLine; decide, fun l1 hl1 => ⟨p, l1, [.int 1, .int 4, .int 50, .int (10 ^ (15 : Int).toNat)], 100 * i, rfl, k0.same (same_new hl1), by omega, SqL.of upd_same, lst_new k0.lst hl1, by show 0 < 4; decide, by show 4 ≤ 1000; decide, fun x1 H2 m1 e1 k2 => ?_⟩⟩
      replace e1 := same_but (same_new hl1) e1 k0.lst
      obtain ⟨m, rfl, mp, mz⟩ : ∃ m : Int, x1 = .int m ∧ 0 < m ∧ m ≤ 1000000000000000 := by
        have : ∀ y ∈ ([.int 1, .int 4, .int 50, .int (10 ^ (15 : Int).toNat)] : List V), ∃ m : Int, y = .int m ∧ 0 < m ∧ m ≤ 1000000000000000 := fm_cons ⟨_, rfl, by decide, by decide⟩ (fm_cons ⟨_, rfl, by decide, by decide⟩ (fm_cons ⟨_, rfl, by decide, by decide⟩ (fm_cons ⟨_, rfl, by decide, by decide⟩ fm_nil)))
        exact this x1 m1
      have mz' : SzI 100 m := by
        show m.natAbs < 2 ^ 100
        have : (2 : Nat) ^ 100 = 1267650600228229401496703205376 := by decide
        omega
      refine ⟨p, m, 100 * i + 1, rfl, k2, by omega, mp, mz', fun r1 H3 ra1 rb1 e2 k3 => ⟨_, _, rfl, rfl, ?_⟩⟩
      refine ⟨_, rfl, p, 6, 100 * i + 2, rfl, k3, by omega, by decide, by show (6 : Int).natAbs < 2 ^ 100; decide, fun r2 H4 ra2 rb2 e3 k4 => ⟨_, _, rfl, rfl, ?_⟩⟩
      obtain ⟨r0, zr⟩ := root_ok (p := 1 + r1) (q := 1 + r2) (by omega) (by omega) (by omega) (by omega)
      refine ⟨1 + r1, 1 + r2, rfl, by omega, (szI_nat (k := 10) (n := (1 + r2).toNat) (by omega) |> fun z => by rw [Int.toNat_of_nonneg (by omega)] at z; exact z.mono (by decide)), fun t H5 s5 ht => ?_⟩
      have fr5 : FrT K H5 (.ref t) (Rat.divInt (1 + r1) (1 + r2)) := ⟨t, rfl, SqT.of ht⟩
      revert r0 zr fr5
      generalize Rat.divInt (1 + r1) (1 + r2) = root
      intro r0 zr fr5
      have tb5 := ((e1.trans (e2.trans e3)).tabs tb0).ext s5
      have k5 := k4.same s5
      clear e1 e2 e3 ht
      refine ⟨_, rfl, p, 5, 100 * i + 3, rfl, k5, by omega, by decide, by show (5 : Int).natAbs < 2 ^ 100; decide, fun r3 H6 ra3 rb3 e6 k6 => ⟨_, _, rfl, rfl, ?_⟩⟩
      refine ⟨2 + r3, rfl, by omega, by omega, fun D hD => ?_⟩
      obtain ⟨c, hc, npD, ncD⟩ := k6.head hD
      have sD := same_new (o := .lst []) hD
      refine lc_range (lo := 0) (n := (2 + r3).toNat) (fun j H' => ∃ acc as, H' D = some (.lst acc) ∧ acc.length = j ∧ AnsT K H' acc as ∧ (∀ x ∈ as, 0 ≤ x.1 ∧ x.1 ≤ 1000) ∧ (∀ x ∈ as, GoodA x) ∧ PenK H' p (100 * i + 4 + 7 * j) ∧ HeadIs c H' p ∧ FrT K H' (.ref t) root ∧ LamX.Tabs (tbs A) H')
        ⟨[], [], upd_same, rfl, ⟨rfl, nofun⟩, nofun, nofun, k6.same sD, let ⟨r, hr⟩ := hc; ⟨r, sD _ _ hr⟩, (e6.fr fr5).mono sD, (e6.tabs tb5).ext sD⟩ (fun j H7 hj k => ?_) (fun H7 k => ?_)
      · obtain ⟨acc, as, hacc, hlen, ans, gh, gg, pk, hd, fr, tbj⟩ := k
        refine ⟨rfl, tyes (A := fun H3 => tCall (spDrawn K) [] E0 (tCons (tVar 1) tNil) _ H3 _) ⟨_, rfl, p, 100 * i + 4 + 7 * j, rfl, pk, by omega, fun v g H8 e8 k8 an8 g0 g1 gd => ?_⟩⟩
        have hacc8 := e8.2.2.1 D _ (fun z => npD z.symm) hacc
        have lw := lstW_upd (o := .lst (acc ++ [v])) hacc8
        obtain ⟨pk', hd'⟩ := lw.pen k8 (e8.2.2.2 c hd) npD ncD
        refine ⟨acc, hacc8, by rw [hlen]; exact Nat.lt_of_lt_of_le (show j < 16 by omega) z16, acc ++ [v], as ++ [g], upd_same, by rw [List.length_append, hlen]; rfl, lw.ans ((e8.ans ans).snoc an8), ?_, ?_, pk', hd', lw.fr (e8.fr fr), lw.tabs (e8.tabs tbj)⟩
        · intro x hx
          rcases List.mem_append.mp hx with hx | hx
          · exact gh x hx
          · rcases List.mem_singleton.mp hx with rfl
            exact ⟨g0, g1⟩
        · intro x hx
          rcases List.mem_append.mp hx with hx | hx
          · exact gg x hx
          · rcases List.mem_singleton.mp hx with rfl
            exact gd
      · obtain ⟨acc, as, hacc, hlen, ans, gh, gg, pk, hd, fr, tbj⟩ := k
        have hn2 : 2 ≤ acc.length := by omega
        have hn6 : acc.length ≤ 6 := by omega
        have hal := ans.1
        have qD : SqL K H7 D acc := SqL.of hacc
        have pk7 : PenK H7 p (100 * i + 46) := pk.mono (by omega)
        clear pk
        have h0a : 0 < acc.length := by omega
        have h0s : 0 < as.length := by omega
        have an0 : AnT K H7 acc[0] as[0].1 as[0].2 := ans.2 0 _ _ (List.getElem?_eq_getElem h0a) (List.getElem?_eq_getElem h0s)
        have g0 : SumOk as[0] := good_ok (gh _ (List.getElem_mem h0s)).1 (gh _ (List.getElem_mem h0s)).2 (gg _ (List.getElem_mem h0s))
        have sub : ∀ bs : List Ang, bs.length ≤ 6 → (∀ x ∈ bs, x ∈ as) → SumOk (asum root bs) := fun bs hb hs => asum_ok r0 zr hb (fun x hx => gh x (hs x hx)) (fun x hx => gg x (hs x hx))
        refine ⟨_, rfl, D, acc, ((0 : Nat) : Int), acc[0], rfl, rfl, qD, atI_nat (List.getElem?_eq_getElem h0a), ?_⟩
        refine ⟨_, rfl, 1, rfl, D, acc, rfl, qD, fun l1 hl1 => ⟨l1, rfl, ⟨_, SqL.of upd_same⟩, ?_⟩⟩
        have sL := same_new (o := .lst (cutV acc (some 1) none)) hl1
        have hcut := cut1 (xs := acc) h0a
        refine for_list (xs := acc.drop 1) (fun j σ H' => Same H7 H' ∧ SqL K H' l1 (acc.drop 1) ∧ ∃ w2 vf w6, σ = [some (.ref a), some (.ref p), w2, some (.ref t), some (.ref D), some vf, w6, w7, w8, w9, w10, w11] ∧ AnT K H' vf (asum root (as.take (j + 1))).1 (asum root (as.take (j + 1))).2)
          ⟨sL, by rw [← hcut]; exact SqL.of upd_same, _, _, _, rfl, ?_⟩ (fun j σ H' _ k => k.2.1) (fun j x σ H' hx k => ?_) (fun σ H' k => ?_)
        · rw [asum_next (i := 0) (List.getElem?_eq_getElem h0s), List.take_zero, show asum root [] = a0 from rfl, add_l]
          exact an0.mono sL
        · obtain ⟨sm, ql, w2', vf, w6', rfl, anf⟩ := k
          rw [List.getElem?_drop] at hx
          obtain ⟨g, hg, ang⟩ := ans.at hx
          rw [Nat.add_comm] at hg
          have hjl := (List.getElem?_eq_some_iff.mp hg).1
          have gk : SumOk g := good_ok (gh g (List.mem_of_getElem? hg)).1 (gh g (List.mem_of_getElem? hg)).2 (gg g (List.mem_of_getElem? hg))
          have fk := sub (as.take (j + 1)) (by rw [List.length_take]; omega) (fun x hx => List.mem_of_mem_take hx)
          obtain ⟨ax, w0, rfl, qa, la⟩ := ang
          refine ⟨_, rfl, _, rfl, ax, _, rfl, .inr (same_t sm qa), fun l hl => ⟨_, rfl, ?_⟩⟩
          have sl := same_new (o := .lst [.int g.1, w0]) hl
          refine sum_good ((anf.mono sl).vs fk) (AnT.vl (SqL.of upd_same) (la.mono (sm.trans sl)) gk.1 (by have := gk.2.1; omega) gk.osz) ((fr.mono (sm.trans sl)).fr (zr.mono (by decide))) rfl fk gk zr fun v H9 s9 an9 => ?_
          refine ⟨sm.trans (sl.trans s9), s9.seq (sl.seq ql), _, _, _, rfl, ?_⟩
          rw [asum_next hg]
          exact an9
        · obtain ⟨sm, ql, w2', vf, w6', rfl, anf⟩ := k
          have el : (acc.drop 1).length + 1 = as.length := by rw [List.length_drop]; omega
          rw [el, List.take_length] at anf
          have sF : SumOk (asum root as) := sub as (by omega) (fun x hx => hx)
          have eF := asum_is r0 as
          generalize hF : asum root as = F at *
          clear ql hl1 sL hcut
          obtain ⟨af, wf, rfl, qf, lf⟩ := id anf
          have shF := shw_an sF
          have dF := dp_an anf
          refine ⟨_, rfl, af, dAn F, rfl, dF, shF.a, shF.n, shF.p, shF.l, ?_⟩
          refine ⟨_, rfl, _, rfl, D, .ref t, acc, as, root, rfl, sm.seq qD, ans.mono sm, by omega, gg, fr.mono sm, zr, r0, fun v9 H9 s9 an9 => ?_⟩
          rw [eF] at an9
          obtain ⟨a9, w9', rfl, q9, l9⟩ := id an9
          refine ⟨a9, dAn F, rfl, dp_an an9, shF.a, shF.n, shF.p, shF.l, rfl, _, rfl, ?_⟩
          rw [decide_eq_true (rfl : V.str (dAn F).shown = V.str (dAn F).shown)]
          refine iteF ?_
          have sm9 := sm.trans s9
          have hlast : acc.length - 1 < acc.length := by omega
          have hlasts : as.length - 1 < as.length := by omega
          have anl : AnT K H7 acc[acc.length - 1] as[as.length - 1].1 as[as.length - 1].2 := ans.2 _ _ _ (List.getElem?_eq_getElem hlast) (by rw [hal]; exact List.getElem?_eq_getElem hlasts)
          refine ⟨_, rfl, 1, rfl, D, acc, -1, acc[acc.length - 1], rfl, rfl, sm9.seq qD, atI_end (List.getElem?_eq_getElem hlast), ?_⟩
          refine ⟨_, rfl, D, acc, rfl, sm9.seq qD, hn2, fun l2 hl2 => ⟨l2, rfl, ⟨_, SqL.of upd_same⟩, ?_⟩⟩
          have sB := same_new (o := .lst (acc.take (acc.length - 1)).reverse) hl2
          refine for_list (xs := (acc.take (acc.length - 1)).reverse) (fun j σ H' => Same H9 H' ∧ SqL K H' l2 (acc.take (acc.length - 1)).reverse ∧ ∃ w2 w6 vb, σ = [some (.ref a), some (.ref p), w2, some (.ref t), some (.ref D), some (.ref af), w6, some vb, w8, w9, w10, w11] ∧ AnT K H' vb (asum root (as.drop (as.length - 1 - j))).1 (asum root (as.drop (as.length - 1 - j))).2)
            ⟨sB, SqL.of upd_same, _, _, _, rfl, ?_⟩ (fun j σ H' _ k => k.2.1) (fun j x σ H' hx k => ?_) (fun σ H' k => ?_)
          · rw [Nat.sub_zero, List.drop_eq_getElem_cons hlasts, Nat.sub_add_cancel h0s, List.drop_length, asum_cons r0, show asum root [] = a0 from rfl, add_r]
            exact anl.mono (sm9.trans sB)
          · obtain ⟨smb, ql, w2'', w6'', vb, rfl, anb⟩ := k
            have hj := (List.getElem?_eq_some_iff.mp hx).1
            rw [List.length_reverse, List.length_take] at hj
            rw [List.getElem?_reverse (by rw [List.length_take]; omega), List.length_take, List.getElem?_take_of_lt (by omega)] at hx
            obtain ⟨g, hg, ang⟩ := ans.at hx
            have ei : min (acc.length - 1) acc.length - 1 - j = as.length - 1 - (j + 1) := by omega
            rw [ei] at hg
            have gk : SumOk g := good_ok (gh g (List.mem_of_getElem? hg)).1 (gh g (List.mem_of_getElem? hg)).2 (gg g (List.mem_of_getElem? hg))
            have bk := sub (as.drop (as.length - 1 - j)) (by rw [List.length_drop]; omega) (fun x hx => List.mem_of_mem_drop hx)
            refine ⟨_, rfl, _, rfl, _, rfl, ?_⟩
            refine sum_good ((ang.mono (sm9.trans smb)).vs gk) (anb.vs bk) ((fr.mono (sm9.trans smb)).fr (zr.mono (by decide))) rfl gk bk zr fun v H10 s10 an10 => ?_
            refine ⟨smb.trans s10, s10.seq ql, _, _, _, rfl, ?_⟩
            have hlt := (List.getElem?_eq_some_iff.mp hg).1
            have hge : as[as.length - 1 - (j + 1)] = g := (List.getElem?_eq_some_iff.mp hg).2
            rw [List.drop_eq_getElem_cons hlt, hge, show as.length - 1 - (j + 1) + 1 = as.length - 1 - j from by omega, asum_cons r0]
            exact an10
          · obtain ⟨smb, ql, w2'', w6'', vb, rfl, anb⟩ := k
            have e0 : as.length - 1 - (acc.take (acc.length - 1)).reverse.length = 0 := by rw [List.length_reverse, List.length_take]; omega
            rw [e0, List.drop_zero, hF] at anb
            have s7 := sm9.trans smb
            have anfb := anf.mono (s9.trans smb)
            refine ⟨_, rfl, _, rfl, dAn F, dAn F, dp_an anb, dp_an anfb, shaped_an F, shaped_an F, _, rfl, ?_⟩
            rw [eqv_an, decide_eq_true rfl]
            refine iteF ?_
            refine ⟨_, rfl, two_line, fun u hu => ⟨_, rfl, ?_⟩⟩
            have su := same_new (o := .tup [.int 0, .non]) hu
            have an0' : AnT K (upd H' u (.tup [.int 0, .non])) (.ref u) a0.1 a0.2 := ⟨u, .non, rfl, SqT.of upd_same, rfl⟩
            have z0 : SumOk a0 := ⟨Int.le_refl 0, (by decide : (0 : Int) ≤ 7000), nofun⟩
            refine sum_good ((anfb.mono su).vs sF) (an0'.vs z0) ((fr.mono (s7.trans su)).fr (zr.mono (by decide))) rfl sF z0 zr fun v H11 s11 an11 => ?_
            rw [add_r] at an11
            refine ⟨_, rfl, dAn F, dAn F, dp_an an11, dp_an (anfb.mono (su.trans s11)), shaped_an F, shaped_an F, _, rfl, ?_⟩
            rw [eqv_an, decide_eq_true rfl]
            refine iteF ?_
            have s711 := s7.trans (su.trans s11)
            refine ⟨_, rfl, D, acc, ((0 : Nat) : Int), acc[0], rfl, rfl, s711.seq qD, atI_nat (List.getElem?_eq_getElem h0a), _, rfl, _, rfl, p, D, acc, 100 * i + 46, rfl, pk7.same s711, by omega, s711.seq qD, npD.symm, h0a, by omega, fun xo H12 mo e12 k12 => ⟨_, _, rfl, ?_⟩⟩
            obtain ⟨jo, hjo⟩ := List.mem_iff_getElem?.mp mo
            obtain ⟨go, hgo, ano⟩ := ans.at hjo
            have goin := List.mem_of_getElem? hgo
            have so : SumOk go := good_ok (gh go goin).1 (gh go goin).2 (gg go goin)
            have e7 : But p H7 H12 := same_but s711 e12 pk7.lst
            replace an0 := e7.an an0
            replace ano := e7.an ano
            replace fr := e7.fr fr
            replace tbj := e7.tabs tbj
            have sS : SumOk (aadd root as[0] go) := by
              have k := sub [as[0], go] (by show 2 ≤ 6; decide) (fun x hx => by
                rcases List.mem_cons.mp hx with rfl | hx
                · exact List.getElem_mem h0s
                · rcases List.mem_singleton.mp hx with rfl
                  exact goin)
              have e : asum root [as[0], go] = aadd root as[0] go := by
                show aadd root (aadd root a0 as[0]) go = _
                rw [add_l]
              rw [e] at k
              exact k
            have gh0 := gh _ (List.getElem_mem h0s)
            generalize as[0] = b0 at *
            generalize acc[0] = x0 at *
            refine ⟨_, rfl, _, rfl, x0, xo, b0, go, rfl, an0, ano, g0.osz, so.osz, ?_⟩
            refine ⟨_, rfl, _, rfl, x0, xo, .ok b0.1 b0.2, .ok go.1 go.2, rfl, an0.vs g0, fun _ _ _ => ano.vs so, g0.osz, so.osz, fun H13 s13 => ?_⟩
            refine ⟨_, rfl, _, rfl, xo, x0, .ok go.1 go.2, .ok b0.1 b0.2, rfl, (ano.mono s13).vs so, fun _ _ _ => (an0.mono s13).vs g0, so.osz, g0.osz, fun H14 s14 => ?_⟩
            have s24 := s13.trans s14
            obtain ⟨ax, w0, rfl, qa, la⟩ := id an0
            refine ⟨_, rfl, _, rfl, ax, _, rfl, .inr (same_t s24 qa), fun l3 hl3 => ?_⟩
            have sl3 := same_new (o := .lst [.int b0.1, w0]) hl3
            refine ⟨.ref l3, .ref ax, .ok b0.1 b0.2, .ok b0.1 b0.2, rfl, AnT.vl (SqL.of upd_same) (la.mono (s24.trans sl3)) g0.1 (by have := g0.2.1; omega) g0.osz, fun _ _ _ => (an0.mono (s24.trans sl3)).vs g0, g0.osz, g0.osz, fun H15 s15 => ⟨by show 3 ≤ sizeLine; decide, fun l4 hl4 => ?_⟩⟩
            have sl4 := same_new (o := .lst [.int (aord b0 go), .int (aord go b0), .int (aord b0 b0)]) hl4
            have shI := shw_ints (aord_small b0 go) (aord_small go b0) (aord_small b0 b0)
            refine ⟨l4, dInts (aord b0 go) (aord go b0) (aord b0 b0), rfl, .lst (SqL.of upd_same) (.cons (.int _) (.cons (.int _) (.cons (.int _) .nil))), shI.a, shI.n, shI.p, shI.l, ?_⟩
            refine ⟨_, rfl, _, rfl, _, _, rfl, rfl, by show 3 ≤ sizeLine; decide, fun l5 hl5 => ?_⟩
            have sl5 := same_new (o := .lst [.int (lord b0 go), .int (0 - lord b0 go), .int 0]) hl5
            have ed : dInts (lord b0 go) (0 - lord b0 go) 0 = dInts (aord b0 go) (aord go b0) (aord b0 b0) := by rw [lord_aord, ← aord_swap, aord_self]
            have shJ : Shw (dInts (lord b0 go) (0 - lord b0 go) 0) := by rw [ed]; exact shI
            refine ⟨l5, dInts (lord b0 go) (0 - lord b0 go) 0, rfl, .lst (SqL.of upd_same) (.cons (.int _) (.cons (.int _) (.cons (.int _) .nil))), shJ.a, shJ.n, shJ.p, shJ.l, rfl, _, rfl, ?_⟩
            rw [ed, decide_eq_true (rfl : V.str (dInts (aord b0 go) (aord go b0) (aord b0 b0)).shown = V.str (dInts (aord b0 go) (aord go b0) (aord b0 b0)).shown)]
            refine iteF ?_
            have s5 := s24.trans (sl3.trans (s15.trans (sl4.trans sl5)))
            refine ⟨_, rfl, _, rfl, _, rfl, sum_good ((an0.mono s5).vs g0) ((ano.mono s5).vs so) ((fr.mono s5).fr (zr.mono (by decide))) rfl g0 so zr fun v16 H16 s16 an16 => ⟨_, rfl, ?_⟩⟩
            have s6 := s5.trans s16
            refine ⟨v16, .ref ax, .ok (aadd root b0 go).1 (aadd root b0 go).2, .ok b0.1 b0.2, rfl, an16.vs sS, fun _ _ _ => (an0.mono s6).vs g0, sS.osz, g0.osz, fun H17 s17 => ?_⟩
            have s7 := s6.trans s17
            refine ⟨_, rfl, two_line, fun u9 hu9 => ⟨dAn go, dAn a0, dp_an (ano.mono (s7.trans (same_new hu9))), dp_an (h := a0.1) (l := a0.2) ⟨u9, .non, rfl, SqT.of upd_same, rfl⟩, shaped_an go, shaped_an a0, .inr ⟨_, rfl, rfl, _, rfl, ?_⟩⟩⟩
            have su9 := same_new (o := .tup [.int 0, .non]) hu9
            have s8 := s7.trans su9
            have ei : decide (V.int (aord (aadd root b0 go) b0) = V.int (if (!PyData.eqv (dAn go) (dAn a0)) = true then 1 else 0)) = true := by
              rw [eqv_an, aord_sum r0 so.1]
              by_cases c : go = a0
              · rw [decide_eq_true c, if_pos (show go = (0, none) from c)]
                rfl
              · rw [decide_eq_false c, if_neg (show ¬ go = (0, none) from c)]
                rfl
            rw [ei]
            refine iteF ?_
            have pk8 := k12.same s8
            refine ⟨_, rfl, _, rfl, p, .ref ax, 100 * i + 46 + 1, b0, rfl, pk8, by omega, core_an pk8.lst (an0.mono s8), g0.1, by have := g0.2.1; omega, g0.osz, tbj.ext s8, fun H18 hrd => ⟨_, rfl, ?_⟩⟩
            refine iteF ?_
            exact ⟨_, _, _, _, _, _, _, _, _, _, rfl, hrd.pk.mono (by omega), hrd.tb⟩
    · obtain ⟨w2, w3, w4, w5, w6, w7, w8, w9, w10, w11, rfl, k0, tb0⟩ := k
      clear k0 tb0
      refine ⟨two_line, fun u1 h1 => ⟨two_line, fun u2 h2 => ?_⟩⟩
      have e1 := same_new (o := .tup [.int 0, .int 1]) h1
      have e2 := same_new (o := .tup [.int 0, .int 1]) h2
      refine sum_good (an_int (SqT.of (e2 _ _ upd_same))) (an_int (SqT.of upd_same)) (.int 1) rfl (so_int (by decide)) (so_int (by decide)) (sz_int (by decide) (by decide)) fun v3 H3 s3 an3 => ?_
      rw [fin1] at an3
      refine ⟨two_line, fun u4 h4 => ⟨two_line, fun u5 h5 => ?_⟩⟩
      have e4 := same_new (o := .tup [.int 0, .int 1]) h4
      have e5 := same_new (o := .tup [.int 0, .ref u4]) h5
      refine ⟨dAn (0, some 0), dAn (0, some 0), dp_an (an3.mono (e4.trans e5)), dp_an (h := 0) (l := some 0) ⟨u5, .ref u4, rfl, SqT.of upd_same, u4, rfl, SqT.of (e5 _ _ upd_same)⟩, shaped_an _, shaped_an _, _, rfl, ?_⟩
      rw [eqv_an, decide_eq_true rfl]
      refine iteT ?_
      refine ⟨_, rfl, two_line, fun u1 h1 => ⟨_, rfl, two_line, fun u2 h2 => ?_⟩⟩
      have e1 := same_new (o := .tup [.int 0, .int (-1)]) h1
      have e2 := same_new (o := .tup [.int 0, .int (-1)]) h2
      refine sum_good (an_int (SqT.of (e2 _ _ upd_same))) (an_int (SqT.of upd_same)) (.int 1) rfl (so_int (by decide)) (so_int (by decide)) (sz_int (by decide) (by decide)) fun v6 H6 s6 an6 => ?_
      rw [fin2] at an6
      refine ⟨two_line, fun u4 h4 => ⟨two_line, fun u5 h5 => ?_⟩⟩
      have e4 := same_new (o := .tup [.int 0, .int 1]) h4
      have e5 := same_new (o := .tup [.int 1, .ref u4]) h5
      refine ⟨dAn (1, some 0), dAn (1, some 0), dp_an (an6.mono (e4.trans e5)), dp_an (h := 1) (l := some 0) ⟨u5, .ref u4, rfl, SqT.of upd_same, u4, rfl, SqT.of (e5 _ _ upd_same)⟩, shaped_an _, shaped_an _, _, rfl, ?_⟩
      rw [eqv_an, decide_eq_true rfl]
      refine iteT ?_
      refine ⟨two_line, fun u1 h1 => ⟨_, rfl, two_line, fun u2 h2 => ?_⟩⟩
      have e1 := same_new (o := .tup [.int 0, .int 1]) h1
      have e2 := same_new (o := .tup [.int 0, .int (-1)]) h2
      refine sum_good (an_int (SqT.of (e2 _ _ upd_same))) (an_int (SqT.of upd_same)) (.int 5) rfl (so_int (by decide)) (so_int (by decide)) (sz_int (by decide) (by decide)) fun v7 H7 s7 an7 => ?_
      rw [fin3] at an7
      refine ⟨two_line, fun u5 h5 => ?_⟩
      have e5 := same_new (o := .tup [.int 1, .non]) h5
      refine ⟨dAn (1, none), dAn (1, none), dp_an (an7.mono e5), dp_an (h := 1) (l := none) ⟨u5, .non, rfl, SqT.of upd_same, rfl⟩, shaped_an _, shaped_an _, ?_⟩
      rw [eqv_an, decide_eq_true rfl]
      exact q _
end
end K8


set_option Elab.async false
set_option linter.all false
set_option maxRecDepth 100000
set_option maxHeartbeats 8000000
set_option exponentiation.threshold 10000
namespace K8
open PySem PySem.Spec PyProof.Rows L2 OG
theorem all_mk {l : PySem.W.OpenLaw} {w : World} {K : PySem.W.Frag} {h : Heap} {mg : Str → Option Value} {fa : Addr} {tk : Tok} (X : K.In h) (G : h.Ns mainGlobals mg) (hfa : mg "law" = some (.ref fa)) (hm : mg "MOST_HALVES" = some (.int 1000000 tk))
    {f_need_integer : Addr} {od_need_integer an_need_integer : Option Addr} {sl_need_integer : Array (Option Value)} {oc_need_integer kV_need_integer dc_need_integer pm_need_integer ct_need_integer cd_need_integer : Value}
    {f_is_integer : Addr} {od_is_integer an_is_integer : Option Addr} {sl_is_integer : Array (Option Value)} {oc_is_integer kV_is_integer dc_is_integer pm_is_integer ct_is_integer cd_is_integer : Value}
    {f_reduced : Addr} {od_reduced an_reduced : Option Addr} {sl_reduced : Array (Option Value)} {oc_reduced kV_reduced dc_reduced pm_reduced ct_reduced cd_reduced : Value}
    {f_need_fraction : Addr} {od_need_fraction an_need_fraction : Option Addr} {sl_need_fraction : Array (Option Value)} {oc_need_fraction kV_need_fraction dc_need_fraction pm_need_fraction ct_need_fraction cd_need_fraction : Value}
    {f_added : Addr} {od_added an_added : Option Addr} {sl_added : Array (Option Value)} {oc_added kV_added dc_added pm_added ct_added cd_added : Value}
    {f_less : Addr} {od_less an_less : Option Addr} {sl_less : Array (Option Value)} {oc_less kV_less dc_less pm_less ct_less cd_less : Value}
    {f_times : Addr} {od_times an_times : Option Addr} {sl_times : Array (Option Value)} {oc_times kV_times dc_times pm_times ct_times cd_times : Value}
    {f_over : Addr} {od_over an_over : Option Addr} {sl_over : Array (Option Value)} {oc_over kV_over dc_over pm_over ct_over cd_over : Value}
    {f_order_of : Addr} {od_order_of an_order_of : Option Addr} {sl_order_of : Array (Option Value)} {oc_order_of kV_order_of dc_order_of pm_order_of ct_order_of cd_order_of : Value}
    {f_need_angle : Addr} {od_need_angle an_need_angle : Option Addr} {sl_need_angle : Array (Option Value)} {oc_need_angle kV_need_angle dc_need_angle pm_need_angle ct_need_angle cd_need_angle : Value}
    {f_joined : Addr} {od_joined an_joined : Option Addr} {sl_joined : Array (Option Value)} {oc_joined kV_joined dc_joined pm_joined ct_joined cd_joined : Value}
    {f_order_between : Addr} {od_order_between an_order_between : Option Addr} {sl_order_between : Array (Option Value)} {oc_order_between kV_order_between dc_order_between pm_order_between ct_order_between cd_order_between : Value}
    {f_angle_sum : Addr} {od_angle_sum an_angle_sum : Option Addr} {sl_angle_sum : Array (Option Value)} {oc_angle_sum kV_angle_sum dc_angle_sum pm_angle_sum ct_angle_sum cd_angle_sum : Value}
    {f_order_of_angles : Addr} {od_order_of_angles an_order_of_angles : Option Addr} {sl_order_of_angles : Array (Option Value)} {oc_order_of_angles kV_order_of_angles dc_order_of_angles pm_order_of_angles ct_order_of_angles cd_order_of_angles : Value}
    {f_law_pen : Addr} {od_law_pen an_law_pen : Option Addr} {sl_law_pen : Array (Option Value)} {oc_law_pen kV_law_pen dc_law_pen pm_law_pen ct_law_pen cd_law_pen : Value}
    {f_law_draw : Addr} {od_law_draw an_law_draw : Option Addr} {sl_law_draw : Array (Option Value)} {oc_law_draw kV_law_draw dc_law_draw pm_law_draw ct_law_draw cd_law_draw : Value}
    {f_law_pick : Addr} {od_law_pick an_law_pick : Option Addr} {sl_law_pick : Array (Option Value)} {oc_law_pick kV_law_pick dc_law_pick pm_law_pick ct_law_pick cd_law_pick : Value}
    {f_law_gcd : Addr} {od_law_gcd an_law_gcd : Option Addr} {sl_law_gcd : Array (Option Value)} {oc_law_gcd kV_law_gcd dc_law_gcd pm_law_gcd ct_law_gcd cd_law_gcd : Value}
    {f_law_low : Addr} {od_law_low an_law_low : Option Addr} {sl_law_low : Array (Option Value)} {oc_law_low kV_law_low dc_law_low pm_law_low ct_law_low cd_law_low : Value}
    {f_law_plus : Addr} {od_law_plus an_law_plus : Option Addr} {sl_law_plus : Array (Option Value)} {oc_law_plus kV_law_plus dc_law_plus pm_law_plus ct_law_plus cd_law_plus : Value}
    {f_law_by : Addr} {od_law_by an_law_by : Option Addr} {sl_law_by : Array (Option Value)} {oc_law_by kV_law_by dc_law_by pm_law_by ct_law_by cd_law_by : Value}
    {f_law_minus : Addr} {od_law_minus an_law_minus : Option Addr} {sl_law_minus : Array (Option Value)} {oc_law_minus kV_law_minus dc_law_minus pm_law_minus ct_law_minus cd_law_minus : Value}
    {f_law_over : Addr} {od_law_over an_law_over : Option Addr} {sl_law_over : Array (Option Value)} {oc_law_over kV_law_over dc_law_over pm_law_over ct_law_over cd_law_over : Value}
    {f_law_product : Addr} {od_law_product an_law_product : Option Addr} {sl_law_product : Array (Option Value)} {oc_law_product kV_law_product dc_law_product pm_law_product ct_law_product cd_law_product : Value}
    {f_law_on : Addr} {od_law_on an_law_on : Option Addr} {sl_law_on : Array (Option Value)} {oc_law_on kV_law_on dc_law_on pm_law_on ct_law_on cd_law_on : Value}
    {f_law_angle : Addr} {od_law_angle an_law_angle : Option Addr} {sl_law_angle : Array (Option Value)} {oc_law_angle kV_law_angle dc_law_angle pm_law_angle ct_law_angle cd_law_angle : Value}
    {f_law_heard : Addr} {od_law_heard an_law_heard : Option Addr} {sl_law_heard : Array (Option Value)} {oc_law_heard kV_law_heard dc_law_heard pm_law_heard ct_law_heard cd_law_heard : Value}
    {f_law_drawn : Addr} {od_law_drawn an_law_drawn : Option Addr} {sl_law_drawn : Array (Option Value)} {oc_law_drawn kV_law_drawn dc_law_drawn pm_law_drawn ct_law_drawn cd_law_drawn : Value}
    {f_law_sum : Addr} {od_law_sum an_law_sum : Option Addr} {sl_law_sum : Array (Option Value)} {oc_law_sum kV_law_sum dc_law_sum pm_law_sum ct_law_sum cd_law_sum : Value}
    {f_law_order : Addr} {od_law_order an_law_order : Option Addr} {sl_law_order : Array (Option Value)} {oc_law_order kV_law_order dc_law_order pm_law_order ct_law_order cd_law_order : Value}
    {f_law_odd : Addr} {od_law_odd an_law_odd : Option Addr} {sl_law_odd : Array (Option Value)} {oc_law_odd kV_law_odd dc_law_odd pm_law_odd ct_law_odd cd_law_odd : Value}
    {f_law_refused_right : Addr} {od_law_refused_right an_law_refused_right : Option Addr} {sl_law_refused_right : Array (Option Value)} {oc_law_refused_right kV_law_refused_right dc_law_refused_right pm_law_refused_right ct_law_refused_right : Value}
    {f_law : Addr} {od_law an_law : Option Addr} {sl_law : Array (Option Value)} {oc_law kV_law dc_law pm_law ct_law cd_law : Value}
    {C_BV N_BV : Addr} {nm_BV q_BV : Str} {bs_BV sub_BV : List Value} {bm_BV : List Value} {sn_BV : List Str} {ab_BV : Bool} {col_BV : Option Bool} {dd_BV : Option Addr} {m0_BV m1_BV m2_BV m3_BV m5_BV : Option Value}
    {f_BV_init : Addr} {od_BV_init an_BV_init : Option Addr} {sl_BV_init : Array (Option Value)} {oc_BV_init kV_BV_init dc_BV_init pm_BV_init ct_BV_init cd_BV_init : Value}
    {C_BN N_BN : Addr} {nm_BN q_BN : Str} {bs_BN sub_BN : List Value} {bm_BN : List Value} {sn_BN : List Str} {ab_BN : Bool} {col_BN : Option Bool} {dd_BN : Option Addr} {m0_BN m1_BN m2_BN m3_BN m5_BN : Option Value}
    {f_BN_init : Addr} {od_BN_init an_BN_init : Option Addr} {sl_BN_init : Array (Option Value)} {oc_BN_init kV_BN_init dc_BN_init pm_BN_init ct_BN_init cd_BN_init : Value}
    {C_PE C_MF C_TM zero cd tb : Addr} {od_z : Option Addr} {t0 t1 : Tok} {nz : Nat} {sl_z : Array (Option Value)}
    (a_need_integer : PySem.W.nsIn K mainGlobals "need_integer" = some (some (.ref f_need_integer)))
    (l_need_integer : K.lookup f_need_integer = some ⟨oc_need_integer, od_need_integer, .func (PySem.W.fnOf "need_integer" "need_integer" (defArgs s_need_integer) (defBody s_need_integer) (defScope s_need_integer) .none kV_need_integer dc_need_integer pm_need_integer an_need_integer cd_need_integer ct_need_integer), sl_need_integer⟩) (c_need_integer : PySem.W.codeIn K cd_need_integer "need_integer" = true) (k_need_integer : PySem.W.keepIn K (.ref f_need_integer) = true)
    (a_is_integer : PySem.W.nsIn K mainGlobals "is_integer" = some (some (.ref f_is_integer)))
    (l_is_integer : K.lookup f_is_integer = some ⟨oc_is_integer, od_is_integer, .func (PySem.W.fnOf "is_integer" "is_integer" (defArgs s_is_integer) (defBody s_is_integer) (defScope s_is_integer) .none kV_is_integer dc_is_integer pm_is_integer an_is_integer cd_is_integer ct_is_integer), sl_is_integer⟩) (c_is_integer : PySem.W.codeIn K cd_is_integer "is_integer" = true) (k_is_integer : PySem.W.keepIn K (.ref f_is_integer) = true)
    (a_reduced : PySem.W.nsIn K mainGlobals "reduced" = some (some (.ref f_reduced)))
    (l_reduced : K.lookup f_reduced = some ⟨oc_reduced, od_reduced, .func (PySem.W.fnOf "reduced" "reduced" (defArgs s_reduced) (defBody s_reduced) (defScope s_reduced) .none kV_reduced dc_reduced pm_reduced an_reduced cd_reduced ct_reduced), sl_reduced⟩) (c_reduced : PySem.W.codeIn K cd_reduced "reduced" = true) (k_reduced : PySem.W.keepIn K (.ref f_reduced) = true)
    (a_need_fraction : PySem.W.nsIn K mainGlobals "need_fraction" = some (some (.ref f_need_fraction)))
    (l_need_fraction : K.lookup f_need_fraction = some ⟨oc_need_fraction, od_need_fraction, .func (PySem.W.fnOf "need_fraction" "need_fraction" (defArgs s_need_fraction) (defBody s_need_fraction) (defScope s_need_fraction) .none kV_need_fraction dc_need_fraction pm_need_fraction an_need_fraction cd_need_fraction ct_need_fraction), sl_need_fraction⟩) (c_need_fraction : PySem.W.codeIn K cd_need_fraction "need_fraction" = true) (k_need_fraction : PySem.W.keepIn K (.ref f_need_fraction) = true)
    (a_added : PySem.W.nsIn K mainGlobals "added" = some (some (.ref f_added)))
    (l_added : K.lookup f_added = some ⟨oc_added, od_added, .func (PySem.W.fnOf "added" "added" (defArgs s_added) (defBody s_added) (defScope s_added) .none kV_added dc_added pm_added an_added cd_added ct_added), sl_added⟩) (c_added : PySem.W.codeIn K cd_added "added" = true) (k_added : PySem.W.keepIn K (.ref f_added) = true)
    (a_less : PySem.W.nsIn K mainGlobals "less" = some (some (.ref f_less)))
    (l_less : K.lookup f_less = some ⟨oc_less, od_less, .func (PySem.W.fnOf "less" "less" (defArgs s_less) (defBody s_less) (defScope s_less) .none kV_less dc_less pm_less an_less cd_less ct_less), sl_less⟩) (c_less : PySem.W.codeIn K cd_less "less" = true) (k_less : PySem.W.keepIn K (.ref f_less) = true)
    (a_times : PySem.W.nsIn K mainGlobals "times" = some (some (.ref f_times)))
    (l_times : K.lookup f_times = some ⟨oc_times, od_times, .func (PySem.W.fnOf "times" "times" (defArgs s_times) (defBody s_times) (defScope s_times) .none kV_times dc_times pm_times an_times cd_times ct_times), sl_times⟩) (c_times : PySem.W.codeIn K cd_times "times" = true) (k_times : PySem.W.keepIn K (.ref f_times) = true)
    (a_over : PySem.W.nsIn K mainGlobals "over" = some (some (.ref f_over)))
    (l_over : K.lookup f_over = some ⟨oc_over, od_over, .func (PySem.W.fnOf "over" "over" (defArgs s_over) (defBody s_over) (defScope s_over) .none kV_over dc_over pm_over an_over cd_over ct_over), sl_over⟩) (c_over : PySem.W.codeIn K cd_over "over" = true) (k_over : PySem.W.keepIn K (.ref f_over) = true)
    (a_order_of : PySem.W.nsIn K mainGlobals "order_of" = some (some (.ref f_order_of)))
    (l_order_of : K.lookup f_order_of = some ⟨oc_order_of, od_order_of, .func (PySem.W.fnOf "order_of" "order_of" (defArgs s_order_of) (defBody s_order_of) (defScope s_order_of) .none kV_order_of dc_order_of pm_order_of an_order_of cd_order_of ct_order_of), sl_order_of⟩) (c_order_of : PySem.W.codeIn K cd_order_of "order_of" = true) (k_order_of : PySem.W.keepIn K (.ref f_order_of) = true)
    (a_need_angle : PySem.W.nsIn K mainGlobals "need_angle" = some (some (.ref f_need_angle)))
    (l_need_angle : K.lookup f_need_angle = some ⟨oc_need_angle, od_need_angle, .func (PySem.W.fnOf "need_angle" "need_angle" (defArgs s_need_angle) (defBody s_need_angle) (defScope s_need_angle) .none kV_need_angle dc_need_angle pm_need_angle an_need_angle cd_need_angle ct_need_angle), sl_need_angle⟩) (c_need_angle : PySem.W.codeIn K cd_need_angle "need_angle" = true) (k_need_angle : PySem.W.keepIn K (.ref f_need_angle) = true)
    (a_joined : PySem.W.nsIn K mainGlobals "joined" = some (some (.ref f_joined)))
    (l_joined : K.lookup f_joined = some ⟨oc_joined, od_joined, .func (PySem.W.fnOf "joined" "joined" (defArgs s_joined) (defBody s_joined) (defScope s_joined) .none kV_joined dc_joined pm_joined an_joined cd_joined ct_joined), sl_joined⟩) (c_joined : PySem.W.codeIn K cd_joined "joined" = true) (k_joined : PySem.W.keepIn K (.ref f_joined) = true)
    (a_order_between : PySem.W.nsIn K mainGlobals "order_between" = some (some (.ref f_order_between)))
    (l_order_between : K.lookup f_order_between = some ⟨oc_order_between, od_order_between, .func (PySem.W.fnOf "order_between" "order_between" (defArgs s_order_between) (defBody s_order_between) (defScope s_order_between) .none kV_order_between dc_order_between pm_order_between an_order_between cd_order_between ct_order_between), sl_order_between⟩) (c_order_between : PySem.W.codeIn K cd_order_between "order_between" = true) (k_order_between : PySem.W.keepIn K (.ref f_order_between) = true)
    (a_angle_sum : PySem.W.nsIn K mainGlobals "angle_sum" = some (some (.ref f_angle_sum)))
    (l_angle_sum : K.lookup f_angle_sum = some ⟨oc_angle_sum, od_angle_sum, .func (PySem.W.fnOf "angle_sum" "angle_sum" (defArgs s_angle_sum) (defBody s_angle_sum) (defScope s_angle_sum) .none kV_angle_sum dc_angle_sum pm_angle_sum an_angle_sum cd_angle_sum ct_angle_sum), sl_angle_sum⟩) (c_angle_sum : PySem.W.codeIn K cd_angle_sum "angle_sum" = true) (k_angle_sum : PySem.W.keepIn K (.ref f_angle_sum) = true)
    (a_order_of_angles : PySem.W.nsIn K mainGlobals "order_of_angles" = some (some (.ref f_order_of_angles)))
    (l_order_of_angles : K.lookup f_order_of_angles = some ⟨oc_order_of_angles, od_order_of_angles, .func (PySem.W.fnOf "order_of_angles" "order_of_angles" (defArgs s_order_of_angles) (defBody s_order_of_angles) (defScope s_order_of_angles) .none kV_order_of_angles dc_order_of_angles pm_order_of_angles an_order_of_angles cd_order_of_angles ct_order_of_angles), sl_order_of_angles⟩) (c_order_of_angles : PySem.W.codeIn K cd_order_of_angles "order_of_angles" = true) (k_order_of_angles : PySem.W.keepIn K (.ref f_order_of_angles) = true)
    (a_law_pen : PySem.W.nsIn K mainGlobals "_law_pen" = some (some (.ref f_law_pen)))
    (l_law_pen : K.lookup f_law_pen = some ⟨oc_law_pen, od_law_pen, .func (PySem.W.fnOf "_law_pen" "_law_pen" (defArgs s_law_pen) (defBody s_law_pen) (defScope s_law_pen) .none kV_law_pen dc_law_pen pm_law_pen an_law_pen cd_law_pen ct_law_pen), sl_law_pen⟩) (c_law_pen : PySem.W.codeIn K cd_law_pen "_law_pen" = true) (k_law_pen : PySem.W.keepIn K (.ref f_law_pen) = true)
    (a_law_draw : PySem.W.nsIn K mainGlobals "_law_draw" = some (some (.ref f_law_draw)))
    (l_law_draw : K.lookup f_law_draw = some ⟨oc_law_draw, od_law_draw, .func (PySem.W.fnOf "_law_draw" "_law_draw" (defArgs s_law_draw) (defBody s_law_draw) (defScope s_law_draw) .none kV_law_draw dc_law_draw pm_law_draw an_law_draw cd_law_draw ct_law_draw), sl_law_draw⟩) (c_law_draw : PySem.W.codeIn K cd_law_draw "_law_draw" = true) (k_law_draw : PySem.W.keepIn K (.ref f_law_draw) = true)
    (a_law_pick : PySem.W.nsIn K mainGlobals "_law_pick" = some (some (.ref f_law_pick)))
    (l_law_pick : K.lookup f_law_pick = some ⟨oc_law_pick, od_law_pick, .func (PySem.W.fnOf "_law_pick" "_law_pick" (defArgs s_law_pick) (defBody s_law_pick) (defScope s_law_pick) .none kV_law_pick dc_law_pick pm_law_pick an_law_pick cd_law_pick ct_law_pick), sl_law_pick⟩) (c_law_pick : PySem.W.codeIn K cd_law_pick "_law_pick" = true) (k_law_pick : PySem.W.keepIn K (.ref f_law_pick) = true)
    (a_law_gcd : PySem.W.nsIn K mainGlobals "_law_gcd" = some (some (.ref f_law_gcd)))
    (l_law_gcd : K.lookup f_law_gcd = some ⟨oc_law_gcd, od_law_gcd, .func (PySem.W.fnOf "_law_gcd" "_law_gcd" (defArgs s_law_gcd) (defBody s_law_gcd) (defScope s_law_gcd) .none kV_law_gcd dc_law_gcd pm_law_gcd an_law_gcd cd_law_gcd ct_law_gcd), sl_law_gcd⟩) (c_law_gcd : PySem.W.codeIn K cd_law_gcd "_law_gcd" = true) (k_law_gcd : PySem.W.keepIn K (.ref f_law_gcd) = true)
    (a_law_low : PySem.W.nsIn K mainGlobals "_law_low" = some (some (.ref f_law_low)))
    (l_law_low : K.lookup f_law_low = some ⟨oc_law_low, od_law_low, .func (PySem.W.fnOf "_law_low" "_law_low" (defArgs s_law_low) (defBody s_law_low) (defScope s_law_low) .none kV_law_low dc_law_low pm_law_low an_law_low cd_law_low ct_law_low), sl_law_low⟩) (c_law_low : PySem.W.codeIn K cd_law_low "_law_low" = true) (k_law_low : PySem.W.keepIn K (.ref f_law_low) = true)
    (a_law_plus : PySem.W.nsIn K mainGlobals "_law_plus" = some (some (.ref f_law_plus)))
    (l_law_plus : K.lookup f_law_plus = some ⟨oc_law_plus, od_law_plus, .func (PySem.W.fnOf "_law_plus" "_law_plus" (defArgs s_law_plus) (defBody s_law_plus) (defScope s_law_plus) .none kV_law_plus dc_law_plus pm_law_plus an_law_plus cd_law_plus ct_law_plus), sl_law_plus⟩) (c_law_plus : PySem.W.codeIn K cd_law_plus "_law_plus" = true) (k_law_plus : PySem.W.keepIn K (.ref f_law_plus) = true)
    (a_law_by : PySem.W.nsIn K mainGlobals "_law_by" = some (some (.ref f_law_by)))
    (l_law_by : K.lookup f_law_by = some ⟨oc_law_by, od_law_by, .func (PySem.W.fnOf "_law_by" "_law_by" (defArgs s_law_by) (defBody s_law_by) (defScope s_law_by) .none kV_law_by dc_law_by pm_law_by an_law_by cd_law_by ct_law_by), sl_law_by⟩) (c_law_by : PySem.W.codeIn K cd_law_by "_law_by" = true) (k_law_by : PySem.W.keepIn K (.ref f_law_by) = true)
    (a_law_minus : PySem.W.nsIn K mainGlobals "_law_minus" = some (some (.ref f_law_minus)))
    (l_law_minus : K.lookup f_law_minus = some ⟨oc_law_minus, od_law_minus, .func (PySem.W.fnOf "_law_minus" "_law_minus" (defArgs s_law_minus) (defBody s_law_minus) (defScope s_law_minus) .none kV_law_minus dc_law_minus pm_law_minus an_law_minus cd_law_minus ct_law_minus), sl_law_minus⟩) (c_law_minus : PySem.W.codeIn K cd_law_minus "_law_minus" = true) (k_law_minus : PySem.W.keepIn K (.ref f_law_minus) = true)
    (a_law_over : PySem.W.nsIn K mainGlobals "_law_over" = some (some (.ref f_law_over)))
    (l_law_over : K.lookup f_law_over = some ⟨oc_law_over, od_law_over, .func (PySem.W.fnOf "_law_over" "_law_over" (defArgs s_law_over) (defBody s_law_over) (defScope s_law_over) .none kV_law_over dc_law_over pm_law_over an_law_over cd_law_over ct_law_over), sl_law_over⟩) (c_law_over : PySem.W.codeIn K cd_law_over "_law_over" = true) (k_law_over : PySem.W.keepIn K (.ref f_law_over) = true)
    (a_law_product : PySem.W.nsIn K mainGlobals "_law_product" = some (some (.ref f_law_product)))
    (l_law_product : K.lookup f_law_product = some ⟨oc_law_product, od_law_product, .func (PySem.W.fnOf "_law_product" "_law_product" (defArgs s_law_product) (defBody s_law_product) (defScope s_law_product) .none kV_law_product dc_law_product pm_law_product an_law_product cd_law_product ct_law_product), sl_law_product⟩) (c_law_product : PySem.W.codeIn K cd_law_product "_law_product" = true) (k_law_product : PySem.W.keepIn K (.ref f_law_product) = true)
    (a_law_on : PySem.W.nsIn K mainGlobals "_law_on" = some (some (.ref f_law_on)))
    (l_law_on : K.lookup f_law_on = some ⟨oc_law_on, od_law_on, .func (PySem.W.fnOf "_law_on" "_law_on" (defArgs s_law_on) (defBody s_law_on) (defScope s_law_on) .none kV_law_on dc_law_on pm_law_on an_law_on cd_law_on ct_law_on), sl_law_on⟩) (c_law_on : PySem.W.codeIn K cd_law_on "_law_on" = true) (k_law_on : PySem.W.keepIn K (.ref f_law_on) = true)
    (a_law_angle : PySem.W.nsIn K mainGlobals "_law_angle" = some (some (.ref f_law_angle)))
    (l_law_angle : K.lookup f_law_angle = some ⟨oc_law_angle, od_law_angle, .func (PySem.W.fnOf "_law_angle" "_law_angle" (defArgs s_law_angle) (defBody s_law_angle) (defScope s_law_angle) .none kV_law_angle dc_law_angle pm_law_angle an_law_angle cd_law_angle ct_law_angle), sl_law_angle⟩) (c_law_angle : PySem.W.codeIn K cd_law_angle "_law_angle" = true) (k_law_angle : PySem.W.keepIn K (.ref f_law_angle) = true)
    (a_law_heard : PySem.W.nsIn K mainGlobals "_law_heard" = some (some (.ref f_law_heard)))
    (l_law_heard : K.lookup f_law_heard = some ⟨oc_law_heard, od_law_heard, .func (PySem.W.fnOf "_law_heard" "_law_heard" (defArgs s_law_heard) (defBody s_law_heard) (defScope s_law_heard) .none kV_law_heard dc_law_heard pm_law_heard an_law_heard cd_law_heard ct_law_heard), sl_law_heard⟩) (c_law_heard : PySem.W.codeIn K cd_law_heard "_law_heard" = true) (k_law_heard : PySem.W.keepIn K (.ref f_law_heard) = true)
    (a_law_drawn : PySem.W.nsIn K mainGlobals "_law_drawn" = some (some (.ref f_law_drawn)))
    (l_law_drawn : K.lookup f_law_drawn = some ⟨oc_law_drawn, od_law_drawn, .func (PySem.W.fnOf "_law_drawn" "_law_drawn" (defArgs s_law_drawn) (defBody s_law_drawn) (defScope s_law_drawn) .none kV_law_drawn dc_law_drawn pm_law_drawn an_law_drawn cd_law_drawn ct_law_drawn), sl_law_drawn⟩) (c_law_drawn : PySem.W.codeIn K cd_law_drawn "_law_drawn" = true) (k_law_drawn : PySem.W.keepIn K (.ref f_law_drawn) = true)
    (a_law_sum : PySem.W.nsIn K mainGlobals "_law_sum" = some (some (.ref f_law_sum)))
    (l_law_sum : K.lookup f_law_sum = some ⟨oc_law_sum, od_law_sum, .func (PySem.W.fnOf "_law_sum" "_law_sum" (defArgs s_law_sum) (defBody s_law_sum) (defScope s_law_sum) .none kV_law_sum dc_law_sum pm_law_sum an_law_sum cd_law_sum ct_law_sum), sl_law_sum⟩) (c_law_sum : PySem.W.codeIn K cd_law_sum "_law_sum" = true) (k_law_sum : PySem.W.keepIn K (.ref f_law_sum) = true)
    (a_law_order : PySem.W.nsIn K mainGlobals "_law_order" = some (some (.ref f_law_order)))
    (l_law_order : K.lookup f_law_order = some ⟨oc_law_order, od_law_order, .func (PySem.W.fnOf "_law_order" "_law_order" (defArgs s_law_order) (defBody s_law_order) (defScope s_law_order) .none kV_law_order dc_law_order pm_law_order an_law_order cd_law_order ct_law_order), sl_law_order⟩) (c_law_order : PySem.W.codeIn K cd_law_order "_law_order" = true) (k_law_order : PySem.W.keepIn K (.ref f_law_order) = true)
    (a_law_odd : PySem.W.nsIn K mainGlobals "_law_odd" = some (some (.ref f_law_odd)))
    (l_law_odd : K.lookup f_law_odd = some ⟨oc_law_odd, od_law_odd, .func (PySem.W.fnOf "_law_odd" "_law_odd" (defArgs s_law_odd) (defBody s_law_odd) (defScope s_law_odd) .none kV_law_odd dc_law_odd pm_law_odd an_law_odd cd_law_odd ct_law_odd), sl_law_odd⟩) (c_law_odd : PySem.W.codeIn K cd_law_odd "_law_odd" = true) (k_law_odd : PySem.W.keepIn K (.ref f_law_odd) = true)
    (a_law_refused_right : PySem.W.nsIn K mainGlobals "_law_refused_right" = some (some (.ref f_law_refused_right)))
    (l_law_refused_right : K.lookup f_law_refused_right = some ⟨oc_law_refused_right, od_law_refused_right, .func (PySem.W.fnOf "_law_refused_right" "_law_refused_right" (defArgs s_law_refused_right) (defBody s_law_refused_right) (defScope s_law_refused_right) .none kV_law_refused_right dc_law_refused_right pm_law_refused_right an_law_refused_right (.ref cd) ct_law_refused_right), sl_law_refused_right⟩) (c_law_refused_right : PySem.W.codeIn K (.ref cd) "_law_refused_right" = true) (k_law_refused_right : PySem.W.keepIn K (.ref f_law_refused_right) = true)
    (a_law : PySem.W.nsIn K mainGlobals "law" = some (some (.ref f_law)))
    (l_law : K.lookup f_law = some ⟨oc_law, od_law, .func (PySem.W.fnOf "law" "law" (defArgs s_law) (defBody s_law) (defScope s_law) .none kV_law dc_law pm_law an_law cd_law ct_law), sl_law⟩) (c_law : PySem.W.codeIn K cd_law "law" = true) (k_law : PySem.W.keepIn K (.ref f_law) = true)
    (aC_BV : PySem.W.nsIn K mainGlobals "BadValue" = some (some (.ref C_BV)))
    (xL_BV : K.lookup C_BV = some (excClassObj nm_BV q_BV C_BV N_BV bs_BV bm_BV true sn_BV sub_BV ab_BV col_BV dd_BV m0_BV m1_BV m2_BV m3_BV m5_BV "ValueError.__new__")) (rf_BV : PySem.HandSPX.refsVE bm_BV = true)
    (sa_BV : PySem.W.findIn K (.ref C_BV) "__setattr__" = some (some (.builtin "object.__setattr__")))
    (eC_BV : PySem.W.subIn K (.ref C_BV) (.type "BaseException") = some true)
    (tC_BV : PySem.W.typeIn K (.ref C_BV) = some (.type "type"))
    (kC_BV : PySem.W.keepIn K (.ref C_BV) = true)
    (np_BV : PySem.W.findIn K (.ref C_BV) "part" = some none)
    (iI_BV : PySem.W.findIn K (.ref C_BV) "__init__" = some (some (.ref f_BV_init)))
    (tI_BV : PySem.W.typeIn K (.ref f_BV_init) = some (.type "function"))
    (xga_BV : PySem.W.findIn K (.ref C_BV) "__getattribute__" = some (some (.builtin "BaseException.__getattribute__")))
    (xgg_BV : PySem.W.findIn K (.ref C_BV) "__getattr__" = some none)
    (xhd_BV : PySem.W.hasDictIn K C_BV = true)
    (l_BV_init : K.lookup f_BV_init = some ⟨oc_BV_init, od_BV_init, .func (PySem.W.fnOf "__init__" "BadValue.__init__" (defArgs s_BV_init) (defBody s_BV_init) (defScope s_BV_init) .none kV_BV_init dc_BV_init pm_BV_init an_BV_init cd_BV_init ct_BV_init), sl_BV_init⟩) (c_BV_init : PySem.W.codeIn K cd_BV_init "BadValue.__init__" = true) (k_BV_init : PySem.W.keepIn K (.ref f_BV_init) = true)
    (aC_BN : PySem.W.nsIn K mainGlobals "BadNumber" = some (some (.ref C_BN)))
    (xL_BN : K.lookup C_BN = some (excClassObj nm_BN q_BN C_BN N_BN bs_BN bm_BN true sn_BN sub_BN ab_BN col_BN dd_BN m0_BN m1_BN m2_BN m3_BN m5_BN "ValueError.__new__")) (rf_BN : PySem.HandSPX.refsVE bm_BN = true)
    (sa_BN : PySem.W.findIn K (.ref C_BN) "__setattr__" = some (some (.builtin "object.__setattr__")))
    (eC_BN : PySem.W.subIn K (.ref C_BN) (.type "BaseException") = some true)
    (tC_BN : PySem.W.typeIn K (.ref C_BN) = some (.type "type"))
    (kC_BN : PySem.W.keepIn K (.ref C_BN) = true)
    (np_BN : PySem.W.findIn K (.ref C_BN) "part" = some none)
    (iI_BN : PySem.W.findIn K (.ref C_BN) "__init__" = some (some (.ref f_BN_init)))
    (tI_BN : PySem.W.typeIn K (.ref f_BN_init) = some (.type "function"))
    (xga_BN : PySem.W.findIn K (.ref C_BN) "__getattribute__" = some (some (.builtin "BaseException.__getattribute__")))
    (xgg_BN : PySem.W.findIn K (.ref C_BN) "__getattr__" = some none)
    (xhd_BN : PySem.W.hasDictIn K C_BN = true)
    (l_BN_init : K.lookup f_BN_init = some ⟨oc_BN_init, od_BN_init, .func (PySem.W.fnOf "__init__" "BadNumber.__init__" (defArgs s_BN_init) (defBody s_BN_init) (defScope s_BN_init) .none kV_BN_init dc_BN_init pm_BN_init an_BN_init cd_BN_init ct_BN_init), sl_BN_init⟩) (c_BN_init : PySem.W.codeIn K cd_BN_init "BadNumber.__init__" = true) (k_BN_init : PySem.W.keepIn K (.ref f_BN_init) = true)
    (aPE : PySem.W.nsIn K mainGlobals "PlanError" = some (some (.ref C_PE)))
    (aMF : PySem.W.nsIn K mainGlobals "Misfit" = some (some (.ref C_MF)))
    (aTM : PySem.W.nsIn K mainGlobals "TooMany" = some (some (.ref C_TM)))
    (pr : PySem.W.readsIn K C_PE (.type "type") = true)
    (pg : PySem.W.specialIn K (.ref C_PE) "__getattribute__" = some (some (.builtin "type.__getattribute__")))
    (pa : PySem.W.findCls K (.ref C_PE) (.type "type") "__init__" = some (.val (.builtin "ValueError.__init__")))
    (xVV : PySem.W.exmOne K (.ref C_BV) (.ref C_BV) = some true)
    (xNV : PySem.W.exmOne K (.ref C_BN) (.ref C_BV) = some false)
    (xNN : PySem.W.exmOne K (.ref C_BN) (.ref C_BN) = some true)
    (aZ : PySem.W.nsIn K mainGlobals "ZERO" = some (some (.ref zero)))
    (lZ : K.lookup zero = some ⟨.type "tuple", od_z, .seq #[.int 0 t0, .int 1 t1] nz, sl_z⟩)
    (aG : PySem.W.nsIn K mainGlobals "gcd" = some (some (.builtin "math.gcd")))
    (hT : h.get? tb = some { cls := .none, data := .fields #[] })
    (nT : K.lookup tb = none)
    (cH : PySem.W.codeHdIn K cd tb = true)
    (z_isinstance : PySem.W.nsIn K mainGlobals "isinstance" = some none)
    (z_int : PySem.W.nsIn K mainGlobals "int" = some none)
    (z_bool : PySem.W.nsIn K mainGlobals "bool" = some none)
    (z_list : PySem.W.nsIn K mainGlobals "list" = some none)
    (z_tuple : PySem.W.nsIn K mainGlobals "tuple" = some none)
    (z_len : PySem.W.nsIn K mainGlobals "len" = some none)
    (z_all : PySem.W.nsIn K mainGlobals "all" = some none)
    (z_abs : PySem.W.nsIn K mainGlobals "abs" = some none)
    (z_range : PySem.W.nsIn K mainGlobals "range" = some none)
    (z_repr : PySem.W.nsIn K mainGlobals "repr" = some none) :
    LawAtG l w K CX0 10 63 "script" mg fa h := by
  have e := hfa.symm.trans (PySem.W.mg_of X G a_law)
  have e2 : fa = f_law := by injection e with e; injection e
  rw [e2]
  let A : Ad := { f_need_integer := f_need_integer, d_need_integer := PySem.W.fnOf "need_integer" "need_integer" (defArgs s_need_integer) (defBody s_need_integer) (defScope s_need_integer) .none kV_need_integer dc_need_integer pm_need_integer an_need_integer cd_need_integer ct_need_integer, f_is_integer := f_is_integer, d_is_integer := PySem.W.fnOf "is_integer" "is_integer" (defArgs s_is_integer) (defBody s_is_integer) (defScope s_is_integer) .none kV_is_integer dc_is_integer pm_is_integer an_is_integer cd_is_integer ct_is_integer, f_reduced := f_reduced, d_reduced := PySem.W.fnOf "reduced" "reduced" (defArgs s_reduced) (defBody s_reduced) (defScope s_reduced) .none kV_reduced dc_reduced pm_reduced an_reduced cd_reduced ct_reduced, f_need_fraction := f_need_fraction, d_need_fraction := PySem.W.fnOf "need_fraction" "need_fraction" (defArgs s_need_fraction) (defBody s_need_fraction) (defScope s_need_fraction) .none kV_need_fraction dc_need_fraction pm_need_fraction an_need_fraction cd_need_fraction ct_need_fraction, f_added := f_added, d_added := PySem.W.fnOf "added" "added" (defArgs s_added) (defBody s_added) (defScope s_added) .none kV_added dc_added pm_added an_added cd_added ct_added, f_less := f_less, d_less := PySem.W.fnOf "less" "less" (defArgs s_less) (defBody s_less) (defScope s_less) .none kV_less dc_less pm_less an_less cd_less ct_less, f_times := f_times, d_times := PySem.W.fnOf "times" "times" (defArgs s_times) (defBody s_times) (defScope s_times) .none kV_times dc_times pm_times an_times cd_times ct_times, f_over := f_over, d_over := PySem.W.fnOf "over" "over" (defArgs s_over) (defBody s_over) (defScope s_over) .none kV_over dc_over pm_over an_over cd_over ct_over, f_order_of := f_order_of, d_order_of := PySem.W.fnOf "order_of" "order_of" (defArgs s_order_of) (defBody s_order_of) (defScope s_order_of) .none kV_order_of dc_order_of pm_order_of an_order_of cd_order_of ct_order_of, f_need_angle := f_need_angle, d_need_angle := PySem.W.fnOf "need_angle" "need_angle" (defArgs s_need_angle) (defBody s_need_angle) (defScope s_need_angle) .none kV_need_angle dc_need_angle pm_need_angle an_need_angle cd_need_angle ct_need_angle, f_joined := f_joined, d_joined := PySem.W.fnOf "joined" "joined" (defArgs s_joined) (defBody s_joined) (defScope s_joined) .none kV_joined dc_joined pm_joined an_joined cd_joined ct_joined, f_order_between := f_order_between, d_order_between := PySem.W.fnOf "order_between" "order_between" (defArgs s_order_between) (defBody s_order_between) (defScope s_order_between) .none kV_order_between dc_order_between pm_order_between an_order_between cd_order_between ct_order_between, f_angle_sum := f_angle_sum, d_angle_sum := PySem.W.fnOf "angle_sum" "angle_sum" (defArgs s_angle_sum) (defBody s_angle_sum) (defScope s_angle_sum) .none kV_angle_sum dc_angle_sum pm_angle_sum an_angle_sum cd_angle_sum ct_angle_sum, f_order_of_angles := f_order_of_angles, d_order_of_angles := PySem.W.fnOf "order_of_angles" "order_of_angles" (defArgs s_order_of_angles) (defBody s_order_of_angles) (defScope s_order_of_angles) .none kV_order_of_angles dc_order_of_angles pm_order_of_angles an_order_of_angles cd_order_of_angles ct_order_of_angles, f_law_pen := f_law_pen, d_law_pen := PySem.W.fnOf "_law_pen" "_law_pen" (defArgs s_law_pen) (defBody s_law_pen) (defScope s_law_pen) .none kV_law_pen dc_law_pen pm_law_pen an_law_pen cd_law_pen ct_law_pen, f_law_draw := f_law_draw, d_law_draw := PySem.W.fnOf "_law_draw" "_law_draw" (defArgs s_law_draw) (defBody s_law_draw) (defScope s_law_draw) .none kV_law_draw dc_law_draw pm_law_draw an_law_draw cd_law_draw ct_law_draw, f_law_pick := f_law_pick, d_law_pick := PySem.W.fnOf "_law_pick" "_law_pick" (defArgs s_law_pick) (defBody s_law_pick) (defScope s_law_pick) .none kV_law_pick dc_law_pick pm_law_pick an_law_pick cd_law_pick ct_law_pick, f_law_gcd := f_law_gcd, d_law_gcd := PySem.W.fnOf "_law_gcd" "_law_gcd" (defArgs s_law_gcd) (defBody s_law_gcd) (defScope s_law_gcd) .none kV_law_gcd dc_law_gcd pm_law_gcd an_law_gcd cd_law_gcd ct_law_gcd, f_law_low := f_law_low, d_law_low := PySem.W.fnOf "_law_low" "_law_low" (defArgs s_law_low) (defBody s_law_low) (defScope s_law_low) .none kV_law_low dc_law_low pm_law_low an_law_low cd_law_low ct_law_low, f_law_plus := f_law_plus, d_law_plus := PySem.W.fnOf "_law_plus" "_law_plus" (defArgs s_law_plus) (defBody s_law_plus) (defScope s_law_plus) .none kV_law_plus dc_law_plus pm_law_plus an_law_plus cd_law_plus ct_law_plus, f_law_by := f_law_by, d_law_by := PySem.W.fnOf "_law_by" "_law_by" (defArgs s_law_by) (defBody s_law_by) (defScope s_law_by) .none kV_law_by dc_law_by pm_law_by an_law_by cd_law_by ct_law_by, f_law_minus := f_law_minus, d_law_minus := PySem.W.fnOf "_law_minus" "_law_minus" (defArgs s_law_minus) (defBody s_law_minus) (defScope s_law_minus) .none kV_law_minus dc_law_minus pm_law_minus an_law_minus cd_law_minus ct_law_minus, f_law_over := f_law_over, d_law_over := PySem.W.fnOf "_law_over" "_law_over" (defArgs s_law_over) (defBody s_law_over) (defScope s_law_over) .none kV_law_over dc_law_over pm_law_over an_law_over cd_law_over ct_law_over, f_law_product := f_law_product, d_law_product := PySem.W.fnOf "_law_product" "_law_product" (defArgs s_law_product) (defBody s_law_product) (defScope s_law_product) .none kV_law_product dc_law_product pm_law_product an_law_product cd_law_product ct_law_product, f_law_on := f_law_on, d_law_on := PySem.W.fnOf "_law_on" "_law_on" (defArgs s_law_on) (defBody s_law_on) (defScope s_law_on) .none kV_law_on dc_law_on pm_law_on an_law_on cd_law_on ct_law_on, f_law_angle := f_law_angle, d_law_angle := PySem.W.fnOf "_law_angle" "_law_angle" (defArgs s_law_angle) (defBody s_law_angle) (defScope s_law_angle) .none kV_law_angle dc_law_angle pm_law_angle an_law_angle cd_law_angle ct_law_angle, f_law_heard := f_law_heard, d_law_heard := PySem.W.fnOf "_law_heard" "_law_heard" (defArgs s_law_heard) (defBody s_law_heard) (defScope s_law_heard) .none kV_law_heard dc_law_heard pm_law_heard an_law_heard cd_law_heard ct_law_heard, f_law_drawn := f_law_drawn, d_law_drawn := PySem.W.fnOf "_law_drawn" "_law_drawn" (defArgs s_law_drawn) (defBody s_law_drawn) (defScope s_law_drawn) .none kV_law_drawn dc_law_drawn pm_law_drawn an_law_drawn cd_law_drawn ct_law_drawn, f_law_sum := f_law_sum, d_law_sum := PySem.W.fnOf "_law_sum" "_law_sum" (defArgs s_law_sum) (defBody s_law_sum) (defScope s_law_sum) .none kV_law_sum dc_law_sum pm_law_sum an_law_sum cd_law_sum ct_law_sum, f_law_order := f_law_order, d_law_order := PySem.W.fnOf "_law_order" "_law_order" (defArgs s_law_order) (defBody s_law_order) (defScope s_law_order) .none kV_law_order dc_law_order pm_law_order an_law_order cd_law_order ct_law_order, f_law_odd := f_law_odd, d_law_odd := PySem.W.fnOf "_law_odd" "_law_odd" (defArgs s_law_odd) (defBody s_law_odd) (defScope s_law_odd) .none kV_law_odd dc_law_odd pm_law_odd an_law_odd cd_law_odd ct_law_odd, f_law_refused_right := f_law_refused_right, d_law_refused_right := PySem.W.fnOf "_law_refused_right" "_law_refused_right" (defArgs s_law_refused_right) (defBody s_law_refused_right) (defScope s_law_refused_right) .none kV_law_refused_right dc_law_refused_right pm_law_refused_right an_law_refused_right (.ref cd) ct_law_refused_right, f_law := f_law, d_law := PySem.W.fnOf "law" "law" (defArgs s_law) (defBody s_law) (defScope s_law) .none kV_law dc_law pm_law an_law cd_law ct_law, f_BV_init := f_BV_init, d_BV_init := PySem.W.fnOf "__init__" "BadValue.__init__" (defArgs s_BV_init) (defBody s_BV_init) (defScope s_BV_init) .none kV_BV_init dc_BV_init pm_BV_init an_BV_init cd_BV_init ct_BV_init, f_BN_init := f_BN_init, d_BN_init := PySem.W.fnOf "__init__" "BadNumber.__init__" (defArgs s_BN_init) (defBody s_BN_init) (defScope s_BN_init) .none kV_BN_init dc_BN_init pm_BN_init an_BN_init cd_BN_init ct_BN_init, c_BV := C_BV, c_BN := C_BN, c_MF := C_MF, c_TM := C_TM, c_PE := C_PE, m_PE := .type "type", zero := zero, cd_rr := cd, tb_rr := tb, tk := tk }
  have T : LamT K mg A := { F_need_integer := fun_mk (st := s_need_integer) l_need_integer c_need_integer k_need_integer, g_need_integer := PySem.W.mg_of X G a_need_integer, F_is_integer := fun_mk (st := s_is_integer) l_is_integer c_is_integer k_is_integer, g_is_integer := PySem.W.mg_of X G a_is_integer, F_reduced := fun_mk (st := s_reduced) l_reduced c_reduced k_reduced, g_reduced := PySem.W.mg_of X G a_reduced, F_need_fraction := fun_mk (st := s_need_fraction) l_need_fraction c_need_fraction k_need_fraction, g_need_fraction := PySem.W.mg_of X G a_need_fraction, F_added := fun_mk (st := s_added) l_added c_added k_added, g_added := PySem.W.mg_of X G a_added, F_less := fun_mk (st := s_less) l_less c_less k_less, g_less := PySem.W.mg_of X G a_less, F_times := fun_mk (st := s_times) l_times c_times k_times, g_times := PySem.W.mg_of X G a_times, F_over := fun_mk (st := s_over) l_over c_over k_over, g_over := PySem.W.mg_of X G a_over, F_order_of := fun_mk (st := s_order_of) l_order_of c_order_of k_order_of, g_order_of := PySem.W.mg_of X G a_order_of, F_need_angle := fun_mk (st := s_need_angle) l_need_angle c_need_angle k_need_angle, g_need_angle := PySem.W.mg_of X G a_need_angle, F_joined := fun_mk (st := s_joined) l_joined c_joined k_joined, g_joined := PySem.W.mg_of X G a_joined, F_order_between := fun_mk (st := s_order_between) l_order_between c_order_between k_order_between, g_order_between := PySem.W.mg_of X G a_order_between, F_angle_sum := fun_mk (st := s_angle_sum) l_angle_sum c_angle_sum k_angle_sum, g_angle_sum := PySem.W.mg_of X G a_angle_sum, F_order_of_angles := fun_mk (st := s_order_of_angles) l_order_of_angles c_order_of_angles k_order_of_angles, g_order_of_angles := PySem.W.mg_of X G a_order_of_angles, F_law_pen := fun_mk (st := s_law_pen) l_law_pen c_law_pen k_law_pen, g_law_pen := PySem.W.mg_of X G a_law_pen, F_law_draw := fun_mk (st := s_law_draw) l_law_draw c_law_draw k_law_draw, g_law_draw := PySem.W.mg_of X G a_law_draw, F_law_pick := fun_mk (st := s_law_pick) l_law_pick c_law_pick k_law_pick, g_law_pick := PySem.W.mg_of X G a_law_pick, F_law_gcd := fun_mk (st := s_law_gcd) l_law_gcd c_law_gcd k_law_gcd, g_law_gcd := PySem.W.mg_of X G a_law_gcd, F_law_low := fun_mk (st := s_law_low) l_law_low c_law_low k_law_low, g_law_low := PySem.W.mg_of X G a_law_low, F_law_plus := fun_mk (st := s_law_plus) l_law_plus c_law_plus k_law_plus, g_law_plus := PySem.W.mg_of X G a_law_plus, F_law_by := fun_mk (st := s_law_by) l_law_by c_law_by k_law_by, g_law_by := PySem.W.mg_of X G a_law_by, F_law_minus := fun_mk (st := s_law_minus) l_law_minus c_law_minus k_law_minus, g_law_minus := PySem.W.mg_of X G a_law_minus, F_law_over := fun_mk (st := s_law_over) l_law_over c_law_over k_law_over, g_law_over := PySem.W.mg_of X G a_law_over, F_law_product := fun_mk (st := s_law_product) l_law_product c_law_product k_law_product, g_law_product := PySem.W.mg_of X G a_law_product, F_law_on := fun_mk (st := s_law_on) l_law_on c_law_on k_law_on, g_law_on := PySem.W.mg_of X G a_law_on, F_law_angle := fun_mk (st := s_law_angle) l_law_angle c_law_angle k_law_angle, g_law_angle := PySem.W.mg_of X G a_law_angle, F_law_heard := fun_mk (st := s_law_heard) l_law_heard c_law_heard k_law_heard, g_law_heard := PySem.W.mg_of X G a_law_heard, F_law_drawn := fun_mk (st := s_law_drawn) l_law_drawn c_law_drawn k_law_drawn, g_law_drawn := PySem.W.mg_of X G a_law_drawn, F_law_sum := fun_mk (st := s_law_sum) l_law_sum c_law_sum k_law_sum, g_law_sum := PySem.W.mg_of X G a_law_sum, F_law_order := fun_mk (st := s_law_order) l_law_order c_law_order k_law_order, g_law_order := PySem.W.mg_of X G a_law_order, F_law_odd := fun_mk (st := s_law_odd) l_law_odd c_law_odd k_law_odd, g_law_odd := PySem.W.mg_of X G a_law_odd, F_law_refused_right := fun_mk (st := s_law_refused_right) l_law_refused_right c_law_refused_right k_law_refused_right, g_law_refused_right := PySem.W.mg_of X G a_law_refused_right, n_isinstance := PySem.W.mg_none_of X G z_isinstance, n_int := PySem.W.mg_none_of X G z_int, n_bool := PySem.W.mg_none_of X G z_bool, n_list := PySem.W.mg_none_of X G z_list, n_tuple := PySem.W.mg_none_of X G z_tuple, n_len := PySem.W.mg_none_of X G z_len, n_all := PySem.W.mg_none_of X G z_all, n_abs := PySem.W.mg_none_of X G z_abs, n_range := PySem.W.mg_none_of X G z_range, n_repr := PySem.W.mg_none_of X G z_repr, g_gcd := PySem.W.mg_of X G aG, g_ZERO := PySem.W.mg_of X G aZ, l_ZERO := fun _ => .inr ⟨_, _, _, lZ, rfl, rfl, by show 2 ≤ sizeLine; decide, .cons ⟨_, rfl⟩ (.cons ⟨_, rfl⟩ .nil)⟩, g_MOST := hm, g_PlanError := PySem.W.mg_of X G aPE, base := ⟨pr, pg, pa⟩, g_BadValue := PySem.W.mg_of X G aC_BV, o_BV := ⟨⟨_, _, _, _, _, _, _, _, _, _, _, _, _, _, _, xL_BV, rf_BV⟩, sa_BV, eC_BV, tC_BV, kC_BV⟩, n_BV := np_BV, i_BV := iI_BV, t_BV := tI_BV, F_BV_init := fun_mk (st := s_BV_init) l_BV_init c_BV_init k_BV_init, xf_BV := ⟨xga_BV, xgg_BV, eC_BV, xhd_BV⟩, g_BadNumber := PySem.W.mg_of X G aC_BN, o_BN := ⟨⟨_, _, _, _, _, _, _, _, _, _, _, _, _, _, _, xL_BN, rf_BN⟩, sa_BN, eC_BN, tC_BN, kC_BN⟩, n_BN := np_BN, i_BN := iI_BN, t_BN := tI_BN, F_BN_init := fun_mk (st := s_BN_init) l_BN_init c_BN_init k_BN_init, xf_BN := ⟨xga_BN, xgg_BN, eC_BN, xhd_BN⟩, ex_VV := xVV, ex_NV := xNV, ex_NN := xNN, g_Misfit := PySem.W.mg_of X G aMF, g_TooMany := PySem.W.mg_of X G aTM, cdv_rr := by show (K.lookup f_law_refused_right).map codeOf = _; rw [l_law_refused_right]; rfl }
  refine ⟨PySem.W.fnOf "law" "law" (defArgs s_law) (defBody s_law) (defScope s_law) .none kV_law dc_law pm_law an_law cd_law ct_law, [(cd, tb)], spLaw K A, fun p hp => ?_, fun p hp => ?_, fun p hp => ?_, fun s u => .of_eq rfl, fun H a ns _ _ hH hS => ⟨a, ns, rfl, hS, fun p hp => ?_, fun _ => rfl⟩, fun base _ _ TB => ok_law (A := A) T (TB (cd, tb) (List.mem_singleton.mpr rfl)) (fun_mk (st := s_law) l_law c_law k_law)⟩
  · rw [List.mem_singleton.mp hp]
    exact hT
  · rw [List.mem_singleton.mp hp]
    exact nT
  · rw [List.mem_singleton.mp hp]
    exact PySem.W.codeHd_of_K X cH
  · rw [List.mem_singleton.mp hp]
    exact LamX.TabS.nil (hH (cd, tb) (List.mem_singleton.mpr rfl))
theorem walk_ofX {l : PySem.W.OpenLaw} {n k : Nat} {q : Program} {loose : List Str} {XP : (Str → Option Value) → Heap → Prop} {YP : World → Heap → Prop} {d : DefRec} {K : Params → PySem.W.Frag} {CX : World → CXT} {x : Str}
    (hn : l.most = some n) (hn2 : n ≤ sizeLine) (hdf : d.params.defaults = []) (hr : RmG k callerA) (hY : ∀ (w : World) (h : Heap), YP w h → (K w.params).In h)
    (F : ∀ (w : World) (mg : Str → Option Value) (fa : Addr) (h : Heap), XP mg h → YP w h → (K w.params).In h → h.Ns mainGlobals mg → mg d.name = some (.ref fa) → LawAtG l w (K w.params) (CX w) k n x mg fa h)
    (hCX : ∀ (w : World) (H : Hp) (s : Shared) (e : Value) (s' : Shared), CX w [] H s (fun _ _ _ => False) e s' → False) :
    PySem.W.WalkO q loose XP YP l.row.toRowW d [] (fun f vs => PySem.call f vs) := by
  refine Att.attach_callB hn hdf fun w s₀ s₁ mg mb fa o pm cd doc a vs ns G Y ho hd hcd hmg hobj hints hlen hbits hg => ?_
  have KX := hY w _ Y
  obtain ⟨fd, cs, sp, hT, nT, C, hb, hsp, hF⟩ := F w mg fa _ G.X Y KX G.T.g hmg
  exact law_callG KX G.T.g G.T.b G.T.builtins G.T.nolimit hg hT nT C G.T.bmain hobj hints (Nat.le_trans hlen hn2) hr hF hb (fun H hH hS => hsp H a ns hlen hbits hH hS) fun H e s' => hCX w H s₁ e s'
end K8


set_option Elab.async false
set_option linter.all false
set_option maxRecDepth 100000
open PySem PySem.W PyProof.Rows in
set_option maxRecDepth 100000 in
set_option maxHeartbeats 0 in
theorem PySem.Challenge.cw_otherdiagonal_k80_angles_added_and_compa_holds : PySem.Challenge.rw_otherdiagonal_k80_angles_added_and_compa.Holds := by
  w_on; o_law; k_head; (case hw => w_witness2)
  k_fill
  refine K8.walk_ofX (l := PySem.Challenge.rw_otherdiagonal_k80_angles_added_and_compa) (n := 63) (k := 10) (CX := fun _ => L2.CX0) (x := "script") rfl (by decide) rfl ⟨⟨rfl, by decide, by decide⟩, rfl⟩ (fun w h Y => PySem.W.km_in_of Y) ?F (fun _ _ _ _ _ z => z)
  case F =>
    intro w mg fa h XX Y KX G hmg
    obtain ⟨v, e1, e2⟩ := XX.2.val ("MOST_HALVES", .int 1000000) (List.mem_singleton.mpr rfl)
    obtain ⟨tk, rfl⟩ : ∃ tk, v = .int 1000000 tk := by cases e2; exact ⟨_, rfl⟩
    refine' K8.all_mk KX G hmg e1 ?a_need_integer ?l_need_integer ?c_need_integer ?k_need_integer ?a_is_integer ?l_is_integer ?c_is_integer ?k_is_integer ?a_reduced ?l_reduced ?c_reduced ?k_reduced ?a_need_fraction ?l_need_fraction ?c_need_fraction ?k_need_fraction ?a_added ?l_added ?c_added ?k_added ?a_less ?l_less ?c_less ?k_less ?a_times ?l_times ?c_times ?k_times ?a_over ?l_over ?c_over ?k_over ?a_order_of ?l_order_of ?c_order_of ?k_order_of ?a_need_angle ?l_need_angle ?c_need_angle ?k_need_angle ?a_joined ?l_joined ?c_joined ?k_joined ?a_order_between ?l_order_between ?c_order_between ?k_order_between ?a_angle_sum ?l_angle_sum ?c_angle_sum ?k_angle_sum ?a_order_of_angles ?l_order_of_angles ?c_order_of_angles ?k_order_of_angles ?a_law_pen ?l_law_pen ?c_law_pen ?k_law_pen ?a_law_draw ?l_law_draw ?c_law_draw ?k_law_draw ?a_law_pick ?l_law_pick ?c_law_pick ?k_law_pick ?a_law_gcd ?l_law_gcd ?c_law_gcd ?k_law_gcd ?a_law_low ?l_law_low ?c_law_low ?k_law_low ?a_law_plus ?l_law_plus ?c_law_plus ?k_law_plus ?a_law_by ?l_law_by ?c_law_by ?k_law_by ?a_law_minus ?l_law_minus ?c_law_minus ?k_law_minus ?a_law_over ?l_law_over ?c_law_over ?k_law_over ?a_law_product ?l_law_product ?c_law_product ?k_law_product ?a_law_on ?l_law_on ?c_law_on ?k_law_on ?a_law_angle ?l_law_angle ?c_law_angle ?k_law_angle ?a_law_heard ?l_law_heard ?c_law_heard ?k_law_heard ?a_law_drawn ?l_law_drawn ?c_law_drawn ?k_law_drawn ?a_law_sum ?l_law_sum ?c_law_sum ?k_law_sum ?a_law_order ?l_law_order ?c_law_order ?k_law_order ?a_law_odd ?l_law_odd ?c_law_odd ?k_law_odd ?a_law_refused_right ?l_law_refused_right ?c_law_refused_right ?k_law_refused_right ?a_law ?l_law ?c_law ?k_law ?aC_BV ?xL_BV ?rf_BV ?sa_BV ?eC_BV ?tC_BV ?kC_BV ?np_BV ?iI_BV ?tI_BV ?xga_BV ?xgg_BV ?xhd_BV ?l_BV_init ?c_BV_init ?k_BV_init ?aC_BN ?xL_BN ?rf_BN ?sa_BN ?eC_BN ?tC_BN ?kC_BN ?np_BN ?iI_BN ?tI_BN ?xga_BN ?xgg_BN ?xhd_BN ?l_BN_init ?c_BN_init ?k_BN_init ?aPE ?aMF ?aTM ?pr ?pg ?pa ?xVV ?xNV ?xNN ?aZ ?lZ ?aG (PySem.W.km_tabs_of Y _ (List.mem_cons_self ..)) ?nT ?cH ?z_isinstance ?z_int ?z_bool ?z_list ?z_tuple ?z_len ?z_all ?z_abs ?z_range ?z_repr
    (case a_need_integer => k_is)
    (case l_need_integer => k_is)
    (case c_need_integer => k_is)
    (case k_need_integer => k_is)
    (case a_is_integer => k_is)
    (case l_is_integer => k_is)
    (case c_is_integer => k_is)
    (case k_is_integer => k_is)
    (case a_reduced => k_is)
    (case l_reduced => k_is)
    (case c_reduced => k_is)
    (case k_reduced => k_is)
    (case a_need_fraction => k_is)
    (case l_need_fraction => k_is)
    (case c_need_fraction => k_is)
    (case k_need_fraction => k_is)
    (case a_added => k_is)
    (case l_added => k_is)
    (case c_added => k_is)
    (case k_added => k_is)
    (case a_less => k_is)
    (case l_less => k_is)
    (case c_less => k_is)
    (case k_less => k_is)
    (case a_times => k_is)
    (case l_times => k_is)
    (case c_times => k_is)
    (case k_times => k_is)
    (case a_over => k_is)
    (case l_over => k_is)
    (case c_over => k_is)
    (case k_over => k_is)
    (case a_order_of => k_is)
    (case l_order_of => k_is)
    (case c_order_of => k_is)
    (case k_order_of => k_is)
    (case a_need_angle => k_is)
    (case l_need_angle => k_is)
    (case c_need_angle => k_is)
    (case k_need_angle => k_is)
    (case a_joined => k_is)
    (case l_joined => k_is)
    (case c_joined => k_is)
    (case k_joined => k_is)
    (case a_order_between => k_is)
    (case l_order_between => k_is)
    (case c_order_between => k_is)
    (case k_order_between => k_is)
    (case a_angle_sum => k_is)
    (case l_angle_sum => k_is)
    (case c_angle_sum => k_is)
    (case k_angle_sum => k_is)
    (case a_order_of_angles => k_is)
    (case l_order_of_angles => k_is)
    (case c_order_of_angles => k_is)
    (case k_order_of_angles => k_is)
    (case a_law_pen => k_is)
    (case l_law_pen => k_is)
    (case c_law_pen => k_is)
    (case k_law_pen => k_is)
    (case a_law_draw => k_is)
    (case l_law_draw => k_is)
    (case c_law_draw => k_is)
    (case k_law_draw => k_is)
    (case a_law_pick => k_is)
    (case l_law_pick => k_is)
    (case c_law_pick => k_is)
    (case k_law_pick => k_is)
    (case a_law_gcd => k_is)
    (case l_law_gcd => k_is)
    (case c_law_gcd => k_is)
    (case k_law_gcd => k_is)
    (case a_law_low => k_is)
    (case l_law_low => k_is)
    (case c_law_low => k_is)
    (case k_law_low => k_is)
    (case a_law_plus => k_is)
    (case l_law_plus => k_is)
    (case c_law_plus => k_is)
    (case k_law_plus => k_is)
    (case a_law_by => k_is)
    (case l_law_by => k_is)
    (case c_law_by => k_is)
    (case k_law_by => k_is)
    (case a_law_minus => k_is)
    (case l_law_minus => k_is)
    (case c_law_minus => k_is)
    (case k_law_minus => k_is)
    (case a_law_over => k_is)
    (case l_law_over => k_is)
    (case c_law_over => k_is)
    (case k_law_over => k_is)
    (case a_law_product => k_is)
    (case l_law_product => k_is)
    (case c_law_product => k_is)
    (case k_law_product => k_is)
    (case a_law_on => k_is)
    (case l_law_on => k_is)
    (case c_law_on => k_is)
    (case k_law_on => k_is)
    (case a_law_angle => k_is)
    (case l_law_angle => k_is)
    (case c_law_angle => k_is)
    (case k_law_angle => k_is)
    (case a_law_heard => k_is)
    (case l_law_heard => k_is)
    (case c_law_heard => k_is)
    (case k_law_heard => k_is)
    (case a_law_drawn => k_is)
    (case l_law_drawn => k_is)
    (case c_law_drawn => k_is)
    (case k_law_drawn => k_is)
    (case a_law_sum => k_is)
    (case l_law_sum => k_is)
    (case c_law_sum => k_is)
    (case k_law_sum => k_is)
    (case a_law_order => k_is)
    (case l_law_order => k_is)
    (case c_law_order => k_is)
    (case k_law_order => k_is)
    (case a_law_odd => k_is)
    (case l_law_odd => k_is)
    (case c_law_odd => k_is)
    (case k_law_odd => k_is)
    (case a_law_refused_right => k_is)
    (case l_law_refused_right => k_is)
    (case c_law_refused_right => k_is)
    (case k_law_refused_right => k_is)
    (case a_law => k_is)
    (case l_law => k_is)
    (case c_law => k_is)
    (case k_law => k_is)
    (case aC_BV => k_is)
    (case xL_BV => k_is)
    (case rf_BV => decide +kernel)
    (case sa_BV => k_is)
    (case eC_BV => k_is)
    (case tC_BV => k_is)
    (case kC_BV => k_is)
    (case np_BV => k_is)
    (case iI_BV => k_is)
    (case tI_BV => k_is)
    (case xga_BV => k_is)
    (case xgg_BV => k_is)
    (case xhd_BV => k_is)
    (case l_BV_init => k_is)
    (case c_BV_init => k_is)
    (case k_BV_init => k_is)
    (case aC_BN => k_is)
    (case xL_BN => k_is)
    (case rf_BN => decide +kernel)
    (case sa_BN => k_is)
    (case eC_BN => k_is)
    (case tC_BN => k_is)
    (case kC_BN => k_is)
    (case np_BN => k_is)
    (case iI_BN => k_is)
    (case tI_BN => k_is)
    (case xga_BN => k_is)
    (case xgg_BN => k_is)
    (case xhd_BN => k_is)
    (case l_BN_init => k_is)
    (case c_BN_init => k_is)
    (case k_BN_init => k_is)
    (case aPE => k_is)
    (case aMF => k_is)
    (case aTM => k_is)
    (case pr => k_is)
    (case pg => k_is)
    (case pa => k_is)
    (case xVV => first | kernel_rfl | rfl | decide +kernel)
    (case xNV => first | kernel_rfl | rfl | decide +kernel)
    (case xNN => first | kernel_rfl | rfl | decide +kernel)
    (case aZ => k_is)
    (case lZ => k_is)
    (case aG => k_is)
    (case nT => first | kernel_rfl | rfl | decide +kernel)
    (case cH => first | kernel_rfl | rfl | decide +kernel)
    (case z_isinstance => k_is)
    (case z_int => k_is)
    (case z_bool => k_is)
    (case z_list => k_is)
    (case z_tuple => k_is)
    (case z_len => k_is)
    (case z_all => k_is)
    (case z_abs => k_is)
    (case z_range => k_is)
    (case z_repr => k_is)


