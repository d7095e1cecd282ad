import PyProof.Rows.All
import Wide.All
import OpenK.AllK
import Wide.FinOn
import HandS.ForMost
import HandS.ForExc
import HandS.TryOnly
import HandS.Defaults
import HandS.Wide
import HandS.IsInst
import HandS.CallLocal
import HandS.Zip
import HandS.WrittenGet
import HandS.More
import HandS.Strs
import HandS.ExcIs
import HandS.HeadHook3
import HandS.Walk
import HandS.DictTup
import HandS.SetFor
import HandS.SetKeys
import KE.SortData
import HandS.TupAny
import PySem.Challenge.RW_fewasks_k76_texts_read
import HandS.Text
import KE.IntTextLaws
import HandS.ExcOwn
import PyProof.ReprRoads
import HandS.EndBits
import PyProof.ReprLen
import HandS.Head2
import HandS.HeadEnd
import HandS.HeadWalk
import HandS.HeadHook4
set_option Elab.async false
set_option linter.all false
set_option maxRecDepth 100000
set_option maxHeartbeats 4000000
namespace Fw
open PySem PySem.Spec PyProof.Rows L2

/-! ### what stays of a heap where only the objects of M change -/
structure Kp (M : List Addr) (H H' : Hp) : Prop where
  keep : ∀ b o, b ∉ M → H b = some o → H' b = some o
  tups : ∀ b xs, H b = some (.tup xs) → H' b = some (.tup xs)
  frzs : ∀ b o u, H b = some (.frz o u) → H' b = some (.frz o u)
  there : ∀ b o, H b = some o → ∃ o', H' b = some o'
/-- things that may be written -/
def Mu : HO → Prop
  | .tup _ => False
  | .frz _ _ => False
  | _ => True
section
variable {M M' : List Addr} {H H1 H2 H' : Hp} {p a : Addr} {o u : HO} {K : PySem.W.Frag}
theorem Kp.refl : Kp M H H := ⟨fun _ _ _ h => h, fun _ _ h => h, fun _ _ _ h => h, fun _ o h => ⟨o, h⟩⟩
theorem Kp.trans (x : Kp M H H1) (y : Kp M H1 H2) : Kp M H H2 :=
  ⟨fun b o n h => y.keep b o n (x.keep b o n h), fun b xs h => y.tups b xs (x.tups b xs h), fun b o u h => y.frzs b o u (x.frzs b o u h), fun b o h => by
    obtain ⟨o1, h1⟩ := x.there b o h
    exact y.there b o1 h1⟩
theorem Kp.mono (x : Kp M H H') (s : ∀ b, b ∈ M → b ∈ M') : Kp M' H H' := ⟨fun b o n h => x.keep b o (fun z => n (s b z)) h, x.tups, x.frzs, x.there⟩
theorem Kp.nil (x : Kp [] H H') : Kp M H H' := x.mono fun _ z => nomatch z
theorem Kp.new (x : Kp M H H') (h : H' p = none) : Kp M H (upd H' p o) := by
  refine x.trans ⟨fun b u _ e => ?_, fun b u e => ?_, fun b u v e => ?_, fun b u e => ⟨u, ?_⟩⟩ <;> (rw [upd_ne (ne_of_none e h)]; exact e)
/-- a thing that came later is written -/
theorem Kp.late (x : Kp M H H') (h : H p = none) : Kp M H (upd H' p o) := by
  refine ⟨fun b u n e => ?_, fun b u e => ?_, fun b u v e => ?_, fun b u e => ?_⟩
  · rw [upd_ne (ne_of_none e h)]; exact x.keep b u n e
  · rw [upd_ne (ne_of_none e h)]; exact x.tups b u e
  · rw [upd_ne (ne_of_none e h)]; exact x.frzs b u v e
  · rw [upd_ne (ne_of_none e h)]; exact x.there b u e
theorem Kp.put (x : Kp M H H') (h : H' p = some u) (m : Mu u) (i : p ∈ M) : Kp M H (upd H' p o) := by
  refine x.trans ⟨fun b v n e => ?_, fun b v e => ?_, fun b v w e => ?_, fun b v e => ?_⟩
  · rw [upd_ne (fun z => n (by rw [z]; exact i))]; exact e
  · rw [upd_ne (ne_of e h (by rintro rfl; exact m))]; exact e
  · rw [upd_ne (ne_of e h (by rintro rfl; exact m))]; exact e
  · by_cases z : b = p
    · subst z; exact ⟨_, upd_same⟩
    · exact ⟨v, by rw [upd_ne z]; exact e⟩
/-- what came later may change freely -/
theorem Kp.hide {M' : List Addr} (x : Kp M' H H1) (y : Kp M H1 H2) (h : ∀ m ∈ M, m ∈ M' ∨ H m = none) : Kp M' H H2 := by
  refine ⟨fun b o n e => y.keep b o (fun z => ?_) (x.keep b o n e), fun b xs e => y.tups b xs (x.tups b xs e), fun b o u e => y.frzs b o u (x.frzs b o u e), fun b o e => ?_⟩
  · rcases h b z with q | q
    · exact n q
    · rw [e] at q
      cases q
  · obtain ⟨o1, h1⟩ := x.there b o e
    exact y.there b o1 h1
theorem Kp.free (x : Kp M H H') (h : H' p = none) : H p = none := by
  cases q : H p with
  | none => rfl
  | some o =>
    obtain ⟨o', e⟩ := x.there p o q
    rw [h] at e
    cases e
theorem Kp.at (x : Kp M H H') (h : H a = some o) (n : a ∉ M) : H' a = some o := x.keep a o n h
theorem Kp.tup (x : Kp M H H') {xs : List V} (h : SqT K H a xs) : SqT K H' a xs := by
  rcases h with (h | ⟨o, h⟩) | h
  · exact .inl (.inl (x.tups _ _ h))
  · exact .inl (.inr ⟨o, x.frzs _ _ _ h⟩)
  · exact .inr h
theorem Kp.lst (x : Kp M H H') {xs : List V} (h : SqL K H a xs) (n : a ∉ M) : SqL K H' a xs := by
  rcases h with (h | ⟨o, h⟩) | h
  · exact .inl (.inl (x.keep _ _ n h))
  · exact .inl (.inr ⟨o, x.frzs _ _ _ h⟩)
  · exact .inr h
end

/-! ### a def of the text, as its callers see it -/
structure Dfn (P : Program) (w : World) (K : PySem.W.Frag) (mg : Str → Option Value) (base : Heap) (k : Nat) (x : Str) (ps : List Str) (sp : Sp) : Prop where
  ex : ∃ (f : Addr) (fd : FuncData), FnOk P w K mg base (L2.CX P w) k f fd ps sp ∧ mg x = some (.ref f) ∧ PySem.W.keepIn K (.ref f) = true ∧ Binds K fd ps [] ∧
    ∃ (oc : Value) (od : Option Addr) (osl : Array (Option Value)), K.lookup f = some ⟨oc, od, .func fd, osl⟩
/-- two promises of one def -/
theorem Dfn.or {P : Program} {w : World} {K : PySem.W.Frag} {mg : Str → Option Value} {base : Heap} {k j : Nat} {x : Str} {ps : List Str} {sp sp' : Sp} (G : Dfn P w K mg base k x ps sp) (G' : Dfn P w K mg base k x ps sp') :
    Dfn P w K mg base k x ps (fun vs H Q E => sp vs H Q E ∨ sp' vs H Q E) := by
  obtain ⟨f, fd, F, hm, hk, hb, oc, od, osl, hl⟩ := G.ex
  obtain ⟨f', fd', F', hm', _, _, oc', od', osl', hl'⟩ := G'.ex
  have e : f' = f := by
    rw [hm] at hm'
    cases hm'
    rfl
  subst e
  have e2 : fd' = fd := by
    rw [hl] at hl'
    cases hl'
    rfl
  subst e2
  exact ⟨f', fd', ⟨fun vs H Q E h => h.elim (F.len vs H Q E) (F'.len vs H Q E), fun A outer s H args us vs Q E hr he hb hv hs => hs.elim (F.run A outer s H args us vs Q E hr he hb hv) (F'.run A outer s H args us vs Q E hr he hb hv)⟩, hm, hk, hb, oc, od, osl, hl⟩
theorem Dfn.mono {P : Program} {w : World} {K : PySem.W.Frag} {mg : Str → Option Value} {base : Heap} {k j : Nat} {x : Str} {ps : List Str} {sp : Sp} (G : Dfn P w K mg base k x ps sp) (h : k ≤ j) : Dfn P w K mg base j x ps sp := by
  obtain ⟨f, fd, F, r⟩ := G.ex
  exact ⟨f, fd, F.mono h, r⟩
section
variable {X : Cx} {k j : Nat} {x : Str} {ps : List Str} {sp : Sp} {E : XK} {p pos : Pos} {e : Expr} {es : List Expr} {t : TA}
theorem pe_fnE (G : Dfn X.prog X.w X.K X.mg X.base k x ps sp) (hr : Room j X.A) (hx : Passes (L2.CX X.prog X.w) X E) (ha : PA X (e :: es) t) (hk : k ≤ j := by decide) (hg : Gl X x := by rfl)
    (hdb : (x == ("__debug__" : Str)) = false := by decide) (he : starEach (e :: es) X.env = (false, eval e X.env) :: starEach es X.env := by rfl) (hpl : (backTo pos (starEach es X.env)).any (·.1) = false := by rfl) :
    PE X (.Call (.Name x p) (e :: es) [] pos) (tCall sp [] E t) := by
  obtain ⟨f, fd, F, hm, hkp, hb, hlk⟩ := G.ex
  exact pe_call F (hr.mono hk) hg hm hkp hb .nil hx ha hdb he hpl
/-- nothing is let out -/
theorem pe_fn (G : Dfn X.prog X.w X.K X.mg X.base k x ps sp) (hr : Room j X.A) (ha : PA X (e :: es) t) (hk : k ≤ j := by decide) (hg : Gl X x := by rfl)
    (hdb : (x == ("__debug__" : Str)) = false := by decide) (he : starEach (e :: es) X.env = (false, eval e X.env) :: starEach es X.env := by rfl) (hpl : (backTo pos (starEach es X.env)).any (·.1) = false := by rfl) :
    PE X (.Call (.Name x p) (e :: es) [] pos) (tCall sp [] E0 t) := pe_fnE G hr passL ha hk hg hdb he hpl
/-- within a try's body -/
theorem pe_fnT {W : WX} (G : Dfn X.prog X.w X.K X.mg X.base k x ps sp) (hr : Room j X.A) (tk : Takes X W) (ha : PA X (e :: es) t) (hk : k ≤ j := by decide) (hg : Gl X x := by rfl)
    (hdb : (x == ("__debug__" : Str)) = false := by decide) (he : starEach (e :: es) X.env = (false, eval e X.env) :: starEach es X.env := by rfl) (hpl : (backTo pos (starEach es X.env)).any (·.1) = false := by rfl) :
    PE X (.Call (.Name x p) (e :: es) [] pos) (tCallS sp (WE W) t) := by
  obtain ⟨f, fd, F, hm, hkp, hb, hlk⟩ := G.ex
  exact pe_callS F (hr.mono hk) hg hm hkp hb (fun σ => passAt tk σ) ha hdb he hpl
end
/-- a call of a local name that holds one of several defs; nothing is let out -/
def tCallV (i : Nat) (S : Addr → Sp → Prop) (t : TA) : TE := fun σ H Q => ∃ f sp, σ[i]? = some (some (.ref f)) ∧ S f sp ∧ t σ H fun vs H1 => sp vs H1 Q E0
structure Hd (P : Program) (w : World) (K : PySem.W.Frag) (mg : Str → Option Value) (base : Heap) (k : Nat) (f : Addr) (sp : Sp) : Prop where
  ex : ∃ (fd : FuncData) (ps : List Str), FnOk P w K mg base (L2.CX P w) k f fd ps sp ∧ PySem.W.keepIn K (.ref f) = true ∧ Binds K fd ps []
theorem Dfn.hd {P : Program} {w : World} {K : PySem.W.Frag} {mg : Str → Option Value} {base : Heap} {k : Nat} {x : Str} {ps : List Str} {sp : Sp} {f : Addr} (G : Dfn P w K mg base k x ps sp) (h : mg x = some (.ref f)) : Hd P w K mg base k f sp := by
  obtain ⟨f', fd, F, hm, hkp, hb, hlk⟩ := G.ex
  rw [h] at hm
  cases hm
  exact ⟨fd, ps, F, hkp, hb⟩
theorem pe_callV {X : Cx} {k j i : Nat} {S : Addr → Sp → Prop} {x : Str} {p pos : Pos} {e : Expr} {es : List Expr} {t : TA} (A : ∀ f sp, S f sp → Hd X.prog X.w X.K X.mg X.base k f sp) (hr : Room j X.A) (hN : X.N[i]? = some x) (hv : Vis X.env.scope x) (ha : PA X (e :: es) t) (hk : k ≤ j := by decide)
    (hdb : (x == ("__debug__" : Str)) = false := by decide) (hcd : (x == ("__classdict__" : Str)) = false := by decide)
    (he : starEach (e :: es) X.env = (false, eval e X.env) :: starEach es X.env := by rfl) (hpl : (backTo pos (starEach es X.env)).any (·.1) = false := by rfl) : PE X (.Call (.Name x p) (e :: es) [] pos) (tCallV i S t) := by
  refine ⟨fun pins s σ H Q I h => ?_⟩
  obtain ⟨f, sp, hs, hS, ht⟩ := h
  obtain ⟨fd, ps, F, hkp, hb⟩ := (A f sp hS).ex
  refine (pe_callL (i := i) (f := f) (sp := sp) (dvs := []) (E := E0) F (hr.mono hk) hN hv hkp hb .nil passL ha hdb hcd he hpl).run pins s σ H Q I ⟨hs, ?_⟩
  have e0 : (fun (vs : List V) (H1 : Hp) => sp (vs ++ []) H1 Q E0) = fun vs H1 => sp vs H1 Q E0 := by
    funext vs H1
    rw [List.append_nil]
  rw [e0]
  exact ht
/-- a def of the text as the head's facts tell it, under its module name -/
structure At (K : PySem.W.Frag) (mg : Str → Option Value) (x : Str) (st : Stmt) (ps : List Str) : Prop where
  ex : ∃ (f : Addr) (fd : FuncData), FunD K x x (defArgs st) (defBody st) (defScope st) [] [] f fd ∧ mg x = some (.ref f) ∧ Binds K fd ps []
/-- the rule for a def: its body's term, the reading -/
theorem At.ok {P : Program} {w : World} {K : PySem.W.Frag} {mg : Str → Option Value} {base : Heap} {x : Str} {st : Stmt} {N ps : List Str} {k : Nat} {sp : Sp} (F : At K mg x st ps) (S : FnScope N ps (defScope st)) (len : ∀ vs H Q E, sp vs H Q E → vs.length = ps.length)
    (hbody : ∀ (qual : Str) (f : Addr) (cdv : Value) (A : Around) (outer : List Env) (s : Shared) (H : Hp) (vs : List V) (Q : VK) (E : XK), Room k (A.deeper (envOfC qual (defScope st) s.heap.objs.size f cdv)) → sp vs H Q E →
      ∃ t, PSs (cxOf (L2.CX P w) P w K mg base N qual (defScope st) f cdv A outer s H E) (defBody st) t ∧ t { nx := fun _ H' => Q .non H', rt := Q } (start N vs) H) : Dfn P w K mg base (k + 1) x ps sp := by
  obtain ⟨f, fd, FD, hm, hb⟩ := F.ex
  exact ⟨f, fd, FD.ok S len fun cdv A outer s H vs Q E hr hsp => hbody x f cdv A outer s H vs Q E hr hsp, hm, FD.kp, hb, by
    obtain ⟨oc, od, dV, kV, doc, pm, an, cdv, ct, osl, e1, lk, _⟩ := FD.ex
    exact ⟨oc, od, osl, lk⟩⟩
theorem Dfn.imp {P : Program} {w : World} {K : PySem.W.Frag} {mg : Str → Option Value} {base : Heap} {k : Nat} {x : Str} {ps : List Str} {sp sp' : Sp} (G : Dfn P w K mg base k x ps sp) (h : ∀ vs H Q E, sp' vs H Q E → sp vs H Q E) : Dfn P w K mg base k x ps sp' := by
  obtain ⟨f, fd, F, hm, hkp, hb, hlk⟩ := G.ex
  exact ⟨f, fd, F.imp h, hm, hkp, hb, hlk⟩
end Fw
set_option Elab.async false
set_option linter.all false
set_option maxRecDepth 100000
set_option maxHeartbeats 4000000
namespace Fw
open PySem PySem.Spec PyProof.Rows L2

/-! ### exceptions of own classes over ValueError without __init__ -/
structure ExcC (K : PySem.W.Frag) (mg : Str → Option Value) (x : Str) (C : Addr) : Prop where
  g : mg x = some (.ref C)
  q : PySem.W.excIn K C He.veBase "ValueError.__new__" = true
  k : PySem.W.keepIn K (.ref C) = true
  b : PySem.W.subIn K (.ref C) (.type "BaseException") = some true
  t : PySem.W.typeIn K (.ref C) = some (.type "type")
section
variable {X : Cx} {C : Addr} {x m : Str} {j : Nat} {p p2 pos : Pos}
theorem pmk_own0 (T : ExcC X.K X.mg x C) (hg : Gl X x) (hdb : (x == ("__debug__" : Str)) = false := by decide) : PMk X (.Call (.Name x p) [] [] pos) (fun _ H Q => Q (.ref C) none H) := by
  intro pins s σ H Q I h
  refine wpAny_Call_Name_kw (ld_glob I hg T.g ?_ hdb)
  refine PySem.W.callWith_K0 I.kIn T.k ?_
  show wpAny _ _ (call (.ref C) []) _ _ _
  obtain ⟨bm, N, nm, qn, bs, hdct, sn, sub, ab, col, dd, k0, k1, k2, k3, k5, mN, hC, hN, hni, OT⟩ := exc_obj I.kIn T.q
  refine wpAny_call_exc_subT PySem.F.excBase_ValueError OT hC hN hni (fun h' e hm => ?_) (by show 0 ≤ sizeLine; exact Nat.zero_le _)
  exact mk_of I hm (raises_own T.b T.t) h (I.hok.gone hm.new)
theorem pmk_own1 (T : ExcC X.K X.mg x C) (hg : Gl X x) (hdb : (x == ("__debug__" : Str)) = false := by decide) : PMk X (.Call (.Name x p) [.Constant (.str m) j p2] [] pos) (fun _ H Q => Q (.ref C) none H) :=
  pmk_own PySem.F.excBase_ValueError T.q T.g T.k (raises_own T.b T.t) hg hdb
end

/-! ### a rule's reading, by the rule -/
abbrev relO {X : Cx} {f : Value → Value → Sem Value} {r : R2} (_ : OpR X f r) : R2 := r
abbrev relC {X : Cx} {f : Value} {r : List V → Hp → VK → Prop} (_ : CallR X f r) : List V → Hp → VK → Prop := r
abbrev relM {X : Cx} {id : String} {r : V → List V → Hp → VK → Prop} (_ : MtR X id r) : V → List V → Hp → VK → Prop := r
abbrev relI {X : Cx} {r : R2} (_ : IxR X r) : R2 := r
abbrev relSl {X : Cx} {r : V → Option Int → Option Int → Hp → VK → Prop} (_ : SlR X r) : V → Option Int → Option Int → Hp → VK → Prop := r
abbrev spOf {P : Program} {w : World} {K : PySem.W.Frag} {mg : Str → Option Value} {base : Heap} {k : Nat} {x : Str} {ps : List Str} {sp : Sp} (_ : Dfn P w K mg base k x ps sp) : Sp := sp
abbrev ciOf {mg : Str → Option Value} {x : Str} {i : Int} (_ : ∃ t, mg x = some (.int i t)) : V := .int i
abbrev csOf {mg : Str → Option Value} {x z : Str} (_ : ∃ t, mg x = some (.str z t)) : V := .str z
abbrev crOf {mg : Str → Option Value} {x : Str} {a : Addr} (_ : mg x = some (.ref a)) : V := .ref a
/-! ### try: the body's term is told where the reading comes to it -/
def tTryR (X : Cx) (body : List Stmt) (W : Ends → WX) : TS := fun D σ H => ∀ WW : WX, WW = W D → ∃ t : TS, (∀ (pn : List (Addr × Obj)) (xe : Value → Shared → Prop), Takes (X.tr pn xe) WW → PassesOwn (model X.prog X.w) X.A X.env xe → PSs (X.tr pn xe) body t) ∧ t D σ H
theorem ps_tryR {X : Cx} {x : Str} {c : Value} {body suite : List Stmt} {b₀ : Stmt} {np pos pos' : Pos} {ts : Addr → Value → Option Addr → TS} {Wout : WX} (hs : X.stack = X.env :: X.outer) (hf : X.env.frame = some X.env.locals) (hc : Names X x c) (tk : Takes X Wout)
    (hsu : ∀ (a : Addr) (oe : Obj) (cls : Value) (d : Option Addr) (pn : List (Addr × Obj)), Zc cls d oe → (∃ vs, oe.data = .fields vs) → PSs (X.suite a ((a, oe) :: pn)) (b₀ :: suite) (ts a cls d)) :
    PS X (.Try body [.ExceptHandler (some (.Name x np)) none (b₀ :: suite) pos'] [] [] pos) (tTryR X body (wOnly X.K c ts Wout)) :=
  ⟨fun pins s σ H D I h => by
    obtain ⟨t, hb, ht⟩ := h _ rfl
    exact (ps_try_only (tb := fun W => fun D' σ' H' => W = wOnly X.K c ts Wout D ∧ t D' σ' H') hs hf hc tk (fun W pn xe tk' hp => ⟨fun pins' s' σ' H' D' I' ⟨e, h'⟩ => by
      subst e
      exact (hb pn xe tk' hp).run pins' s' σ' H' D' I' h'⟩) hsu).run pins s σ H D I ⟨rfl, ht⟩⟩
/-- except x as n -/
theorem ps_tryRas {X : Cx} {i : Nat} {n x : Str} {c : Value} {body suite : List Stmt} {b₀ : Stmt} {np pos pos' : Pos} {ts : Addr → Value → Option Addr → TS} {Wout : WX} (hs : X.stack = X.env :: X.outer) (hf : X.env.frame = some X.env.locals) (hN : X.N.Nodup) (hi : X.N[i]? = some n) (hln : X.env.kindOf n = some .local) (hc : Names X x c) (tk : Takes X Wout)
    (hsu : ∀ (a : Addr) (oe : Obj) (cls : Value) (d : Option Addr) (pn : List (Addr × Obj)), Zc cls d oe → (∃ vs, oe.data = .fields vs) → PSs (X.suite a ((a, oe) :: pn)) (b₀ :: suite) (ts a cls d)) :
    PS X (.Try body [.ExceptHandler (some (.Name x np)) (some n) (b₀ :: suite) pos'] [] [] pos) (tTryR X body (wAs X.K c i ts Wout)) :=
  ⟨fun pins s σ H D I h => by
    obtain ⟨t, hb, ht⟩ := h _ rfl
    exact (ps_try_as (tb := fun W => fun D' σ' H' => W = wAs X.K c i ts Wout D ∧ t D' σ' H') hs hf hN hi hln hc tk (fun W pn xe tk' hp => ⟨fun pins' s' σ' H' D' I' ⟨e, h'⟩ => by
      subst e
      exact (hb pn xe tk' hp).run pins' s' σ' H' D' I' h'⟩) hsu).run pins s σ H D I ⟨rfl, ht⟩⟩

/-! ### xs.extend(t), t a tuple -/
section
open PySem.SeqAt
open PySem.AutoSeq1 (wpAny_loadPart')
theorem extend_tup (l : Addr) (items : Array Value) (n : Nat) (b : Addr) (items2 : Array Value) (n2 : Nat) (dd : Option Addr) (sl : Array (Option Value)) (hs0 : ¬(!items.isEmpty && Builtin.List.listTooLong (items.size + items2.size)) = true) (hs1 : items.size ≤ sizeLine) (hs2 : items.size + items2.size ≤ sizeLine + 1) :
    Meets (Builtin.«list.extend» ⟨[.ref l, .ref b], []⟩) (fun _ R s => s.heap.get? l = some { cls := .type "list", dict := none, data := .seq items n, slots := #[] } ∧ s.heap.get? b = some { cls := .type "tuple", dict := dd, data := .seq items2 n2, slots := sl } ∧
      R (.ok (.ret Value.none)) { s with heap := s.heap.update l (Obj.mapSeq fun x => x ++ items2), toks := s.toks }) :=
  .of_wp fun prog w A R s h => by
    obtain ⟨hp, g, d, tk, os⟩ := s
    obtain ⟨hl, hb, h⟩ := h
    have f1 := AutoSeq1.idx_int
    have f2 := AutoSeq1.sub_tuple_tuple
    have f3 := AutoSeq1.sub_list_list
    have f4 := AutoSeq1.sub_tuple_list
    have f5 := AutoSeq1.sub_list_tuple
    have hz' : (items ++ items2).size ≤ sizeLine + 1 := by rw [Array.size_append]; exact hs2
    wp_walk using (wpAny_updateSeq hl rfl (hz := hs1) (_hz' := hz')), wpAny_loadPart' hl, wpAny_loadPart' hb
    exact ⟨_, rfl, h⟩
end
def rExtendT (K : PySem.W.Frag) : V → List V → Hp → VK → Prop := fun x vs H Q => ∃ l b xs zs, x = .ref l ∧ vs = [.ref b] ∧ H l = some (.lst xs) ∧ SqT K H b zs ∧ xs.length + zs.length ≤ sizeLine ∧ Q .non (upd H l (.lst (xs ++ zs)))
theorem mt_extendT {X : Cx} : MtM X "list.extend" (rExtendT X.K) := by
  intro pins s σ H x vs v us Q I rx rv h
  obtain ⟨l, b, xs, zs, rfl, rfl, hH, hB, hz, q⟩ := h
  cases rx
  obtain ⟨u, rfl, ru⟩ := rv.one
  cases ru
  obtain ⟨z, its, n, r, hl, e⟩ := I.lstM hH
  obtain ⟨its2, r2, ⟨⟨oc, od, dt, sl⟩, e2, hc, n2, hd⟩, z2⟩ := I.tuple hB
  have hl2 := r2.length
  simp only at hc hd
  subst hc hd
  have hsz : its.toArray.size + its2.toArray.size ≤ sizeLine := by rw [List.size_toArray, List.size_toArray]; omega
  have hlong : ¬ (!its.toArray.isEmpty && Builtin.List.listTooLong (its.toArray.size + its2.toArray.size)) = true := by
    rw [notLongL hsz, Bool.and_false]
    exact Bool.false_ne_true
  refine call_meets PySem.F.slot_list_extend ⟨_, e, rfl⟩ PySem.F.entry_list_extend (PySem.F.args_list_extend_2 _ _)
    (extend_tup l its.toArray n b its2.toArray n2 od sl hlong (by rw [List.size_toArray]; omega) (by omega)) ⟨e, e2, ?_⟩
  refine ⟨.non, _, I.lset (its' := its ++ its2) hH e (by simp) (r.append r2) ?_, rfl, q⟩
  rw [List.length_append]
  omega

/-! ### names of the module -/
section
variable {X : Cx} {x z : Str} {i : Int} {a : Addr} {pos : Pos}
theorem pe_ty (n : String) (hg : Gl X x) (hm : X.mg x = none) (hv : bootBuiltins x = some (.type n)) (hn : x ≠ "__name__" := by decide) (hd : (x == ("__debug__" : Str)) = false := by decide) : PE X (.Name x pos) (tC (.ty n)) := pe_bltn hg hm hv rfl hn hd
theorem pe_ci (hg : Gl X x) (hm : ∃ t, X.mg x = some (.int i t)) (hd : (x == ("__debug__" : Str)) = false := by decide) : PE X (.Name x pos) (tC (.int i)) := by
  obtain ⟨t, h⟩ := hm
  exact pe_glob hg h ⟨t, rfl⟩ hd
theorem pe_cs (hg : Gl X x) (hm : ∃ t, X.mg x = some (.str z t)) (hd : (x == ("__debug__" : Str)) = false := by decide) : PE X (.Name x pos) (tC (.str z)) := by
  obtain ⟨t, h⟩ := hm
  exact pe_glob hg h ⟨t, rfl⟩ hd
theorem pe_cr (hg : Gl X x) (hm : X.mg x = some (.ref a)) (hd : (x == ("__debug__" : Str)) = false := by decide) : PE X (.Name x pos) (tC (.ref a)) := pe_glob hg hm rfl hd
end

/-! ### isinstance -/
/-- x's answer to isinstance(x, T), T a built-in class -/
def Isi (K : PySem.W.Frag) (H : Hp) (x : V) (n : String) (b : Bool) : Prop := ∃ t, TyX K H x (.type t) ∧ kitB t n = some b
theorem kitB_same {a : String} : kitB a a = some true := by
  unfold kitB
  rw [if_pos (by simp)]
theorem isi_int_ {K : PySem.W.Frag} {H : Hp} {i : Int} {n : String} {b : Bool} : Isi K H (V.int i) n b ↔ kitB "int" n = some b :=
  ⟨fun ⟨t, ty, e⟩ => by
    cases ty with
    | base h => cases h; exact e, fun e => ⟨_, .base (.int i), e⟩⟩
theorem isi_int_int {K : PySem.W.Frag} {H : Hp} {i : Int} {b : Bool} : Isi K H (V.int i) "int" b ↔ b = true := by
  rw [isi_int_, (by decide +kernel : kitB "int" "int" = some true)]
  exact ⟨fun e => (Option.some.inj e).symm, fun e => by rw [e]⟩
theorem isi_int_bool {K : PySem.W.Frag} {H : Hp} {i : Int} {b : Bool} : Isi K H (V.int i) "bool" b ↔ b = false := by
  rw [isi_int_, (by decide +kernel : kitB "int" "bool" = some false)]
  exact ⟨fun e => (Option.some.inj e).symm, fun e => by rw [e]⟩
theorem isi_int_str {K : PySem.W.Frag} {H : Hp} {i : Int} {b : Bool} : Isi K H (V.int i) "str" b ↔ b = false := by
  rw [isi_int_, (by decide +kernel : kitB "int" "str" = some false)]
  exact ⟨fun e => (Option.some.inj e).symm, fun e => by rw [e]⟩
theorem isi_int_tuple {K : PySem.W.Frag} {H : Hp} {i : Int} {b : Bool} : Isi K H (V.int i) "tuple" b ↔ b = false := by
  rw [isi_int_, (by decide +kernel : kitB "int" "tuple" = some false)]
  exact ⟨fun e => (Option.some.inj e).symm, fun e => by rw [e]⟩
theorem isi_int_list {K : PySem.W.Frag} {H : Hp} {i : Int} {b : Bool} : Isi K H (V.int i) "list" b ↔ b = false := by
  rw [isi_int_, (by decide +kernel : kitB "int" "list" = some false)]
  exact ⟨fun e => (Option.some.inj e).symm, fun e => by rw [e]⟩
theorem isi_int_dict {K : PySem.W.Frag} {H : Hp} {i : Int} {b : Bool} : Isi K H (V.int i) "dict" b ↔ b = false := by
  rw [isi_int_, (by decide +kernel : kitB "int" "dict" = some false)]
  exact ⟨fun e => (Option.some.inj e).symm, fun e => by rw [e]⟩
theorem isi_bool_ {K : PySem.W.Frag} {H : Hp} {c : Bool} {n : String} {b : Bool} : Isi K H (V.bl c) n b ↔ kitB "bool" n = some b :=
  ⟨fun ⟨t, ty, e⟩ => by
    cases ty with
    | base h => cases h; exact e, fun e => ⟨_, .base (.bl c), e⟩⟩
theorem isi_bool_int {K : PySem.W.Frag} {H : Hp} {c : Bool} {b : Bool} : Isi K H (V.bl c) "int" b ↔ b = true := by
  rw [isi_bool_, (by decide +kernel : kitB "bool" "int" = some true)]
  exact ⟨fun e => (Option.some.inj e).symm, fun e => by rw [e]⟩
theorem isi_bool_bool {K : PySem.W.Frag} {H : Hp} {c : Bool} {b : Bool} : Isi K H (V.bl c) "bool" b ↔ b = true := by
  rw [isi_bool_, (by decide +kernel : kitB "bool" "bool" = some true)]
  exact ⟨fun e => (Option.some.inj e).symm, fun e => by rw [e]⟩
theorem isi_bool_str {K : PySem.W.Frag} {H : Hp} {c : Bool} {b : Bool} : Isi K H (V.bl c) "str" b ↔ b = false := by
  rw [isi_bool_, (by decide +kernel : kitB "bool" "str" = some false)]
  exact ⟨fun e => (Option.some.inj e).symm, fun e => by rw [e]⟩
theorem isi_bool_tuple {K : PySem.W.Frag} {H : Hp} {c : Bool} {b : Bool} : Isi K H (V.bl c) "tuple" b ↔ b = false := by
  rw [isi_bool_, (by decide +kernel : kitB "bool" "tuple" = some false)]
  exact ⟨fun e => (Option.some.inj e).symm, fun e => by rw [e]⟩
theorem isi_bool_list {K : PySem.W.Frag} {H : Hp} {c : Bool} {b : Bool} : Isi K H (V.bl c) "list" b ↔ b = false := by
  rw [isi_bool_, (by decide +kernel : kitB "bool" "list" = some false)]
  exact ⟨fun e => (Option.some.inj e).symm, fun e => by rw [e]⟩
theorem isi_bool_dict {K : PySem.W.Frag} {H : Hp} {c : Bool} {b : Bool} : Isi K H (V.bl c) "dict" b ↔ b = false := by
  rw [isi_bool_, (by decide +kernel : kitB "bool" "dict" = some false)]
  exact ⟨fun e => (Option.some.inj e).symm, fun e => by rw [e]⟩
theorem isi_str_ {K : PySem.W.Frag} {H : Hp} {z : Str} {n : String} {b : Bool} : Isi K H (V.str z) n b ↔ kitB "str" n = some b :=
  ⟨fun ⟨t, ty, e⟩ => by
    cases ty with
    | base h => cases h; exact e, fun e => ⟨_, .base (.str z), e⟩⟩
theorem isi_str_int {K : PySem.W.Frag} {H : Hp} {z : Str} {b : Bool} : Isi K H (V.str z) "int" b ↔ b = false := by
  rw [isi_str_, (by decide +kernel : kitB "str" "int" = some false)]
  exact ⟨fun e => (Option.some.inj e).symm, fun e => by rw [e]⟩
theorem isi_str_bool {K : PySem.W.Frag} {H : Hp} {z : Str} {b : Bool} : Isi K H (V.str z) "bool" b ↔ b = false := by
  rw [isi_str_, (by decide +kernel : kitB "str" "bool" = some false)]
  exact ⟨fun e => (Option.some.inj e).symm, fun e => by rw [e]⟩
theorem isi_str_str {K : PySem.W.Frag} {H : Hp} {z : Str} {b : Bool} : Isi K H (V.str z) "str" b ↔ b = true := by
  rw [isi_str_, (by decide +kernel : kitB "str" "str" = some true)]
  exact ⟨fun e => (Option.some.inj e).symm, fun e => by rw [e]⟩
theorem isi_str_tuple {K : PySem.W.Frag} {H : Hp} {z : Str} {b : Bool} : Isi K H (V.str z) "tuple" b ↔ b = false := by
  rw [isi_str_, (by decide +kernel : kitB "str" "tuple" = some false)]
  exact ⟨fun e => (Option.some.inj e).symm, fun e => by rw [e]⟩
theorem isi_str_list {K : PySem.W.Frag} {H : Hp} {z : Str} {b : Bool} : Isi K H (V.str z) "list" b ↔ b = false := by
  rw [isi_str_, (by decide +kernel : kitB "str" "list" = some false)]
  exact ⟨fun e => (Option.some.inj e).symm, fun e => by rw [e]⟩
theorem isi_str_dict {K : PySem.W.Frag} {H : Hp} {z : Str} {b : Bool} : Isi K H (V.str z) "dict" b ↔ b = false := by
  rw [isi_str_, (by decide +kernel : kitB "str" "dict" = some false)]
  exact ⟨fun e => (Option.some.inj e).symm, fun e => by rw [e]⟩
theorem isi_non_ {K : PySem.W.Frag} {H : Hp} {n : String} {b : Bool} : Isi K H (V.non) n b ↔ kitB "NoneType" n = some b :=
  ⟨fun ⟨t, ty, e⟩ => by
    cases ty with
    | base h => cases h; exact e, fun e => ⟨_, .base .non, e⟩⟩
theorem isi_non_int {K : PySem.W.Frag} {H : Hp} {b : Bool} : Isi K H (V.non) "int" b ↔ b = false := by
  rw [isi_non_, (by decide +kernel : kitB "NoneType" "int" = some false)]
  exact ⟨fun e => (Option.some.inj e).symm, fun e => by rw [e]⟩
theorem isi_non_bool {K : PySem.W.Frag} {H : Hp} {b : Bool} : Isi K H (V.non) "bool" b ↔ b = false := by
  rw [isi_non_, (by decide +kernel : kitB "NoneType" "bool" = some false)]
  exact ⟨fun e => (Option.some.inj e).symm, fun e => by rw [e]⟩
theorem isi_non_str {K : PySem.W.Frag} {H : Hp} {b : Bool} : Isi K H (V.non) "str" b ↔ b = false := by
  rw [isi_non_, (by decide +kernel : kitB "NoneType" "str" = some false)]
  exact ⟨fun e => (Option.some.inj e).symm, fun e => by rw [e]⟩
theorem isi_non_tuple {K : PySem.W.Frag} {H : Hp} {b : Bool} : Isi K H (V.non) "tuple" b ↔ b = false := by
  rw [isi_non_, (by decide +kernel : kitB "NoneType" "tuple" = some false)]
  exact ⟨fun e => (Option.some.inj e).symm, fun e => by rw [e]⟩
theorem isi_non_list {K : PySem.W.Frag} {H : Hp} {b : Bool} : Isi K H (V.non) "list" b ↔ b = false := by
  rw [isi_non_, (by decide +kernel : kitB "NoneType" "list" = some false)]
  exact ⟨fun e => (Option.some.inj e).symm, fun e => by rw [e]⟩
theorem isi_non_dict {K : PySem.W.Frag} {H : Hp} {b : Bool} : Isi K H (V.non) "dict" b ↔ b = false := by
  rw [isi_non_, (by decide +kernel : kitB "NoneType" "dict" = some false)]
  exact ⟨fun e => (Option.some.inj e).symm, fun e => by rw [e]⟩

/-- isinstance(x, T) -/
def rIsiC (K : PySem.W.Frag) : List V → Hp → VK → Prop := fun xs H Q => ∃ x n, xs = [x, .ty n] ∧ ∃ b, Isi K H x n b ∧ Q (.bl b) H
theorem call_isiC {X : Cx} : CallR X (.builtin "isinstance") (rIsiC X.K) := by
  intro pins s σ H xs us Q I r h
  obtain ⟨x, n, rfl, b, ⟨t, ty, e⟩, q⟩ := h
  exact call_isi pins s σ H _ us Q I r ⟨_, _, _, _, b, rfl, .ty n, ty, kit_ty e, q⟩
section
variable {K : PySem.W.Frag} {H : Hp} {x : V} {a b : String} {r : Bool} {Q : VK} {p C : Addr} {xs : List V}
theorem tyT (h : SqT K H p xs) : TyX K H (.ref p) (.type "tuple") := by
  rcases h with (h | ⟨o, h⟩) | ⟨o, _, _, h, c, _⟩
  · exact .base (.tup h)
  · exact .fTuple h
  · exact .kTuple h c
theorem tyL (h : SqL K H p xs) : TyX K H (.ref p) (.type "list") := by
  rcases h with (h | ⟨o, h⟩) | ⟨o, _, _, h, c, _⟩
  · exact .base (.lst h)
  · exact .base (.frz h)
  · exact .kList h c
theorem isiT (h : SqT K H p xs) : Isi K H (.ref p) "tuple" true := ⟨_, tyT h, kitB_same⟩
theorem isiT_ {n : String} (h : SqT K H p xs) (e : kitB "tuple" n = some r) : Isi K H (.ref p) n r := ⟨_, tyT h, e⟩
theorem isiL (h : SqL K H p xs) : Isi K H (.ref p) "list" true := ⟨_, tyL h, kitB_same⟩
theorem isiL_ {n : String} (h : SqL K H p xs) (e : kitB "list" n = some r) : Isi K H (.ref p) n r := ⟨_, tyL h, e⟩
end

/-! ### comprehensions -/
abbrev LcGoal (J : It) (g : TG) (te : TE) (vs : List Nat) (σ : L2.St) (H1 : Hp) (D : Addr) (Qd : Hp → Prop) : Prop :=
    ∃ W : Nat → Nat → Hp → Prop, (∃ m, W 0 m (upd H1 D (.lst []))) ∧ ∀ i m H, W i m H →
      (J.stop i H ∧ Qd H) ∨ (J.go i H ∧ ∃ Nx : Hp → Prop, (∀ H', Nx H' → ∃ m', m' < m ∧ W (i + 1) m' H') ∧ ∀ x H', J.yld i H x H' → g x (wipe σ vs) H' fun σ2 H2 => wipe σ2 vs = wipe σ vs ∧ tYes σ2 H2 fun b H3 =>
        if b = true then te σ2 H3 fun y H4 => ∃ acc, H4 D = some (.lst acc) ∧ acc.length < sizeLine ∧ Nx (upd H4 D (.lst (acc ++ [y]))) else Nx H3)
section
variable {K : PySem.W.Frag} {J : It} {n j : Nat} {G : Hp → Prop} {Y : Nat → Hp → V → Hp → Prop} {g : TG} {te : TE} {vs : List Nat} {σ : L2.St} {H1 : Hp} {D : Addr} {Qd : Hp → Prop} {M : List Addr}
/-- S: what runs along (by the turn); R tells the i-th value -/
theorem lcS (w : Walk J n G Y) (hD : H1 D = none) (hM : D ∉ M) (hn : n ≤ 100000) (S : Nat → Hp → Prop) (R : Nat → V → Hp → Prop)
    (hR : ∀ i v H H', R i v H → Kp (D :: M) H H' → R i v H') (hS : ∀ i H xs ys, H D = some (.lst xs) → S i H → S i (upd H D (.lst ys))) (h0 : S 0 (upd H1 D (.lst []))) (hG : ∀ i H, Kp M H1 H → S i H → G H)
    (he : ∀ i x H H' (Q : VK), i < n → Kp M H1 H → S i H → Y i H x H' → (∀ y H2, Kp M H H2 → S (i + 1) H2 → R i y H2 → Q y H2) → g x (wipe σ vs) H' fun σ2 H2 => wipe σ2 vs = wipe σ vs ∧ te σ2 H2 Q)
    (hg : ∀ i x H H' (A B : L2.St → Hp → Prop), Y i H x H' → (∀ σ H, A σ H → B σ H) → g x (wipe σ vs) H' A → g x (wipe σ vs) H' B)
    (hd : ∀ H' ys, Kp M H1 H' → S n H' → H' D = some (.lst ys) → ys.length = n → (∀ i y, ys[i]? = some y → R i y H') → Qd H') : LcGoal J g te vs σ H1 D Qd := by
  refine lc_it w (fun i H => Kp M H1 H ∧ S i H ∧ ∃ ys, H D = some (.lst ys) ∧ ys.length = i ∧ ∀ k y, ys[k]? = some y → R k y H) ⟨Kp.refl.new hD, h0, [], upd_same, rfl, fun k y h => by simp at h⟩ (fun i H _ p => hG i H p.1 p.2.1) ?_ ?_
  · rintro i x H H' hi ⟨k1, s1, ys, e1, e2, e3⟩ y
    refine hg i x H H' _ _ y ?_ (he i x H H' (fun y' H4 => ∃ acc, H4 D = some (.lst acc) ∧ acc.length < sizeLine ∧ Kp M H1 (upd H4 D (.lst (acc ++ [y']))) ∧ S (i + 1) (upd H4 D (.lst (acc ++ [y']))) ∧
      ∃ ys, (upd H4 D (.lst (acc ++ [y']))) D = some (.lst ys) ∧ ys.length = i + 1 ∧ ∀ k z, ys[k]? = some z → R k z (upd H4 D (.lst (acc ++ [y'])))) hi k1 s1 y fun y' H4 k4 s4 r4 => ?_)
    · rintro σ2 H2 ⟨a, b⟩
      exact ⟨a, b⟩
    have e4 : H4 D = some (.lst ys) := k4.at e1 hM
    refine ⟨ys, e4, by rw [e2]; exact Nat.lt_of_lt_of_le (Nat.lt_of_lt_of_le hi hn) (by decide), (k1.trans k4).late hD, hS _ _ _ _ e4 s4, ys ++ [y'], upd_same, by simp [e2], fun k z h => ?_⟩
    have up : Kp (D :: M) H4 (upd H4 D (.lst (ys ++ [y']))) := Kp.refl.put e4 trivial (by simp)
    by_cases hk : k < ys.length
    · rw [List.getElem?_append_left hk] at h
      exact hR _ _ _ _ (hR _ _ _ _ (e3 k z h) (k4.mono fun _ z => List.mem_cons_of_mem _ z)) up
    · have hk2 : k = ys.length := by
        have := (List.getElem?_eq_some_iff.mp h).1
        simp at this
        omega
      subst hk2
      have ez : z = y' := by simpa using h.symm
      subst ez
      rw [e2]
      exact hR _ _ _ _ r4 up
  · rintro H ⟨k1, s1, ys, e1, e2, e3⟩
    exact hd H ys k1 s1 e1 e2 e3
theorem gName_mono {x : V} {σ : L2.St} {H : Hp} {A B : L2.St → Hp → Prop} (h : ∀ σ H, A σ H → B σ H) (a : gName j x σ H A) : gName j x σ H B := h _ _ a
/-- each item pure: R tells the i-th value; the target a name -/
theorem lc_pure (w : Walk J n G Y) (hY : ∀ i H x H', Y i H x H' → H' = H) (hD : H1 D = none) (hn : n ≤ 100000) (hw : ∀ x, wipe ((wipe σ vs).set j (some x)) vs = wipe σ vs) (R : Nat → V → Hp → Prop)
    (hR : ∀ i v H H', R i v H → Kp [D] H H' → R i v H') (hG : ∀ H, Kp [] H1 H → G H)
    (he : ∀ i x H (Q : VK), i < n → Kp [] H1 H → Y i H x H → (∀ y H', Kp [] H H' → R i y H' → Q y H') → te ((wipe σ vs).set j (some x)) H Q)
    (hd : ∀ H' ys, Kp [] H1 H' → H' D = some (.lst ys) → ys.length = n → (∀ i y, ys[i]? = some y → R i y H') → Qd H') : LcGoal J (gName j) te vs σ H1 D Qd :=
  lcS (M := []) w hD (by simp) hn (fun _ _ => True) R hR (fun _ _ _ _ _ _ => trivial) trivial (fun _ H k _ => hG H k) (fun i x H H' Q hi k _ y q => ⟨hw x, by
    obtain rfl := hY _ _ _ _ y
    exact he i x H' Q hi k y fun y2 H2 k2 r2 => q y2 H2 k2 trivial r2⟩) (fun _ _ _ _ _ _ _ h a => gName_mono h a) fun H' ys k _ e l r => hd H' ys k e l r
end
/-- a comprehension over a range, behind the range's bounds -/
def RngGoal (lo : Int) (n : Nat) (g : TG) (te : TE) (vs : List Nat) (σ : L2.St) (Q : VK) (H1 : Hp) : Prop := ∀ D, H1 D = none → LcGoal (Itr lo n) g te vs σ H1 D fun H => Q (.ref D) H
theorem tLc_rng1 {ta : TA} {g : TG} {te : TE} {vs : List Nat} {σ : L2.St} {H : Hp} {Q : VK} : tLc (iRng1 ta) g tYes te vs σ H Q = (ta σ H fun us H1 => ∃ j, us = [V.int j] ∧ -2 ^ 62 ≤ j ∧ j < 2 ^ 62 ∧ RngGoal 0 j.toNat g te vs σ Q H1) := rfl
theorem tLc_rng2 {ta : TA} {g : TG} {te : TE} {vs : List Nat} {σ : L2.St} {H : Hp} {Q : VK} : tLc (iRng2 ta) g tYes te vs σ H Q = (ta σ H fun us H1 => ∃ i j, us = [V.int i, V.int j] ∧ (-2 ^ 62 ≤ i ∧ i < 2 ^ 62 ∧ -2 ^ 62 ≤ j ∧ j < 2 ^ 62) ∧ RngGoal i (j - i).toNat g te vs σ Q H1) := rfl
/-- a for over a range, behind the range's bounds -/
def ForGoal (lo : Int) (n : Nat) (g : TG) (tb : TS) (D : Ends) (σ : L2.St) (H : Hp) : Prop := ∃ W : Nat → Nat → L2.St → Hp → Prop, (∃ m, W 0 m σ H) ∧ ∀ i m σ H, W i m σ H →
      ((Itr lo n).stop i H ∧ D.nx σ H) ∨ ((Itr lo n).go i H ∧ ∃ N : L2.St → Hp → Prop, (∀ σ' H', N σ' H' → ∃ m', m' < m ∧ W (i + 1) m' σ' H') ∧ ∀ x H', (Itr lo n).yld i H x H' → g x σ H' fun σ2 H2 => tb { D with nx := N, ct := N, bk := D.nx } σ2 H2)
theorem tFor_rng1 {ta : TA} {g : TG} {tb : TS} {D : Ends} {σ : L2.St} {H : Hp} : tFor (iRng1 ta) g tb D σ H = (ta σ H fun us H1 => ∃ j, us = [V.int j] ∧ -2 ^ 62 ≤ j ∧ j < 2 ^ 62 ∧ ForGoal 0 j.toNat g tb D σ H1) := rfl
theorem tFor_rng2 {ta : TA} {g : TG} {tb : TS} {D : Ends} {σ : L2.St} {H : Hp} : tFor (iRng2 ta) g tb D σ H = (ta σ H fun us H1 => ∃ i j, us = [V.int i, V.int j] ∧ (-2 ^ 62 ≤ i ∧ i < 2 ^ 62 ∧ -2 ^ 62 ≤ j ∧ j < 2 ^ 62) ∧ ForGoal i (j - i).toNat g tb D σ H1) := rfl
theorem for_rng {lo : Int} {n : Nat} {g : TG} {tb : TS} {D : Ends} {σ : L2.St} {H : Hp} (Pv : Nat → L2.St → Hp → Prop) (h0 : Pv 0 σ H)
    (hs : ∀ i σ H, i < n → Pv i σ H → g (.int (lo + (i : Nat))) σ H fun σ2 H2 => tb { D with nx := Pv (i + 1), ct := Pv (i + 1), bk := D.nx } σ2 H2) (hd : ∀ σ H, Pv n σ H → D.nx σ H) : ForGoal lo n g tb D σ H :=
  for_it walk_range Pv h0 (fun _ _ _ _ _ => trivial) (fun i x σ H H' hi p y => by
    obtain ⟨rfl, rfl⟩ := y
    exact hs i σ H' hi p) hd
theorem ofS_inj {a b : String} : Str.ofString a = Str.ofString b ↔ a = b := by
  refine ⟨fun h => ?_, fun h => by rw [h]⟩
  rw [Str.ofString_eq_toList, Str.ofString_eq_toList] at h
  have e : a.toList.map Char.toNat = b.toList.map Char.toNat := by simpa using congrArg (fun z : Str => z.cps.toList) h
  have e2 : a.toList = b.toList := (List.map_inj_right fun x y q => Char.ext (UInt32.toNat_inj.mp q)).mp e
  exact String.toList_inj.mp e2
theorem sg_inj {a b : Nat} : ((⟨#[a]⟩ : Str) = ⟨#[b]⟩) ↔ a = b := ⟨fun h => by simpa using congrArg (fun z : Str => z.cps.toList) h, fun h => by rw [h]⟩
theorem sg_len {a : Nat} : (⟨#[a]⟩ : Str).length = 1 := rfl
theorem sg_lt {a b : Nat} : (([a] : List Nat) < [b]) ↔ a < b := by
  rw [List.cons_lt_cons_iff]
  simp
theorem cx_K {CX : CXT} {P : Program} {w : World} {K : PySem.W.Frag} {mg : Str → Option Value} {base : Heap} {N : List Str} {qual : Str} {scope : Scope} {f : Addr} {cd : Value} {A : Around} {outer : List Env} {s : Shared} {H : Hp} {E : XK} :
    (cxOf CX P w K mg base N qual scope f cd A outer s H E).K = K := rfl
theorem cx_w {CX : CXT} {P : Program} {w : World} {K : PySem.W.Frag} {mg : Str → Option Value} {base : Heap} {N : List Str} {qual : Str} {scope : Scope} {f : Addr} {cd : Value} {A : Around} {outer : List Env} {s : Shared} {H : Hp} {E : XK} :
    (cxOf CX P w K mg base N qual scope f cd A outer s H E).w = w := rfl
section
variable {K : PySem.W.Frag} {H : Hp} {Q : VK} {a : Addr} {xs : List V} {i : Int} {v : V} {z : Str} {c : Nat}
theorem ixT (h : SqT K H a xs) (e : atI xs i = some v) (q : Q v H) : rIxT K (.ref a) (.int i) H Q := ⟨a, xs, i, v, rfl, rfl, h, e, q⟩
theorem ixL (h : SqL K H a xs) (e : atI xs i = some v) (q : Q v H) : rIxL K (.ref a) (.int i) H Q := ⟨a, xs, i, v, rfl, rfl, h, e, q⟩
theorem ixS (h : z.length ≤ sizeLine) (e : atI z.cps.toList i = some c) (q : Q (.str ⟨#[c]⟩) H) : rIxS (.str z) (.int i) H Q := ⟨z, i, c, rfl, rfl, h, e, q⟩
end
theorem at0 {α : Type} {v : α} {xs : List α} : atI (v :: xs) 0 = some v := atI_nat (j := 0) rfl
theorem nc0 : ((0 : Nat) : Int) = 0 := rfl
theorem nc1 : ((1 : Nat) : Int) = 1 := rfl
theorem nc2 : ((2 : Nat) : Int) = 2 := rfl
theorem nc3 : ((3 : Nat) : Int) = 3 := rfl
theorem nc4 : ((4 : Nat) : Int) = 4 := rfl
theorem nc5 : ((5 : Nat) : Int) = 5 := rfl
theorem nc6 : ((6 : Nat) : Int) = 6 := rfl
theorem nc7 : ((7 : Nat) : Int) = 7 := rfl
theorem nc8 : ((8 : Nat) : Int) = 8 := rfl
theorem nc9 : ((9 : Nat) : Int) = 9 := rfl
theorem nc10 : ((10 : Nat) : Int) = 10 := rfl
theorem nc11 : ((11 : Nat) : Int) = 11 := rfl
theorem nc12 : ((12 : Nat) : Int) = 12 := rfl
theorem sc_nn : scal (.non) (.non) = true := rfl
theorem sc_ni {b : Int} : scal (.non) (.int b) = true := rfl
theorem sc_in {a : Int} : scal (.int a) (.non) = true := rfl
theorem sc_nb {b : Bool} : scal (.non) (.bl b) = true := rfl
theorem sc_bn {a : Bool} : scal (.bl a) (.non) = true := rfl
theorem sc_ns {b : Str} : scal (.non) (.str b) = true := rfl
theorem sc_sn {a : Str} : scal (.str a) (.non) = true := rfl
theorem sc_ii {a : Int} {b : Int} : scal (.int a) (.int b) = true := rfl
theorem sc_bb {a : Bool} {b : Bool} : scal (.bl a) (.bl b) = true := rfl
theorem sc_ss {a : Str} {b : Str} : scal (.str a) (.str b) = true := rfl
theorem sc_is {a : Int} {b : Str} : scal (.int a) (.str b) = true := rfl
theorem sc_si {a : Str} {b : Int} : scal (.str a) (.int b) = true := rfl
theorem sc_bs {a : Bool} {b : Str} : scal (.bl a) (.str b) = true := rfl
theorem sc_sb {a : Str} {b : Bool} : scal (.str a) (.bl b) = true := rfl
/-! ### all([..]) -/
theorem lenV_str {K : PySem.W.Frag} {H : Hp} {z : Str} {n : Nat} : LenV K (.str z) H n ↔ z.length ≤ sizeLine ∧ n = z.length := Iff.rfl
theorem lenV_T {K : PySem.W.Frag} {H : Hp} {a : Addr} {xs : List V} (h : SqT K H a xs) : LenV K (.ref a) H xs.length := .inr ⟨xs, h, rfl⟩
theorem lenV_L {K : PySem.W.Frag} {H : Hp} {a : Addr} {xs : List V} (h : SqL K H a xs) : LenV K (.ref a) H xs.length := .inl ⟨xs, h, rfl⟩
section
variable {K : PySem.W.Frag} {n j i1 i2 : Nat} {J : It} {G : Hp → Prop} {te ts : TE} {vs : List Nat} {σ : L2.St} {H H1 : Hp} {D : Addr} {Qd : Hp → Prop} {Q : VK}
theorem bls_of {ys : List V} {bs : List Bool} (h1 : ys.length = bs.length) (h2 : ∀ (i : Nat) (y : V), ys[i]? = some y → ∃ b, bs[i]? = some b ∧ y = V.bl b) : ys = bs.map V.bl := by
  apply List.ext_getElem?
  intro i
  cases h : ys[i]? with
  | some y =>
    obtain ⟨b, hb, rfl⟩ := h2 i y h
    simp [hb]
  | none =>
    have h3 := List.getElem?_eq_none_iff.mp h
    rw [List.getElem?_eq_none (by simp; omega)]
/-- all([c for x in t]), t a text -/
theorem all_str {z : Str} (f : Nat → Bool) (hs : ∀ Q : VK, Q (.str z) H → ts σ H Q) (hz : z.length ≤ 100000) (hw : ∀ x, wipe ((wipe σ vs).set j (some x)) vs = wipe σ vs)
    (he : ∀ c H (Q : VK), c ∈ z.cps.toList → Q (.bl (f c)) H → te ((wipe σ vs).set j (some (.str ⟨#[c]⟩))) H Q)
    (k : ∀ H', Kp [] H H' → Q (.bl (z.cps.toList.all f)) H') : tLc (iStr ts) (gName j) tYes te vs σ H (fun x H1 => rAll K [x] H1 Q) := by
  refine hs _ ⟨z, rfl, fun D hD => ?_⟩
  refine lc_pure (n := z.cps.size) walk_str (fun _ _ _ _ y => y.1) hD hz hw (fun i v _ => ∃ b, (z.cps.toList.map f)[i]? = some b ∧ v = .bl b) (fun _ _ _ _ r _ => r) (fun _ _ => trivial) (fun i x H2 Q2 hi _ y q => ?_) (fun H' ys k1 e1 e2 e3 => ?_)
  · obtain ⟨_, c, hc, rfl⟩ := y
    rw [← Array.getElem?_toList] at hc
    exact he c H2 _ (List.mem_of_getElem? hc) (q _ H2 Kp.refl ⟨f c, by simp only [List.getElem?_map, hc, Option.map_some], rfl⟩)
  · have em : ys = (z.cps.toList.map f).map V.bl := bls_of (by simp [e2]) e3
    refine ⟨D, z.cps.toList.map f, rfl, .inl (.inl (by rw [← em]; exact e1)), ?_⟩
    have ea : (z.cps.toList.map f).all id = z.cps.toList.all f := by rw [List.all_map]; rfl
    rw [ea]
    exact k H' k1
/-- all([c for x in t]), t a tuple -/
theorem all_tup {a : Addr} {xs : List V} {bs : List Bool} (hs : ∀ Q : VK, Q (.ref a) H → ts σ H Q) (hx : SqT K H a xs) (hn : xs.length ≤ 100000) (hb : bs.length = xs.length) (hw : ∀ x, wipe ((wipe σ vs).set j (some x)) vs = wipe σ vs)
    (he : ∀ (i : Nat) (x : V) (b : Bool) (H' : Hp) (Q : VK), xs[i]? = some x → bs[i]? = some b → Kp [] H H' → (∀ H2, Kp [] H' H2 → Q (.bl b) H2) → te ((wipe σ vs).set j (some x)) H' Q)
    (k : ∀ H', Kp [] H H' → Q (.bl (bs.all id)) H') : tLc (iTup K ts) (gName j) tYes te vs σ H (fun x H1 => rAll K [x] H1 Q) := by
  refine hs _ ⟨a, rfl, ⟨xs, hx⟩, fun D hD => ?_⟩
  refine lc_pure (n := xs.length) walk_tup (fun _ _ _ _ y => y.1) hD hn hw (fun i v _ => ∃ b, bs[i]? = some b ∧ v = .bl b) (fun _ _ _ _ r _ => r) (fun _ k => k.tup hx) (fun i x H2 Q2 hi k2 y q => ?_) (fun H' ys k1 e1 e2 e3 => ?_)
  · have hb2 : bs[i]? = some bs[i] := List.getElem?_eq_getElem (by omega)
    exact he i x _ H2 Q2 y.2 hb2 k2 fun H3 k3 => q _ H3 k3 ⟨_, hb2, rfl⟩
  · have em : ys = bs.map V.bl := bls_of (by omega) e3
    exact ⟨D, bs, rfl, .inl (.inl (by rw [← em]; exact e1)), k H' k1⟩
theorem walk_zipT {a b : Addr} {xs ys : List V} (hn : n = min xs.length ys.length) : Walk (RZ.ItzT K a b) n (fun H => SqT K H a xs ∧ SqT K H b ys) (YPair (fun i => xs[i]?) (fun i => ys[i]?)) := by
  subst hn
  refine ⟨fun i _ hi q => ?_, fun _ q => ⟨xs, ys, q.1, q.2, by omega⟩, fun i H v H' _ q y => ?_⟩
  · have h1 : i < xs.length := by omega
    have h2 : i < ys.length := by omega
    exact ⟨xs, ys, xs[i], ys[i], q.1, q.2, by simp [h1], by simp [h2]⟩
  · obtain ⟨T, x, z, h1, h2, h3, h4, h5⟩ := y
    exact ⟨T, x, z, h1, h2, h3, h4 xs q.1, h5 ys q.2⟩
theorem gPair_mono {x : V} {A B : L2.St → Hp → Prop} (h : ∀ σ H, A σ H → B σ H) (a : gTup K 2 (gCons (gName i1) (gCons (gName i2) gNil)) x σ H A) : gTup K 2 (gCons (gName i1) (gCons (gName i2) gNil)) x σ H B := by
  obtain ⟨a, xs, e1, e2, e3, v, r, e4, v2, r2, e5, e6, q⟩ := a
  exact ⟨a, xs, e1, e2, e3, v, r, e4, v2, r2, e5, e6, h _ _ q⟩
/-- a comprehension over pairs that are unpacked -/
theorem lc_pairG {fx fy : Nat → Option V} (w : Walk J n G Y) (hY : ∀ i v H H', Kp [] H1 H → Y i H v H' → Kp [] H H' ∧ ∃ T x y, v = .ref T ∧ SqT K H' T [x, y] ∧ fx i = some x ∧ fy i = some y)
    (hD : H1 D = none) (hn : n ≤ 100000) (hw : ∀ x y, wipe (((wipe σ vs).set i1 (some x)).set i2 (some y)) vs = wipe σ vs) (R : Nat → V → Hp → Prop)
    (hR : ∀ i v H H', R i v H → Kp [D] H H' → R i v H') (hG : ∀ H, Kp [] H1 H → G H)
    (he : ∀ i x y H (Q : VK), i < n → Kp [] H1 H → fx i = some x → fy i = some y → (∀ z H', Kp [] H H' → R i z H' → Q z H') → te (((wipe σ vs).set i1 (some x)).set i2 (some y)) H Q)
    (hd : ∀ H' ys, Kp [] H1 H' → H' D = some (.lst ys) → ys.length = n → (∀ i y, ys[i]? = some y → R i y H') → Qd H') : LcGoal J (gTup K 2 (gCons (gName i1) (gCons (gName i2) gNil))) te vs σ H1 D Qd :=
  lcS (M := []) w hD (by simp) hn (fun _ _ => True) R hR (fun _ _ _ _ _ _ => trivial) trivial (fun _ H k _ => hG H k) (fun i v H H' Q hi k _ y q => by
    obtain ⟨kk, T, x, z, rfl, hT, h1, h2⟩ := hY i v H H' k y
    refine ⟨T, [x, z], rfl, hT, rfl, x, [z], rfl, z, [], rfl, rfl, hw x z, ?_⟩
    exact he i x z _ Q hi (k.trans kk) h1 h2 fun y2 H2 k2 r2 => q y2 H2 (kk.trans k2) trivial r2) (fun _ _ _ _ _ _ _ h a => gPair_mono h a) fun H' ys k _ e l r => hd H' ys k e l r
/-- a comprehension over pairs that are made on the way -/
theorem lc_pair {fx fy : Nat → Option V} (w : Walk J n G (YPair fx fy)) (hD : H1 D = none) (hn : n ≤ 100000) (hw : ∀ x y, wipe (((wipe σ vs).set i1 (some x)).set i2 (some y)) vs = wipe σ vs) (R : Nat → V → Hp → Prop)
    (hR : ∀ i v H H', R i v H → Kp [D] H H' → R i v H') (hG : ∀ H, Kp [] H1 H → G H)
    (he : ∀ i x y H (Q : VK), i < n → Kp [] H1 H → fx i = some x → fy i = some y → (∀ z H', Kp [] H H' → R i z H' → Q z H') → te (((wipe σ vs).set i1 (some x)).set i2 (some y)) H Q)
    (hd : ∀ H' ys, Kp [] H1 H' → H' D = some (.lst ys) → ys.length = n → (∀ i y, ys[i]? = some y → R i y H') → Qd H') : LcGoal J (gTup K 2 (gCons (gName i1) (gCons (gName i2) gNil))) te vs σ H1 D Qd :=
  lc_pairG w (fun i v H H' k y => by
    obtain ⟨T, x, z, rfl, hT, rfl, h1, h2⟩ := y
    exact ⟨Kp.refl.new hT, T, x, z, rfl, .inl (.inl upd_same), h1, h2⟩) hD hn hw R hR hG he hd
theorem all_pair {fx fy : Nat → Option V} {bs : List Bool} (w : Walk J n G (YPair fx fy)) (hD : H1 D = none) (hn : n ≤ 100000) (hb : bs.length = n) (hw : ∀ x y, wipe (((wipe σ vs).set i1 (some x)).set i2 (some y)) vs = wipe σ vs) (hG : ∀ H, Kp [] H1 H → G H)
    (he : ∀ (i : Nat) (x y : V) (b : Bool) (H : Hp) (Q : VK), fx i = some x → fy i = some y → bs[i]? = some b → Kp [] H1 H → (∀ H', Kp [] H H' → Q (.bl b) H') → te (((wipe σ vs).set i1 (some x)).set i2 (some y)) H Q)
    (k : ∀ H', Kp [] H1 H' → Q (.bl (bs.all id)) H') : LcGoal J (gTup K 2 (gCons (gName i1) (gCons (gName i2) gNil))) te vs σ H1 D (fun H1 => rAll K [.ref D] H1 Q) := by
  refine lc_pair w hD hn hw (fun i v _ => ∃ b, bs[i]? = some b ∧ v = .bl b) (fun _ _ _ _ r _ => r) hG (fun i x y H2 Q2 hi k2 h1 h2 q => ?_) (fun H' ys k1 e1 e2 e3 => ?_)
  · have hb2 : bs[i]? = some bs[i] := List.getElem?_eq_getElem (by omega)
    exact he i x y _ H2 Q2 h1 h2 hb2 k2 fun H3 k3 => q _ H3 k3 ⟨_, hb2, rfl⟩
  · have em : ys = bs.map V.bl := bls_of (by omega) e3
    exact ⟨D, bs, rfl, .inl (.inl (by rw [← em]; exact e1)), k H' k1⟩
end
end Fw
set_option Elab.async false
set_option linter.all false
set_option maxRecDepth 100000
set_option maxHeartbeats 4000000
namespace Fw
open PySem PySem.Spec PyProof.Rows L2 PySem.Calls
/-! ### sorted(d.items()), texts to ints -/
abbrev entK (e : Str × Int) : Key × V := (Sum.inr e.1, V.int e.2)
abbrev pairD (e : Str × Int) : PyData := .tuple [.str e.1, .int e.2]
theorem Kp.ext {M : List Addr} {H H' : Hp} (h : ∀ b o, H b = some o → H' b = some o) : Kp M H H' := ⟨fun b o _ e => h b o e, fun b xs e => h b _ e, fun b o u e => h b _ e, fun b o e => ⟨o, h b o e⟩⟩
def rItemsK : V → List V → Hp → VK → Prop := fun x xs H Q => ∃ (a : Addr) (kvs : List (Key × V)), x = .ref a ∧ xs = [] ∧ H a = some (.dK kvs) ∧ ∀ p, H p = none → Q (.ref p) (upd H p (L2.DX.itemsO p a))
section
variable {X : Cx}
theorem mt_itemsK : MtR X "dict.items" rItemsK := by
  intro pins s σ H x xs v us Q I rx rxs h
  obtain ⟨a, kvs, rfl, rfl, ha, q⟩ := h
  cases rx
  cases rxs
  obtain ⟨z, hd, vs, rel, dd⟩ := dk_of I.hok ha
  obtain ⟨ep, hat⟩ := dd.dictAt
  obtain ⟨o, es, ho, hx, hdat, _⟩ := id hat
  refine DT.callItems (es := es) (ep := ep) hd ⟨o, ho, hx, hdat⟩ ?_
  have hf : H s.heap.objs.size = none := I.hok.fresh (Nat.le_refl _)
  exact ⟨.ref s.heap.objs.size, upd H s.heap.objs.size (L2.DX.itemsO s.heap.objs.size a), I.laid (t' := s.toks) (fun b u e => Heap.get?_push_of_some _ e) (Nat.le_refl _) (L2.DX.itemsO_ok (Heap.get?_push_size _ rfl)), rfl, q _ hf⟩
theorem pair_alike (e f : Str × Int) : PySem.W.alike (pairD e) (pairD f) = true := by simp [PySem.W.alike, PySem.W.alikeAll]
theorem pair_le {e f : Str × Int} (hn : e.1 ≠ f.1) (h : PySem.W.dataLe false pairD e f = true) : e.1.cps.toList < f.1.cps.toList := by
  have h2 : (!PySem.W.dataLt (pairD f) (pairD e)) = true := h
  rw [PySem.W.dataLt_pair (by simp [PySem.W.alike]) (by simp [PySem.W.alike]), PySem.W.dataLt_str] at h2
  have hne : PyData.eqv (.str f.1) (.str e.1) = false := by
    simp only [PyData.eqv]
    simpa using fun z => hn z.symm
  rw [hne] at h2
  simp only [Bool.false_eq_true, if_false, Bool.not_eq_true', decide_eq_false_iff_not] at h2
  have h3 : e.1.cps.toList ≤ f.1.cps.toList := List.not_lt.mp h2
  by_cases hq : e.1.cps.toList < f.1.cps.toList
  · exact hq
  · have h4 : e.1.cps.toList = f.1.cps.toList := List.le_antisymm h3 (List.not_lt.mp hq)
    refine absurd ?_ hn
    have h5 : e.1.cps = f.1.cps := Array.toList_inj.mp h4
    cases h6 : e.1
    cases h7 : f.1
    rw [h6, h7] at h5
    exact congrArg (fun a => (⟨a⟩ : Str)) h5
theorem each_at {α β : Type} {R : Value → β → Prop} (f : α → Value) : ∀ (as : List α) (ks : List β), as.length = ks.length → (∀ (j : Nat) (a : α) (e : β), as[j]? = some a → ks[j]? = some e → R (f a) e) → PySem.W.EachIs R (as.map f) ks
  | [], [], _, _ => .nil
  | [], _ :: _, h, _ => by simp at h
  | _ :: _, [], h, _ => by simp at h
  | a :: as, e :: ks, h, q => .cons (q 0 a e rfl rfl) (each_at f as ks (by simpa using h) fun j b e2 h1 h2 => q (j + 1) b e2 (by simpa using h1) (by simpa using h2))
theorem each_back {β : Type} {S : Addr → β → Prop} : ∀ {out : List Value} {ms : List β}, PySem.W.EachIs (fun v e => ∃ b, v = .ref b ∧ S b e) out ms → ∃ bs : List Addr, out = bs.map Value.ref ∧ bs.length = ms.length ∧ ∀ (j : Nat) (b : Addr) (e : β), bs[j]? = some b → ms[j]? = some e → S b e
  | _, _, .nil => ⟨[], rfl, rfl, fun j b e h => by simp at h⟩
  | _, _, .cons ⟨b0, h0, hS⟩ t => by
    obtain ⟨bs, h1, h2, h3⟩ := each_back t
    refine ⟨b0 :: bs, by rw [h0, h1]; rfl, by simp [h2], fun j b e g1 g2 => ?_⟩
    cases j with
    | zero =>
      cases g1
      cases g2
      exact hS
    | succ j => exact h3 j b e (by simpa using g1) (by simpa using g2)
def rSortKI : List V → Hp → VK → Prop := fun vs H Q => ∃ (p a : Addr) (ks : List (Str × Int)), vs = [.ref p] ∧ H p = some (L2.DX.itemsO p a) ∧ H a = some (.dK (ks.map entK)) ∧ ks.length < 64 ∧
  ∀ (H' : Hp) (l : Addr) (ms : List (Str × Int)) (bs : List Addr), (∀ b o, H b = some o → H' b = some o) → H l = none → ms.Perm ks → ms.Pairwise (fun e f => e.1.cps.toList < f.1.cps.toList) → bs.length = ms.length → H' l = some (.lst (bs.map V.ref)) →
    (∀ (j : Nat) (b : Addr) (e : Str × Int), bs[j]? = some b → ms[j]? = some e → H' b = some (.tup [.str e.1, .int e.2])) → Q (.ref l) H'
theorem cr_sortedKI (hc : X.calm = true) (hu : X.A.units + 64 < cLine) : CallR X (.builtin "sorted") rSortKI := by
  intro pins s σ H xs us Q I r h
  obtain ⟨p, a, ks, rfl, hp, ha, h64, q⟩ := h
  obtain rfl := Vals.ref1 r
  have view : s.heap.IsItemsView p a := (show ObjOk X.prog X.w H s.heap p (L2.DX.itemsO p a) from I.hok p _ hp).1
  obtain ⟨z, hd, vs, rel, dd⟩ := dk_of I.hok ha
  obtain ⟨ep, hat⟩ := dd.dictAt
  obtain ⟨o, es, ho, hx, hdat, hkk, hpr, hnd⟩ := id hat
  have l1 : (ks.map entK).length = vs.length := Paired.length rel
  rw [List.length_map] at l1
  have l2 : es.size = vs.length := by rw [← hpr.length]; simp
  have hh : X.A.handled = none := I.ok.hd hc
  have hdist : (ks.map (·.1)).Nodup := by
    have e : vs.map (·.1) = ks.map fun e => (Sum.inr e.1 : Key) := by
      have e2 := rel.keys
      rw [List.map_map] at e2
      exact e2.symm
    rw [e] at hnd
    rw [List.nodup_iff_pairwise_ne, List.pairwise_map] at hnd ⊢
    exact hnd.imp fun h z => h (by rw [z])
  refine DT.sortedI (es := es) (ep := ep) hh view ⟨o, ho, hx, hdat⟩ (by rw [sizeLine_eq]; omega) fun h' tk as hk hlt hl hG => ?_
  have lak : as.length = ks.length := by omega
  have nd : as.Nodup := List.Pairwise.imp (fun h => Nat.ne_of_lt h) hG.rise
  have pr : ∀ (j : Nat) (b : Addr), as[j]? = some b → ∃ (e : Str × Int) (t u : Tok), ks[j]? = some e ∧ h'.get? b = some { cls := .type "tuple", data := .seq #[Value.str e.1 t, Value.int e.2 u] } := by
    intro j b hj
    obtain ⟨en, he, hg⟩ := hG.pairs j b hj
    have hj2 : j < vs.length := by
      have := (Array.getElem?_eq_some_iff.mp he).1
      omega
    have hv : vs[j]? = some vs[j] := List.getElem?_eq_getElem hj2
    obtain ⟨hkey, hval⟩ := hpr.get? (e := en) (by rw [← he]; simp) hv
    obtain ⟨e0, he0, r1, r2⟩ := L2.DX.pget rel hv
    rw [List.getElem?_map, Option.map_eq_some_iff] at he0
    obtain ⟨e, hke, rfl⟩ := he0
    have hkey2 : (mixKind X.prog X.w).is (Sum.inr e.1) en.key = true := by
      have r1' : (Sum.inr e.1 : Key) = (vs.get ⟨j, hj2⟩).1 := r1
      rw [r1']
      exact hkey
    have hval2 : L2.RelV (V.int e.2) en.val := by
      rw [hval]
      exact r2
    obtain ⟨u, hu2⟩ := hval2
    rcases keyIs_shape (show keyIs (Sum.inr e.1) en.key = true from hkey2) with ⟨i, t, ek, ev⟩ | ⟨z2, t, ek, ev⟩
    · cases ek
    · cases ek
      refine ⟨e, t, u, hke, ?_⟩
      rw [hg, ev, hu2]
  have hob : (h'.push { cls := .type "list", data := .seq (as.map Value.ref).toArray }).get? h'.objs.size = some (seqObj "list" (as.map Value.ref).toArray 0) := Heap.get?_push_size _ rfl
  have kb : ∀ b o, s.heap.get? b = some o → (h'.push { cls := .type "list", data := .seq (as.map Value.ref).toArray }).get? b = some o := fun b o e => Heap.get?_push_of_some _ (hk b o e)
  have ne0 : ∀ b o, h'.get? b = some o → b ≠ h'.objs.size := fun b o e => Nat.ne_of_lt (Heap.lt_size e)
  generalize hh2 : h'.push { cls := .type "list", data := .seq (as.map Value.ref).toArray } = h2 at hob kb ⊢
  have ka : ∀ b o, h'.get? b = some o → h2.get? b = some o := fun b o e => by rw [← hh2]; exact Heap.get?_push_of_some _ e
  have eR : PySem.W.EachIs (fun v e => ∃ b, v = .ref b ∧ ∃ j, as[j]? = some b ∧ ks[j]? = some e) (as.map Value.ref) ks := each_at Value.ref as ks lak fun j b e h1 h2 => ⟨b, rfl, j, h1, h2⟩
  have er : PySem.W.EachIs (fun v e => ∃ as', Reads h2 v (pairD e) as' ∧ h'.objs.size ∉ as') (as.map Value.ref) ks := each_at Value.ref as ks lak fun j b e g1 g2 => by
    obtain ⟨e', t, u, he, hg⟩ := pr j b g1
    rw [g2] at he
    cases he
    exact ⟨[], Reads.tuple (ka _ _ hg) rfl rfl (.cons (.str _ _) (.cons (.int _ _) .nil)), by simp⟩
  have hdep : ∀ e : Str × Int, (pairD e).depth ≤ 3 := fun e => by simp [PyData.depth, PyData.depthAll]
  refine PySem.W.list_sort_data (s := { s with heap := h2, toks := tk }) (enc := pairD) (bs := ks) hob eR er (PySem.W.AllAlike.of pair_alike) (PySem.W.Sortable.tuples fun e => ⟨_, _, rfl⟩) (by rw [sizeLine_eq]; omega) (fun e _ => ?_) fun out ho2 eo => ?_
  · have := hdep e
    show X.A.units + 1 + 1 + _ < cLine
    omega
  · show EP X pins σ Q (.ref h'.objs.size) { s with heap := sortedHeap h2 h'.objs.size (as.map Value.ref) out.toArray, toks := tk }
    obtain ⟨bs, rfl, hbl, hbs⟩ := each_back eo
    have hperm : (ks.mergeSort (PySem.W.dataLe false pairD)).Perm ks := List.mergeSort_perm _ _
    have hsort : (ks.mergeSort (PySem.W.dataLe false pairD)).Pairwise (fun e f => e.1.cps.toList < f.1.cps.toList) := by
      have h1 := PySem.W.sort_pairwise (le := PySem.W.dataLe false pairD) (PySem.W.sortLe_total _ _ _) ks
      have h2 : (ks.mergeSort (PySem.W.dataLe false pairD)).Pairwise (fun e f => e.1 ≠ f.1) := by
        have h3 : ((ks.mergeSort (PySem.W.dataLe false pairD)).map (·.1)).Nodup := (hperm.map (·.1)).nodup_iff.mpr hdist
        rw [List.nodup_iff_pairwise_ne, List.pairwise_map] at h3
        exact h3
      exact (h1.and h2).imp fun ⟨g1, g2⟩ => pair_le g2 g1
    have kF : ∀ b o, b ≠ h'.objs.size → h2.get? b = some o → (sortedHeap h2 h'.objs.size (as.map Value.ref) (bs.map Value.ref).toArray).get? b = some o := fun b o hb e => (PyProof.Rows.sortedHeap_old hb (Heap.lt_size e)).trans e
    have kS : ∀ b o, s.heap.get? b = some o → (sortedHeap h2 h'.objs.size (as.map Value.ref) (bs.map Value.ref).toArray).get? b = some o := fun b o e => kF b o (ne0 _ _ (hk b o e)) (kb b o e)
    obtain ⟨eF, heF⟩ := PyProof.Rows.sortedHeap_at (vs := as.map Value.ref) (out := (bs.map Value.ref).toArray) hob
    have I1 : Inv X pins σ H { s with heap := sortedHeap h2 h'.objs.size (as.map Value.ref) (bs.map Value.ref).toArray, toks := tk } := I.kept (t' := tk) kS
    have hn0 : H h'.objs.size = none := I.hok.fresh (Nat.le_of_lt hlt)
    have hbk : bs.length = ks.length := hbl.trans hperm.length_eq
    have hlen : (bs.map V.ref).length ≤ sizeLine := by
      rw [List.length_map, sizeLine_eq]
      omega
    have rv : Vals (bs.map V.ref) (bs.map Value.ref) := vals_maps (fun b : Addr => V.ref b) Value.ref bs fun _ _ => rfl
    have I2 : Inv X pins σ (upd H h'.objs.size (.lst (bs.map V.ref))) { s with heap := sortedHeap h2 h'.objs.size (as.map Value.ref) (bs.map Value.ref).toArray, toks := tk } :=
      I1.take (h' := sortedHeap h2 h'.objs.size (as.map Value.ref) (bs.map Value.ref).toArray) (t' := tk) (fun b ob _ e => e) (I.fpOk (Nat.le_of_lt hlt) hn0) ⟨hlen, bs.map Value.ref, eF, rv, by simpa using heF⟩
    obtain ⟨H2, I3, g, qt⟩ := L2.DX.takeT (P := fun b vs => ∃ (j : Nat) (e : Str × Int), as[j]? = some b ∧ ks[j]? = some e ∧ vs = [.str e.1, .int e.2]) I as _ I2 nd fun b hb => by
      obtain ⟨j, hj⟩ := List.mem_iff_getElem?.mp hb
      obtain ⟨e, t, u, he, hg⟩ := pr j b hj
      have hbl2 : s.heap.objs.size ≤ b := Nat.le_of_lt (hG.above b hb)
      refine ⟨hbl2, ?_, [.str e.1, .int e.2], ⟨j, e, hj, he, rfl⟩, fun H3 => ⟨(by rw [sizeLine_eq]; show 2 ≤ 16777216; omega), [Value.str e.1 t, Value.int e.2 u], .cons ⟨t, rfl⟩ (.cons ⟨u, rfl⟩ .nil), ⟨_, kF _ _ (ne0 _ _ hg) (ka _ _ hg), rfl, 0, rfl⟩⟩⟩
      rw [upd_ne (ne0 _ _ hg)]
      exact I.hok.fresh hbl2
    refine ⟨.ref h'.objs.size, H2, I3, rfl, q H2 h'.objs.size _ bs (fun b o e => g b o (by rw [upd_ne (ne_of_none e hn0)]; exact e)) hn0 hperm hsort hbl (g _ _ upd_same) fun j b e h1 h2 => ?_⟩
    obtain ⟨i, i1, i2⟩ := hbs j b e h1 h2
    obtain ⟨vs2, ⟨i', e', j1, j2, rfl⟩, hH⟩ := qt b (List.mem_of_getElem? i1)
    have eij : i = i' := (List.getElem?_inj (List.getElem?_eq_some_iff.mp i1).1 nd).mp (i1.trans j1.symm)
    subst eij
    rw [i2] at j2
    cases j2
    exact hH
/-! ### set(t), t a tuple of ints -/
theorem ints_are : ∀ {is : List Int} {us : List Value}, Vals (is.map V.int) us → IntsAre us is
  | [], _, .nil => .nil
  | i :: is, _, .cons r t => by
    obtain ⟨u, rfl⟩ := r
    exact .cons i u (ints_are t)
def rSetT (K : PySem.W.Frag) (w : World) : List V → Hp → VK → Prop := fun vs H Q => ∃ (p : Addr) (is : List Int), vs = [.ref p] ∧ SqT K H p (is.map V.int) ∧ is.length < 64 ∧
  ∀ (a : Addr) (c : Nat), H a = none → c ≤ is.length → Q (.ref a) (upd H a (SetO w a (fun j => decide (j ∈ is)) c))
theorem cr_setT (hc : X.calm = true) : CallR X (.type "set") (rSetT X.K X.w) := by
  intro pins s σ H xs us Q I r h
  obtain ⟨p, is, rfl, hp, h64, q⟩ := h
  obtain rfl := Vals.ref1 r
  obtain ⟨its, rv, ⟨o, ho, hc2, n, hd⟩, hz⟩ := I.tuple hp
  refine call_set_tupI is (I.ok.hd hc) ⟨o, ho, hc2, n, hd⟩ (by simpa using ints_are rv) (by unfold scanBound; omega) fun h' tk c R hcl k => ?_
  exact ⟨.ref s.heap.objs.size, upd H s.heap.objs.size (SetO X.w s.heap.objs.size (fun j => decide (j ∈ is)) c), I.laid (t' := tk) k (Nat.le_refl _) (setO_new R), rfl, q _ c (I.hok.fresh (Nat.le_refl _)) hcl⟩
end
end Fw
set_option Elab.async false
set_option linter.all false
set_option maxRecDepth 100000
set_option maxHeartbeats 4000000
namespace Kq
open PySem PySem.Spec PyProof.Rows L2 Fw
def topS (i : Nat) : Stmt := PySem.Challenge.pw_fewasks_k76_texts_read.main.body.getD i (.Pass ⟨0, 0, 0, 0⟩)
abbrev s_Desk___init__ : Stmt := inClass (topS 9) 0
abbrev s_Desk_next_word : Stmt := inClass (topS 9) 1
abbrev s_Desk_need : Stmt := inClass (topS 9) 2
abbrev s_Desk_is_next : Stmt := inClass (topS 9) 3
abbrev s_Desk_next_lines : Stmt := inClass (topS 9) 4
abbrev s_Desk_is_done : Stmt := inClass (topS 9) 5
abbrev s_need : Stmt := topS 10
abbrev s_is_int : Stmt := topS 11
abbrev s_is_label : Stmt := topS 12
abbrev s_is_row : Stmt := topS 13
abbrev s_are_rows : Stmt := topS 14
abbrev s_is_list : Stmt := topS 15
abbrev s_is_pair : Stmt := topS 16
abbrev s_rises : Stmt := topS 17
abbrev s_put_int : Stmt := topS 18
abbrev s_put_truth : Stmt := topS 19
abbrev s_put_label : Stmt := topS 20
abbrev s_put_pair : Stmt := topS 21
abbrev s_put_piece : Stmt := topS 22
abbrev s_put_list : Stmt := topS 23
abbrev s_put_content : Stmt := topS 24
abbrev s_put_pack : Stmt := topS 25
abbrev s_get_int : Stmt := topS 26
abbrev s_get_truth : Stmt := topS 27
abbrev s_get_label : Stmt := topS 28
abbrev s_get_pair : Stmt := topS 29
abbrev s_get_piece : Stmt := topS 30
abbrev s_get_list : Stmt := topS 31
abbrev s_get_content : Stmt := topS 32
abbrev s_get_pack : Stmt := topS 33
abbrev s_text_by : Stmt := topS 39
abbrev s_text_of : Stmt := topS 40
abbrev s_row_by : Stmt := topS 41
abbrev s_row_of : Stmt := topS 42
abbrev s_l_deck : Stmt := topS 44
abbrev s_l_mixed : Stmt := topS 45
abbrev s_l_draw : Stmt := topS 46
abbrev s_l_text : Stmt := topS 47
abbrev s_l_label : Stmt := topS 48
abbrev s_l_int : Stmt := topS 49
abbrev s_l_ints : Stmt := topS 50
abbrev s_l_leaf_rows : Stmt := topS 51
abbrev s_l_pairs : Stmt := topS 52
abbrev s_l_marks : Stmt := topS 53
abbrev s_l_pieces : Stmt := topS 54
abbrev s_l_pack : Stmt := topS 55
abbrev s_l_row : Stmt := topS 56
abbrev s_l_words : Stmt := topS 57
abbrev s_l_pack_words : Stmt := topS 58
abbrev s_l_written : Stmt := topS 59
abbrev s_l_refused : Stmt := topS 60
abbrev s_law : Stmt := topS 61
abbrev sNum : Str := "abcdefghijklmnopqrstuvwxyz"
/-- what the defs lean on -/
structure Txt (K : PySem.W.Frag) (w : World) (mg : Str → Option Value) (CN CB CH : Addr) : Prop where
  len_ : mg "len" = none
  isinstance_ : mg "isinstance" = none
  all_ : mg "all" = none
  max_ : mg "max" = none
  str_ : mg "str" = none
  int_ : mg "int" = none
  bool_ : mg "bool" = none
  tuple_ : mg "tuple" = none
  list_ : mg "list" = none
  range_ : mg "range" = none
  zip_ : mg "zip" = none
  sorted_ : mg "sorted" = none
  set_ : mg "set" = none
  ord_ : mg "ord" = none
  ValueError_ : mg "ValueError" = none
  GREATEST : ∃ t, mg "GREATEST" = some (.int (10 ^ 18) t)
  MANY : ∃ t, mg "MANY" = some (.int 400 t)
  ROWS : ∃ t, mg "ROWS" = some (.int 40 t)
  LETTERS : ∃ t, mg "LETTERS" = some (.str sNum t)
  e_NoText : ExcC K mg "NoText" CN
  g_NoText : mg "NoText" = some (.ref CN)
  g_HouseError : mg "HouseError" = some (.ref CH)
local macro_rules | `(tactic| walk_at "rd") => `(tactic| try simp only [tSeq, tNext, tBreak, tCont, tDrop, tRet, tRetN, tIfS, tAsg, tVar, tC, tOp, tUn, tTest, tB, tAnd, tOr, tNot, tAndV, tOrV, tNotV, tIf, tChain, tCB, tCons, tNil, tTup, tLst, tCall, tCallS, WE,
  gName, gSub, rI, rI0, rU, rEq, rNe, rIsiC, tSl, tPart, tNoPart, rSetL, tBM, tBM0, rAppend, rExtend, rExtendT, tCallL, L2.start, List.map_cons, List.map_nil, List.length_cons, List.length_nil, Nat.sub_self, Nat.reduceAdd, Nat.reduceSub, List.replicate_zero, List.replicate_succ, List.append_nil, List.nil_append, List.cons_append,
  List.getElem?_cons_zero, List.getElem?_cons_succ, List.set_cons_zero, List.set_cons_succ, Option.some.injEq, exists_eq_left', exists_eq_left, exists_eq_right, exists_eq_right', exists_const, exists_and_left, exists_and_right, V.int.injEq, V.bl.injEq, V.str.injEq, V.ref.injEq, V.ty.injEq, List.cons.injEq, and_true, true_and, and_assoc, reduceCtorEq, false_and, and_false, exists_false, false_or, or_false,
  if_true, if_false, Bool.not_true, Bool.not_false, Bool.false_eq_true, Bool.true_eq_false, ↓reduceIte, decide_eq_true_eq, decide_true, decide_false, sc_nn, sc_ni, sc_in, sc_nb, sc_bn, sc_ns, sc_sn, sc_ii, sc_bb, sc_ss, sc_is, sc_si, sc_bs, sc_sb, ipI, Int.reduceLT, Int.reduceLE, Int.reduceEq, Nat.reduceLT, Nat.reduceEqDiff, String.reduceEq, nc0, nc1, nc2, nc3, nc4, nc5, nc6, nc7, nc8, nc9, nc10, nc11, nc12, cx_K, cx_w, wipe, lenV_str, rCat, exists_eq, exists_eq', relO, relC, relM, relI, relSl, spOf, ciOf, csOf, crOf, L2.rIxD, eq_self, not_true_eq_false, not_false_eq_true, Option.isSome_some, Option.isSome_none, tCallV, ofS_inj, sg_inj, sg_len, sg_lt, tM1, tM0, tLc_rng1, tLc_rng2, tFor_rng1, tFor_rng2, tDNewK, sDPut,  Nat.reduceLeDiff, Bool.not_eq_true', decide_eq_false_iff_not,
  isi_int_int, isi_int_bool, isi_int_str, isi_int_tuple, isi_int_list, isi_int_dict, isi_bool_int, isi_bool_bool, isi_bool_str, isi_bool_tuple, isi_bool_list, isi_bool_dict, isi_str_int, isi_str_bool, isi_str_str, isi_str_tuple, isi_str_list, isi_str_dict, isi_non_int, isi_non_bool, isi_non_str, isi_non_tuple, isi_non_list, isi_non_dict])
local macro_rules | `(tactic| walk_at "ix") => `(tactic| (refine ixT (by assumption) rfl ?_; walk_at "rd"))
local macro_rules | `(tactic| walk_at "len") => `(tactic| (refine ⟨_, lenV_T (by assumption), ?_⟩; walk_at "rd"))
local macro_rules | `(tactic| walk_at "isT") => `(tactic| (refine ⟨true, isiT (by assumption), ?_⟩; walk_at "rd"))

theorem sz_of {n : Nat} (h : n ≤ 100000) : n ≤ sizeLine := Nat.le_trans h (by decide)
abbrev iS (i : Int) : Str := toString i
abbrev okI (i : Int) : Bool := decide (0 ≤ i) && decide (i ≤ 10 ^ 18)
theorem okI_ge {i : Int} (h : okI i = true) : 0 ≤ i ∧ i ≤ 10 ^ 18 := by simpa [okI] using h
theorem okI_nat {n : Nat} (h : n ≤ 100000) : okI ((n : Nat) : Int) = true := by
  have h1 : (0 : Int) ≤ ((n : Nat) : Int) := by omega
  have h2 : ((n : Nat) : Int) ≤ 10 ^ 18 := by omega
  unfold okI
  rw [decide_eq_true h1, decide_eq_true h2]
  rfl
theorem okI_log {i : Int} (h : okI i = true) : i.natAbs.log2 < 1920 := by
  obtain ⟨h1, h2⟩ := okI_ge h
  have h3 : i.natAbs < 2 ^ 60 := by omega
  have h4 := PySem.Flt.log2_lt_of (by decide) h3
  omega
abbrev okC (c : Nat) : Bool := decide (c ∈ sNum.cps.toList)
abbrev okL (z : Str) : Bool := decide (1 ≤ z.length) && decide (z.length ≤ 8) && z.cps.toList.all okC
abbrev okG (c : Nat) : Bool := decide (32 ≤ c) && decide (c ≤ 126) && decide (c ≠ 37)
abbrev okR (z : Str) : Bool := decide (z.length ≤ 40) && z.cps.toList.all okG
theorem okL_len {z : Str} (h : okL z = true) : z.length ≤ 1000 := by
  simp only [okL, Bool.and_eq_true, decide_eq_true_eq] at h
  omega
theorem okR_len {z : Str} (h : okR z = true) : z.length ≤ 1000 := by
  simp only [okR, Bool.and_eq_true, decide_eq_true_eq] at h
  omega
/-- what a thing is written as: words, lines -/
abbrev Wr := V → Hp → List Str → List Str → Prop
def IsI : Wr := fun v _ nw nl => ∃ i, v = .int i ∧ okI i = true ∧ nw = [iS i] ∧ nl = []
def IsB : Wr := fun v _ nw nl => ∃ b, v = .bl b ∧ nw = [if b then ("yes" : Str) else "no"] ∧ nl = []
def IsLb : Wr := fun v _ nw nl => ∃ z, v = .str z ∧ okL z = true ∧ nw = [z] ∧ nl = []
def IsPr (K : PySem.W.Frag) : Wr := fun v H nw nl => ∃ a z i, v = .ref a ∧ SqT K H a [.str z, .int i] ∧ okL z = true ∧ okI i = true ∧ nw = [z, iS i] ∧ nl = []
/-- rows of a leaf -/
def IsRs (K : PySem.W.Frag) (v : V) (H : Hp) (zs : List Str) : Prop := ∃ a, v = .ref a ∧ SqT K H a (zs.map V.str) ∧ zs.length ≤ 40 ∧ ∀ z ∈ zs, okR z = true
def IsPc (K : PySem.W.Frag) : Wr := fun v H nw nl => ∃ a, v = .ref a ∧ ((∃ i j, SqT K H a [.str "take", .int i, .int j] ∧ okI i = true ∧ okI j = true ∧ 0 < j ∧ nw = [("take" : Str), iS i, iS j] ∧ nl = []) ∨
  ∃ r zs, SqT K H a [.str "put", r] ∧ IsRs K r H zs ∧ 0 < zs.length ∧ nw = [("put" : Str), iS ((zs.length : Nat) : Int)] ∧ nl = zs)
def IsL (K : PySem.W.Frag) (D : Wr) (n : Nat) : Wr := fun v H nw nl => ∃ (a : Addr) (xs : List V) (its : List (List Str × List Str)), v = .ref a ∧ SqT K H a xs ∧ xs.length ≤ n ∧ its.length = xs.length ∧
  (∀ (i : Nat) (x : V) (p : List Str × List Str), xs[i]? = some x → its[i]? = some p → D x H p.1 p.2) ∧ nw = [("(" : Str)] ++ its.flatMap (·.1) ++ [(")" : Str)] ∧ nl = its.flatMap (·.2)
/-- it stays so -/
def Stb (D : Wr) : Prop := ∀ v M H H' nw nl, Kp M H H' → D v H nw nl → D v H' nw nl
theorem stb_I : Stb IsI := fun _ _ _ _ _ _ _ h => h
theorem stb_B : Stb IsB := fun _ _ _ _ _ _ _ h => h
theorem stb_Lb : Stb IsLb := fun _ _ _ _ _ _ _ h => h
section
variable {K : PySem.W.Frag} {D : Wr} {n : Nat}
theorem stb_Pr : Stb (IsPr K) := fun _ _ _ _ _ _ k ⟨a, z, i, e, h, r⟩ => ⟨a, z, i, e, k.tup h, r⟩
theorem IsRs.kp {v : V} {M : List Addr} {H H' : Hp} {zs : List Str} (h : IsRs K v H zs) (k : Kp M H H') : IsRs K v H' zs := by
  obtain ⟨a, e, h, r⟩ := h
  exact ⟨a, e, k.tup h, r⟩
theorem stb_Pc : Stb (IsPc K) := fun _ _ _ _ _ _ k ⟨a, e, h⟩ => ⟨a, e, by
  rcases h with ⟨i, j, h, r⟩ | ⟨r, zs, h, q, z⟩
  · exact .inl ⟨i, j, k.tup h, r⟩
  · exact .inr ⟨r, zs, k.tup h, q.kp k, z⟩⟩
theorem stb_L (s : Stb D) : Stb (IsL K D n) := fun _ _ _ _ _ _ k ⟨a, xs, its, e, h, hn, hl, hd, r⟩ => ⟨a, xs, its, e, k.tup h, hn, hl, fun i x p h1 h2 => s _ _ _ _ _ _ k (hd i x p h1 h2), r⟩
end
section
variable {P : Program} {w : World} {K : PySem.W.Frag} {mg : Str → Option Value} {base : Heap} {CN CB CH : Addr}
theorem sc_need : FnScope ["good"] ["good"] (defScope s_need) := ⟨rfl, rfl, rfl, by decide +kernel, rfl, by decide +kernel, by decide +kernel⟩
def spNeed (CN : Addr) : Sp := fun vs H Q E => ∃ b, vs = [.bl b] ∧ (b = true → Q .non H) ∧ (b = false → E (.ref CN) none H)
theorem ok_need (T : Txt K w mg CN CB CH) (F : At K mg "need" s_need ["good"]) : Dfn P w K mg base 1 "need" ["good"] (spNeed CN) := by
  refine F.ok sc_need (fun vs H Q E h => ?_) (fun qual f cdv A outer s H vs Q E hr h => ?_)
  · obtain ⟨b, rfl, _⟩ := h
    rfl
  · obtain ⟨b, rfl, h1, h2⟩ := h
    refine ⟨_, (pss_one (ps_if (pt_not (pt_val (pv 0))) (pss_one (ps_raise rfl (takes_of rfl rfl rfl rfl) (pmk_own0 T.e_NoText rfl))) pss_nil)), ?_⟩
    walk_at "rd"
    cases b with
    | true => exact h1 rfl
    | false => exact h2 rfl
theorem sc_is_int : FnScope ["thing"] ["thing"] (defScope s_is_int) := ⟨rfl, rfl, rfl, by decide +kernel, rfl, by decide +kernel, by decide +kernel⟩
def spIsInt : Sp := fun vs H Q _ => (∃ i, vs = [.int i] ∧ Q (.bl (okI i)) H) ∨ ∃ b, vs = [.bl b] ∧ Q (.bl false) H
theorem ok_is_int (T : Txt K w mg CN CB CH) (F : At K mg "is_int" s_is_int ["thing"]) : Dfn P w K mg base 1 "is_int" ["thing"] spIsInt := by
  refine F.ok sc_is_int (fun vs H Q E h => ?_) (fun qual f cdv A outer s H vs Q E hr h => ?_)
  · rcases h with ⟨i, rfl, _⟩ | ⟨b, rfl, _⟩ <;> rfl
  · refine ⟨_, (pss_one (ps_ret (pe_and (pe_callB call_isiC (by rfl) T.isinstance_ (by decide +kernel) (pa_cons (pv 0) (pa_cons (pe_ty "int" rfl T.int_ (by decide +kernel)) pa_nil))) (pe_and (pe_not (pe_callB call_isiC (by rfl) T.isinstance_ (by decide +kernel) (pa_cons (pv 0) (pa_cons (pe_ty "bool" rfl T.bool_ (by decide +kernel)) pa_nil)))) (pe_one (pe_chain op_le op_le pe_int (pv 0) (pe_ci rfl T.GREATEST))))))), ?_⟩
    rcases h with ⟨i, rfl, q⟩ | ⟨b, rfl, q⟩
    · walk_at "rd"
      unfold okI at q
      by_cases h0 : (0 : Int) ≤ i
      · simpa [h0] using q
      · simpa [h0] using q
    · walk_at "rd"
      exact q
theorem sc_is_label : FnScope ["thing", "sign"] ["thing"] (defScope s_is_label) := ⟨rfl, rfl, rfl, by decide +kernel, rfl, by decide +kernel, by decide +kernel⟩
def spIsLabel : Sp := fun vs H Q _ => ∃ z, vs = [.str z] ∧ z.length ≤ 1000 ∧ ∀ H', Kp [] H H' → Q (.bl (okL z)) H'
theorem ok_is_label (T : Txt K w mg CN CB CH) (F : At K mg "is_label" s_is_label ["thing"]) : Dfn P w K mg base 1 "is_label" ["thing"] spIsLabel := by
  refine F.ok sc_is_label (fun vs H Q E h => ?_) (fun qual f cdv A outer s H vs Q E hr h => ?_)
  · obtain ⟨z, rfl, _⟩ := h
    rfl
  · obtain ⟨z, rfl, hz, q⟩ := h
    refine ⟨_, (pss_cons (ps_if (PW.pt (pw_or (pt_not (pt_val (pe_callB call_isiC (by rfl) T.isinstance_ (by decide +kernel) (pa_cons (pv 0) (pa_cons (pe_ty "str" rfl T.str_ (by decide +kernel)) pa_nil))))) (pw_or1 (pt_not (pt_chain op_le op_le pe_int (pe_callB call_len (by rfl) T.len_ (by decide +kernel) (pa_cons (pv 0) pa_nil)) pe_int))))) (pss_one (ps_ret pe_bl)) pss_nil)
      (pss_one (ps_ret (pe_callB (cr_all rfl) (by rfl) T.all_ (by decide +kernel) (pa_cons (pe_lc (own := [("sign", 1)]) (g := gName 1) (tt := tYes) rfl sc_is_label.nd (pi_str (pv 0)) (blkOk_by (N := ["thing", "sign"]) (sc := defScope s_is_label) (by decide +kernel)) (fun _ _ _ _ _ => pg_name (i := 1) sc_is_label.nd rfl (Or.inl rfl)) (fun _ _ _ _ _ => pts_nil) (fun _ _ _ _ _ => (pe_cmpR op_in_sign (pv 1) (pe_cs rfl T.LETTERS) rfl))) pa_nil))))), ?_⟩
    walk_at "rd"
    refine ⟨sz_of (by omega), ?_⟩
    have e : okL z = (decide (1 ≤ z.length) && decide (z.length ≤ 8) && z.cps.toList.all okC) := rfl
    by_cases h1 : 1 ≤ z.length
    · by_cases h2 : z.length ≤ 8
      · rw [if_pos (by omega), if_neg (by simp; omega)]
        refine all_str okC (fun Q h => ⟨_, rfl, h⟩) (by omega) (fun _ => rfl) (fun c H Q _ q => ?_) (fun H' k => ?_)
        · walk_at "rd"
          exact q
        · have := q H' k
          rw [e, decide_eq_true h1, decide_eq_true h2] at this
          exact this
      · rw [if_pos (by omega), if_pos (by simp; omega)]
        have := q H Kp.refl
        rw [e, decide_eq_false h2, Bool.and_false, Bool.false_and] at this
        exact this
    · rw [if_neg (by omega)]
      have := q H Kp.refl
      rw [e, decide_eq_false h1, Bool.false_and, Bool.false_and] at this
      exact this
theorem sc_is_row : FnScope ["thing", "sign"] ["thing"] (defScope s_is_row) := ⟨rfl, rfl, rfl, by decide +kernel, rfl, by decide +kernel, by decide +kernel⟩
def spIsRow : Sp := fun vs H Q _ => ∃ z, vs = [.str z] ∧ z.length ≤ 1000 ∧ ∀ H', Kp [] H H' → Q (.bl (okR z)) H'
theorem ok_is_row (T : Txt K w mg CN CB CH) (F : At K mg "is_row" s_is_row ["thing"]) : Dfn P w K mg base 1 "is_row" ["thing"] spIsRow := by
  refine F.ok sc_is_row (fun vs H Q E h => ?_) (fun qual f cdv A outer s H vs Q E hr h => ?_)
  · obtain ⟨z, rfl, _⟩ := h
    rfl
  · obtain ⟨z, rfl, hz, q⟩ := h
    refine ⟨_, (pss_cons (ps_if (PW.pt (pw_or (pt_not (pt_val (pe_callB call_isiC (by rfl) T.isinstance_ (by decide +kernel) (pa_cons (pv 0) (pa_cons (pe_ty "str" rfl T.str_ (by decide +kernel)) pa_nil))))) (pw_or1 (pt_cmpR op_gt (pe_callB call_len (by rfl) T.len_ (by decide +kernel) (pa_cons (pv 0) pa_nil)) pe_int (nomark _))))) (pss_one (ps_ret pe_bl)) pss_nil)
      (pss_one (ps_ret (pe_callB (cr_all rfl) (by rfl) T.all_ (by decide +kernel) (pa_cons (pe_lc (own := [("sign", 1)]) (g := gName 1) (tt := tYes) rfl sc_is_row.nd (pi_str (pv 0)) (blkOk_by (N := ["thing", "sign"]) (sc := defScope s_is_row) (by decide +kernel)) (fun _ _ _ _ _ => pg_name (i := 1) sc_is_row.nd rfl (Or.inl rfl)) (fun _ _ _ _ _ => pts_nil) (fun _ _ _ _ _ => (pe_and (pe_chain op_le_str op_le_str pe_str (pv 1) pe_str) (pe_one (pe_cmpR op_ne (pe_callB call_ord (by rfl) T.ord_ (show bootBuiltins "ord" = some (.builtin "ord") by decide +kernel) (pa_cons (pv 1) pa_nil)) pe_int (nomark _)))))) pa_nil))))), ?_⟩
    walk_at "rd"
    refine ⟨sz_of (by omega), ?_⟩
    have e : okR z = (decide (z.length ≤ 40) && z.cps.toList.all okG) := rfl
    by_cases h1 : z.length ≤ 40
    · rw [if_neg (by omega)]
      refine all_str okG (fun Q h => ⟨_, rfl, h⟩) (by omega) (fun _ => rfl) (fun c H Q _ q => ?_) (fun H' k => ?_)
      · walk_at "rd"
        have e1 : (Str.ofString " ").cps.toList = [32] := by decide +kernel
        have e2 : (Str.ofString "~").cps.toList = [126] := by decide +kernel
        rw [e1, e2]
        walk_at "rd"
        have e3 : (#[c] : Array Nat).getD 0 0 = c := rfl
        rw [e3]
        by_cases g1 : c < 32
        · rw [if_neg (by simpa using g1)]
          have e4 : okG c = false := by simp [okG]; omega
          rw [e4] at q
          exact q
        · rw [if_pos g1]
          by_cases g2 : 126 < c
          · rw [if_neg (by simpa using g2)]
            have e4 : okG c = false := by simp [okG]; omega
            rw [e4] at q
            exact q
          · rw [if_pos g2]
            have e4 : okG c = !decide ((c : Int) = 37) := by
              unfold okG
              rw [decide_eq_true (show 32 ≤ c by omega), decide_eq_true (show c ≤ 126 by omega), Bool.and_true, Bool.true_and]
              by_cases g3 : c = 37
              · simp [g3]
              · simp only [g3, decide_false, Bool.not_false, not_false_iff, decide_true, ne_eq]
                simp
                omega
            rw [← e4]
            exact q
      · have := q H' k
        rw [e, decide_eq_true h1] at this
        exact this
    · rw [if_pos (by omega)]
      have := q H Kp.refl
      rw [e, decide_eq_false h1, Bool.false_and] at this
      exact this
theorem sc_are_rows : FnScope ["thing", "row"] ["thing"] (defScope s_are_rows) := ⟨rfl, rfl, rfl, by decide +kernel, rfl, by decide +kernel, by decide +kernel⟩
def spAreRows (K : PySem.W.Frag) : Sp := fun vs H Q _ => ∃ (a : Addr) (zs : List Str), vs = [.ref a] ∧ SqT K H a (zs.map V.str) ∧ zs.length ≤ 1000 ∧ (∀ z ∈ zs, z.length ≤ 1000) ∧ ∀ H', Kp [] H H' → Q (.bl (decide (zs.length ≤ 40) && zs.all okR)) H'
theorem ok_are_rows (T : Txt K w mg CN CB CH) (F : At K mg "are_rows" s_are_rows ["thing"]) (G_is_row : Dfn P w K mg base 1 "is_row" ["thing"] spIsRow) : Dfn P w K mg base 2 "are_rows" ["thing"] (spAreRows K) := by
  refine F.ok sc_are_rows (fun vs H Q E h => ?_) (fun qual f cdv A outer s H vs Q E hr h => ?_)
  · obtain ⟨a, z, rfl, _⟩ := h
    rfl
  · obtain ⟨a, zs, rfl, hs, hn, hz, q⟩ := h
    refine ⟨_, (pss_one (ps_ret (pe_and (pe_callB call_isiC (by rfl) T.isinstance_ (by decide +kernel) (pa_cons (pv 0) (pa_cons (pe_ty "tuple" rfl T.tuple_ (by decide +kernel)) pa_nil))) (pe_and (pe_cmpR op_le (pe_callB call_len (by rfl) T.len_ (by decide +kernel) (pa_cons (pv 0) pa_nil)) (pe_ci rfl T.ROWS) (nomark _)) (pe_one (pe_callB (cr_all rfl) (by rfl) T.all_ (by decide +kernel) (pa_cons (pe_lc (own := [("row", 1)]) (g := gName 1) (tt := tYes) rfl sc_are_rows.nd (pi_tup (pv 0)) (blkOk_by (N := ["thing", "row"]) (sc := defScope s_are_rows) (by decide +kernel)) (fun _ _ _ _ _ => pg_name (i := 1) sc_are_rows.nd rfl (Or.inl rfl)) (fun _ _ _ _ _ => pts_nil) (fun _ _ _ _ _ => (pe_fn G_is_row hr (pa_cons (pv 1) pa_nil)))) pa_nil))))))), ?_⟩
    walk_at "rd"
    refine ⟨true, isiT hs, ?_⟩
    walk_at "rd"
    refine ⟨_, lenV_T hs, ?_⟩
    rw [List.length_map]
    by_cases h1 : zs.length ≤ 40
    · rw [if_pos (by omega)]
      refine all_tup (xs := zs.map V.str) (bs := zs.map okR) (fun Q h => ⟨_, rfl, h⟩) hs (by simp; omega) (by simp) (fun _ => rfl) (fun i x b H' Q hx hb k q => ?_) (fun H' k => ?_)
      · simp only [List.getElem?_map, Option.map_eq_some_iff] at hx hb
        obtain ⟨z, hz1, rfl⟩ := hx
        obtain ⟨z', hz2, rfl⟩ := hb
        have ez : z = z' := Option.some.inj (hz1.symm.trans hz2)
        subst ez
        walk_at "rd"
        exact ⟨_, rfl, hz _ (List.mem_of_getElem? hz1), q⟩
      · have := q H' k
        rw [decide_eq_true h1, Bool.true_and] at this
        rw [List.all_map]
        exact this
    · rw [if_neg (by omega)]
      have := q H Kp.refl
      rw [decide_eq_false h1, Bool.false_and] at this
      exact this
theorem sc_is_list : FnScope ["thing", "most"] ["thing", "most"] (defScope s_is_list) := ⟨rfl, rfl, rfl, by decide +kernel, rfl, by decide +kernel, by decide +kernel⟩
def spIsList (K : PySem.W.Frag) : Sp := fun vs H Q _ => ∃ (a : Addr) (xs : List V) (n : Int), vs = [.ref a, .int n] ∧ SqT K H a xs ∧ Q (.bl (decide ((xs.length : Int) ≤ n))) H
theorem ok_is_list (T : Txt K w mg CN CB CH) (F : At K mg "is_list" s_is_list ["thing", "most"]) : Dfn P w K mg base 1 "is_list" ["thing", "most"] (spIsList K) := by
  refine F.ok sc_is_list (fun vs H Q E h => ?_) (fun qual f cdv A outer s H vs Q E hr h => ?_)
  · obtain ⟨a, xs, n, rfl, _⟩ := h
    rfl
  · obtain ⟨a, xs, n, rfl, hs, q⟩ := h
    refine ⟨_, (pss_one (ps_ret (pe_and (pe_callB call_isiC (by rfl) T.isinstance_ (by decide +kernel) (pa_cons (pv 0) (pa_cons (pe_ty "tuple" rfl T.tuple_ (by decide +kernel)) pa_nil))) (pe_one (pe_cmpR op_le (pe_callB call_len (by rfl) T.len_ (by decide +kernel) (pa_cons (pv 0) pa_nil)) (pv 1) (nomark _)))))), ?_⟩
    walk_at "rd"
    refine ⟨true, isiT hs, ?_⟩
    walk_at "rd"
    exact ⟨_, lenV_T hs, q⟩
theorem sc_is_pair : FnScope ["thing"] ["thing"] (defScope s_is_pair) := ⟨rfl, rfl, rfl, by decide +kernel, rfl, by decide +kernel, by decide +kernel⟩
def spIsPair (K : PySem.W.Frag) : Sp := fun vs H Q _ => ∃ (a : Addr) (z : Str) (i : Int), vs = [.ref a] ∧ SqT K H a [.str z, .int i] ∧ z.length ≤ 1000 ∧ ∀ H', Kp [] H H' → Q (.bl (okL z && okI i)) H'
theorem ok_is_pair (T : Txt K w mg CN CB CH) (F : At K mg "is_pair" s_is_pair ["thing"]) (G_is_label : Dfn P w K mg base 1 "is_label" ["thing"] spIsLabel) (G_is_int : Dfn P w K mg base 1 "is_int" ["thing"] spIsInt) : Dfn P w K mg base 2 "is_pair" ["thing"] (spIsPair K) := by
  refine F.ok sc_is_pair (fun vs H Q E h => ?_) (fun qual f cdv A outer s H vs Q E hr h => ?_)
  · obtain ⟨a, z, i, rfl, _⟩ := h
    rfl
  · obtain ⟨a, z, i, rfl, hs, hz, q⟩ := h
    refine ⟨_, (pss_one (ps_ret (pe_and (pe_callB call_isiC (by rfl) T.isinstance_ (by decide +kernel) (pa_cons (pv 0) (pa_cons (pe_ty "tuple" rfl T.tuple_ (by decide +kernel)) pa_nil))) (pe_and (pe_cmpR op_eq (pe_callB call_len (by rfl) T.len_ (by decide +kernel) (pa_cons (pv 0) pa_nil)) pe_int (nomark _)) (pe_and (pe_fn G_is_label hr (pa_cons (pe_ix ix_tup (pv 0) pe_int (fun _ _ => rfl)) pa_nil)) (pe_one (pe_fn G_is_int hr (pa_cons (pe_ix ix_tup (pv 0) pe_int (fun _ _ => rfl)) pa_nil)))))))), ?_⟩
    walk_at "rd"
    refine ⟨true, isiT hs, ?_⟩
    walk_at "rd"
    refine ⟨_, lenV_T hs, ?_⟩
    walk_at "rd"
    refine ixT hs rfl ?_
    refine ⟨z, rfl, hz, fun H1 k1 => ?_⟩
    walk_at "rd"
    by_cases h1 : okL z = true
    · rw [if_pos h1]
      refine ixT (k1.tup hs) rfl ?_
      refine .inl ⟨i, rfl, ?_⟩
      have := q H1 k1
      rw [h1, Bool.true_and] at this
      exact this
    · rw [if_neg h1]
      have := q H1 k1
      rw [Bool.not_eq_true] at h1
      rw [h1, Bool.false_and] at this
      exact this
theorem sc_rises : FnScope ["things", "one", "other"] ["things"] (defScope s_rises) := ⟨rfl, rfl, rfl, by decide +kernel, rfl, by decide +kernel, by decide +kernel⟩
/-- each greater than the one ahead -/
def risesI : List Int → Bool
  | i :: j :: r => decide (i < j) && risesI (j :: r)
  | _ => true
def risesS : List Str → Bool
  | i :: j :: r => decide (i.cps.toList < j.cps.toList) && risesS (j :: r)
  | _ => true
theorem risesI_eq : ∀ ns : List Int, risesI ns = (List.zipWith (fun i j => decide (i < j)) ns (ns.drop 1)).all id
  | [] => rfl
  | [_] => rfl
  | i :: j :: r => by
    have h := risesI_eq (j :: r)
    unfold risesI
    rw [h]
    rfl
theorem risesS_eq : ∀ ns : List Str, risesS ns = (List.zipWith (fun i j => decide (i.cps.toList < j.cps.toList)) ns (ns.drop 1)).all id
  | [] => rfl
  | [_] => rfl
  | i :: j :: r => by
    have h := risesS_eq (j :: r)
    unfold risesS
    rw [h]
    rfl
theorem cut1 (xs : List V) : cutV xs (some 1) none = xs.drop 1 := by
  unfold cutV
  have e : HT.sIx xs.length 0 (some 1) = min 1 xs.length := HT.sIx_nat xs.length 0 1
  rw [e, HT.sIx_none]
  cases xs with
  | nil => rfl
  | cons x r =>
    have e2 : min 1 (x :: r).length = 1 := by simp
    rw [e2, List.take_of_length_le (by simp)]
theorem zip_min {xs : List V} {n : Nat} (h : xs.length = n) : (xs.drop 1).length = n - 1 := by simp [h]
def spRises (K : PySem.W.Frag) : Sp := fun vs H Q _ => (∃ (a : Addr) (ns : List Int), vs = [.ref a] ∧ SqT K H a (ns.map V.int) ∧ ns.length ≤ 1000 ∧ ∀ H', Kp [] H H' → Q (.bl (risesI ns)) H') ∨
  ∃ (a : Addr) (zs : List Str), vs = [.ref a] ∧ SqL K H a (zs.map V.str) ∧ zs.length ≤ 1000 ∧ ∀ H', Kp [] H H' → Q (.bl (risesS zs)) H'
theorem ok_rises (T : Txt K w mg CN CB CH) (F : At K mg "rises" s_rises ["things"]) : Dfn P w K mg base 1 "rises" ["things"] (spRises K) := by
  refine F.ok sc_rises (fun vs H Q E h => ?_) (fun qual f cdv A outer s H vs Q E hr h => ?_)
  · rcases h with ⟨a, xs, rfl, _⟩ | ⟨a, xs, rfl, _⟩ <;> rfl
  · refine ⟨_, (pss_one (ps_ret (pe_callB (cr_all rfl) (by rfl) T.all_ (by decide +kernel) (pa_cons (pe_lc (own := [("other", 2), ("one", 1)]) (g := gTup K 2 (gCons (gName 1) (gCons (gName 2) gNil))) (tt := tYes) rfl sc_rises.nd (RZ.pi_zipA rfl T.zip_ (pa_cons (pv 0) (pa_cons (pe_slice (sl_tupA.or sl_list) (pv 0) (po_some pe_int) po_none) pa_nil))) (blkOk_by (N := ["things", "one", "other"]) (sc := defScope s_rises) (by decide +kernel)) (fun _ _ _ _ _ => (pg_tup rfl (pgs_cons (pg_name (i := 1) sc_rises.nd rfl (Or.inl rfl) (hf := Or.inr rfl)) (pgs_cons (pg_name (i := 2) sc_rises.nd rfl (Or.inl rfl) (hf := Or.inr rfl)) pgs_nil)))) (fun _ _ _ _ _ => pts_nil) (fun _ _ _ _ _ => (pe_cmpR (op_lt.or op_lt_str) (pv 1) (pv 2) (nomark _)))) pa_nil)))), ?_⟩
    rcases h with ⟨a, ns, rfl, hs, hn, q⟩ | ⟨a, zs, rfl, hs, hn, q⟩
    · have core : ∀ H1 p, Kp [] H H1 → SqT K H1 p ((ns.map V.int).drop 1) → RZ.iZipA K (fun _ H Q => Q [.ref a, .ref p] H) [some (V.ref a), none, none] H1 (fun J H1 => ∀ D, H1 D = none → LcGoal J (gTup K 2 (gCons (gName 1) (gCons (gName 2) gNil)))
          (tOp (fun x y H Q => (∃ i j, x = V.int i ∧ y = V.int j ∧ Q (V.bl (decide (i < j))) H) ∨ ∃ i j, x = V.str i ∧ y = V.str j ∧ Q (V.bl (decide (i.cps.toList < j.cps.toList))) H) (tVar 1) (tVar 2))
          [2, 1] [some (V.ref a), none, none] H1 D fun H1 => rAll K [.ref D] H1 Q) := by
        intro H1 p k1 hp
        refine ⟨a, p, _, _, rfl, .inr ⟨k1.tup hs, hp, fun D hD => ?_⟩⟩
        refine all_pair (bs := List.zipWith (fun i j => decide (i < j)) ns (ns.drop 1)) (walk_zipT rfl) hD (by simp; omega) (by simp) (fun _ _ => rfl) (fun H2 k2 => ⟨(k1.trans k2).tup hs, k2.tup hp⟩) (fun i x y b H2 Q2 hx hy hb k2 q2 => ?_) (fun H2 k2 => ?_)
        · rw [← List.map_drop] at hy
          simp only [List.getElem?_map, Option.map_eq_some_iff, List.getElem?_zipWith] at hx hy hb
          obtain ⟨m, hm, rfl⟩ := hx
          obtain ⟨m2, hm2, rfl⟩ := hy
          rw [hm, hm2] at hb
          have eb : decide (m < m2) = b := Option.some.inj hb
          walk_at "rd"
          rw [eb]
          exact q2 H2 Kp.refl
        · rw [← risesI_eq]
          exact q H2 (k1.trans k2)
      refine ⟨_, rfl, _, rfl, 1, rfl, .inl ⟨a, _, rfl, hs, fun hw => ?_, fun hw p hp => ?_⟩⟩
      · have e0 : ns = [] := by
          have e : HT.sIx (ns.map V.int).length 0 (some 1) = min 1 (ns.map V.int).length := HT.sIx_nat _ 0 1
          rw [e] at hw
          have := hw.1
          simp at this
          cases ns with
          | nil => rfl
          | cons _ _ => simp at this
        exact core H a Kp.refl (by rw [e0] at hs ⊢; exact hs)
      · exact core _ p (Kp.refl.new hp) (by rw [← cut1]; exact .inl (.inl upd_same))
    · refine ⟨_, rfl, _, rfl, 1, rfl, .inr ⟨a, _, rfl, hs, fun p hp => ?_⟩⟩
      have k1 : Kp [] H (upd H p (.lst (cutV (zs.map V.str) (some 1) none))) := Kp.refl.new hp
      refine ⟨a, p, _, _, rfl, .inl ⟨k1.lst hs (by simp), .inl (.inl upd_same), fun D hD => ?_⟩⟩
      refine all_pair (bs := List.zipWith (fun i j => decide (i.cps.toList < j.cps.toList)) zs (zs.drop 1)) (walk_zip rfl) hD (by simp; omega) (by rw [cut1]; simp) (fun _ _ => rfl) (fun H2 k2 => ⟨(k1.trans k2).lst hs (by simp), k2.lst (.inl (.inl upd_same)) (by simp)⟩) (fun i x y b H2 Q2 hx hy hb k2 q2 => ?_) (fun H2 k2 => ?_)
      · rw [cut1, ← List.map_drop] at hy
        simp only [List.getElem?_map, Option.map_eq_some_iff, List.getElem?_zipWith] at hx hy hb
        obtain ⟨m, hm, rfl⟩ := hx
        obtain ⟨m2, hm2, rfl⟩ := hy
        rw [hm, hm2] at hb
        have eb : decide (m.cps.toList < m2.cps.toList) = b := Option.some.inj hb
        walk_at "rd"
        rw [eb]
        exact q2 H2 Kp.refl
      · rw [← risesS_eq]
        exact q H2 (k1.trans k2)

/-! ### what writes words and lines -/
def PutQ (wa la : Addr) (ws ls nw nl : List Str) (H : Hp) (Q : VK) : Prop := ∀ H', Kp [wa, la] H H' → H' wa = some (.lst ((ws ++ nw).map V.str)) → H' la = some (.lst ((ls ++ nl).map V.str)) → Q .non H'
theorem PutQ.at_ {wa la : Addr} {ws ls nw nl : List Str} {H H1 : Hp} {Q : VK} (q : PutQ wa la ws ls nw nl H Q) (k : Kp [wa, la] H H1) : PutQ wa la ws ls nw nl H1 Q := fun H' k' a b => q H' (k.trans k') a b
structure PutA (H : Hp) (wa la : Addr) (ws ls : List Str) (n : Nat) : Prop where
  ne : wa ≠ la
  w : H wa = some (.lst (ws.map V.str))
  l : H la = some (.lst (ls.map V.str))
  bw : ws.length + n ≤ 100000
  bl : ls.length + n ≤ 100000
/-- more words, lines at the end -/
theorem PutA.grow {H H' : Hp} {wa la : Addr} {ws ls nw nl : List Str} {n m : Nat} (A : PutA H wa la ws ls n) (hw : H' wa = some (.lst ((ws ++ nw).map V.str))) (hl : H' la = some (.lst ((ls ++ nl).map V.str))) (h1 : m + nw.length ≤ n) (h2 : m + nl.length ≤ n) :
    PutA H' wa la (ws ++ nw) (ls ++ nl) m := ⟨A.ne, hw, hl, by have := A.bw; simp; omega, by have := A.bl; simp; omega⟩
theorem tyV_L {K : PySem.W.Frag} {H : Hp} {p : Addr} {xs : List V} (h : H p = some (.lst xs)) : tyV K "list" (.ref p) H := .inl ⟨rfl, _, SqL.of h⟩
theorem PutA.more {H : Hp} {wa la : Addr} {ws ls zs : List Str} {n : Nat} (A : PutA H wa la ws ls n) : Kp [wa, la] H (upd H wa (.lst (ws.map V.str ++ zs.map V.str))) ∧
    (upd H wa (.lst (ws.map V.str ++ zs.map V.str))) wa = some (.lst ((ws ++ zs).map V.str)) ∧ (upd H wa (.lst (ws.map V.str ++ zs.map V.str))) la = some (.lst ((ls ++ []).map V.str)) :=
  ⟨Kp.refl.put A.w trivial (by simp), by rw [upd_same, List.map_append], by rw [upd_ne A.ne.symm, List.append_nil]; exact A.l⟩
theorem PutA.late {H : Hp} {wa la : Addr} {ws ls zs : List Str} {n : Nat} (A : PutA H wa la ws ls n) : Kp [wa, la] H (upd H la (.lst (ls.map V.str ++ zs.map V.str))) ∧
    (upd H la (.lst (ls.map V.str ++ zs.map V.str))) wa = some (.lst ((ws ++ []).map V.str)) ∧ (upd H la (.lst (ls.map V.str ++ zs.map V.str))) la = some (.lst ((ls ++ zs).map V.str)) :=
  ⟨Kp.refl.put A.l trivial (by simp), by rw [upd_ne A.ne, List.append_nil]; exact A.w, by rw [upd_same, List.map_append]⟩
theorem PutA.kp {H H' : Hp} {wa la : Addr} {ws ls : List Str} {n : Nat} (A : PutA H wa la ws ls n) (k : Kp [] H H') : PutA H' wa la ws ls n := ⟨A.ne, k.at A.w (by simp), k.at A.l (by simp), A.bw, A.bl⟩
theorem PutA.mono {H : Hp} {wa la : Addr} {ws ls : List Str} {n m : Nat} (A : PutA H wa la ws ls n) (h : m ≤ n) : PutA H wa la ws ls m := ⟨A.ne, A.w, A.l, by have := A.bw; omega, by have := A.bl; omega⟩
theorem PutA.szw {H : Hp} {wa la : Addr} {ws ls : List Str} {n : Nat} (A : PutA H wa la ws ls n) : (ws.map V.str).length < sizeLine := by
  have := A.bw
  rw [List.length_map]
  exact Nat.lt_of_lt_of_le (by omega) (by decide : 200000 ≤ sizeLine)
/-- what a def asks that writes D, n its most -/
def spPut (D : Wr) (n : Nat) : Sp := fun vs H Q _ => ∃ v wa la ws ls nw nl, vs = [v, .ref wa, .ref la] ∧ PutA H wa la ws ls n ∧ D v H nw nl ∧ PutQ wa la ws ls nw nl H Q
theorem spPut.len {D : Wr} {n : Nat} {vs : List V} {H : Hp} {Q : VK} {E : XK} (h : spPut D n vs H Q E) : vs.length = 3 := by
  obtain ⟨v, wa, la, ws, ls, nw, nl, rfl, _⟩ := h
  rfl
def spPutI (CN : Addr) : Sp := fun vs H Q E => spPut IsI 1 vs H Q E ∨ ∃ b wa la, vs = [.bl b, .ref wa, .ref la] ∧ ∀ H', Kp [] H H' → E (.ref CN) none H'
theorem sc_put_int : FnScope ["thing", "words", "lines"] ["thing", "words", "lines"] (defScope s_put_int) := ⟨rfl, rfl, rfl, by decide +kernel, rfl, by decide +kernel, by decide +kernel⟩
theorem ok_put_int (T : Txt K w mg CN CB CH) (F : At K mg "put_int" s_put_int ["thing", "words", "lines"]) (G_need : Dfn P w K mg base 1 "need" ["good"] (spNeed CN)) (G_is_int : Dfn P w K mg base 1 "is_int" ["thing"] spIsInt) : Dfn P w K mg base 2 "put_int" ["thing", "words", "lines"] (spPutI CN) := by
  refine F.ok sc_put_int (fun vs H Q E h => ?_) (fun qual f cdv A outer s H vs Q E hr h => ?_)
  · rcases h with h | ⟨b, wa, la, rfl, _⟩
    · exact h.len
    · rfl
  · refine ⟨_, (pss_cons (ps_expr (pe_fnE G_need hr (passes_call (takes_of rfl rfl rfl rfl) (fun _ _ _ _ h => h)) (pa_cons (pe_fn G_is_int hr (pa_cons (pv 0) pa_nil)) pa_nil)))
      (pss_one (ps_expr (pe_bm PySem.F.plainAttrs_list PySem.F.slot_list_append PySem.F.type_list_append mt_append (pv 1) (pa_cons (pe_callTy call_str_int (by rfl) T.str_ (by decide +kernel) (pa_cons (pv 0) pa_nil)) pa_nil))))), ?_⟩
    rcases h with ⟨v, wa, la, ws, ls, nw, nl, rfl, A, ⟨i, rfl, hi, rfl, rfl⟩, q⟩ | ⟨b, wa, la, rfl, q⟩
    · walk_at "rd"
      refine .inl ⟨i, rfl, true, by rw [hi], (fun _ => ?_), (fun z => by cases z)⟩
      walk_at "rd"
      obtain ⟨k1, k2, k3⟩ := A.more (zs := [iS i])
      exact ⟨tyV_L A.w, okI_log hi, _, A.w, A.szw, q _ k1 k2 k3⟩
    · walk_at "rd"
      refine .inr ⟨b, rfl, false, rfl, (fun z => by cases z), (fun _ => q H Kp.refl)⟩
theorem sc_put_truth : FnScope ["thing", "words", "lines"] ["thing", "words", "lines"] (defScope s_put_truth) := ⟨rfl, rfl, rfl, by decide +kernel, rfl, by decide +kernel, by decide +kernel⟩
theorem ok_put_truth (T : Txt K w mg CN CB CH) (F : At K mg "put_truth" s_put_truth ["thing", "words", "lines"]) (G_need : Dfn P w K mg base 1 "need" ["good"] (spNeed CN)) : Dfn P w K mg base 2 "put_truth" ["thing", "words", "lines"] (spPut IsB 1) := by
  refine F.ok sc_put_truth (fun vs H Q E h => h.len) (fun qual f cdv A outer s H vs Q E hr h => ?_)
  refine ⟨_, (pss_cons (ps_expr (pe_fn G_need hr (pa_cons (pe_callB call_isiC (by rfl) T.isinstance_ (by decide +kernel) (pa_cons (pv 0) (pa_cons (pe_ty "bool" rfl T.bool_ (by decide +kernel)) pa_nil))) pa_nil)))
      (pss_one (ps_expr (pe_bm PySem.F.plainAttrs_list PySem.F.slot_list_append PySem.F.type_list_append mt_append (pv 1) (pa_cons (pe_ifExp (pt_val (pv 0)) pe_str pe_str) pa_nil))))), ?_⟩
  obtain ⟨v, wa, la, ws, ls, nw, nl, rfl, A, ⟨b, rfl, rfl, rfl⟩, q⟩ := h
  walk_at "rd"
  refine ⟨true, rfl, (fun _ => ?_), (fun z => by cases z)⟩
  walk_at "rd"
  obtain ⟨k1, k2, k3⟩ := A.more (zs := [if b then ("yes" : Str) else "no"])
  refine ⟨tyV_L A.w, ?_⟩
  cases b with
  | true => exact ⟨_, A.w, A.szw, q _ k1 k2 k3⟩
  | false => exact ⟨_, A.w, A.szw, q _ k1 k2 k3⟩
theorem sc_put_label : FnScope ["thing", "words", "lines"] ["thing", "words", "lines"] (defScope s_put_label) := ⟨rfl, rfl, rfl, by decide +kernel, rfl, by decide +kernel, by decide +kernel⟩
theorem ok_put_label (T : Txt K w mg CN CB CH) (F : At K mg "put_label" s_put_label ["thing", "words", "lines"]) (G_need : Dfn P w K mg base 1 "need" ["good"] (spNeed CN)) (G_is_label : Dfn P w K mg base 1 "is_label" ["thing"] spIsLabel) : Dfn P w K mg base 2 "put_label" ["thing", "words", "lines"] (spPut IsLb 1) := by
  refine F.ok sc_put_label (fun vs H Q E h => h.len) (fun qual f cdv A outer s H vs Q E hr h => ?_)
  refine ⟨_, (pss_cons (ps_expr (pe_fn G_need hr (pa_cons (pe_fn G_is_label hr (pa_cons (pv 0) pa_nil)) pa_nil)))
      (pss_one (ps_expr (pe_bm PySem.F.plainAttrs_list PySem.F.slot_list_append PySem.F.type_list_append mt_append (pv 1) (pa_cons (pv 0) pa_nil))))), ?_⟩
  obtain ⟨v, wa, la, ws, ls, nw, nl, rfl, A, ⟨z, rfl, hz, rfl, rfl⟩, q⟩ := h
  have hl : z.length ≤ 1000 := okL_len hz
  walk_at "rd"
  refine ⟨z, rfl, hl, fun H1 k1 => ⟨okL z, rfl, (fun _ => ?_), (fun n => by rw [hz] at n; cases n)⟩⟩
  walk_at "rd"
  have A1 := A.kp k1
  obtain ⟨g1, g2, g3⟩ := A1.more (zs := [z])
  exact ⟨tyV_L A1.w, _, A1.w, A1.szw, q.at_ k1.nil _ g1 g2 g3⟩
theorem sc_put_pair : FnScope ["thing", "words", "lines"] ["thing", "words", "lines"] (defScope s_put_pair) := ⟨rfl, rfl, rfl, by decide +kernel, rfl, by decide +kernel, by decide +kernel⟩
theorem ok_put_pair (T : Txt K w mg CN CB CH) (F : At K mg "put_pair" s_put_pair ["thing", "words", "lines"]) (G_need : Dfn P w K mg base 1 "need" ["good"] (spNeed CN)) (G_is_pair : Dfn P w K mg base 2 "is_pair" ["thing"] (spIsPair K)) : Dfn P w K mg base 3 "put_pair" ["thing", "words", "lines"] (spPut (IsPr K) 2) := by
  refine F.ok sc_put_pair (fun vs H Q E h => h.len) (fun qual f cdv A outer s H vs Q E hr h => ?_)
  refine ⟨_, (pss_cons (ps_expr (pe_fn G_need hr (pa_cons (pe_fn G_is_pair hr (pa_cons (pv 0) pa_nil)) pa_nil)))
      (pss_one (ps_expr (pe_bm PySem.F.plainAttrs_list PySem.F.slot_list_extend PySem.F.type_list_extend mt_extend (pv 1) (pa_cons (pe_lst (pa_cons (pe_ix ix_tup (pv 0) pe_int (fun _ _ => rfl)) (pa_cons (pe_callTy call_str_int (by rfl) T.str_ (by decide +kernel) (pa_cons (pe_ix ix_tup (pv 0) pe_int (fun _ _ => rfl)) pa_nil)) pa_nil))) pa_nil))))), ?_⟩
  obtain ⟨v, wa, la, ws, ls, nw, nl, rfl, A, ⟨a, z, i, rfl, hs, hz, hi, rfl, rfl⟩, q⟩ := h
  have hl : z.length ≤ 1000 := okL_len hz
  walk_at "rd"
  refine ⟨a, z, i, rfl, hs, hl, fun H1 k1 => ⟨_, rfl, (fun _ => ?_), (fun n => by rw [hz, hi] at n; cases n)⟩⟩
  walk_at "rd"
  have A1 := A.kp k1
  refine ⟨tyV_L A1.w, ixT (k1.tup hs) rfl (ixT (k1.tup hs) rfl ?_)⟩
  walk_at "rd"
  refine ⟨okI_log hi, by decide, fun p hp => ?_⟩
  have kp : Kp [] H1 (upd H1 p (.lst [V.str z, V.str (iS i)])) := Kp.refl.new hp
  have A2 := A1.kp kp
  obtain ⟨g1, g2, g3⟩ := A2.more (zs := [z, iS i])
  refine ⟨_, A2.w, _, upd_same, ?_, q.at_ (k1.trans kp).nil _ g1 g2 g3⟩
  have := A.bw
  simp only [List.length_map]
  exact sz_of (by simp; omega)
theorem sc_put_piece : FnScope ["thing", "words", "lines"] ["thing", "words", "lines"] (defScope s_put_piece) := ⟨rfl, rfl, rfl, by decide +kernel, rfl, by decide +kernel, by decide +kernel⟩
theorem ok_put_piece (T : Txt K w mg CN CB CH) (F : At K mg "put_piece" s_put_piece ["thing", "words", "lines"]) (G_need : Dfn P w K mg base 1 "need" ["good"] (spNeed CN)) (G_is_int : Dfn P w K mg base 1 "is_int" ["thing"] spIsInt) (G_are_rows : Dfn P w K mg base 2 "are_rows" ["thing"] (spAreRows K)) : Dfn P w K mg base 3 "put_piece" ["thing", "words", "lines"] (spPut (IsPc K) 50) := by
  refine F.ok sc_put_piece (fun vs H Q E h => h.len) (fun qual f cdv A outer s H vs Q E hr h => ?_)
  refine ⟨_, (pss_cons (ps_expr (pe_fn G_need hr (pa_cons (pe_and (pe_callB call_isiC (by rfl) T.isinstance_ (by decide +kernel) (pa_cons (pv 0) (pa_cons (pe_ty "tuple" rfl T.tuple_ (by decide +kernel)) pa_nil))) (pe_and (pe_cmpR op_gt (pe_callB call_len (by rfl) T.len_ (by decide +kernel) (pa_cons (pv 0) pa_nil)) pe_int (nomark _)) (pe_one (pe_callB call_isiC (by rfl) T.isinstance_ (by decide +kernel) (pa_cons (pe_ix ix_tup (pv 0) pe_int (fun _ _ => rfl)) (pa_cons (pe_ty "str" rfl T.str_ (by decide +kernel)) pa_nil)))))) pa_nil)))
      (pss_one (ps_if (pt_cmpR op_eq (pe_ix ix_tup (pv 0) pe_int (fun _ _ => rfl)) pe_str (nomark _)) (pss_cons (ps_expr (pe_fn G_need hr (pa_cons (pe_and (pe_cmpR op_eq (pe_callB call_len (by rfl) T.len_ (by decide +kernel) (pa_cons (pv 0) pa_nil)) pe_int (nomark _)) (pe_and (pe_fn G_is_int hr (pa_cons (pe_ix ix_tup (pv 0) pe_int (fun _ _ => rfl)) pa_nil)) (pe_and (pe_fn G_is_int hr (pa_cons (pe_ix ix_tup (pv 0) pe_int (fun _ _ => rfl)) pa_nil)) (pe_one (pe_cmpR op_gt (pe_ix ix_tup (pv 0) pe_int (fun _ _ => rfl)) pe_int (nomark _)))))) pa_nil)))
      (pss_one (ps_expr (pe_bm PySem.F.plainAttrs_list PySem.F.slot_list_extend PySem.F.type_list_extend mt_extend (pv 1) (pa_cons (pe_lst (pa_cons pe_str (pa_cons (pe_callTy call_str_int (by rfl) T.str_ (by decide +kernel) (pa_cons (pe_ix ix_tup (pv 0) pe_int (fun _ _ => rfl)) pa_nil)) (pa_cons (pe_callTy call_str_int (by rfl) T.str_ (by decide +kernel) (pa_cons (pe_ix ix_tup (pv 0) pe_int (fun _ _ => rfl)) pa_nil)) pa_nil)))) pa_nil))))) (pss_cons (ps_expr (pe_fn G_need hr (pa_cons (pe_and (pe_cmpR op_eq (pe_ix ix_tup (pv 0) pe_int (fun _ _ => rfl)) pe_str (nomark _)) (pe_and (pe_cmpR op_eq (pe_callB call_len (by rfl) T.len_ (by decide +kernel) (pa_cons (pv 0) pa_nil)) pe_int (nomark _)) (pe_and (pe_fn G_are_rows hr (pa_cons (pe_ix ix_tup (pv 0) pe_int (fun _ _ => rfl)) pa_nil)) (pe_one (pe_cmpR op_gt (pe_callB call_len (by rfl) T.len_ (by decide +kernel) (pa_cons (pe_ix ix_tup (pv 0) pe_int (fun _ _ => rfl)) pa_nil)) pe_int (nomark _)))))) pa_nil)))
      (pss_cons (ps_expr (pe_bm PySem.F.plainAttrs_list PySem.F.slot_list_extend PySem.F.type_list_extend mt_extend (pv 1) (pa_cons (pe_lst (pa_cons pe_str (pa_cons (pe_callTy call_str_int (by rfl) T.str_ (by decide +kernel) (pa_cons (pe_callB call_len (by rfl) T.len_ (by decide +kernel) (pa_cons (pe_ix ix_tup (pv 0) pe_int (fun _ _ => rfl)) pa_nil)) pa_nil)) pa_nil))) pa_nil)))
      (pss_one (ps_expr (pe_bm PySem.F.plainAttrs_list PySem.F.slot_list_extend PySem.F.type_list_extend mt_extendT (pv 2) (pa_cons (pe_ix ix_tup (pv 0) pe_int (fun _ _ => rfl)) pa_nil))))))))), ?_⟩
  obtain ⟨v, wa, la, ws, ls, nw, nl, rfl, A, ⟨a, rfl, ⟨i, j, hs, hi, hj, hj0, rfl, rfl⟩ | ⟨r, zs, hs, hz, hz0, rfl, rfl⟩⟩, q⟩ := h
  · walk_at "rd"
    walk_at "isT"
    walk_at "len"
    walk_at "ix"
    refine ⟨true, rfl, (fun _ => ?_), (fun n => by cases n)⟩
    walk_at "ix"
    walk_at "len"
    walk_at "ix"
    refine .inl ⟨i, rfl, ?_⟩
    walk_at "rd"
    rw [if_pos hi]
    walk_at "ix"
    refine .inl ⟨j, rfl, ?_⟩
    walk_at "rd"
    rw [if_pos hj]
    walk_at "ix"
    refine ⟨_, rfl, (fun _ => ?_), (fun n => absurd hj0 (of_decide_eq_false n))⟩
    refine ⟨tyV_L A.w, ?_⟩
    walk_at "ix"
    refine ⟨okI_log hi, ?_⟩
    walk_at "ix"
    refine ⟨okI_log hj, by decide, fun p hp => ?_⟩
    have kp : Kp [] H (upd H p (.lst [V.str "take", V.str (iS i), V.str (iS j)])) := Kp.refl.new hp
    have A2 := A.kp kp
    obtain ⟨g1, g2, g3⟩ := A2.more (zs := [("take" : Str), iS i, iS j])
    refine ⟨_, A2.w, _, upd_same, ?_, q.at_ kp.nil _ g1 g2 g3⟩
    have := A.bw
    simp only [List.length_map]
    exact sz_of (by simp; omega)
  · walk_at "rd"
    walk_at "isT"
    walk_at "len"
    walk_at "ix"
    refine ⟨true, rfl, (fun _ => ?_), (fun n => by cases n)⟩
    walk_at "ix"
    walk_at "ix"
    walk_at "len"
    obtain ⟨ra, rfl, hsr, hz40, hzr⟩ := hz
    walk_at "ix"
    refine ⟨ra, nl, rfl, hsr, by omega, fun z hz => okR_len (hzr z hz), fun H1 k1 => ?_⟩
    have hok : (decide (nl.length ≤ 40) && nl.all okR) = true := by
      rw [decide_eq_true hz40, Bool.true_and, List.all_eq_true]
      exact hzr
    rw [hok]
    have A1 := A.kp k1
    have hs1 := k1.tup hs
    have hsr1 := k1.tup hsr
    walk_at "rd"
    refine ixT hs1 rfl ?_
    refine ⟨_, lenV_T hsr1, ?_⟩
    refine ⟨_, rfl, (fun _ => ?_), (fun n => (of_decide_eq_false n (by simp; omega)).elim)⟩
    refine ⟨tyV_L A1.w, ixT hs1 rfl ⟨_, lenV_T hsr1, ?_⟩⟩
    rw [List.length_map]
    refine ⟨okI_log (okI_nat (by omega)), by decide, fun p hp => ?_⟩
    have kp : Kp [] H1 (upd H1 p (.lst [V.str "put", V.str (iS (nl.length : Nat))])) := Kp.refl.new hp
    have A2 := A1.kp kp
    have q2 := q.at_ (k1.trans kp).nil
    have hs2 := kp.tup hs1
    have hsr2 := kp.tup hsr1
    have hp2 : (upd H1 p (.lst [V.str "put", V.str (iS (nl.length : Nat))])) p = some (.lst ([("put" : Str), iS (nl.length : Nat)].map V.str)) := upd_same
    have hwl : ws.length + 50 ≤ 100000 := A.bw
    have hll : ls.length + 50 ≤ 100000 := A.bl
    obtain ⟨g1, g2, g3⟩ := A2.more (zs := [("put" : Str), iS (nl.length : Nat)])
    have A3 := A2.grow (m := 0) g2 g3 (by simp) (by simp)
    obtain ⟨m1, m2, m3⟩ := A3.late (zs := nl)
    refine ⟨_, A2.w, _, hp2, sz_of (by simp; omega), tyV_L A3.l, ixT (g1.tup hs2) rfl ⟨_, rfl, _, A3.l, _, (g1.tup hsr2), sz_of (by simp; omega), ?_⟩⟩
    refine q2 _ (g1.trans m1) ?_ ?_
    · simpa only [List.append_nil] using m2
    · simpa only [List.append_nil] using m3
end
end Kq
set_option Elab.async false
set_option linter.all false
set_option maxRecDepth 100000
set_option maxHeartbeats 4000000
namespace Kq
open PySem PySem.Spec PyProof.Rows L2 Fw
local macro_rules | `(tactic| walk_at "rd") => `(tactic| try simp only [tSeq, tNext, tBreak, tCont, tDrop, tRet, tRetN, tIfS, tAsg, tVar, tC, tOp, tUn, tTest, tB, tAnd, tOr, tNot, tAndV, tOrV, tNotV, tIf, tChain, tCB, tCons, tNil, tTup, tLst, tCall, tCallS, WE,
  gName, gSub, rI, rI0, rU, rEq, rNe, rIsiC, tSl, tPart, tNoPart, rSetL, tBM, tBM0, rAppend, rExtend, rExtendT, tCallL, L2.start, List.map_cons, List.map_nil, List.length_cons, List.length_nil, Nat.sub_self, Nat.reduceAdd, Nat.reduceSub, List.replicate_zero, List.replicate_succ, List.append_nil, List.nil_append, List.cons_append,
  List.getElem?_cons_zero, List.getElem?_cons_succ, List.set_cons_zero, List.set_cons_succ, Option.some.injEq, exists_eq_left', exists_eq_left, exists_eq_right, exists_eq_right', exists_const, exists_and_left, exists_and_right, V.int.injEq, V.bl.injEq, V.str.injEq, V.ref.injEq, V.ty.injEq, List.cons.injEq, and_true, true_and, and_assoc, reduceCtorEq, false_and, and_false, exists_false, false_or, or_false,
  if_true, if_false, Bool.not_true, Bool.not_false, Bool.false_eq_true, Bool.true_eq_false, ↓reduceIte, decide_eq_true_eq, decide_true, decide_false, sc_nn, sc_ni, sc_in, sc_nb, sc_bn, sc_ns, sc_sn, sc_ii, sc_bb, sc_ss, sc_is, sc_si, sc_bs, sc_sb, ipI, Int.reduceLT, Int.reduceLE, Int.reduceEq, Nat.reduceLT, Nat.reduceEqDiff, String.reduceEq, nc0, nc1, nc2, nc3, nc4, nc5, nc6, nc7, nc8, nc9, nc10, nc11, nc12, cx_K, cx_w, wipe, lenV_str, rCat, exists_eq, exists_eq', relO, relC, relM, relI, relSl, spOf, ciOf, csOf, crOf, L2.rIxD, eq_self, not_true_eq_false, not_false_eq_true, Option.isSome_some, Option.isSome_none, tCallV, ofS_inj, sg_inj, sg_len, sg_lt, tM1, tM0, tLc_rng1, tLc_rng2, tFor_rng1, tFor_rng2, tDNewK, sDPut,  Nat.reduceLeDiff, Bool.not_eq_true', decide_eq_false_iff_not,
  isi_int_int, isi_int_bool, isi_int_str, isi_int_tuple, isi_int_list, isi_int_dict, isi_bool_int, isi_bool_bool, isi_bool_str, isi_bool_tuple, isi_bool_list, isi_bool_dict, isi_str_int, isi_str_bool, isi_str_str, isi_str_tuple, isi_str_list, isi_str_dict, isi_non_int, isi_non_bool, isi_non_str, isi_non_tuple, isi_non_list, isi_non_dict])
local macro_rules | `(tactic| walk_at "ix") => `(tactic| (refine ixT (by assumption) rfl ?_; walk_at "rd"))
local macro_rules | `(tactic| walk_at "len") => `(tactic| (refine ⟨_, lenV_T (by assumption), ?_⟩; walk_at "rd"))
local macro_rules | `(tactic| walk_at "isT") => `(tactic| (refine ⟨true, isiT (by assumption), ?_⟩; walk_at "rd"))

section
variable {P : Program} {w : World} {K : PySem.W.Frag} {mg : Str → Option Value} {base : Heap} {CN CB CH : Addr}
/-! ### put_list -/
theorem flat_take {α β : Type} {f : α → List β} {l : List α} {i : Nat} {x : α} (h : l[i]? = some x) : (l.take (i + 1)).flatMap f = (l.take i).flatMap f ++ f x := by
  rw [List.take_add_one, h, List.flatMap_append]
  simp
theorem sc_put_list : FnScope ["thing", "most", "each", "words", "lines", "one"] ["thing", "most", "each", "words", "lines"] (defScope s_put_list) := ⟨rfl, rfl, rfl, by decide +kernel, rfl, by decide +kernel, by decide +kernel⟩
def Bnd (D : Wr) (n : Nat) : Prop := ∀ v H nw nl, D v H nw nl → nw.length ≤ n ∧ nl.length ≤ n ∧ (∀ z ∈ nw, z.length ≤ 40) ∧ ∀ z ∈ nl, z.length ≤ 40
def spPutL (K : PySem.W.Frag) (f : Addr) (D : Wr) (most n : Nat) : Sp := fun vs H Q _ => ∃ v wa la ws ls nw nl, vs = [v, .int (most : Nat), .ref f, .ref wa, .ref la] ∧ PutA H wa la ws ls (2 + most * n) ∧ IsL K D most v H nw nl ∧ PutQ wa la ws ls nw nl H Q
theorem ok_put_list (T : Txt K w mg CN CB CH) (F : At K mg "put_list" s_put_list ["thing", "most", "each", "words", "lines"]) {j : Nat} {fe : Addr} {fde : FuncData} {D : Wr} {most n : Nat} (sD : Stb D) (bD : Bnd D n) (G_need : Dfn P w K mg base 1 "need" ["good"] (spNeed CN)) (G_is_list : Dfn P w K mg base 1 "is_list" ["thing", "most"] (spIsList K))
    (Fe : FnOk P w K mg base (L2.CX P w) j fe fde ["thing", "words", "lines"] (spPut D n)) (hke : PySem.W.keepIn K (.ref fe) = true) (hbe : Binds K fde ["thing", "words", "lines"] []) (hj : j ≤ 6) : Dfn P w K mg base 7 "put_list" ["thing", "most", "each", "words", "lines"] (spPutL K fe D most n) := by
  refine F.ok sc_put_list (fun vs H Q E h => ?_) (fun qual f cdv A outer s H vs Q E hr h => ?_)
  · obtain ⟨v, wa, la, ws, ls, nw, nl, rfl, _⟩ := h
    rfl
  · have hpe : Passes (L2.CX P w) (cxOf (L2.CX P w) P w K mg base ["thing", "most", "each", "words", "lines", "one"] qual (defScope s_put_list) f cdv A outer s H E) E0 := passL
    refine ⟨_, (pss_cons (ps_expr (pe_fn G_need hr (pa_cons (pe_fn G_is_list hr (pa_cons (pv 0) (pa_cons (pv 1) pa_nil))) pa_nil)))
      (pss_cons (ps_expr (pe_bm PySem.F.plainAttrs_list PySem.F.slot_list_append PySem.F.type_list_append mt_append (pv 3) (pa_cons pe_str pa_nil)))
      (pss_cons (ps_for (passes_of rfl) rfl (pi_tup (pv 0)) (pg_name (i := 5) sc_put_list.nd rfl (Or.inl rfl)) (pss_one (ps_expr (pe_callL (i := 2) Fe (hr.mono hj) rfl (Or.inl rfl) hke hbe .nil hpe (pa_cons (pv 5) (pa_cons (pv 3) (pa_cons (pv 4) pa_nil)))))))
      (pss_one (ps_expr (pe_bm PySem.F.plainAttrs_list PySem.F.slot_list_append PySem.F.type_list_append mt_append (pv 3) (pa_cons pe_str pa_nil))))))), ?_⟩
    obtain ⟨v, wa, la, ws, ls, nw, nl, rfl, A, ⟨a, xs, its, rfl, hs, hm, hl, hD, rfl, rfl⟩, q⟩ := h
    walk_at "rd"
    refine ⟨a, xs, most, rfl, hs, true, by rw [decide_eq_true (by omega)], (fun _ => ?_), (fun n => by cases n)⟩
    refine ⟨tyV_L A.w, _, A.w, A.szw, ?_⟩
    obtain ⟨g1, g2, g3⟩ := A.more (zs := [("(" : Str)])
    have A1 := A.grow (m := 1 + most * n) g2 g3 (by simp; omega) (by simp)
    have q1 := q.at_ g1
    obtain ⟨Pv, hPv⟩ : ∃ Pv : Nat → L2.St → Hp → Prop, ∀ i σ H', Pv i σ H' ↔ ((∃ o, σ = [some (V.ref a), some (V.int (most : Nat)), some (V.ref fe), some (V.ref wa), some (V.ref la), o]) ∧ Kp [wa, la] H H' ∧
      PutA H' wa la (ws ++ ([("(" : Str)] ++ (its.take i).flatMap (·.1))) (ls ++ (its.take i).flatMap (·.2)) (1 + (most - i) * n)) := ⟨_, fun _ _ _ => Iff.rfl⟩
    refine ⟨_, rfl, a, rfl, ⟨xs, g1.tup hs⟩, for_tup (xs := xs) Pv ?_ ?_ ?_ ?_⟩
    · refine (hPv _ _ _).mpr ⟨⟨_, rfl⟩, g1, ?_⟩
      simpa using A1
    · intro i σ H' _ p
      exact ((hPv _ _ _).mp p).2.1.tup hs
    · intro i x σ H' hx p
      obtain ⟨⟨o, rfl⟩, k1, A2⟩ := (hPv _ _ _).mp p
      have hi : i < xs.length := (List.getElem?_eq_some_iff.mp hx).1
      have hit : its[i]? = some its[i] := List.getElem?_eq_getElem (by omega)
      have hDx := sD _ _ _ _ _ _ k1 (hD i x _ hx hit)
      obtain ⟨b1, b2, _⟩ := bD _ _ _ _ hDx
      have hmn : (most - i) * n = (most - (i + 1)) * n + n := by
        have e : most - i = (most - (i + 1)) + 1 := by omega
        rw [e, Nat.add_mul, Nat.one_mul]
      walk_at "rd"
      refine ⟨x, wa, la, _, _, _, _, rfl, A2.mono (by omega), hDx, fun H3 k3 w3 l3 => (hPv _ _ _).mpr ⟨⟨_, rfl⟩, k1.trans k3, ?_⟩⟩
      have A3 := A2.grow (m := 1 + (most - (i + 1)) * n) w3 l3 (by omega) (by omega)
      rw [flat_take hit, flat_take hit]
      simpa only [List.append_assoc, List.cons_append, List.nil_append] using A3
    · intro σ H' p
      obtain ⟨⟨o, rfl⟩, k1, A2⟩ := (hPv _ _ _).mp p
      rw [List.take_of_length_le (by omega)] at A2
      walk_at "rd"
      obtain ⟨m1, m2, m3⟩ := A2.more (zs := [(")" : Str)])
      refine ⟨tyV_L A2.w, _, A2.w, A2.szw, q _ (k1.trans m1) ?_ ?_⟩
      · simpa only [List.append_assoc, List.map_append, List.map_cons, List.map_nil] using m2
      · simpa only [List.append_nil, List.map_cons, List.map_nil] using m3
/-- a put_list whose first thing is a truth -/
def spPutLB (K : PySem.W.Frag) (CN f : Addr) (most : Nat) : Sp := fun vs H _ E => ∃ (a : Addr) (b : Bool) (xs : List V) (wa la : Addr) (ws ls : List Str), vs = [.ref a, .int (most : Nat), .ref f, .ref wa, .ref la] ∧ SqT K H a (.bl b :: xs) ∧ xs.length + 1 ≤ most ∧ PutA H wa la ws ls 5 ∧
  ∀ H', Kp [wa, la] H H' → E (.ref CN) none H'
theorem ok_put_listB (T : Txt K w mg CN CB CH) (F : At K mg "put_list" s_put_list ["thing", "most", "each", "words", "lines"]) {fe : Addr} {fde : FuncData} {most : Nat} (G_need : Dfn P w K mg base 1 "need" ["good"] (spNeed CN)) (G_is_list : Dfn P w K mg base 1 "is_list" ["thing", "most"] (spIsList K))
    (Fe : FnOk P w K mg base (L2.CX P w) 2 fe fde ["thing", "words", "lines"] (spPutI CN)) (hke : PySem.W.keepIn K (.ref fe) = true) (hbe : Binds K fde ["thing", "words", "lines"] []) : Dfn P w K mg base 7 "put_list" ["thing", "most", "each", "words", "lines"] (spPutLB K CN fe most) := by
  refine F.ok sc_put_list (fun vs H Q E h => ?_) (fun qual f cdv A outer s H vs Q E hr h => ?_)
  · obtain ⟨v, b, xs, wa, la, ws, ls, rfl, _⟩ := h
    rfl
  · have hpe : Passes (L2.CX P w) (cxOf (L2.CX P w) P w K mg base ["thing", "most", "each", "words", "lines", "one"] qual (defScope s_put_list) f cdv A outer s H E) E := passes_call (takes_of rfl rfl rfl rfl) (fun _ _ _ _ h => h)
    have hj : 2 ≤ 6 := by decide
    refine ⟨_, (pss_cons (ps_expr (pe_fn G_need hr (pa_cons (pe_fn G_is_list hr (pa_cons (pv 0) (pa_cons (pv 1) pa_nil))) pa_nil)))
      (pss_cons (ps_expr (pe_bm PySem.F.plainAttrs_list PySem.F.slot_list_append PySem.F.type_list_append mt_append (pv 3) (pa_cons pe_str pa_nil)))
      (pss_cons (ps_for (passes_of rfl) rfl (pi_tup (pv 0)) (pg_name (i := 5) sc_put_list.nd rfl (Or.inl rfl)) (pss_one (ps_expr (pe_callL (i := 2) Fe (hr.mono hj) rfl (Or.inl rfl) hke hbe .nil hpe (pa_cons (pv 5) (pa_cons (pv 3) (pa_cons (pv 4) pa_nil)))))))
      (pss_one (ps_expr (pe_bm PySem.F.plainAttrs_list PySem.F.slot_list_append PySem.F.type_list_append mt_append (pv 3) (pa_cons pe_str pa_nil))))))), ?_⟩
    obtain ⟨a, b, xs, wa, la, ws, ls, rfl, hs, hm, A, q⟩ := h
    walk_at "rd"
    refine ⟨a, _, most, rfl, hs, true, by rw [decide_eq_true (by simp; omega)], (fun _ => ?_), (fun n => by cases n)⟩
    refine ⟨tyV_L A.w, _, A.w, A.szw, ?_⟩
    obtain ⟨g1, g2, g3⟩ := A.more (zs := [("(" : Str)])
    refine ⟨_, rfl, a, rfl, ⟨_, g1.tup hs⟩, for_tup (xs := .bl b :: xs) (fun i σ H' => i = 0 ∧ (∃ o, σ = [some (V.ref a), some (V.int (most : Nat)), some (V.ref fe), some (V.ref wa), some (V.ref la), o]) ∧ Kp [wa, la] H H') ?_ ?_ ?_ ?_⟩
    · exact ⟨rfl, ⟨_, rfl⟩, g1⟩
    · intro i σ H' _ p
      exact p.2.2.tup hs
    · rintro i x σ H' hx ⟨rfl, ⟨o, rfl⟩, k1⟩
      have ex : x = .bl b := by simpa using hx.symm
      subst ex
      walk_at "rd"
      exact .inr ⟨b, wa, la, rfl, fun H'' k => q H'' (k1.trans k.nil)⟩
    · rintro σ H' ⟨h0, _⟩
      simp at h0
/-! ### contents -/
structure IsEn (K : PySem.W.Frag) (v : V) (H : Hp) (es : List (Str × Int)) : Prop where
  ex : ∃ (t : Addr) (xs : List V), v = .ref t ∧ SqT K H t xs ∧ xs.length = es.length ∧ ∀ (i : Nat) (x : V) (p : Str × Int), xs[i]? = some x → es[i]? = some p → ∃ b, x = .ref b ∧ SqT K H b [.str p.1, .int p.2]
  few : es.length ≤ 20
  ok : ∀ p ∈ es, okL p.1 = true ∧ okI p.2 = true
  rise : risesS (es.map (·.1)) = true
theorem IsEn.kp {v : V} {M : List Addr} {H H' : Hp} {es : List (Str × Int)} (h : IsEn K v H es) (k : Kp M H H') : IsEn K v H' es := by
  obtain ⟨t, xs, e, hs, hl, hx⟩ := h.ex
  refine ⟨⟨t, xs, e, k.tup hs, hl, fun i x p h1 h2 => ?_⟩, h.few, h.ok, h.rise⟩
  obtain ⟨b, e, q⟩ := hx i x p h1 h2
  exact ⟨b, e, k.tup q⟩
def enW (es : List (Str × Int)) : List Str := [("(" : Str)] ++ es.flatMap (fun p => [p.1, iS p.2]) ++ [(")" : Str)]
theorem IsEn.isL {v : V} {H : Hp} {es : List (Str × Int)} (h : IsEn K v H es) : IsL K (IsPr K) 20 v H (enW es) [] := by
  obtain ⟨t, xs, e, hs, hl, hx⟩ := h.ex
  refine ⟨t, xs, es.map (fun p => ([p.1, iS p.2], [])), e, hs, by rw [hl]; exact h.few, by simp [hl], fun i x p h1 h2 => ?_, ?_, ?_⟩
  · rw [List.getElem?_map, Option.map_eq_some_iff] at h2
    obtain ⟨p', h3, rfl⟩ := h2
    obtain ⟨b, e, q⟩ := hx i x p' h1 h3
    obtain ⟨o1, o2⟩ := h.ok p' (List.mem_of_getElem? h3)
    exact ⟨b, p'.1, p'.2, e, q, o1, o2, rfl, rfl⟩
  · simp [enW, List.flatMap_map]
  · simp [List.flatMap_map]
structure IsIs (K : PySem.W.Frag) (v : V) (H : Hp) (ns : List Int) : Prop where
  ex : ∃ (t : Addr), v = .ref t ∧ SqT K H t (ns.map V.int)
  ok : ∀ n ∈ ns, okI n = true
theorem IsIs.kp {v : V} {M : List Addr} {H H' : Hp} {ns : List Int} (h : IsIs K v H ns) (k : Kp M H H') : IsIs K v H' ns := by
  obtain ⟨t, e, hs⟩ := h.ex
  exact ⟨⟨t, e, k.tup hs⟩, h.ok⟩
def isW (ns : List Int) : List Str := [("(" : Str)] ++ ns.map iS ++ [(")" : Str)]
theorem IsIs.isL {v : V} {H : Hp} {ns : List Int} {n : Nat} (h : IsIs K v H ns) (hn : ns.length ≤ n) : IsL K IsI n v H (isW ns) [] := by
  obtain ⟨t, e, hs⟩ := h.ex
  refine ⟨t, _, ns.map (fun p => ([iS p], [])), e, hs, by simpa using hn, by simp, fun i x p h1 h2 => ?_, ?_, ?_⟩
  · rw [List.getElem?_map, Option.map_eq_some_iff] at h1 h2
    obtain ⟨p1, h3, rfl⟩ := h1
    obtain ⟨p2, h4, rfl⟩ := h2
    have e2 : p1 = p2 := Option.some.inj (h3.symm.trans h4)
    subst e2
    exact ⟨p1, rfl, h.ok _ (List.mem_of_getElem? h3), rfl, rfl⟩
  · simp only [isW, List.flatMap_map]
    rw [List.map_eq_flatMap]
  · simp [List.flatMap_map]
def IsCo (K : PySem.W.Frag) : Wr := fun v H nw nl => ∃ a, v = .ref a ∧ ((∃ r, SqT K H a [.str "leaf", r] ∧ IsRs K r H nl ∧ nw = [("leaf" : Str), iS ((nl.length : Nat) : Int)]) ∨
  (∃ e es, SqT K H a [.str "tree", e] ∧ IsEn K e H es ∧ nw = ("tree" : Str) :: enW es ∧ nl = []) ∨
  ∃ ps ns r t, SqT K H a [.str "version", ps, .int r, .int t] ∧ IsIs K ps H ns ∧ ns.length ≤ 4 ∧ risesI ns = true ∧ okI r = true ∧ okI t = true ∧ nw = ("version" : Str) :: (isW ns ++ [iS r, iS t]) ∧ nl = [])
theorem stb_Co : Stb (IsCo K) := fun _ _ _ _ _ _ k ⟨a, e, h⟩ => ⟨a, e, by
  rcases h with ⟨r, h, q, z⟩ | ⟨r, es, h, q, z⟩ | ⟨ps, ns, r, t, h, q, z⟩
  · exact .inl ⟨r, k.tup h, q.kp k, z⟩
  · exact .inr (.inl ⟨r, es, k.tup h, q.kp k, z⟩)
  · exact .inr (.inr ⟨ps, ns, r, t, k.tup h, q.kp k, z⟩)⟩
theorem len_S (s : String) : (Str.ofString s).length = s.length := by
  rw [Str.ofString_eq_toList]
  simp only [Str.length, List.size_toArray, List.length_map]
  exact String.length_toList
theorem iS_len {i : Int} (h : okI i = true) : (iS i).length ≤ 40 := by
  obtain ⟨h1, h2⟩ := okI_ge h
  obtain ⟨n, rfl⟩ := Int.eq_ofNat_of_zero_le h1
  rw [len_S]
  have h3 : n < 10 ^ 40 := by
    have : (n : Int) ≤ 10 ^ 18 := h2
    have h4 : (10 : Nat) ^ 18 < 10 ^ 40 := by decide
    omega
  exact (Nat.length_repr_le_iff (by decide)).mpr h3
theorem bnd_I : Bnd IsI 1 := by
  rintro v H nw nl ⟨i, rfl, h, rfl, rfl⟩
  refine ⟨by simp, by simp, ?_, by simp⟩
  intro z hz
  rw [List.mem_singleton] at hz
  rw [hz]
  exact iS_len h
theorem okL_8 {z : Str} (h : okL z = true) : z.length ≤ 40 := by
  simp only [okL, Bool.and_eq_true, decide_eq_true_eq] at h
  omega
theorem okR_40 {z : Str} (h : okR z = true) : z.length ≤ 40 := by
  simp only [okR, Bool.and_eq_true, decide_eq_true_eq] at h
  omega
theorem bnd_B : Bnd IsB 1 := by
  rintro v H nw nl ⟨b, rfl, rfl, rfl⟩
  refine ⟨by simp, by simp, ?_, by simp⟩
  intro z hz
  rw [List.mem_singleton] at hz
  rw [hz]
  cases b <;> (simp only [Bool.false_eq_true, if_false, if_true, len_S]; decide)
theorem bnd_Lb : Bnd IsLb 1 := by
  rintro v H nw nl ⟨z, rfl, h, rfl, rfl⟩
  refine ⟨by simp, by simp, ?_, by simp⟩
  intro z hz
  rw [List.mem_singleton] at hz
  rw [hz]
  exact okL_8 h
theorem bnd_Pr : Bnd (IsPr K) 2 := by
  rintro v H nw nl ⟨a, z, i, rfl, _, h1, h2, rfl, rfl⟩
  refine ⟨by simp, by simp, ?_, by simp⟩
  intro y hy
  simp only [List.mem_cons, List.not_mem_nil, or_false] at hy
  rcases hy with rfl | rfl
  · exact okL_8 h1
  · exact iS_len h2
theorem bnd_Pc : Bnd (IsPc K) 40 := by
  rintro v H nw nl ⟨a, rfl, ⟨i, j, _, h1, h2, _, rfl, rfl⟩ | ⟨r, zs, _, ⟨_, _, _, h4, h5⟩, _, rfl, rfl⟩⟩
  · refine ⟨by simp, by simp, ?_, by simp⟩
    intro y hy
    simp only [List.mem_cons, List.not_mem_nil, or_false] at hy
    rcases hy with rfl | rfl | rfl
    · rw [len_S]; decide
    · exact iS_len h1
    · exact iS_len h2
  · refine ⟨by simp, h4, ?_, fun z hz => okR_40 (h5 z hz)⟩
    intro y hy
    simp only [List.mem_cons, List.not_mem_nil, or_false] at hy
    rcases hy with rfl | rfl
    · rw [len_S]; decide
    · exact iS_len (okI_nat (by omega))
theorem flat_len {α : Type} {f : α → List Str} {n : Nat} : ∀ {l : List α}, (∀ x ∈ l, (f x).length ≤ n) → (l.flatMap f).length ≤ l.length * n
  | [], _ => by simp
  | x :: r, h => by
    rw [List.flatMap_cons, List.length_append, List.length_cons, Nat.add_mul, Nat.one_mul]
    have h1 := h x (by simp)
    have h2 := flat_len (l := r) fun y hy => h y (by simp [hy])
    omega
theorem bnd_L {D : Wr} {n most : Nat} (b : Bnd D n) : Bnd (IsL K D most) (most * n + 2) := by
  rintro v H nw nl ⟨a, xs, its, rfl, _, hm, hl, hD, rfl, rfl⟩
  have each : ∀ p ∈ its, ∃ x, D x H p.1 p.2 := by
    intro p hp
    obtain ⟨i, hi⟩ := List.mem_iff_getElem?.mp hp
    have hlt : i < xs.length := by have := (List.getElem?_eq_some_iff.mp hi).1; omega
    exact ⟨_, hD i xs[i] p (List.getElem?_eq_getElem hlt) hi⟩
  have e1 := flat_len (f := fun p : List Str × List Str => p.1) (n := n) (l := its) fun p hp => by
    obtain ⟨x, h⟩ := each p hp
    exact (b _ _ _ _ h).1
  have e2 := flat_len (f := fun p : List Str × List Str => p.2) (n := n) (l := its) fun p hp => by
    obtain ⟨x, h⟩ := each p hp
    exact (b _ _ _ _ h).2.1
  have e3 : its.length * n ≤ most * n := Nat.mul_le_mul_right n (by omega)
  refine ⟨by simp at e1 ⊢; omega, by simp at e2 ⊢; omega, ?_, ?_⟩
  · intro z hz
    simp only [List.mem_append, List.mem_singleton, List.mem_flatMap] at hz
    rcases hz with (rfl | ⟨p, hp, hz⟩) | rfl
    · rw [len_S]; decide
    · obtain ⟨x, h⟩ := each p hp
      exact (b _ _ _ _ h).2.2.1 z hz
    · rw [len_S]; decide
  · intro z hz
    simp only [List.mem_flatMap] at hz
    obtain ⟨p, hp, hz⟩ := hz
    obtain ⟨x, h⟩ := each p hp
    exact (b _ _ _ _ h).2.2.2 z hz
theorem sc_put_content : FnScope ["thing", "words", "lines", "label", "name"] ["thing", "words", "lines"] (defScope s_put_content) := ⟨rfl, rfl, rfl, by decide +kernel, rfl, by decide +kernel, by decide +kernel⟩
theorem ok_put_content (T : Txt K w mg CN CB CH) (F : At K mg "put_content" s_put_content ["thing", "words", "lines"]) {f_pr f_i : Addr} (h_put_pair : mg "put_pair" = some (.ref f_pr)) (h_put_int : mg "put_int" = some (.ref f_i)) (G_need : Dfn P w K mg base 1 "need" ["good"] (spNeed CN)) (G_are_rows : Dfn P w K mg base 2 "are_rows" ["thing"] (spAreRows K))
    (G_rises : Dfn P w K mg base 1 "rises" ["things"] (spRises K)) (G_put_int : Dfn P w K mg base 2 "put_int" ["thing", "words", "lines"] (spPutI CN)) (G_put_list_pr : Dfn P w K mg base 7 "put_list" ["thing", "most", "each", "words", "lines"] (spPutL K f_pr (IsPr K) 20 2)) (G_put_list_i : Dfn P w K mg base 7 "put_list" ["thing", "most", "each", "words", "lines"] (spPutL K f_i IsI 4 1)) :
    Dfn P w K mg base 8 "put_content" ["thing", "words", "lines"] (spPut (IsCo K) 60) := by
  refine F.ok sc_put_content (fun vs H Q E h => h.len) (fun qual f cdv A outer s H vs Q E hr h => ?_)
  refine ⟨_, (pss_cons (ps_expr (pe_fn G_need hr (pa_cons (pe_and (pe_callB call_isiC (by rfl) T.isinstance_ (by decide +kernel) (pa_cons (pv 0) (pa_cons (pe_ty "tuple" rfl T.tuple_ (by decide +kernel)) pa_nil))) (pe_and (pe_cmpR op_gt (pe_callB call_len (by rfl) T.len_ (by decide +kernel) (pa_cons (pv 0) pa_nil)) pe_int (nomark _)) (pe_one (pe_callB call_isiC (by rfl) T.isinstance_ (by decide +kernel) (pa_cons (pe_ix ix_tup (pv 0) pe_int (fun _ _ => rfl)) (pa_cons (pe_ty "str" rfl T.str_ (by decide +kernel)) pa_nil)))))) pa_nil)))
      (pss_cons (ps_expr (pe_bm PySem.F.plainAttrs_list PySem.F.slot_list_append PySem.F.type_list_append mt_append (pv 1) (pa_cons (pe_ix ix_tup (pv 0) pe_int (fun _ _ => rfl)) pa_nil)))
      (pss_one (ps_if (pt_cmpR op_eq (pe_ix ix_tup (pv 0) pe_int (fun _ _ => rfl)) pe_str (nomark _)) (pss_cons (ps_expr (pe_fn G_need hr (pa_cons (pe_and (pe_cmpR op_eq (pe_callB call_len (by rfl) T.len_ (by decide +kernel) (pa_cons (pv 0) pa_nil)) pe_int (nomark _)) (pe_one (pe_fn G_are_rows hr (pa_cons (pe_ix ix_tup (pv 0) pe_int (fun _ _ => rfl)) pa_nil)))) pa_nil)))
      (pss_cons (ps_expr (pe_bm PySem.F.plainAttrs_list PySem.F.slot_list_append PySem.F.type_list_append mt_append (pv 1) (pa_cons (pe_callTy call_str_int (by rfl) T.str_ (by decide +kernel) (pa_cons (pe_callB call_len (by rfl) T.len_ (by decide +kernel) (pa_cons (pe_ix ix_tup (pv 0) pe_int (fun _ _ => rfl)) pa_nil)) pa_nil)) pa_nil)))
      (pss_one (ps_expr (pe_bm PySem.F.plainAttrs_list PySem.F.slot_list_extend PySem.F.type_list_extend mt_extendT (pv 2) (pa_cons (pe_ix ix_tup (pv 0) pe_int (fun _ _ => rfl)) pa_nil)))))) (pss_one (ps_if (pt_cmpR op_eq (pe_ix ix_tup (pv 0) pe_int (fun _ _ => rfl)) pe_str (nomark _)) (pss_cons (ps_expr (pe_fn G_need hr (pa_cons (pe_cmpR op_eq (pe_callB call_len (by rfl) T.len_ (by decide +kernel) (pa_cons (pv 0) pa_nil)) pe_int (nomark _)) pa_nil)))
      (pss_cons (ps_expr (pe_fn G_put_list_pr hr (pa_cons (pe_ix ix_tup (pv 0) pe_int (fun _ _ => rfl)) (pa_cons pe_int (pa_cons (pe_cr rfl h_put_pair) (pa_cons (pv 1) (pa_cons (pv 2) pa_nil)))))))
      (pss_one (ps_expr (pe_fn G_need hr (pa_cons (pe_fn G_rises hr (pa_cons (pe_lc (own := [("name", 4), ("label", 3)]) (g := gTup K 2 (gCons (gName 3) (gCons (gName 4) gNil))) (tt := tYes) rfl sc_put_content.nd (pi_tup (pe_ix ix_tup (pv 0) pe_int (fun _ _ => rfl))) (blkOk_by (N := ["thing", "words", "lines", "label", "name"]) (sc := defScope s_put_content) (by decide +kernel)) (fun _ _ _ _ _ => (pg_tup rfl (pgs_cons (pg_name (i := 3) sc_put_content.nd rfl (Or.inl rfl) (hf := Or.inr rfl)) (pgs_cons (pg_name (i := 4) sc_put_content.nd rfl (Or.inl rfl) (hf := Or.inr rfl)) pgs_nil)))) (fun _ _ _ _ _ => pts_nil) (fun _ _ _ _ _ => (pv 3))) pa_nil)) pa_nil)))))) (pss_cons (ps_expr (pe_fn G_need hr (pa_cons (pe_and (pe_cmpR op_eq (pe_ix ix_tup (pv 0) pe_int (fun _ _ => rfl)) pe_str (nomark _)) (pe_one (pe_cmpR op_eq (pe_callB call_len (by rfl) T.len_ (by decide +kernel) (pa_cons (pv 0) pa_nil)) pe_int (nomark _)))) pa_nil)))
      (pss_cons (ps_expr (pe_fn G_put_list_i hr (pa_cons (pe_ix ix_tup (pv 0) pe_int (fun _ _ => rfl)) (pa_cons pe_int (pa_cons (pe_cr rfl h_put_int) (pa_cons (pv 1) (pa_cons (pv 2) pa_nil)))))))
      (pss_cons (ps_expr (pe_fn G_need hr (pa_cons (pe_fn G_rises hr (pa_cons (pe_ix ix_tup (pv 0) pe_int (fun _ _ => rfl)) pa_nil)) pa_nil)))
      (pss_cons (ps_expr (pe_fn G_put_int hr (pa_cons (pe_ix ix_tup (pv 0) pe_int (fun _ _ => rfl)) (pa_cons (pv 1) (pa_cons (pv 2) pa_nil)))))
      (pss_one (ps_expr (pe_fn G_put_int hr (pa_cons (pe_ix ix_tup (pv 0) pe_int (fun _ _ => rfl)) (pa_cons (pv 1) (pa_cons (pv 2) pa_nil)))))))))))))))), ?_⟩
  obtain ⟨v, wa, la, ws, ls, nw, nl, rfl, A, ⟨a, rfl, ⟨r, hs, hz, rfl⟩ | ⟨e, es, hs, he, rfl, rfl⟩ | ⟨ps, ns, r, t, hs, hp, hn4, hri, hr1, hr2, rfl, rfl⟩⟩, q⟩ := h
  · walk_at "rd"
    walk_at "isT"
    walk_at "len"
    walk_at "ix"
    refine ⟨true, rfl, (fun _ => ?_), (fun n => by cases n)⟩
    refine ⟨tyV_L A.w, ?_⟩
    walk_at "ix"
    refine ⟨_, A.w, A.szw, ?_⟩
    obtain ⟨g1, g2, g3⟩ := A.more (zs := [("leaf" : Str)])
    have A1 := A.grow (m := 58) g2 g3 (by simp) (by simp)
    have hs1 := g1.tup hs
    obtain ⟨ra, rfl, hsr, h40, hzr⟩ := hz.kp g1
    refine ixT hs1 rfl ?_
    walk_at "rd"
    refine ⟨_, lenV_T hs1, ?_⟩
    walk_at "rd"
    refine ixT hs1 rfl ?_
    refine ⟨ra, nl, rfl, hsr, by omega, fun z hz => okR_len (hzr z hz), fun H2 k2 => ?_⟩
    have hok : (decide (nl.length ≤ 40) && nl.all okR) = true := by
      rw [decide_eq_true h40, Bool.true_and, List.all_eq_true]
      exact hzr
    rw [hok]
    refine ⟨_, rfl, (fun _ => ?_), (fun n => by cases n)⟩
    have A2 := A1.kp k2
    have hs2 := k2.tup hs1
    have hsr2 := k2.tup hsr
    refine ⟨tyV_L A2.w, ixT hs2 rfl ⟨_, lenV_T hsr2, ?_⟩⟩
    rw [List.length_map]
    refine ⟨okI_log (okI_nat (by omega)), _, A2.w, A2.szw, ?_⟩
    obtain ⟨g4, g5, g6⟩ := A2.more (zs := [iS ((nl.length : Nat) : Int)])
    have A3 := A2.grow (m := 50) g5 g6 (by simp) (by simp)
    have hll : (ls ++ [] ++ []).length + 50 ≤ 100000 := A3.bl
    refine ⟨tyV_L A3.l, ixT (g4.tup hs2) rfl ⟨_, rfl, _, A3.l, _, (g4.tup hsr2), sz_of (by simp at hll ⊢; omega), ?_⟩⟩
    obtain ⟨m1, m2, m3⟩ := A3.late (zs := nl)
    refine q _ (g1.trans (k2.nil.trans (g4.trans m1))) ?_ ?_
    · simpa only [List.append_nil, List.append_assoc, List.cons_append, List.nil_append, List.map_cons, List.map_nil, iS] using m2
    · simpa only [List.append_nil, List.map_cons, List.map_nil, iS] using m3
  · walk_at "rd"
    walk_at "isT"
    walk_at "len"
    walk_at "ix"
    refine ⟨true, rfl, (fun _ => ?_), (fun n => by cases n)⟩
    refine ⟨tyV_L A.w, ?_⟩
    walk_at "ix"
    refine ⟨_, A.w, A.szw, ?_⟩
    obtain ⟨g1, g2, g3⟩ := A.more (zs := [("tree" : Str)])
    have A1 := A.grow (m := 58) g2 g3 (by simp) (by simp)
    have hs1 := g1.tup hs
    have he1 := he.kp g1
    refine ixT hs1 rfl ?_
    walk_at "rd"
    refine ixT hs1 rfl ?_
    walk_at "rd"
    refine ⟨_, lenV_T hs1, ?_⟩
    walk_at "rd"
    refine ⟨true, rfl, (fun _ => ?_), (fun n => by cases n)⟩
    refine ixT hs1 rfl ?_
    refine ⟨e, wa, la, _, _, _, _, rfl, A1.mono (by decide), he1.isL, fun H3 k3 w3 l3 => ?_⟩
    have hs3 := k3.tup hs1
    have he3 := he1.kp k3
    obtain ⟨t, xs, rfl, hts, hxl, hx⟩ := he3.ex
    refine ⟨_, rfl, ?_⟩
    dsimp only [tC]
    have hfew := he.few
    refine ixT hs3 rfl ⟨t, rfl, ⟨xs, hts⟩, fun D hD => ?_⟩
    refine lc_pairG (n := xs.length) (fx := fun i => (es.map (fun p => V.str p.1))[i]?) (fy := fun i => (es.map (fun p => V.int p.2))[i]?) walk_tup (fun i v H5 H6 k5 y => ?_) hD (by omega) (fun _ _ => rfl) (fun i v _ => (es.map (fun p => V.str p.1))[i]? = some v) (fun _ _ _ _ r _ => r) (fun H5 k5 => k5.tup hts)
      (fun i x y H5 Q5 hi k5 h1 h2 q5 => ⟨_, rfl, q5 _ H5 Kp.refl h1⟩) (fun H5 ys k5 e5 l5 r5 => ?_)
    · obtain ⟨rfl, y⟩ := y
      have hi : i < es.length := by have := (List.getElem?_eq_some_iff.mp y).1; omega
      have he : es[i]? = some es[i] := List.getElem?_eq_getElem hi
      obtain ⟨b, rfl, hb⟩ := hx i v _ y he
      exact ⟨Kp.refl, b, _, _, rfl, k5.tup hb, by simp [he], by simp [he]⟩
    · have ey : ys = (es.map (·.1)).map V.str := by
        rw [List.map_map]
        apply List.ext_getElem?
        intro i
        cases h : ys[i]? with
        | some y => exact (r5 i y h).symm
        | none =>
          have := List.getElem?_eq_none_iff.mp h
          rw [List.getElem?_eq_none (by simp; omega)]
      rw [ey] at e5
      refine .inr ⟨D, es.map (·.1), rfl, SqL.of e5, by simp; omega, fun H7 k7 => ?_⟩
      refine ⟨_, rfl, (fun _ => ?_), (fun n => by rw [he.rise] at n; cases n)⟩
      have k8 : Kp [] H3 H7 := k5.trans k7
      have w7 := k8.at w3 (by simp)
      have l7 := k8.at l3 (by simp)
      refine q _ (g1.trans (k3.trans k8.nil)) ?_ ?_
      · simpa only [List.append_nil, List.append_assoc, List.cons_append, List.nil_append] using w7
      · simpa only [List.append_nil] using l7
  · walk_at "rd"
    walk_at "isT"
    walk_at "len"
    walk_at "ix"
    refine ⟨true, rfl, (fun _ => ?_), (fun n => by cases n)⟩
    refine ⟨tyV_L A.w, ?_⟩
    walk_at "ix"
    refine ⟨_, A.w, A.szw, ?_⟩
    obtain ⟨g1, g2, g3⟩ := A.more (zs := [("version" : Str)])
    have A1 := A.grow (m := 58) g2 g3 (by simp) (by simp)
    have hs1 := g1.tup hs
    have hp1 := hp.kp g1
    refine ixT hs1 rfl ?_
    walk_at "rd"
    refine ixT hs1 rfl ?_
    walk_at "rd"
    refine ixT hs1 rfl ?_
    walk_at "rd"
    refine ⟨_, lenV_T hs1, ?_⟩
    walk_at "rd"
    refine ⟨true, rfl, (fun _ => ?_), (fun n => by cases n)⟩
    refine ixT hs1 rfl ?_
    refine ⟨ps, wa, la, _, _, _, _, rfl, A1.mono (by decide), hp1.isL hn4, fun H3 k3 w3 l3 => ?_⟩
    have A3 := A1.grow (m := 50) w3 l3 (by simp [isW]; omega) (by simp)
    have hs3 := k3.tup hs1
    obtain ⟨t', rfl, hts⟩ := (hp1.kp k3).ex
    refine ixT hs3 rfl ?_
    refine .inl ⟨t', ns, rfl, hts, by omega, fun H4 k4 => ?_⟩
    refine ⟨_, rfl, (fun _ => ?_), (fun n => by rw [hri] at n; cases n)⟩
    have hs4 := k4.tup hs3
    refine ixT hs4 rfl ?_
    refine .inl ⟨_, wa, la, _, _, _, _, rfl, (A3.kp k4).mono (by decide), ⟨r, rfl, hr1, rfl, rfl⟩, fun H5 k5 w5 l5 => ?_⟩
    have A5 := (A3.kp k4).grow (m := 40) w5 l5 (by simp) (by simp)
    refine ixT (k5.tup hs4) rfl ?_
    refine .inl ⟨_, wa, la, _, _, _, _, rfl, A5.mono (by decide), ⟨t, rfl, hr2, rfl, rfl⟩, fun H6 k6 w6 l6 => ?_⟩
    refine q _ (g1.trans (k3.trans (k4.nil.trans (k5.trans k6)))) ?_ ?_
    · simpa only [List.append_nil, List.append_assoc, List.cons_append, List.nil_append] using w6
    · simpa only [List.append_nil] using l6
end
end Kq
set_option Elab.async false
set_option linter.all false
set_option maxRecDepth 100000
set_option maxHeartbeats 4000000
namespace Kq
open PySem PySem.Spec PyProof.Rows L2 Fw
local macro_rules | `(tactic| walk_at "rd") => `(tactic| try simp only [tSeq, tNext, tBreak, tCont, tDrop, tRet, tRetN, tIfS, tAsg, tVar, tC, tOp, tUn, tTest, tB, tAnd, tOr, tNot, tAndV, tOrV, tNotV, tIf, tChain, tCB, tCons, tNil, tTup, tLst, tCall, tCallS, WE,
  gName, gSub, rI, rI0, rU, rEq, rNe, rIsiC, tSl, tPart, tNoPart, rSetL, tBM, tBM0, rAppend, rExtend, rExtendT, tCallL, L2.start, List.map_cons, List.map_nil, List.length_cons, List.length_nil, Nat.sub_self, Nat.reduceAdd, Nat.reduceSub, List.replicate_zero, List.replicate_succ, List.append_nil, List.nil_append, List.cons_append,
  List.getElem?_cons_zero, List.getElem?_cons_succ, List.set_cons_zero, List.set_cons_succ, Option.some.injEq, exists_eq_left', exists_eq_left, exists_eq_right, exists_eq_right', exists_const, exists_and_left, exists_and_right, V.int.injEq, V.bl.injEq, V.str.injEq, V.ref.injEq, V.ty.injEq, List.cons.injEq, and_true, true_and, and_assoc, reduceCtorEq, false_and, and_false, exists_false, false_or, or_false,
  if_true, if_false, Bool.not_true, Bool.not_false, Bool.false_eq_true, Bool.true_eq_false, ↓reduceIte, decide_eq_true_eq, decide_true, decide_false, sc_nn, sc_ni, sc_in, sc_nb, sc_bn, sc_ns, sc_sn, sc_ii, sc_bb, sc_ss, sc_is, sc_si, sc_bs, sc_sb, ipI, Int.reduceLT, Int.reduceLE, Int.reduceEq, Nat.reduceLT, Nat.reduceEqDiff, String.reduceEq, nc0, nc1, nc2, nc3, nc4, nc5, nc6, nc7, nc8, nc9, nc10, nc11, nc12, cx_K, cx_w, wipe, lenV_str, rCat, exists_eq, exists_eq', relO, relC, relM, relI, relSl, spOf, ciOf, csOf, crOf, L2.rIxD, eq_self, not_true_eq_false, not_false_eq_true, Option.isSome_some, Option.isSome_none, tCallV, ofS_inj, sg_inj, sg_len, sg_lt, tM1, tM0, tLc_rng1, tLc_rng2, tFor_rng1, tFor_rng2, tDNewK, sDPut,  Nat.reduceLeDiff, Bool.not_eq_true', decide_eq_false_iff_not,
  isi_int_int, isi_int_bool, isi_int_str, isi_int_tuple, isi_int_list, isi_int_dict, isi_bool_int, isi_bool_bool, isi_bool_str, isi_bool_tuple, isi_bool_list, isi_bool_dict, isi_str_int, isi_str_bool, isi_str_str, isi_str_tuple, isi_str_list, isi_str_dict, isi_non_int, isi_non_bool, isi_non_str, isi_non_tuple, isi_non_list, isi_non_dict])
local macro_rules | `(tactic| walk_at "ix") => `(tactic| (refine ixT (by assumption) rfl ?_; walk_at "rd"))
local macro_rules | `(tactic| walk_at "len") => `(tactic| (refine ⟨_, lenV_T (by assumption), ?_⟩; walk_at "rd"))
local macro_rules | `(tactic| walk_at "isT") => `(tactic| (refine ⟨true, isiT (by assumption), ?_⟩; walk_at "rd"))

section
variable {P : Program} {w : World} {K : PySem.W.Frag} {mg : Str → Option Value} {base : Heap} {CN CB CH : Addr}
theorem stb_IsL_Pc {n : Nat} : Stb (IsL K (IsPc K) n) := stb_L stb_Pc
def IsPk (K : PySem.W.Frag) : Wr := fun v H nw nl => ∃ a nm, v = .ref a ∧ okI nm = true ∧ ((∃ c cw, SqT K H a [.int nm, .str "plain", c] ∧ IsCo K c H cw nl ∧ nw = iS nm :: ("plain" : Str) :: cw) ∨
  ∃ b ps pw, SqT K H a [.int nm, .str "over", .int b, ps] ∧ okI b = true ∧ IsL K (IsPc K) 40 ps H pw nl ∧ nw = iS nm :: ("over" : Str) :: iS b :: pw)
theorem stb_Pk : Stb (IsPk K) := fun _ _ _ _ _ _ k ⟨a, nm, e, h0, h⟩ => ⟨a, nm, e, h0, by
  rcases h with ⟨c, cw, h, q, z⟩ | ⟨b, ps, pw, h, hb, q, z⟩
  · exact .inl ⟨c, cw, k.tup h, stb_Co _ _ _ _ _ _ k q, z⟩
  · exact .inr ⟨b, ps, pw, k.tup h, hb, stb_IsL_Pc _ _ _ _ _ _ k q, z⟩⟩
theorem bnd_Co : Bnd (IsCo K) 50 := by
  rintro v H nw nl ⟨a, rfl, ⟨r, _, ⟨_, _, _, h4, h5⟩, rfl⟩ | ⟨e, es, _, he, rfl, rfl⟩ | ⟨ps, ns, r, t, _, hp, hn4, _, hr1, hr2, rfl, rfl⟩⟩
  · refine ⟨by simp, by omega, ?_, fun z hz => okR_40 (h5 z hz)⟩
    intro y hy
    simp only [List.mem_cons, List.not_mem_nil, or_false] at hy
    rcases hy with rfl | rfl
    · rw [len_S]; decide
    · exact iS_len (okI_nat (by omega))
  · obtain ⟨b1, b2, b3, b4⟩ := bnd_L bnd_Pr _ _ _ _ he.isL
    refine ⟨by simp only [List.length_cons]; omega, by simp, ?_, by simp⟩
    intro y hy
    rcases List.mem_cons.mp hy with rfl | hy
    · rw [len_S]; decide
    · exact b3 y hy
  · obtain ⟨b1, b2, b3, b4⟩ := bnd_L (most := 4) bnd_I _ _ _ _ (hp.isL (K := K) hn4)
    refine ⟨by simp only [List.length_cons, List.length_append, List.length_nil]; omega, by simp, ?_, by simp⟩
    intro y hy
    simp only [List.mem_cons, List.mem_append, List.not_mem_nil, or_false] at hy
    rcases hy with rfl | hy | rfl | rfl
    · rw [len_S]; decide
    · exact b3 y hy
    · exact iS_len hr1
    · exact iS_len hr2
theorem bnd_Pk : Bnd (IsPk K) 1700 := by
  rintro v H nw nl ⟨a, nm, rfl, h0, ⟨c, cw, _, hc, rfl⟩ | ⟨b, ps, pw, _, hb, hp, rfl⟩⟩
  · obtain ⟨b1, b2, b3, b4⟩ := bnd_Co _ _ _ _ hc
    refine ⟨by simp only [List.length_cons]; omega, by omega, ?_, b4⟩
    intro y hy
    simp only [List.mem_cons] at hy
    rcases hy with rfl | rfl | hy
    · exact iS_len h0
    · rw [len_S]; decide
    · exact b3 y hy
  · obtain ⟨b1, b2, b3, b4⟩ := bnd_L bnd_Pc _ _ _ _ hp
    refine ⟨by simp only [List.length_cons]; omega, by omega, ?_, b4⟩
    intro y hy
    simp only [List.mem_cons] at hy
    rcases hy with rfl | rfl | rfl | hy
    · exact iS_len h0
    · rw [len_S]; decide
    · exact iS_len hb
    · exact b3 y hy
theorem sc_put_pack : FnScope ["thing", "words", "lines"] ["thing", "words", "lines"] (defScope s_put_pack) := ⟨rfl, rfl, rfl, by decide +kernel, rfl, by decide +kernel, by decide +kernel⟩
theorem ok_put_pack (T : Txt K w mg CN CB CH) (F : At K mg "put_pack" s_put_pack ["thing", "words", "lines"]) {f_pc : Addr} (h_put_piece : mg "put_piece" = some (.ref f_pc)) (G_need : Dfn P w K mg base 1 "need" ["good"] (spNeed CN))
    (G_put_int : Dfn P w K mg base 2 "put_int" ["thing", "words", "lines"] (spPutI CN)) (G_put_content : Dfn P w K mg base 8 "put_content" ["thing", "words", "lines"] (spPut (IsCo K) 60)) (G_put_list_pc : Dfn P w K mg base 7 "put_list" ["thing", "most", "each", "words", "lines"] (spPutL K f_pc (IsPc K) 40 50)) :
    Dfn P w K mg base 9 "put_pack" ["thing", "words", "lines"] (spPut (IsPk K) 2100) := by
  refine F.ok sc_put_pack (fun vs H Q E h => h.len) (fun qual f cdv A outer s H vs Q E hr h => ?_)
  refine ⟨_, (pss_cons (ps_expr (pe_fn G_need hr (pa_cons (pe_and (pe_callB call_isiC (by rfl) T.isinstance_ (by decide +kernel) (pa_cons (pv 0) (pa_cons (pe_ty "tuple" rfl T.tuple_ (by decide +kernel)) pa_nil))) (pe_and (pe_cmpR op_gt (pe_callB call_len (by rfl) T.len_ (by decide +kernel) (pa_cons (pv 0) pa_nil)) pe_int (nomark _)) (pe_one (pe_callB call_isiC (by rfl) T.isinstance_ (by decide +kernel) (pa_cons (pe_ix ix_tup (pv 0) pe_int (fun _ _ => rfl)) (pa_cons (pe_ty "str" rfl T.str_ (by decide +kernel)) pa_nil)))))) pa_nil)))
      (pss_cons (ps_expr (pe_fn G_put_int hr (pa_cons (pe_ix ix_tup (pv 0) pe_int (fun _ _ => rfl)) (pa_cons (pv 1) (pa_cons (pv 2) pa_nil)))))
      (pss_cons (ps_expr (pe_bm PySem.F.plainAttrs_list PySem.F.slot_list_append PySem.F.type_list_append mt_append (pv 1) (pa_cons (pe_ix ix_tup (pv 0) pe_int (fun _ _ => rfl)) pa_nil)))
      (pss_one (ps_if (pt_cmpR op_eq (pe_ix ix_tup (pv 0) pe_int (fun _ _ => rfl)) pe_str (nomark _)) (pss_cons (ps_expr (pe_fn G_need hr (pa_cons (pe_cmpR op_eq (pe_callB call_len (by rfl) T.len_ (by decide +kernel) (pa_cons (pv 0) pa_nil)) pe_int (nomark _)) pa_nil)))
      (pss_one (ps_expr (pe_fn G_put_content hr (pa_cons (pe_ix ix_tup (pv 0) pe_int (fun _ _ => rfl)) (pa_cons (pv 1) (pa_cons (pv 2) pa_nil))))))) (pss_cons (ps_expr (pe_fn G_need hr (pa_cons (pe_and (pe_cmpR op_eq (pe_ix ix_tup (pv 0) pe_int (fun _ _ => rfl)) pe_str (nomark _)) (pe_one (pe_cmpR op_eq (pe_callB call_len (by rfl) T.len_ (by decide +kernel) (pa_cons (pv 0) pa_nil)) pe_int (nomark _)))) pa_nil)))
      (pss_cons (ps_expr (pe_fn G_put_int hr (pa_cons (pe_ix ix_tup (pv 0) pe_int (fun _ _ => rfl)) (pa_cons (pv 1) (pa_cons (pv 2) pa_nil)))))
      (pss_one (ps_expr (pe_fn G_put_list_pc hr (pa_cons (pe_ix ix_tup (pv 0) pe_int (fun _ _ => rfl)) (pa_cons (pe_ci rfl T.ROWS) (pa_cons (pe_cr rfl h_put_piece) (pa_cons (pv 1) (pa_cons (pv 2) pa_nil))))))))))))))), ?_⟩
  obtain ⟨v, wa, la, ws, ls, nw, nl, rfl, A, ⟨a, nm, rfl, h0, ⟨c, cw, hs, hc, rfl⟩ | ⟨b, ps, pw, hs, hb, hp, rfl⟩⟩, q⟩ := h
  · walk_at "rd"
    walk_at "isT"
    walk_at "len"
    walk_at "ix"
    refine ⟨true, rfl, (fun _ => ?_), (fun n => by cases n)⟩
    walk_at "ix"
    refine .inl ⟨_, wa, la, _, _, _, _, rfl, A.mono (by decide), ⟨nm, rfl, h0, rfl, rfl⟩, fun H1 k1 w1 l1 => ?_⟩
    have A1 := A.grow (m := 2099) w1 l1 (by simp) (by simp)
    have hs1 := k1.tup hs
    refine ⟨tyV_L A1.w, ixT hs1 rfl ⟨_, A1.w, A1.szw, ?_⟩⟩
    obtain ⟨g1, g2, g3⟩ := A1.more (zs := [("plain" : Str)])
    have A2 := A1.grow (m := 2000) g2 g3 (by simp) (by simp)
    have hs2 := g1.tup hs1
    refine ixT hs2 rfl ?_
    walk_at "rd"
    refine ⟨_, lenV_T hs2, ?_⟩
    walk_at "rd"
    refine ⟨_, rfl, (fun _ => ?_), (fun n => by cases n)⟩
    refine ixT hs2 rfl ?_
    refine ⟨c, wa, la, _, _, _, _, rfl, A2.mono (by decide), stb_Co _ _ _ _ _ _ (k1.trans g1) hc, fun H3 k3 w3 l3 => ?_⟩
    refine q _ (k1.trans (g1.trans k3)) ?_ ?_
    · simpa only [List.append_nil, List.append_assoc, List.cons_append, List.nil_append] using w3
    · simpa only [List.append_nil] using l3
  · walk_at "rd"
    walk_at "isT"
    walk_at "len"
    walk_at "ix"
    refine ⟨true, rfl, (fun _ => ?_), (fun n => by cases n)⟩
    walk_at "ix"
    refine .inl ⟨_, wa, la, _, _, _, _, rfl, A.mono (by decide), ⟨nm, rfl, h0, rfl, rfl⟩, fun H1 k1 w1 l1 => ?_⟩
    have A1 := A.grow (m := 2099) w1 l1 (by simp) (by simp)
    have hs1 := k1.tup hs
    refine ⟨tyV_L A1.w, ixT hs1 rfl ⟨_, A1.w, A1.szw, ?_⟩⟩
    obtain ⟨g1, g2, g3⟩ := A1.more (zs := [("over" : Str)])
    have A2 := A1.grow (m := 2098) g2 g3 (by simp) (by simp)
    have hs2 := g1.tup hs1
    refine ixT hs2 rfl ?_
    walk_at "rd"
    refine ixT hs2 rfl ?_
    walk_at "rd"
    refine ⟨_, lenV_T hs2, ?_⟩
    walk_at "rd"
    refine ⟨_, rfl, (fun _ => ?_), (fun n => by cases n)⟩
    refine ixT hs2 rfl ?_
    refine .inl ⟨_, wa, la, _, _, _, _, rfl, A2.mono (by decide), ⟨b, rfl, hb, rfl, rfl⟩, fun H3 k3 w3 l3 => ?_⟩
    have A3 := A2.grow (m := 2050) w3 l3 (by simp) (by simp)
    have hs3 := k3.tup hs2
    refine ixT hs3 rfl ?_
    have hp3 := stb_IsL_Pc _ _ _ _ _ _ (k1.trans (g1.trans k3)) hp
    refine ⟨ps, wa, la, _, _, _, _, rfl, A3.mono (by decide), hp3, fun H4 k4 w4 l4 => ?_⟩
    refine q _ (k1.trans (g1.trans (k3.trans k4))) ?_ ?_
    · simpa only [List.append_nil, List.append_assoc, List.cons_append, List.nil_append] using w4
    · simpa only [List.append_nil] using l4
end
end Kq
set_option Elab.async false
set_option linter.all false
set_option maxRecDepth 100000
set_option maxHeartbeats 4000000
namespace Kq
open PySem PySem.Spec PyProof.Rows L2 Fw
local macro_rules | `(tactic| walk_at "rd") => `(tactic| try simp only [tSeq, tNext, tBreak, tCont, tDrop, tRet, tRetN, tIfS, tAsg, tVar, tC, tOp, tUn, tTest, tB, tAnd, tOr, tNot, tAndV, tOrV, tNotV, tIf, tChain, tCB, tCons, tNil, tTup, tLst, tCall, tCallS, WE,
  gName, gSub, rI, rI0, rU, rEq, rNe, rIsiC, tSl, tPart, tNoPart, rSetL, tBM, tBM0, rAppend, rExtend, rExtendT, tCallL, L2.start, List.map_cons, List.map_nil, List.length_cons, List.length_nil, Nat.sub_self, Nat.reduceAdd, Nat.reduceSub, List.replicate_zero, List.replicate_succ, List.append_nil, List.nil_append, List.cons_append,
  List.getElem?_cons_zero, List.getElem?_cons_succ, List.set_cons_zero, List.set_cons_succ, Option.some.injEq, exists_eq_left', exists_eq_left, exists_eq_right, exists_eq_right', exists_const, exists_and_left, exists_and_right, V.int.injEq, V.bl.injEq, V.str.injEq, V.ref.injEq, V.ty.injEq, List.cons.injEq, and_true, true_and, and_assoc, reduceCtorEq, false_and, and_false, exists_false, false_or, or_false,
  if_true, if_false, Bool.not_true, Bool.not_false, Bool.false_eq_true, Bool.true_eq_false, ↓reduceIte, decide_eq_true_eq, decide_true, decide_false, sc_nn, sc_ni, sc_in, sc_nb, sc_bn, sc_ns, sc_sn, sc_ii, sc_bb, sc_ss, sc_is, sc_si, sc_bs, sc_sb, ipI, Int.reduceLT, Int.reduceLE, Int.reduceEq, Nat.reduceLT, Nat.reduceEqDiff, String.reduceEq, nc0, nc1, nc2, nc3, nc4, nc5, nc6, nc7, nc8, nc9, nc10, nc11, nc12, cx_K, cx_w, wipe, lenV_str, rCat, exists_eq, exists_eq', relO, relC, relM, relI, relSl, spOf, ciOf, csOf, crOf, L2.rIxD, eq_self, not_true_eq_false, not_false_eq_true, Option.isSome_some, Option.isSome_none, tCallV, ofS_inj, sg_inj, sg_len, sg_lt, tM1, tM0, tLc_rng1, tLc_rng2, tFor_rng1, tFor_rng2, tDNewK, sDPut,  Nat.reduceLeDiff, Bool.not_eq_true', decide_eq_false_iff_not,
  isi_int_int, isi_int_bool, isi_int_str, isi_int_tuple, isi_int_list, isi_int_dict, isi_bool_int, isi_bool_bool, isi_bool_str, isi_bool_tuple, isi_bool_list, isi_bool_dict, isi_str_int, isi_str_bool, isi_str_str, isi_str_tuple, isi_str_list, isi_str_dict, isi_non_int, isi_non_bool, isi_non_str, isi_non_tuple, isi_non_list, isi_non_dict])
local macro_rules | `(tactic| walk_at "ix") => `(tactic| (refine ixT (by assumption) rfl ?_; walk_at "rd"))
local macro_rules | `(tactic| walk_at "len") => `(tactic| (refine ⟨_, lenV_T (by assumption), ?_⟩; walk_at "rd"))
local macro_rules | `(tactic| walk_at "isT") => `(tactic| (refine ⟨true, isiT (by assumption), ?_⟩; walk_at "rd"))

section
variable {P : Program} {w : World} {K : PySem.W.Frag} {mg : Str → Option Value} {base : Heap} {CN CB CH : Addr}
/-! ### kinds of parts -/
inductive Kd where
  | nInts | nInt | nLabels | nTruth | nTruths | nMarks | nPack
  deriving DecidableEq
def kdS : Kd → Str
  | .nInts => "ints"
  | .nInt => "int"
  | .nLabels => "labels"
  | .nTruth => "truth"
  | .nTruths => "truths"
  | .nMarks => "marks"
  | .nPack => "pack row"
def eachK : Kd → Bool
  | .nInt => false
  | .nTruth => false
  | .nPack => false
  | _ => true
def nmK : Kd → Str
  | .nInts => "put_int"
  | .nInt => "put_int"
  | .nLabels => "put_label"
  | .nTruth => "put_truth"
  | .nTruths => "put_truth"
  | .nMarks => "put_pair"
  | .nPack => "put_pack"
def WrK (K : PySem.W.Frag) : Kd → Wr
  | .nInts => IsL K IsI 400
  | .nInt => IsI
  | .nLabels => IsL K IsLb 400
  | .nTruth => IsB
  | .nTruths => IsL K IsB 400
  | .nMarks => IsL K (IsPr K) 400
  | .nPack => IsPk K
theorem stb_K : ∀ k, Stb (WrK K k)
  | .nInts => stb_L stb_I
  | .nInt => stb_I
  | .nLabels => stb_L stb_Lb
  | .nTruth => stb_B
  | .nTruths => stb_L stb_B
  | .nMarks => stb_L stb_Pr
  | .nPack => stb_Pk
theorem bnd_K : ∀ k, Bnd (WrK K k) 1700 := by
  have up : ∀ {D : Wr} {n : Nat}, n ≤ 1700 → Bnd D n → Bnd D 1700 := fun h b v H nw nl d => by
    obtain ⟨b1, b2, b3⟩ := b v H nw nl d
    exact ⟨by omega, by omega, b3⟩
  intro k
  cases k with
  | nInts => exact up (by decide) (bnd_L bnd_I)
  | nInt => exact up (by decide) bnd_I
  | nLabels => exact up (by decide) (bnd_L bnd_Lb)
  | nTruth => exact up (by decide) bnd_B
  | nTruths => exact up (by decide) (bnd_L bnd_B)
  | nMarks => exact up (by decide) (bnd_L bnd_Pr)
  | nPack => exact bnd_Pk
/-- the tables of the module -/
structure Txt2 (K : PySem.W.Frag) (w : World) (mg : Str → Option Value) (aE aP : Addr) (esE esP : Array DictEntry) (nE nP : Nat) (f : Kd → Addr) : Prop where
  PUTS_EACH : mg "PUTS_EACH" = some (.ref aE)
  PUTS : mg "PUTS" = some (.ref aP)
  dE : KDict K w aE esE nE
  dP : KDict K w aP esP nP
  at_ : ∀ k, mg (nmK k) = some (.ref (f k))
  eIn : ∀ k, eachK k = true → PySem.W.nsIn K aE (kdS k) = some (some (.ref (f k)))
  eNot : ∀ k, eachK k = false → PySem.W.nsIn K aE (kdS k) = some none
  pIn : ∀ k, eachK k = false → PySem.W.nsIn K aP (kdS k) = some (some (.ref (f k)))
theorem Txt2.kE {aE aP : Addr} {esE esP : Array DictEntry} {nE nP : Nat} {f : Kd → Addr} (T : Txt2 K w mg aE aP esE esP nE nP f) {k : Kd} (h : eachK k = true) : KDct K w aE (kdS k) (.ref (f k)) := ⟨_, _, _, T.dE.at_, T.dE.lit, T.eIn k h, rfl⟩
theorem Txt2.kP {aE aP : Addr} {esE esP : Array DictEntry} {nE nP : Nat} {f : Kd → Addr} (T : Txt2 K w mg aE aP esE esP nE nP f) {k : Kd} (h : eachK k = false) : KDct K w aP (kdS k) (.ref (f k)) := ⟨_, _, _, T.dP.at_, T.dP.lit, T.pIn k h, rfl⟩
/-- the defs that a deed may be -/
def SDeed (K : PySem.W.Frag) (f : Kd → Addr) : Addr → Sp → Prop := fun a sp => ∃ k, eachK k = false ∧ a = f k ∧ sp = spPut (WrK K k) 2100
/-- put_list as text_by calls it -/
def spPuts (K : PySem.W.Frag) (CN : Addr) (f : Kd → Addr) : Sp := fun vs H Q E => (∃ v wa la ws ls nw nl k, eachK k = true ∧ vs = [v, .int 400, .ref (f k), .ref wa, .ref la] ∧ PutA H wa la ws ls 2000 ∧ WrK K k v H nw nl ∧ PutQ wa la ws ls nw nl H Q) ∨ spPutLB K CN (f .nInts) 400 vs H Q E
/-- a row's text -/
def textOf (word : Str) (nw nl : List Str) : Str := Txt.join "\n" (Txt.join " " (word :: nw) :: nl)
/-- parts of a row by their kinds -/
structure Parts (K : PySem.W.Frag) (H : Hp) (ks : List Kd) (ps : List V) (its : List (List Str × List Str)) : Prop where
  l1 : ks.length = ps.length
  l2 : its.length = ps.length
  at_ : ∀ (i : Nat) (x : V) (k : Kd) (p : List Str × List Str), ps[i]? = some x → ks[i]? = some k → its[i]? = some p → WrK K k x H p.1 p.2
theorem Parts.kp {M : List Addr} {H H' : Hp} {ks : List Kd} {ps : List V} {its : List (List Str × List Str)} (h : Parts K H ks ps its) (k : Kp M H H') : Parts K H' ks ps its :=
  ⟨h.l1, h.l2, fun i x kd p h1 h2 h3 => stb_K _ _ _ _ _ _ _ k (h.at_ i x kd p h1 h2 h3)⟩
def spTextBy (K : PySem.W.Frag) : Sp := fun vs H Q _ => ∃ (a : Addr) (rw : Str) (ps : List V) (word : Str) (c : Addr) (ks : List Kd), vs = [.ref a, .str word, .ref c] ∧ SqT K H a (.str rw :: ps) ∧ SqT K H c (ks.map fun k => .str (kdS k)) ∧ ps.length ≤ 10 ∧ ks.length ≤ 10 ∧ word.length ≤ 40 ∧
  (((ps.length ≠ ks.length ∨ rw ≠ word) ∧ ∀ H', Kp [] H H' → Q .non H') ∨
   (∃ its, rw = word ∧ Parts K H ks ps its ∧ ∀ H', Kp [] H H' → Q (.str (textOf word (its.flatMap (·.1)) (its.flatMap (·.2)))) H') ∨
   (∃ t b xs, rw = word ∧ ks = [.nInts] ∧ ps = [.ref t] ∧ SqT K H t (.bl b :: xs) ∧ xs.length + 1 ≤ 400 ∧ ∀ H', Kp [] H H' → Q .non H'))
theorem join_len (sep : Str) (ys : List Str) : (Txt.join sep ys).length ≤ (ys.map (·.length)).sum + ys.length * sep.length := by
  rw [show Txt.join sep ys = Str.join sep ys from eq_of_beq (PyProof.Rows.join_closes rfl)]
  induction ys with
  | nil => simp [Str.join, Str.empty, Str.length]
  | cons x r ih =>
    cases r with
    | nil => simp [Str.join]
    | cons y r =>
      have e : (Str.join sep (x :: y :: r)).length = x.length + sep.length + (Str.join sep (y :: r)).length := by
        show ((x.cps ++ sep.cps) ++ (Str.join sep (y :: r)).cps).size = _
        rw [Array.size_append, Array.size_append]
        rfl
      rw [e]
      simp only [List.map_cons, List.sum_cons, List.length_cons, Nat.add_mul, Nat.one_mul] at ih ⊢
      omega
theorem sum_le {n : Nat} : ∀ {ys : List Str}, (∀ z ∈ ys, z.length ≤ n) → (ys.map (·.length)).sum ≤ ys.length * n
  | [], _ => by simp
  | y :: r, h => by
    have h1 := h y (by simp)
    have h2 := sum_le (ys := r) fun z hz => h z (by simp [hz])
    simp only [List.map_cons, List.sum_cons, List.length_cons, Nat.add_mul, Nat.one_mul]
    omega
theorem sc_text_by : FnScope ["row", "word", "kinds", "words", "lines", "part", "kind", "deed"] ["row", "word", "kinds"] (defScope s_text_by) := ⟨rfl, rfl, rfl, by decide +kernel, rfl, by decide +kernel, by decide +kernel⟩
theorem ok_text_by (T : Txt K w mg CN CB CH) {aE aP : Addr} {esE esP : Array DictEntry} {nE nP : Nat} {T2f : Kd → Addr} (T2 : Txt2 K w mg aE aP esE esP nE nP T2f) (F : At K mg "text_by" s_text_by ["row", "word", "kinds"]) (xNN : PySem.W.exmOne K (.ref CN) (.ref CN) = some true)
    (G_put_list : Dfn P w K mg base 7 "put_list" ["thing", "most", "each", "words", "lines"] (spPuts K CN T2f)) (hDeed : ∀ f sp, SDeed K T2f f sp → Hd P w K mg base 9 f sp) : Dfn P w K mg base 11 "text_by" ["row", "word", "kinds"] (spTextBy K) := by
  refine F.ok sc_text_by (fun vs H Q E h => ?_) (fun qual f cdv A outer s H vs Q E hr h => ?_)
  · obtain ⟨a, rw, ps, word, c, ks, rfl, _⟩ := h
    rfl
  · refine ⟨_, (pss_cons (ps_if (PW.pt (pw_or (pt_cmpR op_ne (pe_callB call_len (by rfl) T.len_ (by decide +kernel) (pa_cons (pv 0) pa_nil)) (pe_op op_add pe_int (pe_callB call_len (by rfl) T.len_ (by decide +kernel) (pa_cons (pv 2) pa_nil))) (nomark _)) (pw_or1 (pt_cmpR op_ne (pe_ix ix_tup (pv 0) pe_int (fun _ _ => rfl)) (pv 1) (nomark _))))) (pss_one (ps_ret pe_non)) pss_nil)
      (pss_cons (ps_set (i := 3) sc_text_by.nd rfl (Or.inl rfl) (pe_lst (pa_cons (pv 1) pa_nil)))
      (pss_cons (ps_set (i := 4) sc_text_by.nd rfl (Or.inl rfl) (pe_lst pa_nil))
      (pss_cons (ps_tryR rfl rfl ⟨rfl, by decide, .inl T.g_NoText⟩ takes0 (fun a oe cls d pn hz hf =>
      (pss_one (ps_ret pe_non))))
      (pss_one (ps_ret (pe_join pe_str (pe_op op_cat (pe_lst (pa_cons (pe_join pe_str (pv 3)) pa_nil)) (pv 4))))))))), ?_⟩
    obtain ⟨a, rw, ps, word, c, ks, rfl, hs, hc, hp10, hk10, hw40, h⟩ := h
    walk_at "rd"
    refine ⟨_, lenV_T hs, _, lenV_T hc, ?_⟩
    rw [List.length_map, List.length_cons]
    -- words and lines are made
    have made : ∀ wp lp : Addr, H wp = none → upd H wp (.lst [V.str word]) lp = none → Kp [] H (upd (upd H wp (.lst [V.str word])) lp (.lst [])) ∧ PutA (upd (upd H wp (.lst [V.str word])) lp (.lst [])) wp lp [word] [] 44000 := by
      intro wp lp h1 h2
      have ne : wp ≠ lp := ne_of_none upd_same h2
      exact ⟨(Kp.refl.new h1).new h2, ne, by rw [upd_ne ne, upd_same]; rfl, upd_same, by simp, by simp⟩
    rcases h with ⟨hA, q⟩ | ⟨its, rfl, hP, q⟩ | ⟨t, b, xs, rfl, rfl, rfl, hT, hx, q⟩
    · by_cases e : ps.length = ks.length
      · rw [if_neg (by omega)]
        refine ixT hs at0 ?_
        walk_at "rd"
        rw [if_pos (by rcases hA with h | h; exact absurd e h; exact h)]
        exact q H Kp.refl
      · rw [if_pos (by omega)]
        exact q H Kp.refl
    · have hl1 := hP.l1
      have hl2 := hP.l2
      rw [if_neg (by omega)]
      refine ixT hs at0 ?_
      walk_at "rd"
      refine ⟨by decide, fun wp hwp => ⟨by decide, fun lp hlp => ?_⟩⟩
      obtain ⟨k2, A2⟩ := made wp lp hwp hlp
      generalize upd (upd H wp (.lst [V.str rw])) lp (.lst []) = H2 at k2 A2 ⊢
      intro WW hWW
      refine ⟨(tFor (RZ.iZipA K (tCons (tSl (relSl (X := cxOf (L2.CX P w) P w K mg base ["row", "word", "kinds", "words", "lines", "part", "kind", "deed"] qual (defScope s_text_by) f cdv A outer s H E) sl_tup) (tVar 0) (tPart (tC (.int 1))) tNoPart) (tCons (tVar 2) tNil))) (gTup K 2 (gCons (gName 5) (gCons (gName 6) gNil))) (tIfS (tTest (tOp (relO (X := cxOf (L2.CX P w) P w K mg base ["row", "word", "kinds", "words", "lines", "part", "kind", "deed"] qual (defScope s_text_by) f cdv A outer s H E) (op_in_kd T2.dE)) (tVar 6) (tC (crOf T2.PUTS_EACH)))) (tDrop (tCallS (spOf G_put_list) (WE WW) (tCons (tVar 5) (tCons (tC (ciOf T.MANY)) (tCons (tOp (relI (X := cxOf (L2.CX P w) P w K mg base ["row", "word", "kinds", "words", "lines", "part", "kind", "deed"] qual (defScope s_text_by) f cdv A outer s H E) ix_kdict) (tC (crOf T2.PUTS_EACH)) (tVar 6)) (tCons (tVar 3) (tCons (tVar 4) tNil))))))) (tSeq (tAsg (tOp (relI (X := cxOf (L2.CX P w) P w K mg base ["row", "word", "kinds", "words", "lines", "part", "kind", "deed"] qual (defScope s_text_by) f cdv A outer s H E) ix_kdict) (tC (crOf T2.PUTS)) (tVar 6)) (gName 7)) (tDrop (tCallV 7 (SDeed K T2f) (tCons (tVar 5) (tCons (tVar 3) (tCons (tVar 4) tNil)))))))), fun pn xe tk hp => (pss_one (ps_for hp rfl (RZ.pi_zipA (by rfl) T.zip_ (pa_cons (pe_slice sl_tup (pv 0) (po_some pe_int) po_none) (pa_cons (pv 2) pa_nil))) (pg_tup rfl (pgs_cons (pg_name (i := 5) sc_text_by.nd rfl (Or.inl rfl)) (pgs_cons (pg_name (i := 6) sc_text_by.nd rfl (Or.inl rfl)) pgs_nil))) (pss_one (ps_if (pt_cmpR (op_in_kd T2.dE) (pv 6) (pe_cr rfl T2.PUTS_EACH) rfl) (pss_one (ps_expr (pe_fnT G_put_list hr tk (pa_cons (pv 5) (pa_cons (pe_ci rfl T.MANY) (pa_cons (pe_ix ix_kdict (pe_cr rfl T2.PUTS_EACH) (pv 6) (fun _ _ => rfl)) (pa_cons (pv 3) (pa_cons (pv 4) pa_nil)))))))) (pss_cons (ps_set (i := 7) sc_text_by.nd rfl (Or.inl rfl) (pe_ix ix_kdict (pe_cr rfl T2.PUTS) (pv 6) (fun _ _ => rfl)))
      (pss_one (ps_expr (pe_callV (i := 7) (S := SDeed K T2f) hDeed hr rfl (Or.inl rfl) (pa_cons (pv 5) (pa_cons (pv 3) (pa_cons (pv 4) pa_nil))))))))))), ?_⟩
      have hs2 := k2.tup hs
      have hnw : ¬ (HT.sIx (V.str rw :: ps).length 0 (some 1) = 0 ∧ HT.sIx (V.str rw :: ps).length (V.str rw :: ps).length none = (V.str rw :: ps).length) := by
        have e : HT.sIx (V.str rw :: ps).length 0 (some 1) = min 1 (V.str rw :: ps).length := HT.sIx_nat _ 0 1
        rw [e]
        simp
      refine ⟨_, rfl, 1, rfl, a, _, rfl, hs2, hnw, fun p3 hp3 => ⟨_, rfl, p3, c, ps, _, rfl, .inr ⟨.inl (.inl (by simp [upd_same, cut1])), (Kp.refl.new (M := []) hp3).tup (k2.tup hc), ?_⟩⟩⟩
      have k3 : Kp [] H2 (upd H2 p3 (.tup (cutV (V.str rw :: ps) (some 1) none))) := Kp.refl.new hp3
      have hpt : SqT K (upd H2 p3 (.tup (cutV (V.str rw :: ps) (some 1) none))) p3 ps := .inl (.inl (by simp [upd_same, cut1]))
      have A3 := A2.kp k3
      have hc3 := k3.tup (k2.tup hc)
      have k23 := k2.trans k3
      generalize upd H2 p3 (.tup (cutV (V.str rw :: ps) (some 1) none)) = H3 at k3 hpt A3 hc3 k23 ⊢
      obtain ⟨Pv, hPv⟩ : ∃ Pv : Nat → L2.St → Hp → Prop, ∀ i σ H', Pv i σ H' ↔ ((∃ o5 o6 o7, σ = [some (V.ref a), some (V.str rw), some (V.ref c), some (V.ref wp), some (V.ref lp), o5, o6, o7]) ∧ Kp [wp, lp] H3 H' ∧
        PutA H' wp lp ([rw] ++ (its.take i).flatMap (·.1)) ([] ++ (its.take i).flatMap (·.2)) ((20 - i) * 2200)) := ⟨_, fun _ _ _ => Iff.rfl⟩
      refine for_it (walk_zipT (xs := ps) (ys := ks.map fun k => .str (kdS k)) rfl) Pv ?_ ?_ ?_ ?_
      · exact (hPv _ _ _).mpr ⟨⟨_, _, _, rfl⟩, Kp.refl, by simpa using A3⟩
      · intro i σ H' _ p
        obtain ⟨_, k, _⟩ := (hPv _ _ _).mp p
        exact ⟨k.tup hpt, k.tup hc3⟩
      · rintro i v σ H4 H5 hi p ⟨T', x, y, rfl, hT', rfl, hx, hy⟩
        obtain ⟨⟨o5, o6, o7, rfl⟩, k4, A4⟩ := (hPv _ _ _).mp p
        have hx : ps[i]? = some x := hx
        have hy : (ks.map fun k => V.str (kdS k))[i]? = some y := hy
        rw [List.getElem?_map, Option.map_eq_some_iff] at hy
        obtain ⟨kd, hkd, rfl⟩ := hy
        have hit : its[i]? = some its[i] := List.getElem?_eq_getElem (by have := (List.getElem?_eq_some_iff.mp hx).1; omega)
        have k5 : Kp [wp, lp] H4 (upd H4 T' (.tup [x, V.str (kdS kd)])) := Kp.refl.new hT'
        have hD := stb_K _ _ _ _ _ _ _ ((k23.nil.trans k4).trans k5) (hP.at_ i x kd _ hx hkd hit)
        obtain ⟨b1, b2, _⟩ := bnd_K _ _ _ _ _ hD
        refine ⟨T', [x, V.str (kdS kd)], rfl, .inl (.inl upd_same), rfl, x, _, rfl, _, [], rfl, rfl, ?_⟩
        have A5 : PutA (upd H4 T' (.tup [x, V.str (kdS kd)])) wp lp _ _ _ := A4.kp (Kp.refl.new hT')
        have k45 := k4.trans k5
        generalize upd H4 T' (.tup [x, V.str (kdS kd)]) = H5 at k5 hD A5 k45 ⊢
        have hm : (20 - i) * 2200 = (20 - (i + 1)) * 2200 + 2200 := by
          have : i < 10 := by have := (List.getElem?_eq_some_iff.mp hx).1; omega
          omega
        have next : ∀ H6 o5 o6 o7, Kp [wp, lp] H5 H6 → H6 wp = some (.lst (([rw] ++ (its.take i).flatMap (·.1) ++ its[i].1).map V.str)) → H6 lp = some (.lst ((([] : List Str) ++ (its.take i).flatMap (·.2) ++ its[i].2).map V.str)) →
            Pv (i + 1) [some (V.ref a), some (V.str rw), some (V.ref c), some (V.ref wp), some (V.ref lp), o5, o6, o7] H6 := by
          intro H6 o5 o6 o7 k6 w6 l6
          refine (hPv _ _ _).mpr ⟨⟨_, _, _, rfl⟩, k45.trans k6, ?_⟩
          have A6 := A5.grow (m := (20 - (i + 1)) * 2200) w6 l6 (by omega) (by omega)
          rw [flat_take hit, flat_take hit]
          simpa only [List.append_assoc] using A6
        cases hek : eachK kd with
        | true =>
          walk_at "rd"
          refine ⟨_, T2.eIn kd hek, ?_⟩
          walk_at "rd"
          refine ⟨_, T2.kE hek, ?_⟩
          exact .inl ⟨x, wp, lp, _, _, _, _, kd, hek, rfl, A5.mono (by omega), hD, fun H6 k6 w6 l6 => next H6 _ _ _ k6 w6 l6⟩
        | false =>
          walk_at "rd"
          refine ⟨_, T2.eNot kd hek, ?_⟩
          walk_at "rd"
          refine ⟨_, T2.kP hek, ?_⟩
          exact ⟨_, rfl, _, ⟨kd, hek, rfl, rfl⟩, x, wp, lp, _, _, _, _, rfl, A5.mono (by omega), hD, fun H6 k6 w6 l6 => next H6 _ _ _ k6 w6 l6⟩
      · intro σ H4 p
        obtain ⟨⟨o5, o6, o7, rfl⟩, k4, A4⟩ := (hPv _ _ _).mp p
        have en : min ps.length (ks.map fun k => V.str (kdS k)).length = its.length := by simp; omega
        rw [en, List.take_length] at A4
        have each : ∀ p ∈ its, (p.1.length ≤ 1700 ∧ p.2.length ≤ 1700 ∧ (∀ z ∈ p.1, z.length ≤ 40) ∧ ∀ z ∈ p.2, z.length ≤ 40) := by
          intro p hp
          obtain ⟨i, hi⟩ := List.mem_iff_getElem?.mp hp
          have h1 : i < ps.length := by have := (List.getElem?_eq_some_iff.mp hi).1; omega
          exact bnd_K _ _ _ _ _ (hP.at_ i ps[i] (ks[i]'(by omega)) p (List.getElem?_eq_getElem h1) (List.getElem?_eq_getElem _) hi)
        have e1 := flat_len (f := fun p : List Str × List Str => p.1) (n := 1700) (l := its) fun p hp => (each p hp).1
        have e2 := flat_len (f := fun p : List Str × List Str => p.2) (n := 1700) (l := its) fun p hp => (each p hp).2.1
        have w40 : ∀ z ∈ [rw] ++ its.flatMap (·.1), z.length ≤ 40 := by
          intro z hz
          rcases List.mem_append.mp hz with hz | hz
          · rw [List.mem_singleton] at hz
            rw [hz]
            exact hw40
          · obtain ⟨p, hp, hz⟩ := List.mem_flatMap.mp hz
            exact (each p hp).2.2.1 z hz
        have l40 : ∀ z ∈ its.flatMap (·.2), z.length ≤ 40 := by
          intro z hz
          obtain ⟨p, hp, hz⟩ := List.mem_flatMap.mp hz
          exact (each p hp).2.2.2 z hz
        have s1 := sum_le w40
        have s2 := sum_le l40
        have s3 := join_len (" " : Str) ([rw] ++ its.flatMap (·.1))
        have c1 : ([rw] ++ its.flatMap (·.1)).length ≤ 17001 := by simp at e1 ⊢; omega
        have c2 : (its.flatMap (·.2)).length ≤ 17000 := by simp at e2 ⊢; omega
        have z1 : (" " : Str).length = 1 := by rw [len_S]; decide
        have z2 : ("\n" : Str).length = 1 := by rw [len_S]; decide
        rw [z1] at s3
        walk_at "rd"
        refine ⟨_, .inl (SqL.of A4.w), by rw [z1]; omega, by decide, fun p5 hp5 => ?_⟩
        have k5 : Kp [] H4 (upd H4 p5 (.lst [V.str (Txt.join " " ([rw] ++ its.flatMap (·.1)))])) := Kp.refl.new hp5
        have A5 := A4.kp k5
        refine ⟨_, upd_same, _, A5.l, sz_of (by simp at c2 ⊢; omega), fun p6 hp6 => ?_⟩
        refine ⟨Txt.join " " ([rw] ++ its.flatMap (·.1)) :: its.flatMap (·.2), .inl (SqL.of (by simp [upd_same])), ?_, ?_⟩
        · simp only [List.map_cons, List.sum_cons, List.length_cons, z2]
          omega
        · have hlp0 : H lp = none := (Kp.refl.new (M := []) hwp).free hlp
          have k24 : Kp [] H H4 := k23.hide k4 fun m hm => by
            simp only [List.mem_cons, List.not_mem_nil, or_false] at hm
            rcases hm with rfl | rfl
            · exact .inr hwp
            · exact .inr hlp0
          exact q _ ((k24.trans k5).new hp6)
    · rw [if_neg (by simp)]
      refine ixT hs at0 ?_
      walk_at "rd"
      refine ⟨by decide, fun wp hwp => ⟨by decide, fun lp hlp => ?_⟩⟩
      obtain ⟨k2, A2⟩ := made wp lp hwp hlp
      generalize upd (upd H wp (.lst [V.str rw])) lp (.lst []) = H2 at k2 A2 ⊢
      intro WW hWW
      refine ⟨(tFor (RZ.iZipA K (tCons (tSl (relSl (X := cxOf (L2.CX P w) P w K mg base ["row", "word", "kinds", "words", "lines", "part", "kind", "deed"] qual (defScope s_text_by) f cdv A outer s H E) sl_tup) (tVar 0) (tPart (tC (.int 1))) tNoPart) (tCons (tVar 2) tNil))) (gTup K 2 (gCons (gName 5) (gCons (gName 6) gNil))) (tIfS (tTest (tOp (relO (X := cxOf (L2.CX P w) P w K mg base ["row", "word", "kinds", "words", "lines", "part", "kind", "deed"] qual (defScope s_text_by) f cdv A outer s H E) (op_in_kd T2.dE)) (tVar 6) (tC (crOf T2.PUTS_EACH)))) (tDrop (tCallS (spOf G_put_list) (WE WW) (tCons (tVar 5) (tCons (tC (ciOf T.MANY)) (tCons (tOp (relI (X := cxOf (L2.CX P w) P w K mg base ["row", "word", "kinds", "words", "lines", "part", "kind", "deed"] qual (defScope s_text_by) f cdv A outer s H E) ix_kdict) (tC (crOf T2.PUTS_EACH)) (tVar 6)) (tCons (tVar 3) (tCons (tVar 4) tNil))))))) (tSeq (tAsg (tOp (relI (X := cxOf (L2.CX P w) P w K mg base ["row", "word", "kinds", "words", "lines", "part", "kind", "deed"] qual (defScope s_text_by) f cdv A outer s H E) ix_kdict) (tC (crOf T2.PUTS)) (tVar 6)) (gName 7)) (tDrop (tCallV 7 (SDeed K T2f) (tCons (tVar 5) (tCons (tVar 3) (tCons (tVar 4) tNil)))))))), fun pn xe tk hp => (pss_one (ps_for hp rfl (RZ.pi_zipA (by rfl) T.zip_ (pa_cons (pe_slice sl_tup (pv 0) (po_some pe_int) po_none) (pa_cons (pv 2) pa_nil))) (pg_tup rfl (pgs_cons (pg_name (i := 5) sc_text_by.nd rfl (Or.inl rfl)) (pgs_cons (pg_name (i := 6) sc_text_by.nd rfl (Or.inl rfl)) pgs_nil))) (pss_one (ps_if (pt_cmpR (op_in_kd T2.dE) (pv 6) (pe_cr rfl T2.PUTS_EACH) rfl) (pss_one (ps_expr (pe_fnT G_put_list hr tk (pa_cons (pv 5) (pa_cons (pe_ci rfl T.MANY) (pa_cons (pe_ix ix_kdict (pe_cr rfl T2.PUTS_EACH) (pv 6) (fun _ _ => rfl)) (pa_cons (pv 3) (pa_cons (pv 4) pa_nil)))))))) (pss_cons (ps_set (i := 7) sc_text_by.nd rfl (Or.inl rfl) (pe_ix ix_kdict (pe_cr rfl T2.PUTS) (pv 6) (fun _ _ => rfl)))
      (pss_one (ps_expr (pe_callV (i := 7) (S := SDeed K T2f) hDeed hr rfl (Or.inl rfl) (pa_cons (pv 5) (pa_cons (pv 3) (pa_cons (pv 4) pa_nil))))))))))), ?_⟩
      have hs2 := k2.tup hs
      have hnw : ¬ (HT.sIx [V.str rw, V.ref t].length 0 (some 1) = 0 ∧ HT.sIx [V.str rw, V.ref t].length [V.str rw, V.ref t].length none = [V.str rw, V.ref t].length) := by
        have e : HT.sIx [V.str rw, V.ref t].length 0 (some 1) = min 1 [V.str rw, V.ref t].length := HT.sIx_nat _ 0 1
        rw [e]
        simp
      refine ⟨_, rfl, 1, rfl, a, _, rfl, hs2, hnw, fun p3 hp3 => ⟨_, rfl, p3, c, [V.ref t], _, rfl, .inr ⟨.inl (.inl (by simp [upd_same, cut1])), (Kp.refl.new (M := []) hp3).tup (k2.tup hc), ?_⟩⟩⟩
      have k3 : Kp [] H2 (upd H2 p3 (.tup (cutV [V.str rw, V.ref t] (some 1) none))) := Kp.refl.new hp3
      have hpt : SqT K (upd H2 p3 (.tup (cutV [V.str rw, V.ref t] (some 1) none))) p3 [V.ref t] := .inl (.inl (by simp [upd_same, cut1]))
      have A3 := A2.kp k3
      have hc3 := k3.tup (k2.tup hc)
      have k23 := k2.trans k3
      generalize upd H2 p3 (.tup (cutV [V.str rw, V.ref t] (some 1) none)) = H3 at k3 hpt A3 hc3 k23 ⊢
      obtain ⟨Pv, hPv⟩ : ∃ Pv : Nat → L2.St → Hp → Prop, ∀ i σ H', Pv i σ H' ↔ (i = 0 ∧ H' = H3 ∧ σ = [some (V.ref a), some (V.str rw), some (V.ref c), some (V.ref wp), some (V.ref lp), none, none, none]) := ⟨_, fun _ _ _ => Iff.rfl⟩
      refine for_it (walk_zipT (xs := [V.ref t]) (ys := [V.str (kdS .nInts)]) rfl) Pv ?_ ?_ ?_ ?_
      · exact (hPv _ _ _).mpr ⟨rfl, rfl, rfl⟩
      · intro i σ H' _ p
        obtain ⟨_, rfl, _⟩ := (hPv _ _ _).mp p
        exact ⟨hpt, hc3⟩
      · rintro i v σ H4 H5 hi p ⟨T', x, y, rfl, hT', rfl, hxx, hy⟩
        obtain ⟨rfl, rfl, rfl⟩ := (hPv _ _ _).mp p
        have ex : V.ref t = x := Option.some.inj hxx
        have ey : V.str (kdS .nInts) = y := Option.some.inj hy
        subst ex ey
        have k5 : Kp [] H4 (upd H4 T' (.tup [V.ref t, V.str (kdS .nInts)])) := Kp.refl.new hT'
        refine ⟨T', _, rfl, .inl (.inl upd_same), rfl, _, _, rfl, _, [], rfl, rfl, ?_⟩
        have A5 := A3.kp k5
        have k25 := k23.trans k5
        generalize upd H4 T' (.tup [V.ref t, V.str (kdS .nInts)]) = H5 at k5 A5 k25 ⊢
        walk_at "rd"
        refine ⟨_, T2.eIn .nInts rfl, ?_⟩
        walk_at "rd"
        refine ⟨_, T2.kE (k := .nInts) rfl, ?_⟩
        refine .inr ⟨t, b, xs, wp, lp, _, _, rfl, k25.tup hT, hx, A5.mono (by decide), fun H6 k6 => ?_⟩
        show WW (.ref CN) none _ H6
        rw [hWW]
        refine ⟨true, xNN, fun _ e he => ?_, fun z => by cases z⟩
        have hlp0 : H lp = none := (Kp.refl.new (M := []) hwp).free hlp
        exact q H6 (k25.hide k6 fun m hm => by
          simp only [List.mem_cons, List.not_mem_nil, or_false] at hm
          rcases hm with rfl | rfl
          · exact .inr hwp
          · exact .inr hlp0)
      · intro σ H4 p
        obtain ⟨h0, _⟩ := (hPv _ _ _).mp p
        cases h0
end
end Kq
set_option Elab.async false
set_option linter.all false
set_option maxRecDepth 100000
set_option maxHeartbeats 4000000
namespace Kq
open PySem PySem.Spec PyProof.Rows L2 Fw
local macro_rules | `(tactic| walk_at "rd") => `(tactic| try simp only [tSeq, tNext, tBreak, tCont, tDrop, tRet, tRetN, tIfS, tAsg, tVar, tC, tOp, tUn, tTest, tB, tAnd, tOr, tNot, tAndV, tOrV, tNotV, tIf, tChain, tCB, tCons, tNil, tTup, tLst, tCall, tCallS, WE,
  gName, gSub, rI, rI0, rU, rEq, rNe, rIsiC, tSl, tPart, tNoPart, rSetL, tBM, tBM0, rAppend, rExtend, rExtendT, tCallL, L2.start, List.map_cons, List.map_nil, List.length_cons, List.length_nil, Nat.sub_self, Nat.reduceAdd, Nat.reduceSub, List.replicate_zero, List.replicate_succ, List.append_nil, List.nil_append, List.cons_append,
  List.getElem?_cons_zero, List.getElem?_cons_succ, List.set_cons_zero, List.set_cons_succ, Option.some.injEq, exists_eq_left', exists_eq_left, exists_eq_right, exists_eq_right', exists_const, exists_and_left, exists_and_right, V.int.injEq, V.bl.injEq, V.str.injEq, V.ref.injEq, V.ty.injEq, List.cons.injEq, and_true, true_and, and_assoc, reduceCtorEq, false_and, and_false, exists_false, false_or, or_false,
  if_true, if_false, Bool.not_true, Bool.not_false, Bool.false_eq_true, Bool.true_eq_false, ↓reduceIte, decide_eq_true_eq, decide_true, decide_false, sc_nn, sc_ni, sc_in, sc_nb, sc_bn, sc_ns, sc_sn, sc_ii, sc_bb, sc_ss, sc_is, sc_si, sc_bs, sc_sb, ipI, Int.reduceLT, Int.reduceLE, Int.reduceEq, Nat.reduceLT, Nat.reduceEqDiff, String.reduceEq, nc0, nc1, nc2, nc3, nc4, nc5, nc6, nc7, nc8, nc9, nc10, nc11, nc12, cx_K, cx_w, wipe, lenV_str, rCat, exists_eq, exists_eq', relO, relC, relM, relI, relSl, spOf, ciOf, csOf, crOf, L2.rIxD, eq_self, not_true_eq_false, not_false_eq_true, Option.isSome_some, Option.isSome_none, tCallV, ofS_inj, sg_inj, sg_len, sg_lt, tM1, tM0, tLc_rng1, tLc_rng2, tFor_rng1, tFor_rng2, tDNewK, sDPut,  Nat.reduceLeDiff, Bool.not_eq_true', decide_eq_false_iff_not,
  isi_int_int, isi_int_bool, isi_int_str, isi_int_tuple, isi_int_list, isi_int_dict, isi_bool_int, isi_bool_bool, isi_bool_str, isi_bool_tuple, isi_bool_list, isi_bool_dict, isi_str_int, isi_str_bool, isi_str_str, isi_str_tuple, isi_str_list, isi_str_dict, isi_non_int, isi_non_bool, isi_non_str, isi_non_tuple, isi_non_list, isi_non_dict])
local macro_rules | `(tactic| walk_at "ix") => `(tactic| (refine ixT (by assumption) rfl ?_; walk_at "rd"))
local macro_rules | `(tactic| walk_at "len") => `(tactic| (refine ⟨_, lenV_T (by assumption), ?_⟩; walk_at "rd"))
local macro_rules | `(tactic| walk_at "isT") => `(tactic| (refine ⟨true, isiT (by assumption), ?_⟩; walk_at "rd"))

section
variable {P : Program} {w : World} {K : PySem.W.Frag} {mg : Str → Option Value} {base : Heap} {CN CB CH : Addr}
/-! ### the forms -/
def forms : List (Str × List Kd) := [("hello", []), ("have", [.nInts]), ("have", [.nTruths]), ("want", [.nInts, .nInt, .nLabels, .nInts, .nTruth, .nInts]), ("lack", [.nInts, .nInts]), ("row", [.nInt]), ("done", []), ("house", [.nMarks, .nInts, .nInt]),
  ("bill", [.nInts, .nInts, .nInts]), ("pack", [.nInt, .nInt]), ("row", [.nInt, .nPack])]
theorem forms_apart : ∀ i : Fin 11, ∀ j : Fin 11, i.val < j.val → (forms[i.val]!.1 ≠ forms[j.val]!.1 ∨ forms[i.val]!.2.length ≠ forms[j.val]!.2.length) ∨ (i.val = 1 ∧ j.val = 2) := by decide +kernel
theorem forms_small : ∀ i : Fin 11, forms[i.val]!.1.length ≤ 40 ∧ forms[i.val]!.2.length ≤ 10 := by decide +kernel
/-- a written tuple of the module -/
def KT (K : PySem.W.Frag) (a : Addr) (xs : List V) : Prop := ∃ (o : Obj) (its : Array Value) (n : Nat), K.lookup a = some o ∧ o.cls = .type "tuple" ∧ o.data = .seq its n ∧ its.size ≤ sizeLine ∧ Vals xs its.toList
structure Txt3 (K : PySem.W.Frag) (mg : Str → Option Value) (aF : Addr) (fs : List Addr) : Prop where
  FORMS : mg "FORMS" = some (.ref aF)
  len : fs.length = 11
  all : KT K aF (fs.map V.ref)
  at_ : ∀ (i : Nat) (f : Addr), fs[i]? = some f → ∃ c, KT K f [.str forms[i]!.1, .ref c] ∧ KT K c (forms[i]!.2.map fun k => .str (kdS k))
/-- a row of a talk, by its form -/
structure RowAt (K : PySem.W.Frag) (v : V) (H : Hp) (j : Nat) (its : List (List Str × List Str)) : Prop where
  lt : j < 11
  ex : ∃ (a : Addr) (ps : List V), v = .ref a ∧ SqT K H a (.str forms[j]!.1 :: ps) ∧ Parts K H forms[j]!.2 ps its
theorem RowAt.kp {v : V} {M : List Addr} {H H' : Hp} {j : Nat} {its : List (List Str × List Str)} (h : RowAt K v H j its) (k : Kp M H H') : RowAt K v H' j its := by
  obtain ⟨a, ps, e, hs, hp⟩ := h.ex
  exact ⟨h.lt, a, ps, e, k.tup hs, hp.kp k⟩
def rowText (j : Nat) (its : List (List Str × List Str)) : Str := textOf forms[j]!.1 (its.flatMap (·.1)) (its.flatMap (·.2))
def spTextOf (K : PySem.W.Frag) (CN : Addr) : Sp := fun vs H Q E => (∃ v j its, vs = [v] ∧ RowAt K v H j its ∧ ∀ H', Kp [] H H' → Q (.str (rowText j its)) H') ∨ (∃ a xs, vs = [.ref a] ∧ SqL K H a xs ∧ E (.ref CN) none H) ∨ (vs = [.non] ∧ E (.ref CN) none H)
theorem sc_text_of : FnScope ["row", "word", "kinds", "text"] ["row"] (defScope s_text_of) := ⟨rfl, rfl, rfl, by decide +kernel, rfl, by decide +kernel, by decide +kernel⟩
theorem ok_text_of (T : Txt K w mg CN CB CH) {aF : Addr} {fs : List Addr} (T3 : Txt3 K mg aF fs) (F : At K mg "text_of" s_text_of ["row"]) (G_text_by : Dfn P w K mg base 11 "text_by" ["row", "word", "kinds"] (spTextBy K)) : Dfn P w K mg base 12 "text_of" ["row"] (spTextOf K CN) := by
  refine F.ok sc_text_of (fun vs H Q E h => ?_) (fun qual f cdv A outer s H vs Q E hr h => ?_)
  · rcases h with ⟨v, j, its, rfl, _⟩ | ⟨a, xs, rfl, _⟩ | ⟨rfl, _⟩ <;> rfl
  · refine ⟨_, (pss_cons (ps_if (PW.pt (pw_or (pt_not (pt_val (pe_callB call_isiC (by rfl) T.isinstance_ (by decide +kernel) (pa_cons (pv 0) (pa_cons (pe_ty "tuple" rfl T.tuple_ (by decide +kernel)) pa_nil))))) (pw_or (pt_cmpR op_eq (pe_callB call_len (by rfl) T.len_ (by decide +kernel) (pa_cons (pv 0) pa_nil)) pe_int (nomark _)) (pw_or1 (pt_not (pt_val (pe_callB call_isiC (by rfl) T.isinstance_ (by decide +kernel) (pa_cons (pe_ix ix_tup (pv 0) pe_int (fun _ _ => rfl)) (pa_cons (pe_ty "str" rfl T.str_ (by decide +kernel)) pa_nil))))))))) (pss_one (ps_raise rfl (takes_of rfl rfl rfl rfl) (pmk_own0 T.e_NoText rfl))) pss_nil)
      (pss_cons (ps_for (passes_of rfl) rfl (pi_tup (pe_cr rfl T3.FORMS)) (pg_tup rfl (pgs_cons (pg_name (i := 1) sc_text_of.nd rfl (Or.inl rfl)) (pgs_cons (pg_name (i := 2) sc_text_of.nd rfl (Or.inl rfl)) pgs_nil))) (pss_cons (ps_set (i := 3) sc_text_of.nd rfl (Or.inl rfl) (pe_fn G_text_by hr (pa_cons (pv 0) (pa_cons (pv 1) (pa_cons (pv 2) pa_nil)))))
      (pss_one (ps_if (pt_cmpR op_notN (pv 3) pe_non (nomark _)) (pss_one (ps_ret (pv 3))) pss_nil))))
      (pss_one (ps_raise rfl (takes_of rfl rfl rfl rfl) (pmk_own0 T.e_NoText rfl))))), ?_⟩
    rcases h with ⟨v, j, its, rfl, hv, q⟩ | ⟨a, xs, rfl, hl, q⟩ | ⟨rfl, q⟩
    · obtain ⟨a, ps, rfl, hs, hP⟩ := hv.ex
      have hj := hv.lt
      walk_at "rd"
      walk_at "isT"
      refine ⟨_, lenV_T hs, ?_⟩
      rw [List.length_cons, if_neg (by omega)]
      refine ixT hs at0 ?_
      walk_at "rd"
      obtain ⟨Pv, hPv⟩ : ∃ Pv : Nat → L2.St → Hp → Prop, ∀ i σ H', Pv i σ H' ↔ (i ≤ j ∧ (∃ o1 o2 o3, σ = [some (V.ref a), o1, o2, o3]) ∧ Kp [] H H') := ⟨_, fun _ _ _ => Iff.rfl⟩
      refine ⟨aF, rfl, ⟨_, .inr T3.all⟩, for_tup (xs := fs.map V.ref) Pv ?_ ?_ ?_ ?_⟩
      · exact (hPv _ _ _).mpr ⟨Nat.zero_le _, ⟨_, _, _, rfl⟩, Kp.refl⟩
      · intro i σ H' _ p
        exact .inr T3.all
      · intro i x σ H' hx p
        obtain ⟨hij, ⟨o1, o2, o3, rfl⟩, k1⟩ := (hPv _ _ _).mp p
        rw [List.getElem?_map, Option.map_eq_some_iff] at hx
        obtain ⟨fa, hf, rfl⟩ := hx
        obtain ⟨c, hw, hc⟩ := T3.at_ i fa hf
        have hi : i < 11 := by omega
        obtain ⟨s1, s2⟩ := forms_small ⟨i, hi⟩
        obtain ⟨s3, s4⟩ := forms_small ⟨j, hj⟩
        have hl1 := hP.l1
        refine ⟨fa, _, rfl, .inr hw, rfl, _, _, rfl, _, [], rfl, rfl, ?_⟩
        walk_at "rd"
        have hl9 : ps.length ≤ 10 := by
          rw [← hl1]
          exact s4
        have up : ∀ o1 o2 o3 H2, i < j → Kp [] H' H2 → Pv (i + 1) [some (V.ref a), o1, o2, o3] H2 := fun o1 o2 o3 H2 l k2 => (hPv _ _ _).mpr ⟨l, ⟨_, _, _, rfl⟩, k1.trans k2⟩
        refine ⟨a, forms[j]!.1, ps, forms[i]!.1, c, forms[i]!.2, rfl, k1.tup hs, .inr hc, hl9, s2, s1, ?_⟩
        rcases Nat.lt_or_ge i j with l | l
        · rcases forms_apart ⟨i, hi⟩ ⟨j, hj⟩ l with d | ⟨rfl, rfl⟩
          · refine .inl ⟨d.elim (fun d => .inr fun e => d e.symm) (fun d => .inl ?_), fun H2 k2 => ?_⟩
            · rw [← hl1]
              exact fun e => d e.symm
            · show (if ¬V.non = V.non then _ else _)
              rw [if_neg (fun h => h rfl)]
              exact up _ _ _ H2 l k2
          · have h0 := hP.at_
            have hl2 := hP.l2
            have hlen : ps.length = 1 := hl1.symm
            obtain ⟨x, rfl⟩ : ∃ x, ps = [x] := by
              match ps, hlen with
              | [x], _ => exact ⟨x, rfl⟩
            obtain ⟨p0, rfl⟩ : ∃ p0, its = [p0] := by
              match its, hl2 with
              | [p0], _ => exact ⟨p0, rfl⟩
            obtain ⟨t, xs, it2, rfl, hts, hm, hln, hx, e1, e2⟩ := h0 0 x .nTruths p0 rfl rfl rfl
            cases xs with
            | nil =>
              have hn0 : it2 = [] := List.eq_nil_of_length_eq_zero hln
              refine .inr (.inl ⟨[p0], rfl, ⟨rfl, rfl, ?_⟩, fun H2 k2 => ?_⟩)
              · intro i2 x2 kd p2 g1 g2 g3
                cases i2 with
                | zero =>
                  cases g1
                  cases g3
                  have g4 : Kd.nInts = kd := by simpa [forms] using g2
                  subst g4
                  exact ⟨t, [], it2, rfl, k1.tup hts, by decide, hln, (fun i x p h => by cases h), e1, e2⟩
                | succ n => cases g1
              · show (if ¬V.str _ = V.non then _ else _)
                rw [if_pos (fun h => by cases h)]
                exact q H2 (k1.trans k2)
            | cons y ys =>
              have hy : (∃ b, y = .bl b) := by
                have hp0 : 0 < it2.length := by
                  rw [hln]
                  exact Nat.succ_pos _
                have hi0 : it2[0]? = some it2[0] := List.getElem?_eq_getElem hp0
                obtain ⟨b, hb, _⟩ := hx 0 y _ rfl hi0
                exact ⟨b, hb⟩
              obtain ⟨b, rfl⟩ := hy
              refine .inr (.inr ⟨t, b, ys, rfl, rfl, rfl, k1.tup hts, hm, fun H2 k2 => ?_⟩)
              show (if ¬V.non = V.non then _ else _)
              rw [if_neg (fun h => h rfl)]
              exact up _ _ _ H2 l k2
        · have e : i = j := by omega
          subst e
          refine .inr (.inl ⟨its, rfl, hP.kp k1, fun H2 k2 => ?_⟩)
          show (if ¬V.str _ = V.non then _ else _)
          rw [if_pos (fun h => by cases h)]
          exact q H2 (k1.trans k2)
      · intro σ H' p
        obtain ⟨h11, _⟩ := (hPv _ _ _).mp p
        rw [List.length_map, T3.len] at h11
        omega
    · walk_at "rd"
      refine ⟨false, isiL_ hl (by decide +kernel), ?_⟩
      walk_at "rd"
      exact q
    · walk_at "rd"
      exact q
end
end Kq
set_option Elab.async false
set_option linter.all false
set_option maxRecDepth 100000
set_option maxHeartbeats 4000000
namespace Kq
open PySem PySem.Spec PyProof.Rows L2 Fw
local macro_rules | `(tactic| walk_at "rd") => `(tactic| try simp only [tSeq, tNext, tBreak, tCont, tDrop, tRet, tRetN, tIfS, tAsg, tVar, tC, tOp, tUn, tTest, tB, tAnd, tOr, tNot, tAndV, tOrV, tNotV, tIf, tChain, tCB, tCons, tNil, tTup, tLst, tCall, tCallS, WE,
  gName, gSub, rI, rI0, rU, rEq, rNe, rIsiC, tSl, tPart, tNoPart, rSetL, tBM, tBM0, rAppend, rExtend, rExtendT, tCallL, L2.start, List.map_cons, List.map_nil, List.length_cons, List.length_nil, Nat.sub_self, Nat.reduceAdd, Nat.reduceSub, List.replicate_zero, List.replicate_succ, List.append_nil, List.nil_append, List.cons_append,
  List.getElem?_cons_zero, List.getElem?_cons_succ, List.set_cons_zero, List.set_cons_succ, Option.some.injEq, exists_eq_left', exists_eq_left, exists_eq_right, exists_eq_right', exists_const, exists_and_left, exists_and_right, V.int.injEq, V.bl.injEq, V.str.injEq, V.ref.injEq, V.ty.injEq, List.cons.injEq, and_true, true_and, and_assoc, reduceCtorEq, false_and, and_false, exists_false, false_or, or_false,
  if_true, if_false, Bool.not_true, Bool.not_false, Bool.false_eq_true, Bool.true_eq_false, ↓reduceIte, decide_eq_true_eq, decide_true, decide_false, sc_nn, sc_ni, sc_in, sc_nb, sc_bn, sc_ns, sc_sn, sc_ii, sc_bb, sc_ss, sc_is, sc_si, sc_bs, sc_sb, ipI, Int.reduceLT, Int.reduceLE, Int.reduceEq, Nat.reduceLT, Nat.reduceEqDiff, String.reduceEq, nc0, nc1, nc2, nc3, nc4, nc5, nc6, nc7, nc8, nc9, nc10, nc11, nc12, cx_K, cx_w, wipe, lenV_str, rCat, exists_eq, exists_eq', relO, relC, relM, relI, relSl, spOf, ciOf, csOf, crOf, L2.rIxD, eq_self, not_true_eq_false, not_false_eq_true, Option.isSome_some, Option.isSome_none, tCallV, ofS_inj, sg_inj, sg_len, sg_lt, tM1, tM0, tLc_rng1, tLc_rng2, tFor_rng1, tFor_rng2, tDNewK, sDPut,  Nat.reduceLeDiff, Bool.not_eq_true', decide_eq_false_iff_not,
  isi_int_int, isi_int_bool, isi_int_str, isi_int_tuple, isi_int_list, isi_int_dict, isi_bool_int, isi_bool_bool, isi_bool_str, isi_bool_tuple, isi_bool_list, isi_bool_dict, isi_str_int, isi_str_bool, isi_str_str, isi_str_tuple, isi_str_list, isi_str_dict, isi_non_int, isi_non_bool, isi_non_str, isi_non_tuple, isi_non_list, isi_non_dict])
local macro_rules | `(tactic| walk_at "ix") => `(tactic| (refine ixT (by assumption) rfl ?_; walk_at "rd"))
local macro_rules | `(tactic| walk_at "len") => `(tactic| (refine ⟨_, lenV_T (by assumption), ?_⟩; walk_at "rd"))
local macro_rules | `(tactic| walk_at "isT") => `(tactic| (refine ⟨true, isiT (by assumption), ?_⟩; walk_at "rd"))

section
variable {P : Program} {w : World} {K : PySem.W.Frag} {mg : Str → Option Value} {base : Heap} {CN CB CH : Addr}
/-! ### rules under a comprehension: the written part told outright -/
theorem call_lenK {X : Cx} (K : PySem.W.Frag) (h : X.K = K) : CallR X (.builtin "len") (fun xs H Q => ∃ x n, xs = [x] ∧ LenV K x H n ∧ Q (.int (n : Nat)) H) := by
  subst h
  exact call_len
theorem ix_tupK {X : Cx} (K : PySem.W.Frag) (h : X.K = K) : IxR X (rIxT K) := by
  subst h
  exact ix_tup
theorem ix_listK {X : Cx} (K : PySem.W.Frag) (h : X.K = K) : IxR X (rIxL K) := by
  subst h
  exact ix_list
/-! ### the deck -/
structure Dk (K : PySem.W.Frag) (H : Hp) (d c : Addr) (n : Nat) : Prop where
  ne : c ≠ d
  ex : ∃ (xs : List Int) (i t : Nat) (b : Int), H d = some (.lst [.ref c, .int i, .int b, .int t]) ∧ H c = some (.lst (xs.map V.int)) ∧ xs.length ≤ 100 ∧ i ≤ xs.length ∧ t ≤ n ∧ 0 ≤ b
theorem Dk.mono {H : Hp} {d c : Addr} {n m : Nat} (h : Dk K H d c n) (l : n ≤ m) : Dk K H d c m := by
  obtain ⟨ne, xs, i, t, b, h1, h2, h3, h4, h5, h6⟩ := h
  exact ⟨ne, xs, i, t, b, h1, h2, h3, h4, Nat.le_trans h5 l, h6⟩
theorem Dk.kp {H H' : Hp} {M : List Addr} {d c : Addr} {n : Nat} (h : Dk K H d c n) (k : Kp M H H') (hd : d ∉ M) (hc : c ∉ M) : Dk K H' d c n := by
  obtain ⟨ne, xs, i, t, b, h1, h2, r⟩ := h
  exact ⟨ne, xs, i, t, b, k.at h1 hd, k.at h2 hc, r⟩
theorem Dk.kp0 {H H' : Hp} {d c : Addr} {n : Nat} (h : Dk K H d c n) (k : Kp [] H H') : Dk K H' d c n := h.kp k (by simp) (by simp)
theorem Dk.wr {H : Hp} {d c p : Addr} {n : Nat} {o : HO} (h : Dk K H d c n) (hp : d ≠ p) (hc : c ≠ p) : Dk K (upd H p o) d c n := by
  obtain ⟨ne, xs, i, t, b, h1, h2, r⟩ := h
  exact ⟨ne, xs, i, t, b, by rw [upd_ne hp]; exact h1, by rw [upd_ne hc]; exact h2, r⟩
theorem Dk.put {H : Hp} {d c p : Addr} {n : Nat} {xs ys : List V} (h : Dk K H d c n) (e : H p = some (.lst xs)) (hp : p ≠ d) (hc : p ≠ c) : Dk K (upd H p (.lst ys)) d c n :=
  h.kp (M := [p]) (Kp.refl.put e trivial (by simp)) (by simpa using fun z => hp z.symm) (by simpa using fun z => hc z.symm)
theorem Dk.d {H : Hp} {d c p : Addr} {n : Nat} (h : Dk K H d c n) (e : H p = none) : d ≠ p ∧ c ≠ p := by
  obtain ⟨ne, xs, i, t, b, h1, h2, r⟩ := h
  exact ⟨ne_of_none h1 e, ne_of_none h2 e⟩
theorem Dk.new {H : Hp} {d c p : Addr} {n : Nat} {o : HO} (h : Dk K H d c n) (e : H p = none) : Dk K (upd H p o) d c n := h.kp0 (Kp.refl.new e)
/-- what a generator promises -/
def spG (K : PySem.W.Frag) (cost : Nat) (pre : List V) (R : V → Hp → Prop) : Sp := fun vs H Q _ => ∃ (d c : Addr) (n : Nat), vs = .ref d :: pre ∧ Dk K H d c n ∧ n + cost ≤ 900000 ∧ ∀ H' v, Kp [d] H H' → Dk K H' d c (n + cost) → R v H' → Q v H'
/-- a comprehension whose items draw -/
theorem lc_deck {J : It} {cnt j n0 cost : Nat} {G : Hp → Prop} {Y : Nat → Hp → V → Hp → Prop} {te : TE} {vs : List Nat} {σ : L2.St} {H1 : Hp} {D d c : Addr} {Qd : Hp → Prop} (w : Walk J cnt G Y) (hG : ∀ H, G H) (hY : ∀ i H x H', Y i H x H' → H' = H)
    (hD : H1 D = none) (hn : cnt ≤ 100000) (hw : ∀ x, wipe ((wipe σ vs).set j (some x)) vs = wipe σ vs) (R : V → Hp → Prop) (hR : ∀ v H H', R v H → Kp [D, d] H H' → R v H') (h0 : Dk K H1 d c n0)
    (he : ∀ i x H (Q : VK), i < cnt → Kp [d] H1 H → Dk K H d c (n0 + i * cost) → (∀ H' y, Kp [d] H H' → Dk K H' d c (n0 + i * cost + cost) → R y H' → Q y H') → te ((wipe σ vs).set j (some x)) H Q)
    (hd : ∀ H' ys, Kp [d] H1 H' → Dk K H' d c (n0 + cnt * cost) → H' D = some (.lst ys) → ys.length = cnt → (∀ y ∈ ys, R y H') → Qd H') : LcGoal J (gName j) te vs σ H1 D Qd := by
  obtain ⟨hd1, hc1⟩ := h0.d hD
  refine lcS (M := [d]) w hD (by simpa using fun z => hd1 z.symm) hn (fun i H => Dk K H d c (n0 + i * cost)) (fun _ v H => R v H) (fun _ v H H' r k => hR v H H' r k) (fun i H xs ys e s => s.put e (fun z => hd1 z.symm) (fun z => hc1 z.symm)) (by simpa using h0.new hD) (fun _ H _ _ => hG H)
    (fun i x H H' Q hi k s y q => ⟨hw x, ?_⟩) (fun _ _ _ _ _ _ _ h a => gName_mono h a) (fun H' ys k s e l r => hd H' ys k s e l fun y hy => ?_)
  · obtain rfl := hY _ _ _ _ y
    refine he i x H' Q hi k s fun H2 y2 k2 s2 r2 => q y2 H2 k2 ?_ r2
    have e : n0 + (i + 1) * cost = n0 + i * cost + cost := by rw [Nat.add_mul, Nat.one_mul]; omega
    rw [e]
    exact s2
  · obtain ⟨i, hi⟩ := List.mem_iff_getElem?.mp hy
    exact r i y hi
theorem rng_deck {cnt j n0 cost : Nat} {lo : Int} {te : TE} {vs : List Nat} {σ : L2.St} {H1 : Hp} {d c : Addr} {Q : VK} (R : V → Hp → Prop) (h0 : Dk K H1 d c n0) (hn : cnt ≤ 1000) (hw : ∀ x, wipe ((wipe σ vs).set j (some x)) vs = wipe σ vs) (hR : ∀ D v H H', H1 D = none → R v H → Kp [D, d] H H' → R v H')
    (he : ∀ i x H (Q : VK), i < cnt → Kp [d] H1 H → Dk K H d c (n0 + i * cost) → (∀ H' y, Kp [d] H H' → Dk K H' d c (n0 + i * cost + cost) → R y H' → Q y H') → te ((wipe σ vs).set j (some x)) H Q)
    (hd : ∀ H' D ys, Kp [d] H1 H' → Dk K H' d c (n0 + cnt * cost) → H' D = some (.lst ys) → ys.length = cnt → (∀ y ∈ ys, R y H') → Q (.ref D) H') : RngGoal lo cnt (gName j) te vs σ Q H1 :=
  fun D hD => lc_deck walk_range (fun _ => trivial) (fun _ _ _ _ y => y.1) hD (by omega) hw R (fun v H H' => hR D v H H' hD) h0 he fun H' ys k s e l r => hd H' D ys k s e l r
theorem join_one (cs : List Nat) : Txt.join ("" : Str) (cs.map fun c => (⟨#[c]⟩ : Str)) = ⟨cs.toArray⟩ := by
  rw [show Txt.join ("" : Str) (cs.map fun c => (⟨#[c]⟩ : Str)) = Str.join ("" : Str) (cs.map fun c => (⟨#[c]⟩ : Str)) from eq_of_beq (PyProof.Rows.join_closes rfl)]
  induction cs with
  | nil => rfl
  | cons c cs ih =>
    cases cs with
    | nil => rfl
    | cons c2 cs =>
      simp only [List.map_cons, Str.join] at ih ⊢
      rw [ih]
      show (⟨(#[c] ++ #[]) ++ (c2 :: cs).toArray⟩ : Str) = _
      simp
theorem vals_of {α : Type} (f : α → V) (R : α → Prop) : ∀ ys : List V, (∀ y ∈ ys, ∃ x, y = f x ∧ R x) → ∃ xs : List α, ys = xs.map f ∧ ∀ x ∈ xs, R x
  | [], _ => ⟨[], rfl, fun c h => by cases h⟩
  | y :: r, h => by
    obtain ⟨x, hx, hr⟩ := h y (by simp)
    obtain ⟨xs, e, hz⟩ := vals_of f R r fun y hy => h y (List.mem_cons_of_mem _ hy)
    refine ⟨x :: xs, by rw [hx, e]; rfl, fun c hc => ?_⟩
    rcases List.mem_cons.mp hc with rfl | hc
    · exact hr
    · exact hz c hc
/-- the signs that were drawn, joined -/
theorem signs_end {z : List Nat} {H' : Hp} {D : Addr} {ys : List V} {cnt : Nat} {Q : VK} (e1 : H' D = some (.lst ys)) (hl : ys.length = cnt) (hc : cnt ≤ 1000) (r : ∀ y ∈ ys, ∃ c, y = .str ⟨#[c]⟩ ∧ c ∈ z) (q : ∀ s : Str, s.length = cnt → (∀ c ∈ s.cps.toList, c ∈ z) → Q (.str s) H') :
    ∃ x, V.ref D = V.ref x ∧ ∃ xs, (SqL K H' x (List.map V.str xs) ∨ SqT K H' x (List.map V.str xs)) ∧ (List.map (fun x => x.length) xs).sum + xs.length * (Str.ofString "").length ≤ 16777216 ∧ Q (V.str (Txt.join (Str.ofString "") xs)) H' := by
  obtain ⟨cs, rfl, hz⟩ : ∃ cs : List Nat, ys = cs.map (fun c => V.str ⟨#[c]⟩) ∧ ∀ c ∈ cs, c ∈ z := by
    clear e1 hl hc
    induction ys with
    | nil => exact ⟨[], rfl, fun c h => by cases h⟩
    | cons y r ih =>
      have r2 := r y (by simp)
      obtain ⟨cs, rfl, h⟩ := ih fun y hy => r y (List.mem_cons_of_mem _ hy)
      obtain ⟨c, rfl, hc⟩ := r2
      refine ⟨c :: cs, rfl, fun c2 hc2 => ?_⟩
      rcases List.mem_cons.mp hc2 with rfl | hc2
      · exact hc
      · exact h c2 hc2
  rw [List.length_map] at hl
  refine ⟨D, rfl, cs.map fun c => ⟨#[c]⟩, .inl (.inl (.inl (by rw [e1, List.map_map]; rfl))), ?_, ?_⟩
  · have e0 : (Str.ofString "").length = 0 := rfl
    have e2 : (List.map (fun x : Str => x.length) (cs.map fun c => (⟨#[c]⟩ : Str))).sum = cs.length := by
      clear e1 hl hz r
      induction cs with
      | nil => rfl
      | cons c r ih =>
        rw [List.map_cons, List.map_cons, List.sum_cons, ih, sg_len, List.length_cons]
        omega
    rw [e0, e2]
    omega
  · rw [join_one]
    exact q _ (by show cs.toArray.size = _; simp [hl]) (by simpa using hz)
theorem sc_l_deck : FnScope ["_law_script"] ["_law_script"] (defScope s_l_deck) := ⟨rfl, rfl, rfl, by decide +kernel, rfl, by decide +kernel, by decide +kernel⟩
theorem sc_l_mixed : FnScope ["_law_cell", "_law_turn"] ["_law_cell", "_law_turn"] (defScope s_l_mixed) := ⟨rfl, rfl, rfl, by decide +kernel, rfl, by decide +kernel, by decide +kernel⟩
theorem sc_l_draw : FnScope ["_law_deck_here", "_law_many", "_law_cells", "_law_found", "_law_number"] ["_law_deck_here", "_law_many"] (defScope s_l_draw) := ⟨rfl, rfl, rfl, by decide +kernel, rfl, by decide +kernel, by decide +kernel⟩
def spDeck (K : PySem.W.Frag) : Sp := fun vs H Q _ => ∃ (a : Addr) (xs : List Int), vs = [.ref a] ∧ SqL K H a (xs.map V.int) ∧ xs.length ≤ 100 ∧ ∀ H' d c, Kp [] H H' → Dk K H' d c 0 → H d = none → H c = none → Q (.ref d) H'
theorem ok_deck (T : Txt K w mg CN CB CH) (F : At K mg "_law_deck" s_l_deck ["_law_script"]) : Dfn P w K mg base 1 "_law_deck" ["_law_script"] (spDeck K) := by
  refine F.ok sc_l_deck (fun vs H Q E h => ?_) (fun qual f cdv A outer s H vs Q E hr h => ?_)
  · obtain ⟨a, xs, rfl, _⟩ := h
    rfl
  · refine ⟨_, (pss_one (ps_ret (pe_lst (pa_cons (pe_callTy call_list_of (by rfl) T.list_ (by decide +kernel) (pa_cons (pv 0) pa_nil)) (pa_cons pe_int (pa_cons pe_int (pa_cons pe_int pa_nil))))))), ?_⟩
    obtain ⟨a, xs, rfl, hs, hl, q⟩ := h
    walk_at "rd"
    refine ⟨_, .inl hs, fun c hc => ⟨by decide, fun d hd => ?_⟩⟩
    have ne : c ≠ d := ne_of_none upd_same hd
    exact q _ d c ((Kp.refl.new hc).new hd) ⟨ne, xs, 0, 0, 0, upd_same, by rw [upd_ne ne, upd_same], hl, Nat.zero_le _, Nat.le_refl _, Int.le_refl _⟩ ((Kp.refl.new (M := []) hc).free hd) hc
def spMixed : Sp := fun vs H Q _ => ∃ (i t : Int), vs = [.int i, .int t] ∧ 0 ≤ t ∧ t ≤ 1000001 ∧ ∀ r : Int, 0 ≤ r → r < 2147483647 → Q (.int r) H
theorem ok_mixed (T : Txt K w mg CN CB CH) (F : At K mg "_law_mixed" s_l_mixed ["_law_cell", "_law_turn"]) : Dfn P w K mg base 1 "_law_mixed" ["_law_cell", "_law_turn"] spMixed := by
  refine F.ok sc_l_mixed (fun vs H Q E h => ?_) (fun qual f cdv A outer s H vs Q E hr h => ?_)
  · obtain ⟨i, t, rfl, _⟩ := h
    rfl
  · refine ⟨_, (pss_one (ps_ret (pe_op op_mod (pe_op op_pow (pe_op op_add (pe_op op_add (pe_op op_mod (pv 0) pe_int) (pe_op op_mul (pv 1) pe_int)) pe_int) pe_int) pe_int))), ?_⟩
    obtain ⟨i, t, rfl, h0, ht, q⟩ := h
    walk_at "rd"
    have l1 : 0 ≤ i % 2147483629 := Int.emod_nonneg _ (by decide)
    have l2 : i % 2147483629 < 2147483629 := Int.emod_lt_of_pos _ (by decide)
    refine ⟨.inr ⟨by decide, by decide⟩, ⟨by decide, by decide, by omega⟩, q _ (Int.emod_nonneg _ (by decide)) (Int.emod_lt_of_pos _ (by decide))⟩
theorem Dk.set {H H1 : Hp} {d c : Addr} {xs ys cs : List V} (k : Kp [d] H H1) (h1 : H1 d = some (.lst xs)) (h2 : H1 c = some (.lst cs)) (ne : c ≠ d) : Kp [d] H (upd H1 d (.lst ys)) ∧ (upd H1 d (.lst ys)) c = some (.lst cs) ∧ (upd H1 d (.lst ys)) d = some (.lst ys) := by
  have k1 : Kp [d] H1 (upd H1 d (.lst ys)) := Kp.refl.put h1 trivial (by simp)
  exact ⟨k.trans k1, k1.at h2 (by simpa using ne), upd_same⟩
theorem at_ints {xs : List Int} {i : Int} (h0 : 0 ≤ i) (h1 : i < xs.length) : ∃ z : Int, atI (xs.map V.int) i = some (.int z) := by
  have h2 : i.toNat < xs.length := by omega
  refine ⟨xs[i.toNat], ?_⟩
  have e : i = ((i.toNat : Nat) : Int) := by omega
  have h := atI_nat (xs := xs.map V.int) (j := i.toNat) (v := .int xs[i.toNat]) (by simp [h2])
  rwa [← e] at h
theorem div_ok {m : Int} (hm : 0 < m) (hm2 : m ≤ 10 ^ 100) (i : Int) : CDivW i m := by
  refine wide_div (b := 400) hm ?_ (by decide) (by decide)
  have e : (10 : Int) ^ 100 < 2 ^ 400 := by decide +kernel
  omega
theorem okR_of {z : Str} (h1 : z.length ≤ 40) (h2 : ∀ c ∈ z.cps.toList, okG c = true) : okR z = true := by
  simp only [okR, Bool.and_eq_true, decide_eq_true_eq]
  exact ⟨h1, List.all_eq_true.mpr h2⟩
theorem okL_of {z : Str} (h0 : 1 ≤ z.length) (h1 : z.length ≤ 8) (h2 : ∀ c ∈ z.cps.toList, okC c = true) : okL z = true := by
  simp only [okL, Bool.and_eq_true, decide_eq_true_eq]
  exact ⟨⟨h0, h1⟩, List.all_eq_true.mpr h2⟩
local macro_rules | `(tactic| walk_at "d") => `(tactic| (refine ixL (.inl (.inl (by assumption))) rfl ?_; walk_at "rd"))
def spDraw (K : PySem.W.Frag) : Sp := fun vs H Q _ => ∃ (d c : Addr) (n : Nat) (m : Int), vs = [.ref d, .int m] ∧ Dk K H d c n ∧ n < 1000000 ∧ 0 < m ∧ m ≤ 10 ^ 100 ∧ ∀ H' (r : Int), Kp [d] H H' → Dk K H' d c (n + 1) → 0 ≤ r → r < m → Q (.int r) H'
/-- a draw of a known deck -/
theorem spDraw_mk {H : Hp} {d c : Addr} {n : Nat} {m : Int} {Q : VK} {E : XK} (hd : Dk K H d c n) (hn : n < 1000000) (hm : 0 < m) (hm2 : m ≤ 10 ^ 100) (q : ∀ H' (r : Int), Kp [d] H H' → Dk K H' d c (n + 1) → 0 ≤ r → r < m → Q (.int r) H') : spDraw K [V.ref d, .int m] H Q E := ⟨d, c, n, m, rfl, hd, hn, hm, hm2, q⟩
/-- a generator's call of a known deck -/
theorem spG_mk {cost : Nat} {pre : List V} {R : V → Hp → Prop} {H : Hp} {d c : Addr} {n : Nat} {Q : VK} {E : XK} (hd : Dk K H d c n) (hn : n + cost ≤ 900000) (q : ∀ H' v, Kp [d] H H' → Dk K H' d c (n + cost) → R v H' → Q v H') : spG K cost pre R (.ref d :: pre) H Q E := ⟨d, c, n, rfl, hd, hn, q⟩
theorem ok_draw (T : Txt K w mg CN CB CH) (F : At K mg "_law_draw" s_l_draw ["_law_deck_here", "_law_many"]) (G_l_mixed : Dfn P w K mg base 1 "_law_mixed" ["_law_cell", "_law_turn"] spMixed) : Dfn P w K mg base 2 "_law_draw" ["_law_deck_here", "_law_many"] (spDraw K) := by
  refine F.ok sc_l_draw (fun vs H Q E h => ?_) (fun qual f cdv A outer s H vs Q E hr h => ?_)
  · obtain ⟨d, c, n, m, rfl, _⟩ := h
    rfl
  · refine ⟨_, (pss_cons (ps_set (i := 2) sc_l_draw.nd rfl (Or.inl rfl) (pe_ix ix_list (pv 0) pe_int (fun _ _ => rfl)))
      (pss_cons (ps_asg (pe_op op_add (pe_ix ix_list (pv 0) pe_int (fun _ _ => rfl)) pe_int) (pg_sub (pv 0) pe_int set_list))
      (pss_cons (ps_if (PW.pt (pw_and (pt_cmpR op_eq (pe_ix ix_list (pv 0) pe_int (fun _ _ => rfl)) pe_int (nomark _)) (pw_and1 (pt_cmpR op_lt (pe_ix ix_list (pv 0) pe_int (fun _ _ => rfl)) (pe_callB call_len (by rfl) T.len_ (by decide +kernel) (pa_cons (pv 2) pa_nil)) (nomark _))))) (pss_cons (ps_asg (pe_op op_add (pe_ix ix_list (pv 0) pe_int (fun _ _ => rfl)) pe_int) (pg_sub (pv 0) pe_int set_list))
      (pss_cons (ps_if (pt_cmpR op_lt (pe_ix ix_list (pv 2) (pe_op op_sub (pe_ix ix_list (pv 0) pe_int (fun _ _ => rfl)) pe_int) (fun _ _ => rfl)) (pe_op op_pow pe_int pe_int) (nomark _)) (pss_one (ps_ret (pe_op op_mod (pe_fn G_l_mixed hr (pa_cons (pe_ix ix_list (pv 2) (pe_op op_sub (pe_ix ix_list (pv 0) pe_int (fun _ _ => rfl)) pe_int) (fun _ _ => rfl)) (pa_cons (pe_ix ix_list (pv 0) pe_int (fun _ _ => rfl)) pa_nil))) (pv 1)))) pss_nil)
      (pss_one (ps_asg (pe_ix ix_list (pv 2) (pe_op op_sub (pe_ix ix_list (pv 0) pe_int (fun _ _ => rfl)) pe_int) (fun _ _ => rfl)) (pg_sub (pv 0) pe_int set_list))))) pss_nil)
      (pss_cons (ps_if (pt_cmpR op_gt (pe_ix ix_list (pv 0) pe_int (fun _ _ => rfl)) pe_int (nomark _)) (pss_cons (ps_set (i := 3) sc_l_draw.nd rfl (Or.inl rfl) (pe_op op_mod (pe_ix ix_list (pv 0) pe_int (fun _ _ => rfl)) (pv 1)))
      (pss_cons (ps_asg (pe_op op_fdivW (pe_ix ix_list (pv 0) pe_int (fun _ _ => rfl)) (pv 1)) (pg_sub (pv 0) pe_int set_list))
      (pss_one (ps_ret (pv 3))))) pss_nil)
      (pss_cons (ps_set (i := 4) sc_l_draw.nd rfl (Or.inl rfl) (pe_op op_mul (pe_ix ix_list (pv 0) pe_int (fun _ _ => rfl)) pe_int))
      (pss_cons (ps_if (pt_cmpR op_gt (pe_callB call_len (by rfl) T.len_ (by decide +kernel) (pa_cons (pv 2) pa_nil)) pe_int (nomark _)) (pss_one (ps_set (i := 4) sc_l_draw.nd rfl (Or.inl rfl) (pe_op op_add (pv 4) (pe_op op_mod (pe_ix ix_list (pv 2) (pe_op op_mod (pe_op op_mul (pe_ix ix_list (pv 0) pe_int (fun _ _ => rfl)) pe_int) (pe_callB call_len (by rfl) T.len_ (by decide +kernel) (pa_cons (pv 2) pa_nil))) (fun _ _ => rfl)) pe_int)))) pss_nil)
      (pss_one (ps_ret (pe_op op_mod (pe_fn G_l_mixed hr (pa_cons (pv 4) (pa_cons (pe_ix ix_list (pv 0) pe_int (fun _ _ => rfl)) pa_nil))) (pv 1)))))))))), ?_⟩
    obtain ⟨d, c, n, m, rfl, ⟨ne, xs, i, t, b, h1, h2, h3, h4, h5, h6⟩, hn, hm, hm2, q⟩ := h
    have done : ∀ (H2 : Hp) (i2 t2 : Nat) (b2 r : Int), Kp [d] H H2 → H2 d = some (.lst [.ref c, .int i2, .int b2, .int t2]) → H2 c = some (.lst (xs.map V.int)) → i2 ≤ xs.length → t2 ≤ n + 1 → 0 ≤ b2 → Q (.int (r % m)) H2 := fun H2 i2 t2 b2 r k e1 e2 e3 e4 e5 =>
      q H2 _ k ⟨ne, xs, i2, t2, b2, e1, e2, h3, e3, e4, e5⟩ (Int.emod_nonneg _ (by omega)) (Int.emod_lt_of_pos _ hm)
    walk_at "rd"
    walk_at "d"
    walk_at "d"
    refine ⟨_, h1, 3, rfl, ?_⟩
    obtain ⟨k2, c2, hD⟩ := Dk.set (ys := [V.ref c, V.int i, V.int b, V.int (t + 1)]) Kp.refl h1 h2 ne
    walk_at "rd"
    generalize upd H d (.lst [V.ref c, V.int i, V.int b, V.int (t + 1)]) = H2 at k2 c2 hD ⊢
    walk_at "d"
    have mixed : ∀ (H3 : Hp) (i3 : Nat), Kp [d] H H3 → H3 d = some (.lst [.ref c, .int i3, .int 0, .int (t + 1)]) → H3 c = some (.lst (xs.map V.int)) → i3 ≤ xs.length → ∀ r : Int, spMixed [.int r, .int (t + 1)] H3 (fun x H1 => ∃ i, x = V.int i ∧ 0 < m ∧ Q (V.int (i % m)) H1) E0 :=
      fun H3 i3 k e1 e2 e3 r => ⟨r, _, rfl, by omega, by omega, fun z z0 z1 => ⟨z, rfl, hm, done H3 i3 (t + 1) 0 z k e1 e2 e3 (by omega) (by decide)⟩⟩
    by_cases hb : b = 0
    · subst hb
      rw [if_pos rfl]
      walk_at "d"
      refine ⟨_, lenV_L (SqL.of c2), ?_⟩
      rw [List.length_map]
      by_cases hi : i < xs.length
      · rw [if_pos (by omega)]
        walk_at "d"
        refine ⟨_, hD, 1, rfl, ?_⟩
        obtain ⟨k3, c3, hD3⟩ := Dk.set (ys := [V.ref c, V.int ((i + 1 : Nat) : Int), V.int 0, V.int (t + 1)]) k2 hD c2 ne
        have e1 : ((i : Int) + 1) = ((i + 1 : Nat) : Int) := rfl
        rw [e1]
        walk_at "rd"
        generalize upd H2 d (.lst [V.ref c, V.int ((i + 1 : Nat) : Int), V.int 0, V.int (t + 1)]) = H3 at k3 c3 hD3 ⊢
        walk_at "d"
        obtain ⟨z, hz⟩ := at_ints (xs := xs) (i := ((i + 1 : Nat) : Int) - 1) (by omega) (by omega)
        refine ixL (SqL.of c3) hz ?_
        walk_at "rd"
        refine ⟨⟨by decide, by decide, by decide⟩, ?_⟩
        by_cases hz1 : z < 10 ^ 18
        · rw [if_pos (by exact hz1)]
          walk_at "d"
          refine ixL (SqL.of c3) hz ?_
          walk_at "d"
          exact mixed H3 (i + 1) k3 hD3 c3 hi z
        · rw [if_neg (by exact hz1)]
          walk_at "d"
          refine ixL (SqL.of c3) hz ?_
          walk_at "rd"
          refine ⟨_, hD3, 2, rfl, ?_⟩
          obtain ⟨k4, c4, hD4⟩ := Dk.set (ys := [V.ref c, V.int ((i + 1 : Nat) : Int), V.int z, V.int (t + 1)]) k3 hD3 c3 ne
          walk_at "rd"
          generalize upd H3 d (.lst [V.ref c, V.int ((i + 1 : Nat) : Int), V.int z, V.int (t + 1)]) = H4 at k4 c4 hD4 ⊢
          have hz0 : 0 < z := by omega
          walk_at "d"
          rw [if_pos hz0]
          walk_at "d"
          refine ⟨hm, ?_⟩
          walk_at "d"
          refine ⟨div_ok hm hm2 _, _, hD4, 2, rfl, ?_⟩
          obtain ⟨k5, c5, hD5⟩ := Dk.set (ys := [V.ref c, V.int ((i + 1 : Nat) : Int), V.int (z / m), V.int (t + 1)]) k4 hD4 c4 ne
          exact done _ (i + 1) (t + 1) _ z k5 hD5 c5 hi (by omega) (Int.ediv_nonneg (by omega) (by omega))
      · rw [if_neg (by omega)]
        walk_at "d"
        walk_at "d"
        refine ⟨.inr ⟨by decide, by decide⟩, _, lenV_L (SqL.of c2), ?_⟩
        rw [List.length_map]
        by_cases hx : 0 < xs.length
        · rw [if_pos (by omega)]
          walk_at "d"
          refine ⟨.inr ⟨by decide, by decide⟩, _, lenV_L (SqL.of c2), ?_⟩
          rw [List.length_map]
          obtain ⟨z, hz⟩ := at_ints (xs := xs) (i := (((t : Int) + 1) * 7) % (xs.length : Int)) (Int.emod_nonneg _ (by omega)) (Int.emod_lt_of_pos _ (by omega))
          refine ⟨by omega, ixL (SqL.of c2) hz ?_⟩
          walk_at "rd"
          walk_at "d"
          exact mixed H2 i k2 hD c2 h4 _
        · rw [if_neg (by omega)]
          walk_at "d"
          exact mixed H2 i k2 hD c2 h4 _
    · rw [if_neg hb]
      walk_at "d"
      rw [if_pos (by omega)]
      walk_at "d"
      refine ⟨hm, ?_⟩
      walk_at "d"
      refine ⟨div_ok hm hm2 _, _, hD, 2, rfl, ?_⟩
      obtain ⟨k5, c5, hD5⟩ := Dk.set (ys := [V.ref c, V.int i, V.int (b / m), V.int (t + 1)]) k2 hD c2 ne
      exact done _ i (t + 1) _ b k5 hD5 c5 h4 (by omega) (Int.ediv_nonneg h6 (by omega))
end
end Kq
set_option Elab.async false
set_option linter.all false
set_option maxRecDepth 100000
set_option maxHeartbeats 4000000
namespace Kq
open PySem PySem.Spec PyProof.Rows L2 Fw
local macro_rules | `(tactic| walk_at "rd") => `(tactic| try simp only [tSeq, tNext, tBreak, tCont, tDrop, tRet, tRetN, tIfS, tAsg, tVar, tC, tOp, tUn, tTest, tB, tAnd, tOr, tNot, tAndV, tOrV, tNotV, tIf, tChain, tCB, tCons, tNil, tTup, tLst, tCall, tCallS, WE,
  gName, gSub, rI, rI0, rU, rEq, rNe, rIsiC, tSl, tPart, tNoPart, rSetL, tBM, tBM0, rAppend, rExtend, rExtendT, tCallL, L2.start, List.map_cons, List.map_nil, List.length_cons, List.length_nil, Nat.sub_self, Nat.reduceAdd, Nat.reduceSub, List.replicate_zero, List.replicate_succ, List.append_nil, List.nil_append, List.cons_append,
  List.getElem?_cons_zero, List.getElem?_cons_succ, List.set_cons_zero, List.set_cons_succ, Option.some.injEq, exists_eq_left', exists_eq_left, exists_eq_right, exists_eq_right', exists_const, exists_and_left, exists_and_right, V.int.injEq, V.bl.injEq, V.str.injEq, V.ref.injEq, V.ty.injEq, List.cons.injEq, and_true, true_and, and_assoc, reduceCtorEq, false_and, and_false, exists_false, false_or, or_false,
  if_true, if_false, Bool.not_true, Bool.not_false, Bool.false_eq_true, Bool.true_eq_false, ↓reduceIte, decide_eq_true_eq, decide_true, decide_false, sc_nn, sc_ni, sc_in, sc_nb, sc_bn, sc_ns, sc_sn, sc_ii, sc_bb, sc_ss, sc_is, sc_si, sc_bs, sc_sb, ipI, Int.reduceLT, Int.reduceLE, Int.reduceEq, Nat.reduceLT, Nat.reduceEqDiff, String.reduceEq, nc0, nc1, nc2, nc3, nc4, nc5, nc6, nc7, nc8, nc9, nc10, nc11, nc12, cx_K, cx_w, wipe, lenV_str, rCat, exists_eq, exists_eq', relO, relC, relM, relI, relSl, spOf, ciOf, csOf, crOf, L2.rIxD, eq_self, not_true_eq_false, not_false_eq_true, Option.isSome_some, Option.isSome_none, tCallV, ofS_inj, sg_inj, sg_len, sg_lt, tM1, tM0, tLc_rng1, tLc_rng2, tFor_rng1, tFor_rng2, tDNewK, sDPut,  Nat.reduceLeDiff, Bool.not_eq_true', decide_eq_false_iff_not,
  isi_int_int, isi_int_bool, isi_int_str, isi_int_tuple, isi_int_list, isi_int_dict, isi_bool_int, isi_bool_bool, isi_bool_str, isi_bool_tuple, isi_bool_list, isi_bool_dict, isi_str_int, isi_str_bool, isi_str_str, isi_str_tuple, isi_str_list, isi_str_dict, isi_non_int, isi_non_bool, isi_non_str, isi_non_tuple, isi_non_list, isi_non_dict])
local macro_rules | `(tactic| walk_at "ix") => `(tactic| (refine ixT (by assumption) rfl ?_; walk_at "rd"))
local macro_rules | `(tactic| walk_at "len") => `(tactic| (refine ⟨_, lenV_T (by assumption), ?_⟩; walk_at "rd"))
local macro_rules | `(tactic| walk_at "isT") => `(tactic| (refine ⟨true, isiT (by assumption), ?_⟩; walk_at "rd"))

section
variable {P : Program} {w : World} {K : PySem.W.Frag} {mg : Str → Option Value} {base : Heap} {CN CB CH : Addr}
/-! ### generators -/
theorem sc_l_text : FnScope ["_law_deck_here", "_law_size", "_law_signs", "_law_k"] ["_law_deck_here", "_law_size"] (defScope s_l_text) := ⟨rfl, rfl, rfl, by decide +kernel, rfl, by decide +kernel, by decide +kernel⟩
theorem sc_l_label : FnScope ["_law_deck_here", "_law_letters", "_law_k"] ["_law_deck_here"] (defScope s_l_label) := ⟨rfl, rfl, rfl, by decide +kernel, rfl, by decide +kernel, by decide +kernel⟩
theorem sc_l_int : FnScope ["_law_deck_here", "_law_turn"] ["_law_deck_here"] (defScope s_l_int) := ⟨rfl, rfl, rfl, by decide +kernel, rfl, by decide +kernel, by decide +kernel⟩
theorem sc_l_ints : FnScope ["_law_deck_here", "_law_k"] ["_law_deck_here"] (defScope s_l_ints) := ⟨rfl, rfl, rfl, by decide +kernel, rfl, by decide +kernel, by decide +kernel⟩
theorem at_is {xs : List V} {i : Int} {v : V} (j : Nat) (h : i = (j : Int) ∧ xs[j]? = some v := by exact ⟨rfl, rfl⟩) : atI xs i = some v := by
  obtain ⟨rfl, h⟩ := h
  exact atI_nat h
theorem sign_of {z : Str} {r : Int} (h0 : 0 ≤ r) (h1 : r < (z.length : Nat)) : ∃ c, atI z.cps.toList r = some c ∧ c ∈ z.cps.toList := by
  have h2 : r.toNat < z.cps.toList.length := by
    show r.toNat < z.cps.size
    have e : z.length = z.cps.size := rfl
    omega
  have e : r = ((r.toNat : Nat) : Int) := by omega
  have h3 := atI_nat (List.getElem?_eq_getElem h2)
  rw [← e] at h3
  exact ⟨_, h3, List.getElem_mem h2⟩
def RText (n : Int) : V → Hp → Prop := fun v _ => ∃ z : Str, v = .str z ∧ okR z = true ∧ (z.length : Int) ≤ n
def spText (K : PySem.W.Frag) : Sp := fun vs H Q E => ∃ n : Int, 0 ≤ n ∧ n ≤ 6 ∧ spG K 8 [.int n] (RText n) vs H Q E
theorem ok_text (T : Txt K w mg CN CB CH) (F : At K mg "_law_text" s_l_text ["_law_deck_here", "_law_size"]) (G_l_draw : Dfn P w K mg base 2 "_law_draw" ["_law_deck_here", "_law_many"] (spDraw K)) : Dfn P w K mg base 3 "_law_text" ["_law_deck_here", "_law_size"] (spText K) := by
  refine F.ok sc_l_text (fun vs H Q E h => ?_) (fun qual f cdv A outer s H vs Q E hr h => ?_)
  · obtain ⟨n, _, _, d, c, n0, rfl, _⟩ := h
    rfl
  · refine ⟨_, (pss_cons (ps_set (i := 2) sc_l_text.nd rfl (Or.inr rfl) pe_str)
      (pss_cons (ps_if (pt_cmpR op_eq (pe_fn G_l_draw hr (pa_cons (pv 0) (pa_cons pe_int pa_nil))) pe_int (nomark _)) (pss_one (ps_set (i := 2) sc_l_text.nd rfl (Or.inr rfl) pe_str)) pss_nil)
      (pss_one (ps_ret (pe_join pe_str (pe_lc (own := [("_law_k", 3)]) (g := gName 3) (tt := tYes) rfl sc_l_text.nd (pi_range1 rfl T.range_ (pa_cons (pe_fn G_l_draw hr (pa_cons (pv 0) (pa_cons (pe_op op_add (pv 1) pe_int) pa_nil))) pa_nil)) (blkOk_by (N := ["_law_deck_here", "_law_size", "_law_signs", "_law_k"]) (sc := defScope s_l_text) (by decide +kernel)) (fun _ _ _ _ _ => pg_name (i := 3) sc_l_text.nd rfl (Or.inl rfl)) (fun _ _ _ _ _ => pts_nil) (fun _ _ _ _ _ => (pe_ix ix_str (pv 2) (pe_fn G_l_draw hr (pa_cons (pv 0) (pa_cons (pe_callB (call_lenK K rfl) (by rfl) T.len_ (show bootBuiltins "len" = some (.builtin "len") by decide +kernel) (pa_cons (pv 2) pa_nil)) pa_nil))) (fun _ _ => rfl))))))))), ?_⟩
    obtain ⟨n, l1, l2, d, c, n0, rfl, hd, hn, q⟩ := h
    walk_at "rd"
    have fin : ∀ (z : Str) (H1 : Hp), 1 ≤ z.length → z.length ≤ 100 → (∀ c ∈ z.cps.toList, okG c = true) → Kp [d] H H1 → Dk K H1 d c (n0 + 1) →
        spDraw K [V.ref d, V.int (n + 1)] H1 (fun x H1 => ∃ i, x = V.int i ∧ -2 ^ 62 ≤ i ∧ i < 2 ^ 62 ∧ RngGoal 0 i.toNat (gName 3) (tOp rIxS (tVar 2) (tCall (spDraw K) [] E0 (tCons (tVar 0) (tCons (tCB (fun xs H Q => ∃ x, xs = [x] ∧ ∃ x_1, LenV K x H x_1 ∧ Q (V.int ↑x_1) H) (tCons (tVar 2) tNil)) tNil)))) [3] [some (V.ref d), some (V.int n), some (V.str z), none]
          (fun y H2 => ∃ x, y = V.ref x ∧ ∃ x_1, (SqL K H2 x (List.map V.str x_1) ∨ SqT K H2 x (List.map V.str x_1)) ∧ (List.map (fun x => x.length) x_1).sum + x_1.length * (Str.ofString "").length ≤ 16777216 ∧ Q (V.str (Txt.join (Str.ofString "") x_1)) H2) H1) E0 := by
      intro z H1 z1 z2 z3 k1 hd1
      refine spDraw_mk hd1 (by omega) (by omega) (by omega) fun H2 i k2 hd2 i0 i1 => ⟨i, rfl, by omega, by omega, ?_⟩
      refine rng_deck (cost := 1) (fun v _ => ∃ c, v = .str ⟨#[c]⟩ ∧ c ∈ z.cps.toList) hd2 (by omega) (fun _ => rfl) (fun _ _ _ _ _ r _ => r) (fun i2 x H3 Q3 hi k3 hd3 q3 => ?_) (fun H3 D ys k3 hd3 e1 e2 r => ?_)
      · walk_at "rd"
        refine ⟨sz_of (by omega), ?_⟩
        refine spDraw_mk hd3 (by omega) (by omega) (by omega) fun H4 r k4 hd4 r0 r1 => ?_
        obtain ⟨c2, hc2, hc3⟩ := sign_of r0 r1
        exact ixS (sz_of (by omega)) hc2 (q3 H4 _ k4 hd4 ⟨c2, rfl, hc3⟩)
      · refine signs_end e1 e2 (by omega) r fun s hs1 hs2 => q H3 _ ((k1.trans k2).trans k3) (hd3.mono (by omega)) ⟨s, rfl, okR_of (by omega) (fun c hc => z3 c (hs2 c hc)), by omega⟩
    refine spDraw_mk hd (by omega) (by decide) (by decide) fun H1 r k1 hd1 r0 r1 => ?_
    walk_at "rd"
    by_cases hr0 : r = 0
    · rw [if_pos hr0]
      exact fin _ H1 (by decide +kernel) (by decide +kernel) (by decide +kernel) k1 hd1
    · rw [if_neg hr0]
      exact fin _ H1 (by decide +kernel) (by decide +kernel) (by decide +kernel) k1 hd1
theorem ok_int (T : Txt K w mg CN CB CH) (F : At K mg "_law_int" s_l_int ["_law_deck_here"]) (G_l_draw : Dfn P w K mg base 2 "_law_draw" ["_law_deck_here", "_law_many"] (spDraw K)) : Dfn P w K mg base 3 "_law_int" ["_law_deck_here"] (spG K 2 [] (fun v _ => ∃ i, v = .int i ∧ okI i = true)) := by
  refine F.ok sc_l_int (fun vs H Q E h => ?_) (fun qual f cdv A outer s H vs Q E hr h => ?_)
  · obtain ⟨d, c, n0, rfl, _⟩ := h
    rfl
  · refine ⟨_, (pss_cons (ps_set (i := 1) sc_l_int.nd rfl (Or.inl rfl) (pe_fn G_l_draw hr (pa_cons (pv 0) (pa_cons pe_int pa_nil))))
      (pss_cons (ps_if (pt_cmpR op_eq (pv 1) pe_int (nomark _)) (pss_one (ps_ret (pe_op op_sub (pe_op op_pow pe_int pe_int) (pe_fn G_l_draw hr (pa_cons (pv 0) (pa_cons pe_int pa_nil)))))) pss_nil)
      (pss_one (ps_ret (pe_fn G_l_draw hr (pa_cons (pv 0) (pa_cons (pe_ix ix_list (pe_lst (pa_cons pe_int (pa_cons pe_int (pa_cons pe_int (pa_cons (pe_op op_add (pe_op op_pow pe_int pe_int) pe_int) pa_nil))))) (pe_op op_sub (pv 1) pe_int) (fun _ _ => rfl)) pa_nil))))))), ?_⟩
    obtain ⟨d, c, n0, rfl, hd, hn, q⟩ := h
    walk_at "rd"
    have e18 : (10 : Int) ^ Int.toNat 18 = 10 ^ 18 := rfl
    refine spDraw_mk hd (by omega) (by decide) (by decide) fun H1 r k1 hd1 r0 r1 => ?_
    walk_at "rd"
    by_cases hr0 : r = 0
    · rw [if_pos hr0]
      refine ⟨⟨by decide, by decide, by decide⟩, spDraw_mk hd1 (by omega) (by decide) (by decide) fun H2 r2 k2 hd2 r20 r21 => ⟨_, rfl, ?_⟩⟩
      rw [e18]
      refine q _ _ (k1.trans k2) hd2 ⟨_, rfl, ?_⟩
      simp only [okI, Bool.and_eq_true, decide_eq_true_eq]
      omega
    · rw [if_neg hr0]
      refine ⟨⟨by decide, by decide, by decide⟩, by decide, fun p hp => ?_⟩
      rw [e18]
      have k2 : Kp [d] H1 (upd H1 p (.lst [V.int 2, V.int 10, V.int 400, V.int (10 ^ 18 + 1)])) := Kp.refl.new hp
      have hd2 := hd1.new (o := .lst [V.int 2, V.int 10, V.int 400, V.int (10 ^ 18 + 1)]) hp
      have hs : SqL K (upd H1 p (.lst [V.int 2, V.int 10, V.int 400, V.int (10 ^ 18 + 1)])) p [V.int 2, V.int 10, V.int 400, V.int (10 ^ 18 + 1)] := SqL.of upd_same
      generalize upd H1 p (.lst [V.int 2, V.int 10, V.int 400, V.int (10 ^ 18 + 1)]) = H2 at k2 hd2 hs ⊢
      have fin : ∀ m : Int, 0 < m → m ≤ 10 ^ 18 + 1 → spDraw K [V.ref d, .int m] H2 Q E0 := fun m m0 m1 => spDraw_mk hd2 (by omega) m0 (by omega) fun H3 r3 k3 hd3 r30 r31 => q _ _ ((k1.trans k2).trans k3) hd3 ⟨_, rfl, by
        simp only [okI, Bool.and_eq_true, decide_eq_true_eq]
        omega⟩
      have h4 : r = 1 ∨ r = 2 ∨ r = 3 ∨ r = 4 := by omega
      rcases h4 with rfl | rfl | rfl | rfl
      · exact ixL hs (at_is 0) (fin _ (by decide) (by decide))
      · exact ixL hs (at_is 1) (fin _ (by decide) (by decide))
      · exact ixL hs (at_is 2) (fin _ (by decide) (by decide))
      · exact ixL hs (at_is 3) (fin _ (by decide) (by decide))
end
end Kq
set_option Elab.async false
set_option linter.all false
set_option maxRecDepth 100000
set_option maxHeartbeats 4000000
namespace Kq
open PySem PySem.Spec PyProof.Rows L2 Fw
local macro_rules | `(tactic| walk_at "rd") => `(tactic| try simp only [tSeq, tNext, tBreak, tCont, tDrop, tRet, tRetN, tIfS, tAsg, tVar, tC, tOp, tUn, tTest, tB, tAnd, tOr, tNot, tAndV, tOrV, tNotV, tIf, tChain, tCB, tCons, tNil, tTup, tLst, tCall, tCallS, WE,
  gName, gSub, rI, rI0, rU, rEq, rNe, rIsiC, tSl, tPart, tNoPart, rSetL, tBM, tBM0, rAppend, rExtend, rExtendT, tCallL, L2.start, List.map_cons, List.map_nil, List.length_cons, List.length_nil, Nat.sub_self, Nat.reduceAdd, Nat.reduceSub, List.replicate_zero, List.replicate_succ, List.append_nil, List.nil_append, List.cons_append,
  List.getElem?_cons_zero, List.getElem?_cons_succ, List.set_cons_zero, List.set_cons_succ, Option.some.injEq, exists_eq_left', exists_eq_left, exists_eq_right, exists_eq_right', exists_const, exists_and_left, exists_and_right, V.int.injEq, V.bl.injEq, V.str.injEq, V.ref.injEq, V.ty.injEq, List.cons.injEq, and_true, true_and, and_assoc, reduceCtorEq, false_and, and_false, exists_false, false_or, or_false,
  if_true, if_false, Bool.not_true, Bool.not_false, Bool.false_eq_true, Bool.true_eq_false, ↓reduceIte, decide_eq_true_eq, decide_true, decide_false, sc_nn, sc_ni, sc_in, sc_nb, sc_bn, sc_ns, sc_sn, sc_ii, sc_bb, sc_ss, sc_is, sc_si, sc_bs, sc_sb, ipI, Int.reduceLT, Int.reduceLE, Int.reduceEq, Nat.reduceLT, Nat.reduceEqDiff, String.reduceEq, nc0, nc1, nc2, nc3, nc4, nc5, nc6, nc7, nc8, nc9, nc10, nc11, nc12, cx_K, cx_w, wipe, lenV_str, rCat, exists_eq, exists_eq', relO, relC, relM, relI, relSl, spOf, ciOf, csOf, crOf, L2.rIxD, eq_self, not_true_eq_false, not_false_eq_true, Option.isSome_some, Option.isSome_none, tCallV, ofS_inj, sg_inj, sg_len, sg_lt, tM1, tM0, tLc_rng1, tLc_rng2, tFor_rng1, tFor_rng2, tDNewK, sDPut,  Nat.reduceLeDiff, Bool.not_eq_true', decide_eq_false_iff_not,
  isi_int_int, isi_int_bool, isi_int_str, isi_int_tuple, isi_int_list, isi_int_dict, isi_bool_int, isi_bool_bool, isi_bool_str, isi_bool_tuple, isi_bool_list, isi_bool_dict, isi_str_int, isi_str_bool, isi_str_str, isi_str_tuple, isi_str_list, isi_str_dict, isi_non_int, isi_non_bool, isi_non_str, isi_non_tuple, isi_non_list, isi_non_dict])
local macro_rules | `(tactic| walk_at "ix") => `(tactic| (refine ixT (by assumption) rfl ?_; walk_at "rd"))
local macro_rules | `(tactic| walk_at "len") => `(tactic| (refine ⟨_, lenV_T (by assumption), ?_⟩; walk_at "rd"))
local macro_rules | `(tactic| walk_at "isT") => `(tactic| (refine ⟨true, isiT (by assumption), ?_⟩; walk_at "rd"))

section
variable {P : Program} {w : World} {K : PySem.W.Frag} {mg : Str → Option Value} {base : Heap} {CN CB CH : Addr}
def RLabel : V → Hp → Prop := fun v _ => ∃ z, v = .str z ∧ okL z = true
def RInt : V → Hp → Prop := fun v _ => ∃ i, v = .int i ∧ okI i = true
def RInts (K : PySem.W.Frag) : V → Hp → Prop := fun v H => ∃ (a : Addr) (is : List Int), v = .ref a ∧ SqT K H a (is.map V.int) ∧ is.length ≤ 4 ∧ ∀ i ∈ is, okI i = true
/-- a made list is handed on as a tuple -/
theorem tup_end {H : Hp} {D : Addr} {ys : List V} {Q : VK} (e : H D = some (.lst ys)) (q : ∀ l, H l = none → Q (.ref l) (upd H l (.tup ys))) :
    ∃ p, V.ref D = V.ref p ∧ ∃ zs, (SqL K H p zs ∧ ∀ l, H l = none → Q (.ref l) (upd H l (.tup zs))) ∨ (SqT K H p zs ∧ Q (.ref p) H) := ⟨D, rfl, ys, .inl ⟨SqL.of e, q⟩⟩
theorem okL_one {c : Nat} (h : okC c = true) : okL ⟨#[c]⟩ = true := by
  refine okL_of (Nat.le_refl 1) (by show 1 ≤ 8; decide) fun c2 hc => ?_
  have e : c2 = c := by simpa using hc
  rw [e]
  exact h
theorem ok_label (T : Txt K w mg CN CB CH) (F : At K mg "_law_label" s_l_label ["_law_deck_here"]) (G_l_draw : Dfn P w K mg base 2 "_law_draw" ["_law_deck_here", "_law_many"] (spDraw K)) : Dfn P w K mg base 3 "_law_label" ["_law_deck_here"] (spG K 10 [] RLabel) := by
  refine F.ok sc_l_label (fun vs H Q E h => ?_) (fun qual f cdv A outer s H vs Q E hr h => ?_)
  · obtain ⟨d, c, n0, rfl, _⟩ := h
    rfl
  · refine ⟨_, (pss_cons (ps_if (pt_cmpR op_gt (pe_fn G_l_draw hr (pa_cons (pv 0) (pa_cons pe_int pa_nil))) pe_int (nomark _)) (pss_one (ps_ret (pe_ix ix_str pe_str (pe_fn G_l_draw hr (pa_cons (pv 0) (pa_cons pe_int pa_nil))) (fun _ _ => rfl)))) pss_nil)
      (pss_cons (ps_set (i := 1) sc_l_label.nd rfl (Or.inr rfl) pe_str)
      (pss_one (ps_ret (pe_join pe_str (pe_lc (own := [("_law_k", 2)]) (g := gName 2) (tt := tYes) rfl sc_l_label.nd (pi_range1 rfl T.range_ (pa_cons (pe_op op_add pe_int (pe_fn G_l_draw hr (pa_cons (pv 0) (pa_cons pe_int pa_nil)))) pa_nil)) (blkOk_by (N := ["_law_deck_here", "_law_letters", "_law_k"]) (sc := defScope s_l_label) (by decide +kernel)) (fun _ _ _ _ _ => pg_name (i := 2) sc_l_label.nd rfl (Or.inl rfl)) (fun _ _ _ _ _ => pts_nil) (fun _ _ _ _ _ => (pe_ix ix_str (pv 1) (pe_fn G_l_draw hr (pa_cons (pv 0) (pa_cons pe_int pa_nil))) (fun _ _ => rfl))))))))), ?_⟩
    obtain ⟨d, c, n0, rfl, hd, hn, q⟩ := h
    walk_at "rd"
    refine spDraw_mk hd (by omega) (by decide) (by decide) fun H1 r k1 hd1 r0 r1 => ?_
    walk_at "rd"
    by_cases hr0 : 0 < r
    · rw [if_pos hr0]
      refine spDraw_mk hd1 (by omega) (by decide) (by decide) fun H2 r2 k2 hd2 r20 r21 => ?_
      obtain ⟨c2, hc2, hc3⟩ := sign_of (z := "abcd") r20 (by have : ("abcd" : Str).length = 4 := by decide +kernel
                                                             omega)
      refine ixS (by decide +kernel) hc2 (q H2 _ (k1.trans k2) (hd2.mono (by omega)) ⟨_, rfl, okL_one ((by decide +kernel : ∀ c ∈ ("abcd" : Str).cps.toList, okC c = true) c2 hc3)⟩)
    · rw [if_neg hr0]
      refine spDraw_mk hd1 (by omega) (by decide) (by decide) fun H2 i k2 hd2 i0 i1 => ?_
      walk_at "rd"
      refine ⟨by omega, by omega, ?_⟩
      refine rng_deck (cost := 1) (fun v _ => ∃ c, v = .str ⟨#[c]⟩ ∧ c ∈ (sNum).cps.toList) hd2 (by omega) (fun _ => rfl) (fun _ _ _ _ _ r _ => r) (fun i2 x H3 Q3 hi k3 hd3 q3 => ?_) (fun H3 D ys k3 hd3 e1 e2 r => ?_)
      · walk_at "rd"
        refine spDraw_mk hd3 (by omega) (by decide) (by decide) fun H4 r k4 hd4 r0 r1 => ?_
        obtain ⟨c2, hc2, hc3⟩ := sign_of (z := sNum) r0 (by have : sNum.length = 26 := by decide +kernel
                                                            omega)
        exact ixS (by decide +kernel) hc2 (q3 H4 _ k4 hd4 ⟨c2, rfl, hc3⟩)
      · refine signs_end e1 e2 (by omega) r fun s hs1 hs2 => q H3 _ ((k1.trans k2).trans k3) (hd3.mono (by omega)) ⟨s, rfl, okL_of (by omega) (by omega) (fun c hc => ?_)⟩
        simp only [okC, decide_eq_true_eq]
        exact hs2 c hc
theorem ok_ints (T : Txt K w mg CN CB CH) (F : At K mg "_law_ints" s_l_ints ["_law_deck_here"]) (G_l_draw : Dfn P w K mg base 2 "_law_draw" ["_law_deck_here", "_law_many"] (spDraw K)) (G_l_int : Dfn P w K mg base 3 "_law_int" ["_law_deck_here"] (spG K 2 [] RInt)) : Dfn P w K mg base 4 "_law_ints" ["_law_deck_here"] (spG K 9 [] (RInts K)) := by
  refine F.ok sc_l_ints (fun vs H Q E h => ?_) (fun qual f cdv A outer s H vs Q E hr h => ?_)
  · obtain ⟨d, c, n0, rfl, _⟩ := h
    rfl
  · refine ⟨_, (pss_one (ps_ret (pe_callTy call_tuple_of (by rfl) T.tuple_ (by decide +kernel) (pa_cons (pe_lc (own := [("_law_k", 1)]) (g := gName 1) (tt := tYes) rfl sc_l_ints.nd (pi_range1 rfl T.range_ (pa_cons (pe_fn G_l_draw hr (pa_cons (pv 0) (pa_cons pe_int pa_nil))) pa_nil)) (blkOk_by (N := ["_law_deck_here", "_law_k"]) (sc := defScope s_l_ints) (by decide +kernel)) (fun _ _ _ _ _ => pg_name (i := 1) sc_l_ints.nd rfl (Or.inl rfl)) (fun _ _ _ _ _ => pts_nil) (fun _ _ _ _ _ => (pe_fn G_l_int hr (pa_cons (pv 0) pa_nil)))) pa_nil)))), ?_⟩
    obtain ⟨d, c, n0, rfl, hd, hn, q⟩ := h
    walk_at "rd"
    refine spDraw_mk hd (by omega) (by decide) (by decide) fun H1 r k1 hd1 r0 r1 => ?_
    refine ⟨_, rfl, by omega, by omega, ?_⟩
    refine rng_deck (cost := 2) (fun v _ => ∃ i, v = .int i ∧ okI i = true) hd1 (by omega) (fun _ => rfl) (fun _ _ _ _ _ r _ => r) (fun i2 x H3 Q3 hi k3 hd3 q3 => ?_) (fun H3 D ys k3 hd3 e1 e2 r => ?_)
    · walk_at "rd"
      exact spG_mk hd3 (by omega) q3
    · refine tup_end e1 fun l hl => ?_
      obtain ⟨is, rfl, hz⟩ := vals_of V.int (fun i => okI i = true) ys r
      rw [List.length_map] at e2
      exact q _ _ ((k1.trans k3).new hl) ((hd3.new hl).mono (by omega)) ⟨l, is, rfl, .inl (.inl upd_same), by omega, hz⟩
end
end Kq
set_option Elab.async false
set_option linter.all false
set_option maxRecDepth 100000
set_option maxHeartbeats 4000000
namespace Kq
open PySem PySem.Spec PyProof.Rows L2 Fw
local macro_rules | `(tactic| walk_at "rd") => `(tactic| try simp only [tSeq, tNext, tBreak, tCont, tDrop, tRet, tRetN, tIfS, tAsg, tVar, tC, tOp, tUn, tTest, tB, tAnd, tOr, tNot, tAndV, tOrV, tNotV, tIf, tChain, tCB, tCons, tNil, tTup, tLst, tCall, tCallS, WE,
  gName, gSub, rI, rI0, rU, rEq, rNe, rIsiC, tSl, tPart, tNoPart, rSetL, tBM, tBM0, rAppend, rExtend, rExtendT, tCallL, L2.start, List.map_cons, List.map_nil, List.length_cons, List.length_nil, Nat.sub_self, Nat.reduceAdd, Nat.reduceSub, List.replicate_zero, List.replicate_succ, List.append_nil, List.nil_append, List.cons_append,
  List.getElem?_cons_zero, List.getElem?_cons_succ, List.set_cons_zero, List.set_cons_succ, Option.some.injEq, exists_eq_left', exists_eq_left, exists_eq_right, exists_eq_right', exists_const, exists_and_left, exists_and_right, V.int.injEq, V.bl.injEq, V.str.injEq, V.ref.injEq, V.ty.injEq, List.cons.injEq, and_true, true_and, and_assoc, reduceCtorEq, false_and, and_false, exists_false, false_or, or_false,
  if_true, if_false, Bool.not_true, Bool.not_false, Bool.false_eq_true, Bool.true_eq_false, ↓reduceIte, decide_eq_true_eq, decide_true, decide_false, sc_nn, sc_ni, sc_in, sc_nb, sc_bn, sc_ns, sc_sn, sc_ii, sc_bb, sc_ss, sc_is, sc_si, sc_bs, sc_sb, ipI, Int.reduceLT, Int.reduceLE, Int.reduceEq, Nat.reduceLT, Nat.reduceEqDiff, String.reduceEq, nc0, nc1, nc2, nc3, nc4, nc5, nc6, nc7, nc8, nc9, nc10, nc11, nc12, cx_K, cx_w, wipe, lenV_str, rCat, exists_eq, exists_eq', relO, relC, relM, relI, relSl, spOf, ciOf, csOf, crOf, L2.rIxD, eq_self, not_true_eq_false, not_false_eq_true, Option.isSome_some, Option.isSome_none, tCallV, ofS_inj, sg_inj, sg_len, sg_lt, tM1, tM0, tLc_rng1, tLc_rng2, tFor_rng1, tFor_rng2, tDNewK, sDPut,  Nat.reduceLeDiff, Bool.not_eq_true', decide_eq_false_iff_not,
  isi_int_int, isi_int_bool, isi_int_str, isi_int_tuple, isi_int_list, isi_int_dict, isi_bool_int, isi_bool_bool, isi_bool_str, isi_bool_tuple, isi_bool_list, isi_bool_dict, isi_str_int, isi_str_bool, isi_str_str, isi_str_tuple, isi_str_list, isi_str_dict, isi_non_int, isi_non_bool, isi_non_str, isi_non_tuple, isi_non_list, isi_non_dict])
local macro_rules | `(tactic| walk_at "ix") => `(tactic| (refine ixT (by assumption) rfl ?_; walk_at "rd"))
local macro_rules | `(tactic| walk_at "len") => `(tactic| (refine ⟨_, lenV_T (by assumption), ?_⟩; walk_at "rd"))
local macro_rules | `(tactic| walk_at "isT") => `(tactic| (refine ⟨true, isiT (by assumption), ?_⟩; walk_at "rd"))

section
variable {P : Program} {w : World} {K : PySem.W.Frag} {mg : Str → Option Value} {base : Heap} {CN CB CH : Addr}
theorem sc_l_leaf_rows : FnScope ["_law_deck_here", "_law_low", "_law_k"] ["_law_deck_here", "_law_low"] (defScope s_l_leaf_rows) := ⟨rfl, rfl, rfl, by decide +kernel, rfl, by decide +kernel, by decide +kernel⟩
theorem sc_l_marks : FnScope ["_law_deck_here", "_law_k"] ["_law_deck_here"] (defScope s_l_marks) := ⟨rfl, rfl, rfl, by decide +kernel, rfl, by decide +kernel, by decide +kernel⟩
def RLeaf (K : PySem.W.Frag) (low : Int) : V → Hp → Prop := fun v H => ∃ zs, IsRs K v H zs ∧ low ≤ (zs.length : Nat)
def RMarks (K : PySem.W.Frag) : V → Hp → Prop := fun v H => ∃ nw nl, IsL K (IsPr K) 400 v H nw nl
theorem isL_of {D : Wr} {H : Hp} {a : Addr} {ys : List V} {n : Nat} (hs : SqT K H a ys) (hl : ys.length ≤ n) (h : ∀ y ∈ ys, ∃ nw nl, D y H nw nl) : ∃ nw nl, IsL K D n (.ref a) H nw nl := by
  obtain ⟨its, e1, e2⟩ : ∃ its : List (List Str × List Str), its.length = ys.length ∧ ∀ (i : Nat) (x : V) (p : List Str × List Str), ys[i]? = some x → its[i]? = some p → D x H p.1 p.2 := by
    clear hs hl
    induction ys with
    | nil => exact ⟨[], rfl, fun i x p h => by simp at h⟩
    | cons y r ih =>
      obtain ⟨its, e1, e2⟩ := ih fun y hy => h y (List.mem_cons_of_mem _ hy)
      obtain ⟨nw, nl, hy⟩ := h y (by simp)
      refine ⟨(nw, nl) :: its, by simp [e1], fun i x p h1 h2 => ?_⟩
      cases i with
      | zero =>
        cases h1
        cases h2
        exact hy
      | succ i => exact e2 i x p h1 h2
  exact ⟨_, _, a, ys, its, rfl, hs, hl, e1, e2, rfl, rfl⟩
theorem signs_end2 {z : List Nat} {H' : Hp} {D : Addr} {ys : List V} {cnt : Nat} {Z : Str → Prop} (e1 : H' D = some (.lst ys)) (hl : ys.length = cnt) (hc : cnt ≤ 1000) (r : ∀ y ∈ ys, ∃ c, y = .str ⟨#[c]⟩ ∧ c ∈ z) (q : ∀ s : Str, s.length = cnt → (∀ c ∈ s.cps.toList, c ∈ z) → Z s) :
    ∃ x, V.ref D = V.ref x ∧ ∃ xs, (SqL K H' x (List.map V.str xs) ∨ SqT K H' x (List.map V.str xs)) ∧ (List.map (fun x => x.length) xs).sum + xs.length * (Str.ofString "").length ≤ 16777216 ∧ Z (Txt.join (Str.ofString "") xs) := by
  obtain ⟨x, e, xs, h1, h2, z, e3, h3⟩ := signs_end (K := K) (Q := fun v _ => ∃ z, v = .str z ∧ Z z) e1 hl hc r fun s h1 h2 => ⟨s, rfl, q s h1 h2⟩
  cases e3
  exact ⟨x, e, xs, h1, h2, h3⟩
def spLeaf (K : PySem.W.Frag) : Sp := fun vs H Q E => ∃ n : Int, 0 ≤ n ∧ n ≤ 1 ∧ spG K 330 [.int n] (RLeaf K n) vs H Q E
theorem ok_leaf (T : Txt K w mg CN CB CH) (F : At K mg "_law_leaf_rows" s_l_leaf_rows ["_law_deck_here", "_law_low"]) (G_l_draw : Dfn P w K mg base 2 "_law_draw" ["_law_deck_here", "_law_many"] (spDraw K)) (G_l_text : Dfn P w K mg base 3 "_law_text" ["_law_deck_here", "_law_size"] (spText K)) : Dfn P w K mg base 4 "_law_leaf_rows" ["_law_deck_here", "_law_low"] (spLeaf K) := by
  refine F.ok sc_l_leaf_rows (fun vs H Q E h => ?_) (fun qual f cdv A outer s H vs Q E hr h => ?_)
  · obtain ⟨n, _, _, d, c, n0, rfl, _⟩ := h
    rfl
  · refine ⟨_, (pss_cons (ps_if (pt_cmpR op_eq (pe_fn G_l_draw hr (pa_cons (pv 0) (pa_cons pe_int pa_nil))) pe_int (nomark _)) (pss_one (ps_ret (pe_callTy call_tuple_of (by rfl) T.tuple_ (by decide +kernel) (pa_cons (pe_lc (own := [("_law_k", 2)]) (g := gName 2) (tt := tYes) rfl sc_l_leaf_rows.nd (pi_range1 rfl T.range_ (pa_cons (pe_op op_add pe_int (pe_fn G_l_draw hr (pa_cons (pv 0) (pa_cons pe_int pa_nil)))) pa_nil)) (blkOk_by (N := ["_law_deck_here", "_law_low", "_law_k"]) (sc := defScope s_l_leaf_rows) (by decide +kernel)) (fun _ _ _ _ _ => pg_name (i := 2) sc_l_leaf_rows.nd rfl (Or.inl rfl)) (fun _ _ _ _ _ => pts_nil) (fun _ _ _ _ _ => (pe_fn G_l_text hr (pa_cons (pv 0) (pa_cons pe_int pa_nil))))) pa_nil)))) pss_nil)
      (pss_cons (ps_if (pt_cmpR op_eq (pe_fn G_l_draw hr (pa_cons (pv 0) (pa_cons pe_int pa_nil))) pe_int (nomark _)) (pss_one (ps_ret (pe_tup (pa_cons (pe_fn G_l_text hr (pa_cons (pv 0) (pa_cons pe_int pa_nil))) (pa_cons (pe_join pe_str (pe_lc (own := [("_law_k", 2)]) (g := gName 2) (tt := tYes) rfl sc_l_leaf_rows.nd (pi_range1 rfl T.range_ (pa_cons (pe_op op_add pe_int (pe_fn G_l_draw hr (pa_cons (pv 0) (pa_cons pe_int pa_nil)))) pa_nil)) (blkOk_by (N := ["_law_deck_here", "_law_low", "_law_k"]) (sc := defScope s_l_leaf_rows) (by decide +kernel)) (fun _ _ _ _ _ => pg_name (i := 2) sc_l_leaf_rows.nd rfl (Or.inl rfl)) (fun _ _ _ _ _ => pts_nil) (fun _ _ _ _ _ => (pe_ix ix_str pe_str (pe_fn G_l_draw hr (pa_cons (pv 0) (pa_cons pe_int pa_nil))) (fun _ _ => rfl))))) pa_nil))))) pss_nil)
      (pss_one (ps_ret (pe_callTy call_tuple_of (by rfl) T.tuple_ (by decide +kernel) (pa_cons (pe_lc (own := [("_law_k", 2)]) (g := gName 2) (tt := tYes) rfl sc_l_leaf_rows.nd (pi_range1 rfl T.range_ (pa_cons (pe_op op_add (pv 1) (pe_fn G_l_draw hr (pa_cons (pv 0) (pa_cons pe_int pa_nil)))) pa_nil)) (blkOk_by (N := ["_law_deck_here", "_law_low", "_law_k"]) (sc := defScope s_l_leaf_rows) (by decide +kernel)) (fun _ _ _ _ _ => pg_name (i := 2) sc_l_leaf_rows.nd rfl (Or.inl rfl)) (fun _ _ _ _ _ => pts_nil) (fun _ _ _ _ _ => (pe_fn G_l_text hr (pa_cons (pv 0) (pa_cons pe_int pa_nil))))) pa_nil)))))), ?_⟩
    obtain ⟨n, l1, l2, d, c, n0, rfl, hd, hn, q⟩ := h
    walk_at "rd"
    have rows : ∀ (m cnt : Int) (n1 : Nat) (H1 : Hp), 0 ≤ m → m ≤ 6 → 0 ≤ cnt → cnt ≤ 40 → n ≤ cnt → n1 + cnt.toNat * 8 ≤ n0 + 330 → Kp [d] H H1 → Dk K H1 d c n1 →
        RngGoal 0 cnt.toNat (gName 2) (tCall (spText K) [] E0 (tCons (tVar 0) (tCons (tC (V.int m)) tNil))) [2] [some (V.ref d), some (V.int n), none]
          (fun x H1 => ∃ p, x = V.ref p ∧ ∃ x, (SqL K H1 p x ∧ ∀ (l : Addr), H1 l = none → Q (V.ref l) (upd H1 l (HO.tup x))) ∨ SqT K H1 p x ∧ Q (V.ref p) H1) H1 := by
      intro m cnt n1 H1 m0 m1 c0 c1 c2 hn1 k1 hd1
      refine rng_deck (cost := 8) (fun v _ => ∃ z, v = .str z ∧ okR z = true) hd1 (by omega) (fun _ => rfl) (fun _ _ _ _ _ r _ => r) (fun i2 x H3 Q3 hi k3 hd3 q3 => ?_) (fun H3 D ys k3 hd3 e1 e2 r => ?_)
      · walk_at "rd"
        have : i2 * 8 + 8 ≤ cnt.toNat * 8 := by omega
        exact ⟨m, m0, m1, spG_mk hd3 (by omega) fun H4 v k4 hd4 ⟨z, e, hz, _⟩ => q3 H4 v k4 hd4 ⟨z, e, hz⟩⟩
      · refine tup_end e1 fun l hl => ?_
        obtain ⟨zs, rfl, hz⟩ := vals_of V.str (fun z => okR z = true) ys r
        rw [List.length_map] at e2
        exact q _ _ ((k1.trans k3).new hl) ((hd3.new hl).mono (by omega)) ⟨zs, ⟨l, rfl, .inl (.inl upd_same), by omega, hz⟩, by omega⟩
    refine spDraw_mk hd (by omega) (by decide) (by decide) fun H1 r1 k1 hd1 r10 r11 => ?_
    walk_at "rd"
    by_cases h1 : r1 = 1
    · rw [if_pos h1]
      refine spDraw_mk hd1 (by omega) (by decide) (by decide) fun H2 r2 k2 hd2 r20 r21 => ?_
      refine ⟨_, rfl, by omega, by omega, rows 2 (38 + r2) _ _ (by decide) (by decide) (by omega) (by omega) (by omega) (by omega) (k1.trans k2) hd2⟩
    · rw [if_neg h1]
      refine spDraw_mk hd1 (by omega) (by decide) (by decide) fun H2 r2 k2 hd2 r20 r21 => ?_
      walk_at "rd"
      by_cases h2 : r2 = 1
      · rw [if_pos h2]
        refine ⟨2, by decide, by decide, spG_mk hd2 (by omega) fun H3 v k3 hd3 ⟨z, e, hz, hz2⟩ => ?_⟩
        subst e
        refine spDraw_mk hd3 (by omega) (by decide) (by decide) fun H4 r4 k4 hd4 r40 r41 => ?_
        refine ⟨_, rfl, by omega, by omega, ?_⟩
        refine rng_deck (cost := 1) (fun v _ => ∃ c, v = .str ⟨#[c]⟩ ∧ c ∈ ("a b~" : Str).cps.toList) hd4 (by omega) (fun _ => rfl) (fun _ _ _ _ _ r _ => r) (fun i2 x H5 Q3 hi k5 hd5 q3 => ?_) (fun H5 D ys k5 hd5 e1 e2 r => ?_)
        · walk_at "rd"
          refine spDraw_mk hd5 (by omega) (by decide) (by decide) fun H6 r6 k6 hd6 r60 r61 => ?_
          obtain ⟨c2, hc2, hc3⟩ := sign_of (z := "a b~") r60 (by have : ("a b~" : Str).length = 4 := by decide +kernel
                                                                 omega)
          exact ixS (by decide +kernel) hc2 (q3 H6 _ k6 hd6 ⟨c2, rfl, hc3⟩)
        · refine signs_end2 (Z := fun s => 2 ≤ sizeLine ∧ ∀ p, H5 p = none → Q (V.ref p) (upd H5 p (.tup [V.str z, V.str s]))) e1 e2 (by omega) r fun s hs1 hs2 => ⟨by decide, fun p hp => ?_⟩
          refine q _ _ ((((k1.trans k2).trans k3).trans (k4.trans k5)).new hp) ((hd5.new hp).mono (by omega)) ⟨[z, s], ⟨p, rfl, .inl (.inl upd_same), by simp, ?_⟩, by simp; omega⟩
          intro y hy
          rcases List.mem_cons.mp hy with rfl | hy
          · exact hz
          · obtain rfl := List.mem_singleton.mp hy
            exact okR_of (by omega) fun c hc => (by decide +kernel : ∀ c ∈ ("a b~" : Str).cps.toList, okG c = true) c (hs2 c hc)
      · rw [if_neg h2]
        refine spDraw_mk hd2 (by omega) (by decide) (by decide) fun H3 r3 k3 hd3 r30 r31 => ?_
        refine ⟨_, rfl, by omega, by omega, rows 6 (n + r3) _ _ (by decide) (by decide) (by omega) (by omega) (by omega) (by omega) ((k1.trans k2).trans k3) hd3⟩
theorem ok_marks (T : Txt K w mg CN CB CH) (F : At K mg "_law_marks" s_l_marks ["_law_deck_here"]) (G_l_draw : Dfn P w K mg base 2 "_law_draw" ["_law_deck_here", "_law_many"] (spDraw K)) (G_l_label : Dfn P w K mg base 3 "_law_label" ["_law_deck_here"] (spG K 10 [] RLabel)) (G_l_int : Dfn P w K mg base 3 "_law_int" ["_law_deck_here"] (spG K 2 [] RInt)) : Dfn P w K mg base 4 "_law_marks" ["_law_deck_here"] (spG K 37 [] (RMarks K)) := by
  refine F.ok sc_l_marks (fun vs H Q E h => ?_) (fun qual f cdv A outer s H vs Q E hr h => ?_)
  · obtain ⟨d, c, n0, rfl, _⟩ := h
    rfl
  · refine ⟨_, (pss_one (ps_ret (pe_callTy call_tuple_of (by rfl) T.tuple_ (by decide +kernel) (pa_cons (pe_lc (own := [("_law_k", 1)]) (g := gName 1) (tt := tYes) rfl sc_l_marks.nd (pi_range1 rfl T.range_ (pa_cons (pe_fn G_l_draw hr (pa_cons (pv 0) (pa_cons pe_int pa_nil))) pa_nil)) (blkOk_by (N := ["_law_deck_here", "_law_k"]) (sc := defScope s_l_marks) (by decide +kernel)) (fun _ _ _ _ _ => pg_name (i := 1) sc_l_marks.nd rfl (Or.inl rfl)) (fun _ _ _ _ _ => pts_nil) (fun _ _ _ _ _ => (pe_tup (pa_cons (pe_fn G_l_label hr (pa_cons (pv 0) pa_nil)) (pa_cons (pe_fn G_l_int hr (pa_cons (pv 0) pa_nil)) pa_nil))))) pa_nil)))), ?_⟩
    obtain ⟨d, c, n0, rfl, hd, hn, q⟩ := h
    walk_at "rd"
    refine spDraw_mk hd (by omega) (by decide) (by decide) fun H1 r1 k1 hd1 r10 r11 => ?_
    refine ⟨_, rfl, by omega, by omega, ?_⟩
    refine rng_deck (cost := 12) (fun v H => ∃ nw nl, IsPr K v H nw nl) hd1 (by omega) (fun _ => rfl) (fun _ v _ _ _ r k => ?_) (fun i2 x H3 Q3 hi k3 hd3 q3 => ?_) (fun H3 D ys k3 hd3 e1 e2 r => ?_)
    · obtain ⟨nw, nl, r⟩ := r
      exact ⟨nw, nl, stb_Pr _ _ _ _ _ _ k r⟩
    · walk_at "rd"
      refine spG_mk hd3 (by omega) fun H4 v k4 hd4 ⟨z, e, hz⟩ => ?_
      subst e
      refine spG_mk hd4 (by omega) fun H5 v k5 hd5 ⟨i, e, hi⟩ => ?_
      subst e
      refine ⟨by decide, fun p hp => q3 _ _ ((k4.trans k5).new hp) ((hd5.new hp).mono (by omega)) ⟨_, _, p, z, i, rfl, .inl (.inl upd_same), hz, hi, rfl, rfl⟩⟩
    · refine tup_end e1 fun l hl => ?_
      refine q _ _ ((k1.trans k3).new hl) ((hd3.new hl).mono (by omega)) (isL_of (.inl (.inl upd_same)) (by omega) fun y hy => ?_)
      obtain ⟨nw, nl, r⟩ := r y hy
      exact ⟨nw, nl, stb_Pr _ _ _ _ _ _ (Kp.refl (M := []).new hl) r⟩
end
end Kq
set_option Elab.async false
set_option linter.all false
set_option maxRecDepth 100000
set_option maxHeartbeats 4000000
namespace Kq
open PySem PySem.Spec PyProof.Rows L2 Fw
local macro_rules | `(tactic| walk_at "rd") => `(tactic| try simp only [tSeq, tNext, tBreak, tCont, tDrop, tRet, tRetN, tIfS, tAsg, tVar, tC, tOp, tUn, tTest, tB, tAnd, tOr, tNot, tAndV, tOrV, tNotV, tIf, tChain, tCB, tCons, tNil, tTup, tLst, tCall, tCallS, WE,
  gName, gSub, rI, rI0, rU, rEq, rNe, rIsiC, tSl, tPart, tNoPart, rSetL, tBM, tBM0, rAppend, rExtend, rExtendT, tCallL, L2.start, List.map_cons, List.map_nil, List.length_cons, List.length_nil, Nat.sub_self, Nat.reduceAdd, Nat.reduceSub, List.replicate_zero, List.replicate_succ, List.append_nil, List.nil_append, List.cons_append,
  List.getElem?_cons_zero, List.getElem?_cons_succ, List.set_cons_zero, List.set_cons_succ, Option.some.injEq, exists_eq_left', exists_eq_left, exists_eq_right, exists_eq_right', exists_const, exists_and_left, exists_and_right, V.int.injEq, V.bl.injEq, V.str.injEq, V.ref.injEq, V.ty.injEq, List.cons.injEq, and_true, true_and, and_assoc, reduceCtorEq, false_and, and_false, exists_false, false_or, or_false,
  if_true, if_false, Bool.not_true, Bool.not_false, Bool.false_eq_true, Bool.true_eq_false, ↓reduceIte, decide_eq_true_eq, decide_true, decide_false, sc_nn, sc_ni, sc_in, sc_nb, sc_bn, sc_ns, sc_sn, sc_ii, sc_bb, sc_ss, sc_is, sc_si, sc_bs, sc_sb, ipI, Int.reduceLT, Int.reduceLE, Int.reduceEq, Nat.reduceLT, Nat.reduceEqDiff, String.reduceEq, nc0, nc1, nc2, nc3, nc4, nc5, nc6, nc7, nc8, nc9, nc10, nc11, nc12, cx_K, cx_w, wipe, lenV_str, rCat, exists_eq, exists_eq', relO, relC, relM, relI, relSl, spOf, ciOf, csOf, crOf, L2.rIxD, eq_self, not_true_eq_false, not_false_eq_true, Option.isSome_some, Option.isSome_none, tCallV, ofS_inj, sg_inj, sg_len, sg_lt, tM1, tM0, tLc_rng1, tLc_rng2, tFor_rng1, tFor_rng2, tDNewK, sDPut,  Nat.reduceLeDiff, Bool.not_eq_true', decide_eq_false_iff_not,
  isi_int_int, isi_int_bool, isi_int_str, isi_int_tuple, isi_int_list, isi_int_dict, isi_bool_int, isi_bool_bool, isi_bool_str, isi_bool_tuple, isi_bool_list, isi_bool_dict, isi_str_int, isi_str_bool, isi_str_str, isi_str_tuple, isi_str_list, isi_str_dict, isi_non_int, isi_non_bool, isi_non_str, isi_non_tuple, isi_non_list, isi_non_dict])
local macro_rules | `(tactic| walk_at "ix") => `(tactic| (refine ixT (by assumption) rfl ?_; walk_at "rd"))
local macro_rules | `(tactic| walk_at "len") => `(tactic| (refine ⟨_, lenV_T (by assumption), ?_⟩; walk_at "rd"))
local macro_rules | `(tactic| walk_at "isT") => `(tactic| (refine ⟨true, isiT (by assumption), ?_⟩; walk_at "rd"))

section
variable {P : Program} {w : World} {K : PySem.W.Frag} {mg : Str → Option Value} {base : Heap} {CN CB CH : Addr}
theorem sc_l_pairs : FnScope ["_law_deck_here", "_law_pairs_here", "_law_k"] ["_law_deck_here"] (defScope s_l_pairs) := ⟨rfl, rfl, rfl, by decide +kernel, rfl, by decide +kernel, by decide +kernel⟩
theorem sc_l_pieces : FnScope ["_law_deck_here", "_law_pieces_here", "_law_k"] ["_law_deck_here"] (defScope s_l_pieces) := ⟨rfl, rfl, rfl, by decide +kernel, rfl, by decide +kernel, by decide +kernel⟩
theorem sc_l_pack : FnScope ["_law_deck_here", "_law_turn", "_law_parents"] ["_law_deck_here", "_law_turn"] (defScope s_l_pack) := ⟨rfl, rfl, rfl, by decide +kernel, rfl, by decide +kernel, by decide +kernel⟩
def RPairs (K : PySem.W.Frag) : V → Hp → Prop := fun v H => ∃ es, IsEn K v H es
theorem risesS_pw : ∀ {zs : List Str}, zs.Pairwise (fun x y => x.cps.toList < y.cps.toList) → risesS zs = true
  | [], _ => rfl
  | [_], _ => rfl
  | x :: y :: r, h => by
    obtain ⟨h1, h2⟩ := List.pairwise_cons.mp h
    unfold risesS
    rw [decide_eq_true (h1 y (by simp)), risesS_pw h2]
    rfl
theorem risesI_pw : ∀ {zs : List Int}, zs.Pairwise (· < ·) → risesI zs = true
  | [], _ => rfl
  | [_], _ => rfl
  | x :: y :: r, h => by
    obtain ⟨h1, h2⟩ := List.pairwise_cons.mp h
    unfold risesI
    rw [decide_eq_true (h1 y (by simp)), risesI_pw h2]
    rfl
theorem put_ent (ks : List (Str × Int)) (z : Str) (i : Int) : ∃ ks' : List (Str × Int), putK (ks.map entK) (Sum.inr z) (V.int i) = ks'.map entK ∧ ks'.length ≤ ks.length + 1 ∧ ∀ e ∈ ks', e ∈ ks ∨ e = (z, i) := by
  unfold putK
  split
  · refine ⟨ks.map fun e => if e.1 = z then (z, i) else e, ?_, by simp, fun e he => ?_⟩
    · rw [List.map_map, List.map_map]
      refine List.map_congr_left fun e _ => ?_
      by_cases h : e.1 = z
      · simp [h]
      · simp [h]
    · obtain ⟨e0, h0, rfl⟩ := List.mem_map.mp he
      by_cases h : e0.1 = z
      · rw [if_pos h]
        exact .inr rfl
      · rw [if_neg h]
        exact .inl h0
  · refine ⟨ks ++ [(z, i)], by simp, by simp, fun e he => ?_⟩
    rcases List.mem_append.mp he with h | h
    · exact .inl h
    · exact .inr (List.mem_singleton.mp h)
theorem ok_pairs (T : Txt K w mg CN CB CH) (F : At K mg "_law_pairs" s_l_pairs ["_law_deck_here"]) (G_l_draw : Dfn P w K mg base 2 "_law_draw" ["_law_deck_here", "_law_many"] (spDraw K)) (G_l_label : Dfn P w K mg base 3 "_law_label" ["_law_deck_here"] (spG K 10 [] RLabel)) (G_l_int : Dfn P w K mg base 3 "_law_int" ["_law_deck_here"] (spG K 2 [] RInt)) : Dfn P w K mg base 4 "_law_pairs" ["_law_deck_here"] (spG K 37 [] (RPairs K)) := by
  refine F.ok sc_l_pairs (fun vs H Q E h => ?_) (fun qual f cdv A outer s H vs Q E hr h => ?_)
  · obtain ⟨d, c, n0, rfl, _⟩ := h
    rfl
  · refine ⟨_, (pss_cons (ps_set (i := 1) sc_l_pairs.nd rfl (Or.inl rfl) pe_dnewK)
      (pss_cons (ps_for (passes_of rfl) rfl (pi_range1 rfl T.range_ (pa_cons (pe_fn G_l_draw hr (pa_cons (pv 0) (pa_cons pe_int pa_nil))) pa_nil)) (pg_name (i := 2) sc_l_pairs.nd rfl (Or.inl rfl)) (pss_one (ps_dput (hu_of hr) (pv 1) (pe_fn G_l_label hr (pa_cons (pv 0) pa_nil)) (pe_fn G_l_int hr (pa_cons (pv 0) pa_nil)) rfl)))
      (pss_one (ps_ret (pe_callTy call_tuple_of (by rfl) T.tuple_ (by decide +kernel) (pa_cons (pe_callB (cr_sortedKI rfl hr.units) (by rfl) T.sorted_ (by decide +kernel) (pa_cons (pe_bm0 PySem.F.plainAttrs_dict PySem.F.slot_dict_items PySem.F.type_dict_items mt_itemsK (pv 1)) pa_nil)) pa_nil)))))), ?_⟩
    obtain ⟨d, c, n0, rfl, hd, hn, q⟩ := h
    walk_at "rd"
    intro p hp
    obtain ⟨hdp, hcp⟩ := hd.d hp
    refine spDraw_mk (hd.new hp) (by omega) (by decide) (by decide) fun H1 r k1 hd1 r0 r1 => ⟨_, rfl, by omega, by omega, ?_⟩
    have k01 : Kp [d] H H1 := (Kp.refl.new (M := [d]) hp).trans k1
    have hp1 : H1 p = some (.dK []) := k1.at upd_same (by simpa using fun z => hdp z.symm)
    obtain ⟨Pv, hPv⟩ : ∃ Pv : Nat → L2.St → Hp → Prop, ∀ i σ H', Pv i σ H' ↔ ((∃ o, σ = [some (V.ref d), some (V.ref p), o]) ∧ Kp [d] H H' ∧ Dk K H' d c (n0 + 1 + i * 12) ∧ ∃ ks : List (Str × Int), H' p = some (.dK (ks.map entK)) ∧ ks.length ≤ i ∧ ∀ e ∈ ks, okL e.1 = true ∧ okI e.2 = true) := ⟨_, fun _ _ _ => Iff.rfl⟩
    refine for_rng Pv ?_ ?_ ?_
    · exact (hPv _ _ _).mpr ⟨⟨_, rfl⟩, k01, hd1.mono (by omega), [], hp1, Nat.le_refl _, fun e h => by cases h⟩
    · intro i σ H2 hi h
      obtain ⟨⟨o, rfl⟩, k2, hd2, ks, hk, hl, hok⟩ := (hPv _ _ _).mp h
      walk_at "rd"
      refine spG_mk hd2 (by omega) fun H3 v k3 hd3 ⟨j, e, hj⟩ => ?_
      subst e
      refine spG_mk hd3 (by omega) fun H4 v k4 hd4 ⟨z, e, hz⟩ => ?_
      subst e
      have hp4 : H4 p = some (.dK (ks.map entK)) := (k3.trans k4).at hk (by simpa using fun z => hdp z.symm)
      obtain ⟨ks', e1, e2, e3⟩ := put_ent ks z j
      refine ⟨_, .inl ⟨_, Sum.inr z, hp4, rfl, by rw [List.length_map, sizeLine_eq]; omega, rfl⟩, ?_⟩
      rw [e1]
      refine (hPv _ _ _).mpr ⟨⟨_, rfl⟩, (k2.trans (k3.trans k4)).late hp, ?_, ks', upd_same, by omega, fun e he => ?_⟩
      · exact (hd4.wr hdp hcp).mono (by omega)
      · rcases e3 e he with h | rfl
        · exact hok e h
        · exact ⟨hz, hj⟩
    · intro σ H2 h
      obtain ⟨⟨o, rfl⟩, k2, hd2, ks, hk, hl, hok⟩ := (hPv _ _ _).mp h
      walk_at "rd"
      refine ⟨.inr (.inr (.inl ⟨rfl, .inl ⟨_, hk⟩⟩)), p, _, rfl, rfl, hk, fun v hv => ?_⟩
      have hne : p ≠ v := ne_of_none hk hv
      refine ⟨v, p, ks, rfl, upd_same, by rw [upd_ne hne]; exact hk, by omega, fun H3 l ms bs keep hl3 hperm hpw hbl hl4 hbs => ?_⟩
      refine tup_end hl4 fun t ht => ?_
      have k3 : Kp [] H2 H3 := (Kp.refl.new (M := []) hv).trans (Kp.ext keep)
      have k4 : Kp [] H3 (upd H3 t (.tup (bs.map V.ref))) := Kp.refl.new ht
      refine q _ _ (k2.trans (k3.trans k4).nil) ((hd2.kp0 (k3.trans k4)).mono (by omega)) ⟨ms, ⟨t, bs.map V.ref, rfl, .inl (.inl upd_same), by simpa using hbl, fun i x e h1 h2 => ?_⟩, ?_, ?_, ?_⟩
      · rw [List.getElem?_map, Option.map_eq_some_iff] at h1
        obtain ⟨b, h3, rfl⟩ := h1
        exact ⟨b, rfl, k4.tup (.inl (.inl (hbs i b e h3 h2)))⟩
      · have := hperm.length_eq
        omega
      · exact fun e he => hok e (hperm.mem_iff.mp he)
      · exact risesS_pw (List.pairwise_map.mpr hpw)
theorem ok_pieces (T : Txt K w mg CN CB CH) (F : At K mg "_law_pieces" s_l_pieces ["_law_deck_here"]) (G_l_draw : Dfn P w K mg base 2 "_law_draw" ["_law_deck_here", "_law_many"] (spDraw K)) (G_l_leaf_rows : Dfn P w K mg base 4 "_law_leaf_rows" ["_law_deck_here", "_law_low"] (spLeaf K)) (G_l_int : Dfn P w K mg base 3 "_law_int" ["_law_deck_here"] (spG K 2 [] RInt)) : Dfn P w K mg base 5 "_law_pieces" ["_law_deck_here"] (spG K 1000 [] (fun v H => ∃ nw nl, IsL K (IsPc K) 40 v H nw nl)) := by
  refine F.ok sc_l_pieces (fun vs H Q E h => ?_) (fun qual f cdv A outer s H vs Q E hr h => ?_)
  · obtain ⟨d, c, n0, rfl, _⟩ := h
    rfl
  · refine ⟨_, (pss_cons (ps_set (i := 1) sc_l_pieces.nd rfl (Or.inl rfl) (pe_lst pa_nil))
      (pss_cons (ps_for (passes_of rfl) rfl (pi_range1 rfl T.range_ (pa_cons (pe_fn G_l_draw hr (pa_cons (pv 0) (pa_cons pe_int pa_nil))) pa_nil)) (pg_name (i := 2) sc_l_pieces.nd rfl (Or.inl rfl)) (pss_one (ps_if (pt_cmpR op_eq (pe_fn G_l_draw hr (pa_cons (pv 0) (pa_cons pe_int pa_nil))) pe_int (nomark _)) (pss_one (ps_expr (pe_bm PySem.F.plainAttrs_list PySem.F.slot_list_append PySem.F.type_list_append mt_append (pv 1) (pa_cons (pe_tup (pa_cons pe_str (pa_cons (pe_fn G_l_int hr (pa_cons (pv 0) pa_nil)) (pa_cons (pe_callB (call_max2 rfl) (by rfl) T.max_ (by decide +kernel) (pa_cons pe_int (pa_cons (pe_fn G_l_int hr (pa_cons (pv 0) pa_nil)) pa_nil))) pa_nil)))) pa_nil)))) (pss_one (ps_expr (pe_bm PySem.F.plainAttrs_list PySem.F.slot_list_append PySem.F.type_list_append mt_append (pv 1) (pa_cons (pe_tup (pa_cons pe_str (pa_cons (pe_fn G_l_leaf_rows hr (pa_cons (pv 0) (pa_cons pe_int pa_nil))) pa_nil))) pa_nil)))))))
      (pss_one (ps_ret (pe_callTy call_tuple_of (by rfl) T.tuple_ (by decide +kernel) (pa_cons (pv 1) pa_nil)))))), ?_⟩
    obtain ⟨d, c, n0, rfl, hd, hn, q⟩ := h
    walk_at "rd"
    refine ⟨by decide, fun p hp => ?_⟩
    obtain ⟨hdp, hcp⟩ := hd.d hp
    refine spDraw_mk (hd.new hp) (by omega) (by decide) (by decide) fun H1 r k1 hd1 r0 r1 => ⟨_, rfl, by omega, by omega, ?_⟩
    have k01 : Kp [d] H H1 := (Kp.refl.new (M := [d]) hp).trans k1
    have hp1 : H1 p = some (.lst []) := k1.at upd_same (by simpa using fun z => hdp z.symm)
    obtain ⟨Pv, hPv⟩ : ∃ Pv : Nat → L2.St → Hp → Prop, ∀ i σ H', Pv i σ H' ↔ ((∃ o, σ = [some (V.ref d), some (V.ref p), o]) ∧ Kp [d] H H' ∧ Dk K H' d c (n0 + 1 + i * 331) ∧ ∃ ys : List V, H' p = some (.lst ys) ∧ ys.length = i ∧ ∀ y ∈ ys, ∃ nw nl, IsPc K y H' nw nl) := ⟨_, fun _ _ _ => Iff.rfl⟩
    refine for_rng Pv ?_ ?_ ?_
    · exact (hPv _ _ _).mpr ⟨⟨_, rfl⟩, k01, hd1.mono (by omega), [], hp1, rfl, fun e h => by cases h⟩
    · intro i σ H2 hi h
      obtain ⟨⟨o, rfl⟩, k2, hd2, ys, hk, hl, hok⟩ := (hPv _ _ _).mp h
      have next : ∀ (H3 : Hp) (y : V) (o : Option V), Kp [d] H2 H3 → Dk K H3 d c (n0 + 1 + i * 331 + 331) → (∃ nw nl, IsPc K y H3 nw nl) → ∃ zs, H3 p = some (.lst zs) ∧ zs.length < sizeLine ∧ Pv (i + 1) [some (V.ref d), some (V.ref p), o] (upd H3 p (.lst (zs ++ [y]))) := by
        intro H3 y o k3 hd3 hy
        have hp3 := k3.at hk (by simpa using fun z => hdp z.symm)
        refine ⟨ys, hp3, by rw [sizeLine_eq]; omega, (hPv _ _ _).mpr ⟨⟨_, rfl⟩, (k2.trans k3).late hp, (hd3.wr hdp hcp).mono (by omega), ys ++ [y], upd_same, by simp [hl], fun x hx => ?_⟩⟩
        have k4 : Kp [p] H3 (upd H3 p (.lst (ys ++ [y]))) := Kp.refl.put hp3 trivial (by simp)
        have : ∃ nw nl, IsPc K x H3 nw nl := by
          rcases List.mem_append.mp hx with h | h
          · obtain ⟨nw, nl, h⟩ := hok x h
            exact ⟨nw, nl, stb_Pc _ _ _ _ _ _ k3 h⟩
          · rw [List.mem_singleton.mp h]
            exact hy
        obtain ⟨nw, nl, h⟩ := this
        exact ⟨nw, nl, stb_Pc _ _ _ _ _ _ k4 h⟩
      walk_at "rd"
      refine spDraw_mk hd2 (by omega) (by decide) (by decide) fun H3 r3 k3 hd3 r30 r31 => ?_
      walk_at "rd"
      have hp3 : H3 p = some (.lst ys) := k3.at hk (by simpa using fun z => hdp z.symm)
      by_cases h3 : r3 = 0
      · rw [if_pos h3]
        refine ⟨tyV_L hp3, ?_⟩
        refine spG_mk hd3 (by omega) fun H4 v k4 hd4 ⟨i1, e, h1⟩ => ?_
        subst e
        refine spG_mk hd4 (by omega) fun H5 v k5 hd5 ⟨i2, e, h2⟩ => ?_
        subst e
        refine ⟨_, rfl, by decide, fun t ht => next _ _ _ (((k3.trans k4).trans k5).new ht) ((hd5.new ht).mono (by omega)) ⟨_, _, t, rfl, .inl ⟨i1, _, .inl (.inl upd_same), h1, ?_, ?_, rfl, rfl⟩⟩⟩
        · obtain ⟨a1, a2⟩ := okI_ge h2
          simp only [okI, Bool.and_eq_true, decide_eq_true_eq]
          split <;> omega
        · split <;> omega
      · rw [if_neg h3]
        refine ⟨tyV_L hp3, 1, by decide, by decide, spG_mk hd3 (by omega) fun H4 v k4 hd4 ⟨zs, hz, hz1⟩ => ⟨by decide, fun t ht => next _ _ _ ((k3.trans k4).new ht) ((hd4.new ht).mono (by omega)) ⟨_, _, t, rfl, .inr ⟨v, zs, .inl (.inl upd_same), hz.kp (Kp.refl (M := []).new ht), by omega, rfl, rfl⟩⟩⟩⟩
    · intro σ H2 h
      obtain ⟨⟨o, rfl⟩, k2, hd2, ys, hk, hl, hok⟩ := (hPv _ _ _).mp h
      walk_at "rd"
      refine ⟨ys, .inl ⟨SqL.of hk, fun t ht => q _ _ (k2.new ht) ((hd2.new ht).mono (by omega)) (isL_of (.inl (.inl upd_same)) (by omega) fun y hy => ?_)⟩⟩
      obtain ⟨nw, nl, h⟩ := hok y hy
      exact ⟨nw, nl, stb_Pc _ _ _ _ _ _ (Kp.refl (M := []).new ht) h⟩
def spPack (K : PySem.W.Frag) : Sp := fun vs H Q E => ∃ n : Int, 0 ≤ n ∧ n ≤ 3 ∧ spG K 1010 [.int n] (fun v H => ∃ nw nl, IsPk K v H nw nl) vs H Q E
theorem ok_pack (T : Txt K w mg CN CB CH) (F : At K mg "_law_pack" s_l_pack ["_law_deck_here", "_law_turn"]) (G_l_leaf_rows : Dfn P w K mg base 4 "_law_leaf_rows" ["_law_deck_here", "_law_low"] (spLeaf K)) (G_l_int : Dfn P w K mg base 3 "_law_int" ["_law_deck_here"] (spG K 2 [] RInt)) (G_l_ints : Dfn P w K mg base 4 "_law_ints" ["_law_deck_here"] (spG K 9 [] (RInts K))) (G_l_pairs : Dfn P w K mg base 4 "_law_pairs" ["_law_deck_here"] (spG K 37 [] (RPairs K)))
    (G_l_pieces : Dfn P w K mg base 5 "_law_pieces" ["_law_deck_here"] (spG K 1000 [] (fun v H => ∃ nw nl, IsL K (IsPc K) 40 v H nw nl))) : Dfn P w K mg base 6 "_law_pack" ["_law_deck_here", "_law_turn"] (spPack K) := by
  refine F.ok sc_l_pack (fun vs H Q E h => ?_) (fun qual f cdv A outer s H vs Q E hr h => ?_)
  · obtain ⟨n, _, _, d, c, n0, rfl, _⟩ := h
    rfl
  · refine ⟨_, (pss_cons (ps_if (pt_cmpR op_eq (pv 1) pe_int (nomark _)) (pss_one (ps_ret (pe_tup (pa_cons (pe_fn G_l_int hr (pa_cons (pv 0) pa_nil)) (pa_cons pe_str (pa_cons (pe_tup (pa_cons pe_str (pa_cons (pe_fn G_l_leaf_rows hr (pa_cons (pv 0) (pa_cons pe_int pa_nil))) pa_nil))) pa_nil)))))) pss_nil)
      (pss_cons (ps_if (pt_cmpR op_eq (pv 1) pe_int (nomark _)) (pss_one (ps_ret (pe_tup (pa_cons (pe_fn G_l_int hr (pa_cons (pv 0) pa_nil)) (pa_cons pe_str (pa_cons (pe_tup (pa_cons pe_str (pa_cons (pe_fn G_l_pairs hr (pa_cons (pv 0) pa_nil)) pa_nil))) pa_nil)))))) pss_nil)
      (pss_cons (ps_if (pt_cmpR op_eq (pv 1) pe_int (nomark _)) (pss_cons (ps_set (i := 2) sc_l_pack.nd rfl (Or.inl rfl) (pe_callTy call_tuple_of (by rfl) T.tuple_ (by decide +kernel) (pa_cons (pe_callB (cr_sortedSet rfl) (by rfl) T.sorted_ (by decide +kernel) (pa_cons (pe_callTy (cr_setT rfl) (by rfl) T.set_ (by decide +kernel) (pa_cons (pe_fn G_l_ints hr (pa_cons (pv 0) pa_nil)) pa_nil)) pa_nil)) pa_nil)))
      (pss_one (ps_ret (pe_tup (pa_cons (pe_fn G_l_int hr (pa_cons (pv 0) pa_nil)) (pa_cons pe_str (pa_cons (pe_tup (pa_cons pe_str (pa_cons (pv 2) (pa_cons (pe_fn G_l_int hr (pa_cons (pv 0) pa_nil)) (pa_cons (pe_fn G_l_int hr (pa_cons (pv 0) pa_nil)) pa_nil))))) pa_nil))))))) pss_nil)
      (pss_one (ps_ret (pe_tup (pa_cons (pe_fn G_l_int hr (pa_cons (pv 0) pa_nil)) (pa_cons pe_str (pa_cons (pe_fn G_l_int hr (pa_cons (pv 0) pa_nil)) (pa_cons (pe_fn G_l_pieces hr (pa_cons (pv 0) pa_nil)) pa_nil)))))))))), ?_⟩
    obtain ⟨n, l1, l2, d, c, n0, rfl, hd, hn, q⟩ := h
    walk_at "rd"
    have plain : ∀ (H1 : Hp) (p p1 : Addr) (xs : List V) (nm : Int) (cw nl : List Str), Kp [d] H H1 → Dk K H1 d c (n0 + 1010) → okI nm = true → H1 p = none → upd H1 p (.tup xs) p1 = none → IsCo K (.ref p) (upd H1 p (.tup xs)) cw nl →
        Q (.ref p1) (upd (upd H1 p (.tup xs)) p1 (.tup [.int nm, .str (Str.ofString "plain"), .ref p])) := by
      intro H1 p p1 xs nm cw nl k hd1 h1 hp hp1 hc
      exact q _ _ ((k.new hp).new hp1) ((hd1.new hp).new hp1) ⟨_, _, p1, nm, rfl, h1, .inl ⟨.ref p, cw, .inl (.inl upd_same), stb_Co _ _ _ _ _ _ (Kp.refl (M := []).new hp1) hc, rfl⟩⟩
    by_cases h0 : n = 0
    · rw [if_pos h0]
      refine spG_mk hd (by omega) fun H1 v k1 hd1 ⟨i1, e, h1⟩ => ?_
      subst e
      refine ⟨0, by decide, by decide, spG_mk hd1 (by omega) fun H2 v k2 hd2 ⟨zs, hz, hz1⟩ => ⟨by decide, fun p hp => ⟨by decide, fun p1 hp1 => ?_⟩⟩⟩
      exact plain H2 p p1 _ i1 _ _ (k1.trans k2) (hd2.mono (by omega)) h1 hp hp1 ⟨p, rfl, .inl ⟨v, .inl (.inl upd_same), hz.kp (Kp.refl (M := []).new hp), rfl⟩⟩
    · rw [if_neg h0]
      by_cases h1 : n = 1
      · rw [if_pos h1]
        refine spG_mk hd (by omega) fun H1 v k1 hd1 ⟨i1, e, h1⟩ => ?_
        subst e
        refine spG_mk hd1 (by omega) fun H2 v k2 hd2 ⟨es, hz⟩ => ⟨by decide, fun p hp => ⟨by decide, fun p1 hp1 => ?_⟩⟩
        exact plain H2 p p1 _ i1 _ _ (k1.trans k2) (hd2.mono (by omega)) h1 hp hp1 ⟨p, rfl, .inr (.inl ⟨v, es, .inl (.inl upd_same), hz.kp (Kp.refl (M := []).new hp), rfl, rfl⟩)⟩
      · rw [if_neg h1]
        by_cases h2 : n = 2
        · rw [if_pos h2]
          refine spG_mk hd (by omega) fun H1 v k1 hd1 ⟨a, is, e, hs, hl, hok⟩ => ?_
          subst e
          refine ⟨a, is, rfl, hs, by omega, fun b m hb hm => ?_⟩
          refine ⟨b, _, m, rfl, upd_same, by omega, fun ns p2 hpw hmem hlen hp2 => ?_⟩
          refine ⟨p2, rfl, ns.map V.int, .inl ⟨SqL.of upd_same, fun t ht => ?_⟩⟩
          have k3 : Kp [] H1 (upd (upd (upd H1 b (SetO w b (fun j => decide (j ∈ is)) m)) p2 (.lst (ns.map V.int))) t (.tup (ns.map V.int))) := ((Kp.refl.new hb).new hp2).new ht
          have hd3 := hd1.kp0 k3
          have hs3 : SqT K (upd (upd (upd H1 b (SetO w b (fun j => decide (j ∈ is)) m)) p2 (.lst (ns.map V.int))) t (.tup (ns.map V.int))) t (ns.map V.int) := .inl (.inl upd_same)
          have hos : ∀ i ∈ ns, okI i = true := fun i hi => hok i (of_decide_eq_true ((hmem i).mp hi))
          generalize upd (upd (upd H1 b (SetO w b (fun j => decide (j ∈ is)) m)) p2 (.lst (ns.map V.int))) t (.tup (ns.map V.int)) = H3 at k3 hd3 hs3 ⊢
          refine spG_mk hd3 (by omega) fun H4 v k4 hd4 ⟨i4, e, g4⟩ => ?_
          subst e
          refine spG_mk hd4 (by omega) fun H5 v k5 hd5 ⟨i5, e, g5⟩ => ?_
          subst e
          refine spG_mk hd5 (by omega) fun H6 v k6 hd6 ⟨i6, e, g6⟩ => ⟨by decide, fun p hp => ⟨by decide, fun p1 hp1 => ?_⟩⟩
          subst e
          have k36 := (k4.trans k5).trans k6
          refine plain H6 p p1 _ i4 _ _ (k1.trans (k3.nil.trans k36)) (hd6.mono (by omega)) g4 hp hp1 ⟨p, rfl, .inr (.inr ⟨.ref t, ns, i5, i6, .inl (.inl upd_same), ⟨⟨t, rfl, (k36.new hp).tup hs3⟩, hos⟩, by omega, risesI_pw hpw, g5, g6, rfl, rfl⟩)⟩
        · rw [if_neg h2]
          refine spG_mk hd (by omega) fun H1 v k1 hd1 ⟨i1, e, g1⟩ => ?_
          subst e
          refine spG_mk hd1 (by omega) fun H2 v k2 hd2 ⟨i2, e, g2⟩ => ?_
          subst e
          refine spG_mk hd2 (by omega) fun H3 v k3 hd3 ⟨nw, nl, g3⟩ => ⟨by decide, fun p hp => ?_⟩
          exact q _ _ (((k1.trans k2).trans k3).new hp) ((hd3.new hp).mono (by omega)) ⟨_, _, p, i1, rfl, g1, .inr ⟨i2, v, nw, .inl (.inl upd_same), g2, stb_L stb_Pc _ _ _ _ _ _ (Kp.refl (M := []).new hp) g3, rfl⟩⟩
end
end Kq
set_option Elab.async false
set_option linter.all false
set_option maxRecDepth 100000
set_option maxHeartbeats 4000000
namespace Kq
open PySem PySem.Spec PyProof.Rows L2 Fw
local macro_rules | `(tactic| walk_at "rd") => `(tactic| try simp only [tSeq, tNext, tBreak, tCont, tDrop, tRet, tRetN, tIfS, tAsg, tVar, tC, tOp, tUn, tTest, tB, tAnd, tOr, tNot, tAndV, tOrV, tNotV, tIf, tChain, tCB, tCons, tNil, tTup, tLst, tCall, tCallS, WE,
  gName, gSub, rI, rI0, rU, rEq, rNe, rIsiC, tSl, tPart, tNoPart, rSetL, tBM, tBM0, rAppend, rExtend, rExtendT, tCallL, L2.start, List.map_cons, List.map_nil, List.length_cons, List.length_nil, Nat.sub_self, Nat.reduceAdd, Nat.reduceSub, List.replicate_zero, List.replicate_succ, List.append_nil, List.nil_append, List.cons_append,
  List.getElem?_cons_zero, List.getElem?_cons_succ, List.set_cons_zero, List.set_cons_succ, Option.some.injEq, exists_eq_left', exists_eq_left, exists_eq_right, exists_eq_right', exists_const, exists_and_left, exists_and_right, V.int.injEq, V.bl.injEq, V.str.injEq, V.ref.injEq, V.ty.injEq, List.cons.injEq, and_true, true_and, and_assoc, reduceCtorEq, false_and, and_false, exists_false, false_or, or_false,
  if_true, if_false, Bool.not_true, Bool.not_false, Bool.false_eq_true, Bool.true_eq_false, ↓reduceIte, decide_eq_true_eq, decide_true, decide_false, sc_nn, sc_ni, sc_in, sc_nb, sc_bn, sc_ns, sc_sn, sc_ii, sc_bb, sc_ss, sc_is, sc_si, sc_bs, sc_sb, ipI, Int.reduceLT, Int.reduceLE, Int.reduceEq, Nat.reduceLT, Nat.reduceEqDiff, String.reduceEq, nc0, nc1, nc2, nc3, nc4, nc5, nc6, nc7, nc8, nc9, nc10, nc11, nc12, cx_K, cx_w, wipe, lenV_str, rCat, exists_eq, exists_eq', relO, relC, relM, relI, relSl, spOf, ciOf, csOf, crOf, L2.rIxD, eq_self, not_true_eq_false, not_false_eq_true, Option.isSome_some, Option.isSome_none, tCallV, ofS_inj, sg_inj, sg_len, sg_lt, tM1, tM0, tLc_rng1, tLc_rng2, tFor_rng1, tFor_rng2, tDNewK, sDPut,  Nat.reduceLeDiff, Bool.not_eq_true', decide_eq_false_iff_not,
  isi_int_int, isi_int_bool, isi_int_str, isi_int_tuple, isi_int_list, isi_int_dict, isi_bool_int, isi_bool_bool, isi_bool_str, isi_bool_tuple, isi_bool_list, isi_bool_dict, isi_str_int, isi_str_bool, isi_str_str, isi_str_tuple, isi_str_list, isi_str_dict, isi_non_int, isi_non_bool, isi_non_str, isi_non_tuple, isi_non_list, isi_non_dict])
local macro_rules | `(tactic| walk_at "ix") => `(tactic| (refine ixT (by assumption) rfl ?_; walk_at "rd"))
local macro_rules | `(tactic| walk_at "len") => `(tactic| (refine ⟨_, lenV_T (by assumption), ?_⟩; walk_at "rd"))
local macro_rules | `(tactic| walk_at "isT") => `(tactic| (refine ⟨true, isiT (by assumption), ?_⟩; walk_at "rd"))

section
variable {P : Program} {w : World} {K : PySem.W.Frag} {mg : Str → Option Value} {base : Heap} {CN CB CH : Addr}
theorem sc_l_row : FnScope ["_law_deck_here", "_law_turn", "_law_picks", "_law_starts", "_law_limit", "_law_k"] ["_law_deck_here", "_law_turn"] (defScope s_l_row) := ⟨rfl, rfl, rfl, by decide +kernel, rfl, by decide +kernel, by decide +kernel⟩
theorem parts_nil {H : Hp} : Parts K H [] [] [] := ⟨rfl, rfl, fun i x k p h => by simp at h⟩
theorem parts_cons {H : Hp} {k : Kd} {x : V} {nw nl : List Str} {ks : List Kd} {ps : List V} {its : List (List Str × List Str)} (h : WrK K k x H nw nl) (r : Parts K H ks ps its) : Parts K H (k :: ks) (x :: ps) ((nw, nl) :: its) :=
  ⟨by simp [r.l1], by simp [r.l2], fun i y kd p h1 h2 h3 => by
    cases i with
    | zero =>
      cases h1
      cases h2
      cases h3
      exact h
    | succ i => exact r.at_ i y kd p (by simpa using h1) (by simpa using h2) (by simpa using h3)⟩
/-- a thing that can be written as its kind asks -/
def Can (K : PySem.W.Frag) (k : Kd) (v : V) (H : Hp) : Prop := ∃ nw nl, WrK K k v H nw nl
theorem Can.kp {k : Kd} {v : V} {M : List Addr} {H H' : Hp} (h : Can K k v H) (kk : Kp M H H') : Can K k v H' := by
  obtain ⟨nw, nl, h⟩ := h
  exact ⟨nw, nl, stb_K _ _ _ _ _ _ _ kk h⟩
theorem RInts.can {v : V} {H : Hp} (h : RInts K v H) : Can K .nInts v H := by
  obtain ⟨a, is, rfl, hs, hl, hok⟩ := h
  exact ⟨_, _, IsIs.isL ⟨⟨a, rfl, hs⟩, hok⟩ (by omega)⟩
theorem RInt.can {v : V} {H : Hp} (h : RInt v H) : Can K .nInt v H := by
  obtain ⟨i, rfl, hok⟩ := h
  exact ⟨_, _, i, rfl, hok, rfl, rfl⟩
/-- a tuple that is a row of the form j -/
def AnyRow (K : PySem.W.Frag) (v : V) (H : Hp) : Prop := ∃ j its, RowAt K v H j its
theorem row_mk {H : Hp} {a : Addr} {ps : List V} (j : Nat) (lt : j < 11) (hs : SqT K H a (.str forms[j]!.1 :: ps)) (h : ∃ its, Parts K H forms[j]!.2 ps its) : AnyRow K (.ref a) H := by
  obtain ⟨its, h⟩ := h
  exact ⟨j, its, lt, a, ps, rfl, hs, h⟩
theorem can_nil {H : Hp} : ∃ its, Parts K H [] [] its := ⟨[], parts_nil⟩
theorem can_cons {H : Hp} {k : Kd} {x : V} {ks : List Kd} {ps : List V} (h : Can K k x H) (r : ∃ its, Parts K H ks ps its) : ∃ its, Parts K H (k :: ks) (x :: ps) its := by
  obtain ⟨nw, nl, h⟩ := h
  obtain ⟨its, r⟩ := r
  exact ⟨_, parts_cons h r⟩
def spRow (K : PySem.W.Frag) : Sp := fun vs H Q E => ∃ n : Int, 0 ≤ n ∧ n ≤ 12 ∧ spG K 2000 [.int n] (AnyRow K) vs H Q E
theorem ok_row (T : Txt K w mg CN CB CH) (F : At K mg "_law_row" s_l_row ["_law_deck_here", "_law_turn"]) (G_l_draw : Dfn P w K mg base 2 "_law_draw" ["_law_deck_here", "_law_many"] (spDraw K)) (G_l_label : Dfn P w K mg base 3 "_law_label" ["_law_deck_here"] (spG K 10 [] RLabel)) (G_l_int : Dfn P w K mg base 3 "_law_int" ["_law_deck_here"] (spG K 2 [] RInt)) (G_l_ints : Dfn P w K mg base 4 "_law_ints" ["_law_deck_here"] (spG K 9 [] (RInts K)))
    (G_l_marks : Dfn P w K mg base 4 "_law_marks" ["_law_deck_here"] (spG K 37 [] (RMarks K))) (G_l_pack : Dfn P w K mg base 6 "_law_pack" ["_law_deck_here", "_law_turn"] (spPack K)) : Dfn P w K mg base 7 "_law_row" ["_law_deck_here", "_law_turn"] (spRow K) := by
  refine F.ok sc_l_row (fun vs H Q E h => ?_) (fun qual f cdv A outer s H vs Q E hr h => ?_)
  · obtain ⟨n, _, _, d, c, n0, rfl, _⟩ := h
    rfl
  · refine ⟨_, (pss_cons (ps_if (pt_cmpR op_eq (pv 1) pe_int (nomark _)) (pss_one (ps_ret (pe_tup (pa_cons (pe_ix ix_list (pe_lst (pa_cons pe_str (pa_cons pe_str pa_nil))) (pe_fn G_l_draw hr (pa_cons (pv 0) (pa_cons pe_int pa_nil))) (fun _ _ => rfl)) pa_nil)))) pss_nil)
      (pss_cons (ps_if (pt_cmpR op_eq (pv 1) pe_int (nomark _)) (pss_one (ps_ret (pe_tup (pa_cons pe_str (pa_cons (pe_fn G_l_ints hr (pa_cons (pv 0) pa_nil)) pa_nil))))) pss_nil)
      (pss_cons (ps_if (pt_cmpR op_eq (pv 1) pe_int (nomark _)) (pss_one (ps_ret (pe_tup (pa_cons pe_str (pa_cons (pe_callTy call_tuple_of (by rfl) T.tuple_ (by decide +kernel) (pa_cons (pe_lc (own := [("_law_k", 5)]) (g := gName 5) (tt := tYes) rfl sc_l_row.nd (pi_range1 rfl T.range_ (pa_cons (pe_fn G_l_draw hr (pa_cons (pv 0) (pa_cons pe_int pa_nil))) pa_nil)) (blkOk_by (N := ["_law_deck_here", "_law_turn", "_law_picks", "_law_starts", "_law_limit", "_law_k"]) (sc := defScope s_l_row) (by decide +kernel)) (fun _ _ _ _ _ => pg_name (i := 5) sc_l_row.nd rfl (Or.inl rfl)) (fun _ _ _ _ _ => pts_nil) (fun _ _ _ _ _ => (pe_cmpR op_eq (pe_fn G_l_draw hr (pa_cons (pv 0) (pa_cons pe_int pa_nil))) pe_int (nomark _)))) pa_nil)) pa_nil))))) pss_nil)
      (pss_cons (ps_if (pt_cmpR op_eq (pv 1) pe_int (nomark _)) (pss_cons (ps_set (i := 2) sc_l_row.nd rfl (Or.inl rfl) (pe_callTy call_tuple_of (by rfl) T.tuple_ (by decide +kernel) (pa_cons (pe_lc (own := [("_law_k", 5)]) (g := gName 5) (tt := tYes) rfl sc_l_row.nd (pi_range1 rfl T.range_ (pa_cons (pe_fn G_l_draw hr (pa_cons (pv 0) (pa_cons pe_int pa_nil))) pa_nil)) (blkOk_by (N := ["_law_deck_here", "_law_turn", "_law_picks", "_law_starts", "_law_limit", "_law_k"]) (sc := defScope s_l_row) (by decide +kernel)) (fun _ _ _ _ _ => pg_name (i := 5) sc_l_row.nd rfl (Or.inl rfl)) (fun _ _ _ _ _ => pts_nil) (fun _ _ _ _ _ => (pe_fn G_l_label hr (pa_cons (pv 0) pa_nil)))) pa_nil)))
      (pss_cons (ps_set (i := 3) sc_l_row.nd rfl (Or.inl rfl) (pe_fn G_l_ints hr (pa_cons (pv 0) pa_nil)))
      (pss_cons (ps_set (i := 4) sc_l_row.nd rfl (Or.inl rfl) (pe_fn G_l_int hr (pa_cons (pv 0) pa_nil)))
      (pss_one (ps_ret (pe_tup (pa_cons pe_str (pa_cons (pv 3) (pa_cons (pv 4) (pa_cons (pv 2) (pa_cons (pe_fn G_l_ints hr (pa_cons (pv 0) pa_nil)) (pa_cons (pe_cmpR op_eq (pe_fn G_l_draw hr (pa_cons (pv 0) (pa_cons pe_int pa_nil))) pe_int (nomark _)) (pa_cons (pe_fn G_l_ints hr (pa_cons (pv 0) pa_nil)) pa_nil))))))))))))) pss_nil)
      (pss_cons (ps_if (pt_cmpR op_eq (pv 1) pe_int (nomark _)) (pss_one (ps_ret (pe_tup (pa_cons pe_str (pa_cons (pe_fn G_l_ints hr (pa_cons (pv 0) pa_nil)) (pa_cons (pe_fn G_l_ints hr (pa_cons (pv 0) pa_nil)) pa_nil)))))) pss_nil)
      (pss_cons (ps_if (pt_cmpR op_eq (pv 1) pe_int (nomark _)) (pss_one (ps_ret (pe_tup (pa_cons pe_str (pa_cons (pe_fn G_l_int hr (pa_cons (pv 0) pa_nil)) pa_nil))))) pss_nil)
      (pss_cons (ps_if (pt_cmpR op_eq (pv 1) pe_int (nomark _)) (pss_one (ps_ret (pe_tup (pa_cons pe_str (pa_cons (pe_fn G_l_marks hr (pa_cons (pv 0) pa_nil)) (pa_cons (pe_fn G_l_ints hr (pa_cons (pv 0) pa_nil)) (pa_cons (pe_fn G_l_int hr (pa_cons (pv 0) pa_nil)) pa_nil))))))) pss_nil)
      (pss_cons (ps_if (pt_cmpR op_eq (pv 1) pe_int (nomark _)) (pss_one (ps_ret (pe_tup (pa_cons pe_str (pa_cons (pe_fn G_l_ints hr (pa_cons (pv 0) pa_nil)) (pa_cons (pe_fn G_l_ints hr (pa_cons (pv 0) pa_nil)) (pa_cons (pe_fn G_l_ints hr (pa_cons (pv 0) pa_nil)) pa_nil))))))) pss_nil)
      (pss_cons (ps_if (pt_cmpR op_eq (pv 1) pe_int (nomark _)) (pss_one (ps_ret (pe_tup (pa_cons pe_str (pa_cons (pe_fn G_l_int hr (pa_cons (pv 0) pa_nil)) (pa_cons (pe_fn G_l_int hr (pa_cons (pv 0) pa_nil)) pa_nil)))))) pss_nil)
      (pss_one (ps_ret (pe_tup (pa_cons pe_str (pa_cons (pe_fn G_l_int hr (pa_cons (pv 0) pa_nil)) (pa_cons (pe_fn G_l_pack hr (pa_cons (pv 0) (pa_cons (pe_op op_sub (pv 1) pe_int) pa_nil))) pa_nil))))))))))))))), ?_⟩
    obtain ⟨n, l1, l2, d, c, n0, rfl, hd, hn, q⟩ := h
    walk_at "rd"
    have I9 : ∀ {H1 : Hp} {n1 : Nat} {Q1 : VK}, Dk K H1 d c n1 → n1 + 9 ≤ 900000 → (∀ H' v, Kp [d] H1 H' → Dk K H' d c (n1 + 9) → Can K .nInts v H' → Q1 v H') → spG K 9 [] (RInts K) [V.ref d] H1 Q1 E0 := fun h l q => spG_mk h l fun H' v k d r => q H' v k d r.can
    have I2 : ∀ {H1 : Hp} {n1 : Nat} {Q1 : VK}, Dk K H1 d c n1 → n1 + 2 ≤ 900000 → (∀ H' v, Kp [d] H1 H' → Dk K H' d c (n1 + 2) → Can K .nInt v H' → Q1 v H') → spG K 2 [] RInt [V.ref d] H1 Q1 E0 := fun h l q => spG_mk h l fun H' v k d r => q H' v k d r.can
    have fin : ∀ (j : Nat) (wd : Str) (ks : List Kd) (ps : List V) (H1 : Hp) (p : Addr), j < 11 → forms[j]! = (wd, ks) → Kp [d] H H1 → Dk K H1 d c (n0 + 2000) → H1 p = none → (∃ its, Parts K H1 ks ps its) → Q (.ref p) (upd H1 p (.tup (.str wd :: ps))) := by
      intro j wd ks ps H1 p lt e k hd1 hp h
      obtain ⟨its, h⟩ := h
      refine q _ _ (k.new hp) (hd1.new hp) (row_mk (ps := ps) j lt ?_ ?_)
      · rw [e]
        exact .inl (.inl upd_same)
      · rw [e]
        exact ⟨its, h.kp (Kp.refl (M := []).new hp)⟩
    by_cases h0 : n = 0
    · rw [if_pos h0]
      refine ⟨by decide, fun p hp => spDraw_mk (hd.new hp) (by omega) (by decide) (by decide) fun H1 r k1 hd1 r0 r1 => ?_⟩
      obtain ⟨hdp, hcp⟩ := hd.d hp
      have hp1 : H1 p = some (.lst [V.str (Str.ofString "hello"), V.str (Str.ofString "done")]) := k1.at upd_same (by simpa using fun z => hdp z.symm)
      have k01 : Kp [d] H H1 := (Kp.refl.new hp).trans k1
      have hr : r = 0 ∨ r = 1 := by omega
      rcases hr with rfl | rfl
      · exact ixL (SqL.of hp1) (at_is 0) ⟨by decide, fun t ht => fin 0 _ _ [] H1 t (by decide) rfl k01 (hd1.mono (by omega)) ht can_nil⟩
      · exact ixL (SqL.of hp1) (at_is 1) ⟨by decide, fun t ht => fin 6 _ _ [] H1 t (by decide) rfl k01 (hd1.mono (by omega)) ht can_nil⟩
    rw [if_neg h0]
    by_cases h1 : n = 1
    · rw [if_pos h1]
      exact I9 hd (by omega) fun H1 v k1 hd1 c1 => ⟨by decide, fun t ht => fin 1 _ _ [v] H1 t (by decide) rfl k1 (hd1.mono (by omega)) ht (can_cons c1 can_nil)⟩
    rw [if_neg h1]
    by_cases h2 : n = 2
    · rw [if_pos h2]
      refine spDraw_mk hd (by omega) (by decide) (by decide) fun H1 r k1 hd1 r0 r1 => ⟨_, rfl, by omega, by omega, ?_⟩
      refine rng_deck (cost := 1) (fun v H => Can K .nTruth v H) hd1 (by omega) (fun _ => rfl) (fun _ _ _ _ _ r k => r.kp k) (fun i2 x H3 Q3 hi k3 hd3 q3 => ?_) (fun H3 D ys k3 hd3 e1 e2 r => ?_)
      · walk_at "rd"
        refine spDraw_mk hd3 (by omega) (by decide) (by decide) fun H4 r k4 hd4 r0 r1 => ?_
        walk_at "rd"
        exact q3 _ _ k4 hd4 ⟨_, _, decide (r = 1), rfl, rfl, rfl⟩
      · refine ⟨D, rfl, ys, .inl ⟨SqL.of e1, fun l hl => ⟨by decide, fun t ht => ?_⟩⟩⟩
        have hT : Can K .nTruths (.ref l) (upd H3 l (.tup ys)) := isL_of (.inl (.inl upd_same)) (by omega) fun y hy => r y hy
        exact fin 2 _ _ [V.ref l] _ t (by decide) rfl ((k1.trans k3).new hl) ((hd3.new hl).mono (by omega)) ht (can_cons hT can_nil)
    rw [if_neg h2]
    by_cases h3 : n = 3
    · rw [if_pos h3]
      refine spDraw_mk hd (by omega) (by decide) (by decide) fun H1 r k1 hd1 r0 r1 => ⟨_, rfl, by omega, by omega, ?_⟩
      refine rng_deck (cost := 10) (fun v H => ∃ nw nl, IsLb v H nw nl) hd1 (by omega) (fun _ => rfl) (fun _ _ _ _ _ r k => r) (fun i2 x H3 Q3 hi k3 hd3 q3 => ?_) (fun H3 D ys k3 hd3 e1 e2 r => ?_)
      · walk_at "rd"
        exact spG_mk hd3 (by omega) fun H4 v k4 hd4 ⟨z, e, hz⟩ => q3 _ _ k4 hd4 ⟨_, _, z, e, hz, rfl, rfl⟩
      · refine ⟨D, rfl, ys, .inl ⟨SqL.of e1, fun l hl => ?_⟩⟩
        have hT : Can K .nLabels (.ref l) (upd H3 l (.tup ys)) := isL_of (.inl (.inl upd_same)) (by omega) fun y hy => r y hy
        have k4 := (k1.trans k3).new (o := .tup ys) hl
        have hd4 := hd3.new (o := .tup ys) hl
        generalize upd H3 l (.tup ys) = H4 at hT k4 hd4 ⊢
        refine I9 hd4 (by omega) fun H5 v5 k5 hd5 c5 => ?_
        refine I2 hd5 (by omega) fun H6 v6 k6 hd6 c6 => ?_
        refine I9 hd6 (by omega) fun H7 v7 k7 hd7 c7 => ?_
        refine spDraw_mk hd7 (by omega) (by decide) (by decide) fun H8 r8 k8 hd8 r80 r81 => ?_
        walk_at "rd"
        refine I9 hd8 (by omega) fun H9 v9 k9 hd9 c9 => ⟨by decide, fun t ht => ?_⟩
        have k89 := k8.trans k9
        have k79 := k7.trans k89
        have k69 := k6.trans k79
        refine fin 3 _ _ [v5, v6, V.ref l, v7, V.bl (decide (r8 = 1)), v9] _ t (by decide) rfl (k4.trans (k5.trans k69)) (hd9.mono (by omega)) ht
          (can_cons (c5.kp k69) (can_cons (c6.kp k79) (can_cons (hT.kp (k5.trans k69)) (can_cons (c7.kp k89) (can_cons ⟨_, _, _, rfl, rfl, rfl⟩ (can_cons c9 can_nil))))))
    rw [if_neg h3]
    by_cases h4 : n = 4
    · rw [if_pos h4]
      exact I9 hd (by omega) fun H1 v1 k1 hd1 c1 => I9 hd1 (by omega) fun H2 v2 k2 hd2 c2 => ⟨by decide, fun t ht => fin 4 _ _ [v1, v2] H2 t (by decide) rfl (k1.trans k2) (hd2.mono (by omega)) ht (can_cons (c1.kp k2) (can_cons c2 can_nil))⟩
    rw [if_neg h4]
    by_cases h5 : n = 5
    · rw [if_pos h5]
      exact I2 hd (by omega) fun H1 v1 k1 hd1 c1 => ⟨by decide, fun t ht => fin 5 _ _ [v1] H1 t (by decide) rfl k1 (hd1.mono (by omega)) ht (can_cons c1 can_nil)⟩
    rw [if_neg h5]
    by_cases h6 : n = 6
    · rw [if_pos h6]
      exact spG_mk hd (by omega) fun H1 v1 k1 hd1 c1 => I9 hd1 (by omega) fun H2 v2 k2 hd2 c2 => I2 hd2 (by omega) fun H3 v3 k3 hd3 c3 => ⟨by decide, fun t ht => fin 7 _ _ [v1, v2, v3] H3 t (by decide) rfl ((k1.trans k2).trans k3) (hd3.mono (by omega)) ht
        (can_cons (Can.kp (k := .nMarks) c1 (k2.trans k3)) (can_cons (c2.kp k3) (can_cons c3 can_nil)))⟩
    rw [if_neg h6]
    by_cases h7 : n = 7
    · rw [if_pos h7]
      exact I9 hd (by omega) fun H1 v1 k1 hd1 c1 => I9 hd1 (by omega) fun H2 v2 k2 hd2 c2 => I9 hd2 (by omega) fun H3 v3 k3 hd3 c3 => ⟨by decide, fun t ht => fin 8 _ _ [v1, v2, v3] H3 t (by decide) rfl ((k1.trans k2).trans k3) (hd3.mono (by omega)) ht
        (can_cons (c1.kp (k2.trans k3)) (can_cons (c2.kp k3) (can_cons c3 can_nil)))⟩
    rw [if_neg h7]
    by_cases h8 : n = 8
    · rw [if_pos h8]
      exact I2 hd (by omega) fun H1 v1 k1 hd1 c1 => I2 hd1 (by omega) fun H2 v2 k2 hd2 c2 => ⟨by decide, fun t ht => fin 9 _ _ [v1, v2] H2 t (by decide) rfl (k1.trans k2) (hd2.mono (by omega)) ht (can_cons (c1.kp k2) (can_cons c2 can_nil))⟩
    rw [if_neg h8]
    exact I2 hd (by omega) fun H1 v1 k1 hd1 c1 => ⟨n - 9, by omega, by omega, spG_mk hd1 (by omega) fun H2 v2 k2 hd2 c2 => ⟨by decide, fun t ht => fin 10 _ _ [v1, v2] H2 t (by decide) rfl (k1.trans k2) (hd2.mono (by omega)) ht (can_cons (c1.kp k2) (can_cons (k := .nPack) c2 can_nil))⟩⟩
end
end Kq
set_option Elab.async false
set_option linter.all false
set_option maxRecDepth 100000
set_option maxHeartbeats 4000000
namespace Kq
open PySem PySem.Spec PyProof.Rows L2 Fw
local macro_rules | `(tactic| walk_at "rd") => `(tactic| try simp only [tSeq, tNext, tBreak, tCont, tDrop, tRet, tRetN, tIfS, tAsg, tVar, tC, tOp, tUn, tTest, tB, tAnd, tOr, tNot, tAndV, tOrV, tNotV, tIf, tChain, tCB, tCons, tNil, tTup, tLst, tCall, tCallS, WE,
  gName, gSub, rI, rI0, rU, rEq, rNe, rIsiC, tSl, tPart, tNoPart, rSetL, tBM, tBM0, rAppend, rExtend, rExtendT, tCallL, L2.start, List.map_cons, List.map_nil, List.length_cons, List.length_nil, Nat.sub_self, Nat.reduceAdd, Nat.reduceSub, List.replicate_zero, List.replicate_succ, List.append_nil, List.nil_append, List.cons_append,
  List.getElem?_cons_zero, List.getElem?_cons_succ, List.set_cons_zero, List.set_cons_succ, Option.some.injEq, exists_eq_left', exists_eq_left, exists_eq_right, exists_eq_right', exists_const, exists_and_left, exists_and_right, V.int.injEq, V.bl.injEq, V.str.injEq, V.ref.injEq, V.ty.injEq, List.cons.injEq, and_true, true_and, and_assoc, reduceCtorEq, false_and, and_false, exists_false, false_or, or_false,
  if_true, if_false, Bool.not_true, Bool.not_false, Bool.false_eq_true, Bool.true_eq_false, ↓reduceIte, decide_eq_true_eq, decide_true, decide_false, sc_nn, sc_ni, sc_in, sc_nb, sc_bn, sc_ns, sc_sn, sc_ii, sc_bb, sc_ss, sc_is, sc_si, sc_bs, sc_sb, ipI, Int.reduceLT, Int.reduceLE, Int.reduceEq, Nat.reduceLT, Nat.reduceEqDiff, String.reduceEq, nc0, nc1, nc2, nc3, nc4, nc5, nc6, nc7, nc8, nc9, nc10, nc11, nc12, cx_K, cx_w, wipe, lenV_str, rCat, exists_eq, exists_eq', relO, relC, relM, relI, relSl, spOf, ciOf, csOf, crOf, L2.rIxD, eq_self, not_true_eq_false, not_false_eq_true, Option.isSome_some, Option.isSome_none, tCallV, ofS_inj, sg_inj, sg_len, sg_lt, tM1, tM0, tLc_rng1, tLc_rng2, tFor_rng1, tFor_rng2, tDNewK, sDPut,  Nat.reduceLeDiff, Bool.not_eq_true', decide_eq_false_iff_not,
  isi_int_int, isi_int_bool, isi_int_str, isi_int_tuple, isi_int_list, isi_int_dict, isi_bool_int, isi_bool_bool, isi_bool_str, isi_bool_tuple, isi_bool_list, isi_bool_dict, isi_str_int, isi_str_bool, isi_str_str, isi_str_tuple, isi_str_list, isi_str_dict, isi_non_int, isi_non_bool, isi_non_str, isi_non_tuple, isi_non_list, isi_non_dict])
local macro_rules | `(tactic| walk_at "ix") => `(tactic| (refine ixT (by assumption) rfl ?_; walk_at "rd"))
local macro_rules | `(tactic| walk_at "len") => `(tactic| (refine ⟨_, lenV_T (by assumption), ?_⟩; walk_at "rd"))
local macro_rules | `(tactic| walk_at "isT") => `(tactic| (refine ⟨true, isiT (by assumption), ?_⟩; walk_at "rd"))

section
variable {P : Program} {w : World} {K : PySem.W.Frag} {mg : Str → Option Value} {base : Heap} {CN CB CH : Addr}
theorem sc_l_words : FnScope ["_law_thing", "_law_words_here", "_law_one"] ["_law_thing"] (defScope s_l_words) := ⟨rfl, rfl, rfl, by decide +kernel, rfl, by decide +kernel, by decide +kernel⟩
/-- a promise of nothing -/
def spNo : Sp := fun _ _ _ _ => False
theorem no_of {x : Str} {st : Stmt} {ps : List Str} (F : At K mg x st ps) : Dfn P w K mg base 0 x ps spNo := by
  obtain ⟨f, fd, FD, hm, hb⟩ := F.ex
  exact ⟨f, fd, ⟨fun vs H Q E h => h.elim, fun A outer s H args us vs Q E hr he hb hv h => h.elim⟩, hm, FD.kp, hb, by
    obtain ⟨oc, od, dV, kV, doc, pm, an, cdv, ct, osl, e1, lk, _⟩ := FD.ex
    exact ⟨oc, od, osl, lk⟩⟩
/-- a thing of one word -/
def IsSc (v : V) (nw : List Str) : Prop := (∃ i, v = .int i ∧ okI i = true ∧ nw = [iS i]) ∨ (∃ b, v = .bl b ∧ nw = [if b then ("yes" : Str) else "no"]) ∨ ∃ z, v = .str z ∧ nw = [z]
/-- a tuple of such, or of pairs -/
structure IsTw (K : PySem.W.Frag) (v : V) (H : Hp) (nw : List Str) : Prop where
  ex : ∃ (a : Addr) (xs : List V) (ws : List (List Str)), v = .ref a ∧ SqT K H a xs ∧ xs.length ≤ 400 ∧ ws.length = xs.length ∧ nw = [("(" : Str)] ++ ws.flatMap id ++ [(")" : Str)] ∧ (∀ u ∈ ws, u.length ≤ 2) ∧
    ∀ (i : Nat) (x : V) (u : List Str), xs[i]? = some x → ws[i]? = some u → IsSc x u ∨ ∃ b z j, x = .ref b ∧ SqT K H b [.str z, .int j] ∧ okI j = true ∧ u = [z, iS j]
def spWords (K : PySem.W.Frag) (lists : Bool) : Sp := fun vs H Q _ => ∃ v nw, vs = [v] ∧ (IsSc v nw ∨ (lists = true ∧ IsTw K v H nw)) ∧ ∀ H' p, Kp [] H H' → H p = none → H' p = some (.lst (nw.map V.str)) → Q (.ref p) H'
theorem ok_words (T : Txt K w mg CN CB CH) (F : At K mg "_law_words" s_l_words ["_law_thing"]) {k : Nat} {lists : Bool} {sp0 : Sp} (G_l_words : Dfn P w K mg base k "_law_words" ["_law_thing"] sp0) (h0 : lists = true → sp0 = spWords K false) : Dfn P w K mg base (k + 1) "_law_words" ["_law_thing"] (spWords K lists) := by
  refine F.ok sc_l_words (fun vs H Q E h => ?_) (fun qual f cdv A outer s H vs Q E hr h => ?_)
  · obtain ⟨v, nw, rfl, _⟩ := h
    rfl
  · refine ⟨_, (pss_cons (ps_if (pt_val (pe_callB call_isiC (by rfl) T.isinstance_ (by decide +kernel) (pa_cons (pv 0) (pa_cons (pe_ty "bool" rfl T.bool_ (by decide +kernel)) pa_nil)))) (pss_one (ps_ret (pe_lst (pa_cons (pe_ix ix_list (pe_lst (pa_cons pe_str (pa_cons pe_str pa_nil))) (pe_callTy call_int1 (by rfl) T.int_ (by decide +kernel) (pa_cons (pv 0) pa_nil)) (fun _ _ => rfl)) pa_nil)))) pss_nil)
      (pss_cons (ps_if (pt_val (pe_callB call_isiC (by rfl) T.isinstance_ (by decide +kernel) (pa_cons (pv 0) (pa_cons (pe_ty "int" rfl T.int_ (by decide +kernel)) pa_nil)))) (pss_one (ps_ret (pe_lst (pa_cons (pe_callTy call_str_int (by rfl) T.str_ (by decide +kernel) (pa_cons (pv 0) pa_nil)) pa_nil)))) pss_nil)
      (pss_cons (ps_if (pt_val (pe_callB call_isiC (by rfl) T.isinstance_ (by decide +kernel) (pa_cons (pv 0) (pa_cons (pe_ty "str" rfl T.str_ (by decide +kernel)) pa_nil)))) (pss_one (ps_ret (pe_lst (pa_cons (pv 0) pa_nil)))) pss_nil)
      (pss_cons (ps_set (i := 1) sc_l_words.nd rfl (Or.inl rfl) (pe_lst (pa_cons pe_str pa_nil)))
      (pss_cons (ps_for (passes_of rfl) rfl (pi_tup (pv 0)) (pg_name (i := 2) sc_l_words.nd rfl (Or.inl rfl)) (pss_one (ps_if (pt_val (pe_callB call_isiC (by rfl) T.isinstance_ (by decide +kernel) (pa_cons (pv 2) (pa_cons (pe_ty "tuple" rfl T.tuple_ (by decide +kernel)) pa_nil)))) (pss_one (ps_set (i := 1) sc_l_words.nd rfl (Or.inl rfl) (pe_op op_cat (pv 1) (pe_lst (pa_cons (pe_ix ix_tup (pv 2) pe_int (fun _ _ => rfl)) (pa_cons (pe_callTy call_str_int (by rfl) T.str_ (by decide +kernel) (pa_cons (pe_ix ix_tup (pv 2) pe_int (fun _ _ => rfl)) pa_nil)) pa_nil)))))) (pss_one (ps_set (i := 1) sc_l_words.nd rfl (Or.inl rfl) (pe_op op_cat (pv 1) (pe_fn G_l_words hr (pa_cons (pv 2) pa_nil) (hk := Nat.le_refl _))))))))
      (pss_one (ps_ret (pe_op op_cat (pv 1) (pe_lst (pa_cons pe_str pa_nil)))))))))), ?_⟩
    obtain ⟨v, nw, rfl, h, q⟩ := h
    rcases h with (⟨i, rfl, hi, rfl⟩ | ⟨b, rfl, rfl⟩ | ⟨z, rfl, rfl⟩) | ⟨hl, hT⟩
    · walk_at "rd"
      exact ⟨okI_log hi, by decide, fun p hp => q _ p (Kp.refl.new hp) hp upd_same⟩
    · walk_at "rd"
      refine ⟨by decide, fun p hp => ?_⟩
      have fin : ∀ z : Str, z = (if b then ("yes" : Str) else "no") → 1 ≤ sizeLine ∧ ∀ p2, (upd H p (.lst [V.str (Str.ofString "no"), V.str (Str.ofString "yes")])) p2 = none → Q (V.ref p2) (upd (upd H p (.lst [V.str (Str.ofString "no"), V.str (Str.ofString "yes")])) p2 (.lst [V.str z])) := by
        rintro z rfl
        exact ⟨by decide, fun p2 hp2 => q _ p2 ((Kp.refl.new hp).new hp2) ((Kp.refl.new (M := []) hp).free hp2) upd_same⟩
      cases b with
      | true => exact ixL (SqL.of upd_same) (at_is 1) (fin _ rfl)
      | false => exact ixL (SqL.of upd_same) (at_is 0) (fin _ rfl)
    · walk_at "rd"
      exact ⟨by decide, fun p hp => q _ p (Kp.refl.new hp) hp upd_same⟩
    · obtain ⟨a, xs, ws, rfl, hs, hx, hw, rfl, hu2, hel⟩ := hT.ex
      have e0 := h0 hl
      subst e0
      walk_at "rd"
      refine ⟨false, isiT_ hs (by decide +kernel), ?_⟩
      walk_at "rd"
      refine ⟨false, isiT_ hs (by decide +kernel), ?_⟩
      walk_at "rd"
      refine ⟨false, isiT_ hs (by decide +kernel), ?_⟩
      walk_at "rd"
      refine ⟨by decide, fun p hp => ?_⟩
      have kp : Kp [] H (upd H p (.lst [V.str (Str.ofString "(")])) := Kp.refl.new hp
      obtain ⟨Pv, hPv⟩ : ∃ Pv : Nat → L2.St → Hp → Prop, ∀ i σ H', Pv i σ H' ↔ (Kp [] H H' ∧ ∃ o p', σ = [some (V.ref a), some (V.ref p'), o] ∧ H p' = none ∧ H' p' = some (.lst ((("(" : Str) :: (ws.take i).flatMap id).map V.str))) := ⟨_, fun _ _ _ => Iff.rfl⟩
      have few : ∀ i, i ≤ xs.length → ((ws.take i).flatMap id).length ≤ 2 * i := by
        intro i hi
        have h1 := flat_len (f := fun u : List Str => u) (n := 2) (l := ws.take i) fun u hu => hu2 u (List.mem_of_mem_take hu)
        have h2 : (ws.take i).length = i := by rw [List.length_take]; omega
        rw [h2] at h1
        have h3 : (ws.take i).flatMap id = (ws.take i).flatMap fun u => u := rfl
        rw [h3]
        omega
      refine ⟨_, rfl, a, rfl, ⟨xs, kp.tup hs⟩, for_tup (xs := xs) Pv ?_ ?_ ?_ ?_⟩
      · exact (hPv _ _ _).mpr ⟨kp, _, p, rfl, hp, upd_same⟩
      · intro i σ H' _ h
        exact ((hPv _ _ _).mp h).1.tup hs
      · intro i x σ H1 hxi h
        obtain ⟨k1, o, p', rfl, hp', e1⟩ := (hPv _ _ _).mp h
        have hi : i < xs.length := (List.getElem?_eq_some_iff.mp hxi).1
        have hwi : ws[i]? = some ws[i] := List.getElem?_eq_getElem (by omega)
        have fi := few i (by omega)
        have ui : (ws[i]).length ≤ 2 := hu2 _ (List.getElem_mem _)
        -- what a turn adds
        have add : ∀ (H2 : Hp) (b : Addr), Kp [] H1 H2 → H2 b = some (.lst ((ws[i]).map V.str)) → ∃ ys, H2 p' = some (.lst ys) ∧ ∃ zs, H2 b = some (.lst zs) ∧ ys.length + zs.length ≤ sizeLine ∧ ∀ t, H2 t = none → Pv (i + 1) [some (V.ref a), some (V.ref t), some x] (upd H2 t (.lst (ys ++ zs))) := by
          intro H2 b k2 hb
          refine ⟨_, k2.at e1 (by simp), _, hb, ?_, fun t ht => (hPv _ _ _).mpr ⟨(k1.trans k2).new ht, _, t, rfl, (k1.trans k2).free ht, ?_⟩⟩
          · rw [sizeLine_eq]
            simp only [List.length_map, List.length_cons]
            omega
          · rw [upd_same, ← List.map_append, flat_take hwi]
            rfl
        walk_at "rd"
        rcases hel i x _ hxi hwi with hsc | ⟨b, z, j, rfl, hb, hj, e2⟩
        · have hn : Isi K H1 x "tuple" false := by
            rcases hsc with ⟨j, rfl, _⟩ | ⟨b, rfl, _⟩ | ⟨z, rfl, _⟩
            · exact isi_int_tuple.mpr rfl
            · exact isi_bool_tuple.mpr rfl
            · exact isi_str_tuple.mpr rfl
          refine ⟨false, hn, ?_⟩
          walk_at "rd"
          exact ⟨x, ws[i], rfl, .inl hsc, fun H2 b k2 _ hb => ⟨b, rfl, add H2 b k2 hb⟩⟩
        · refine ⟨true, isiT (k1.tup hb), ?_⟩
          walk_at "rd"
          refine ixT (k1.tup hb) (at_is 0) (ixT (k1.tup hb) (at_is 1) ⟨j, rfl, okI_log hj, by decide, fun t ht => add _ t (Kp.refl.new ht) ?_⟩)
          rw [upd_same, e2]
          rfl
      · intro σ H1 h
        obtain ⟨k1, o, p', rfl, hp', e1⟩ := (hPv _ _ _).mp h
        have fi := few xs.length (Nat.le_refl _)
        rw [← hw, List.take_length] at e1 fi
        walk_at "rd"
        refine ⟨by decide, fun t ht => ⟨_, (Kp.refl (M := []).new ht).at e1 (by simp), _, upd_same, ?_, fun u hu => q _ u ((k1.new ht).new hu) ((k1.new ht).free hu) ?_⟩⟩
        · rw [sizeLine_eq]
          simp only [List.length_map, List.length_cons, List.length_nil]
          omega
        · rw [upd_same]
          simp
end
end Kq
set_option Elab.async false
set_option linter.all false
set_option maxRecDepth 100000
set_option maxHeartbeats 4000000
namespace Kq
open PySem PySem.Spec PyProof.Rows L2 Fw
local macro_rules | `(tactic| walk_at "rd") => `(tactic| try simp only [tSeq, tNext, tBreak, tCont, tDrop, tRet, tRetN, tIfS, tAsg, tVar, tC, tOp, tUn, tTest, tB, tAnd, tOr, tNot, tAndV, tOrV, tNotV, tIf, tChain, tCB, tCons, tNil, tTup, tLst, tCall, tCallS, WE,
  gName, gSub, rI, rI0, rU, rEq, rNe, rIsiC, tSl, tPart, tNoPart, rSetL, tBM, tBM0, rAppend, rExtend, rExtendT, tCallL, L2.start, List.map_cons, List.map_nil, List.length_cons, List.length_nil, Nat.sub_self, Nat.reduceAdd, Nat.reduceSub, List.replicate_zero, List.replicate_succ, List.append_nil, List.nil_append, List.cons_append,
  List.getElem?_cons_zero, List.getElem?_cons_succ, List.set_cons_zero, List.set_cons_succ, Option.some.injEq, exists_eq_left', exists_eq_left, exists_eq_right, exists_eq_right', exists_const, exists_and_left, exists_and_right, V.int.injEq, V.bl.injEq, V.str.injEq, V.ref.injEq, V.ty.injEq, List.cons.injEq, and_true, true_and, and_assoc, reduceCtorEq, false_and, and_false, exists_false, false_or, or_false,
  if_true, if_false, Bool.not_true, Bool.not_false, Bool.false_eq_true, Bool.true_eq_false, ↓reduceIte, decide_eq_true_eq, decide_true, decide_false, sc_nn, sc_ni, sc_in, sc_nb, sc_bn, sc_ns, sc_sn, sc_ii, sc_bb, sc_ss, sc_is, sc_si, sc_bs, sc_sb, ipI, Int.reduceLT, Int.reduceLE, Int.reduceEq, Nat.reduceLT, Nat.reduceEqDiff, String.reduceEq, nc0, nc1, nc2, nc3, nc4, nc5, nc6, nc7, nc8, nc9, nc10, nc11, nc12, cx_K, cx_w, wipe, lenV_str, rCat, exists_eq, exists_eq', relO, relC, relM, relI, relSl, spOf, ciOf, csOf, crOf, L2.rIxD, eq_self, not_true_eq_false, not_false_eq_true, Option.isSome_some, Option.isSome_none, tCallV, ofS_inj, sg_inj, sg_len, sg_lt, tM1, tM0, tLc_rng1, tLc_rng2, tFor_rng1, tFor_rng2, tDNewK, sDPut,  Nat.reduceLeDiff, Bool.not_eq_true', decide_eq_false_iff_not,
  isi_int_int, isi_int_bool, isi_int_str, isi_int_tuple, isi_int_list, isi_int_dict, isi_bool_int, isi_bool_bool, isi_bool_str, isi_bool_tuple, isi_bool_list, isi_bool_dict, isi_str_int, isi_str_bool, isi_str_str, isi_str_tuple, isi_str_list, isi_str_dict, isi_non_int, isi_non_bool, isi_non_str, isi_non_tuple, isi_non_list, isi_non_dict])
local macro_rules | `(tactic| walk_at "ix") => `(tactic| (refine ixT (by assumption) rfl ?_; walk_at "rd"))
local macro_rules | `(tactic| walk_at "len") => `(tactic| (refine ⟨_, lenV_T (by assumption), ?_⟩; walk_at "rd"))
local macro_rules | `(tactic| walk_at "isT") => `(tactic| (refine ⟨true, isiT (by assumption), ?_⟩; walk_at "rd"))

section
variable {P : Program} {w : World} {K : PySem.W.Frag} {mg : Str → Option Value} {base : Heap} {CN CB CH : Addr}
theorem sc_l_pack_words : FnScope ["_law_row_here", "_law_lines", "_law_words_here", "_law_piece", "_law_part"] ["_law_row_here", "_law_lines"] (defScope s_l_pack_words) := ⟨rfl, rfl, rfl, by decide +kernel, rfl, by decide +kernel, by decide +kernel⟩
theorem tw_L {D : Wr} {n : Nat} {v : V} {H : Hp} {nw nl : List Str} (hn : n ≤ 400) (hD : ∀ x u l, D x H u l → u.length ≤ 2 ∧ l = [] ∧ (IsSc x u ∨ ∃ b z j, x = .ref b ∧ SqT K H b [.str z, .int j] ∧ okI j = true ∧ u = [z, iS j])) (h : IsL K D n v H nw nl) : IsTw K v H nw ∧ nl = [] := by
  obtain ⟨a, xs, its, rfl, hs, hx, hl, hi, rfl, rfl⟩ := h
  have all : ∀ p ∈ its, p.1.length ≤ 2 ∧ p.2 = [] := by
    intro p hp
    obtain ⟨i, hip⟩ := List.mem_iff_getElem?.mp hp
    have h1 : i < xs.length := by
      have := (List.getElem?_eq_some_iff.mp hip).1
      omega
    obtain ⟨g1, g2, _⟩ := hD _ _ _ (hi i _ p (List.getElem?_eq_getElem h1) hip)
    exact ⟨g1, g2⟩
  refine ⟨⟨a, xs, its.map (·.1), rfl, hs, by omega, by simp [hl], by rw [List.flatMap_map]; rfl, fun u hu => ?_, fun i x u h1 h2 => ?_⟩, ?_⟩
  · obtain ⟨p, hp, rfl⟩ := List.mem_map.mp hu
    exact (all p hp).1
  · rw [List.getElem?_map, Option.map_eq_some_iff] at h2
    obtain ⟨p, h3, rfl⟩ := h2
    exact (hD _ _ _ (hi i x p h1 h3)).2.2
  · rw [List.flatMap_eq_nil_iff]
    exact fun p hp => (all p hp).2
theorem tw_I {n : Nat} {v : V} {H : Hp} {nw nl : List Str} (hn : n ≤ 400) (h : IsL K IsI n v H nw nl) : IsTw K v H nw ∧ nl = [] := tw_L hn (by
  rintro x u l ⟨i, rfl, hi, rfl, rfl⟩
  exact ⟨by simp, rfl, .inl (.inl ⟨i, rfl, hi, rfl⟩)⟩) h
theorem tw_B {n : Nat} {v : V} {H : Hp} {nw nl : List Str} (hn : n ≤ 400) (h : IsL K IsB n v H nw nl) : IsTw K v H nw ∧ nl = [] := tw_L hn (by
  rintro x u l ⟨i, rfl, rfl, rfl⟩
  exact ⟨by simp, rfl, .inl (.inr (.inl ⟨i, rfl, rfl⟩))⟩) h
theorem tw_Lb {n : Nat} {v : V} {H : Hp} {nw nl : List Str} (hn : n ≤ 400) (h : IsL K IsLb n v H nw nl) : IsTw K v H nw ∧ nl = [] := tw_L hn (by
  rintro x u l ⟨i, rfl, hi, rfl, rfl⟩
  exact ⟨by simp, rfl, .inl (.inr (.inr ⟨i, rfl, rfl⟩))⟩) h
theorem tw_Pr {n : Nat} {v : V} {H : Hp} {nw nl : List Str} (hn : n ≤ 400) (h : IsL K (IsPr K) n v H nw nl) : IsTw K v H nw ∧ nl = [] := tw_L hn (by
  rintro x u l ⟨a, z, i, rfl, hs, hz, hi, rfl, rfl⟩
  exact ⟨by simp, rfl, .inr ⟨a, z, i, rfl, hs, hi, rfl⟩⟩) h
theorem sc_I {i : Int} (h : okI i = true) : IsSc (.int i) [iS i] := .inl ⟨i, rfl, h, rfl⟩
theorem IsTw.kp {v : V} {M : List Addr} {H H' : Hp} {nw : List Str} (h : IsTw K v H nw) (k : Kp M H H') : IsTw K v H' nw := by
  obtain ⟨a, xs, ws, e, hs, h1, h2, h3, h4, h5⟩ := h.ex
  refine ⟨⟨a, xs, ws, e, k.tup hs, h1, h2, h3, h4, fun i x u g1 g2 => ?_⟩⟩
  rcases h5 i x u g1 g2 with g | ⟨b, z, j, g3, g4, g5⟩
  · exact .inl g
  · exact .inr ⟨b, z, j, g3, k.tup g4, g5⟩
def TupGoal (K : PySem.W.Frag) (a : Addr) (g : TG) (tb : TS) (D : Ends) (σ : L2.St) (H : Hp) : Prop := ∃ W : Nat → Nat → L2.St → Hp → Prop, (∃ m, W 0 m σ H) ∧ ∀ i m σ H, W i m σ H →
      ((Itt K a).stop i H ∧ D.nx σ H) ∨ ((Itt K a).go i H ∧ ∃ N : L2.St → Hp → Prop, (∀ σ' H', N σ' H' → ∃ m', m' < m ∧ W (i + 1) m' σ' H') ∧ ∀ x H', (Itt K a).yld i H x H' → g x σ H' fun σ2 H2 => tb { D with nx := N, ct := N, bk := D.nx } σ2 H2)
theorem tFor_tup {ts : TE} {g : TG} {tb : TS} {D : Ends} {σ : L2.St} {H : Hp} : tFor (iTup K ts) g tb D σ H = (ts σ H fun x H1 => ∃ a, x = .ref a ∧ (∃ xs, SqT K H1 a xs) ∧ TupGoal K a g tb D σ H1) := rfl
theorem tup_goal {a : Addr} {xs : List V} {g : TG} {tb : TS} {D : Ends} {σ : L2.St} {H : Hp} (Pv : Nat → L2.St → Hp → Prop) (h0 : Pv 0 σ H) (hG : ∀ i σ H, i ≤ xs.length → Pv i σ H → SqT K H a xs)
    (hs : ∀ i x σ H, xs[i]? = some x → Pv i σ H → g x σ H fun σ2 H2 => tb { D with nx := Pv (i + 1), ct := Pv (i + 1), bk := D.nx } σ2 H2) (hd : ∀ σ H, Pv xs.length σ H → D.nx σ H) : TupGoal K a g tb D σ H :=
  for_it walk_tup Pv h0 hG (fun i x σ H H' hi p y => by
    obtain ⟨rfl, hx⟩ := y
    exact hs i x σ H' hx p) hd
/-- words = words + [..] -/
theorem cat_mk {H1 : Hp} {t p : Addr} {ws : List Str} (zs : List Str) {G : Addr → Hp → Prop} (ht : H1 t = none) (hp : H1 p = some (.lst (ws.map V.str))) (hz : ws.length + zs.length ≤ 100000) (g : ∀ u H2, Kp [] H1 H2 → H1 u = none → H2 u = some (.lst ((ws ++ zs).map V.str)) → G u H2) :
    ∃ x, upd H1 t (.lst (zs.map V.str)) p = some (.lst x) ∧ ∃ y, upd H1 t (.lst (zs.map V.str)) t = some (.lst y) ∧ x.length + y.length ≤ sizeLine ∧ ∀ u, upd H1 t (.lst (zs.map V.str)) u = none → G u (upd (upd H1 t (.lst (zs.map V.str))) u (.lst (x ++ y))) := by
  have k1 : Kp [] H1 (upd H1 t (.lst (zs.map V.str))) := Kp.refl.new ht
  refine ⟨_, k1.at hp (by simp), _, upd_same, by rw [sizeLine_eq, List.length_map, List.length_map]; omega, fun u hu => g u _ (k1.new hu) (k1.free hu) ?_⟩
  rw [upd_same, List.map_append]
theorem cat_mk2 {H1 : Hp} {t p : Addr} {ws zs : List Str} {G : Addr → Hp → Prop} (ht : H1 t = some (.lst (zs.map V.str))) (hp : H1 p = some (.lst (ws.map V.str))) (hz : ws.length + zs.length ≤ 100000) (g : ∀ u H2, Kp [] H1 H2 → H1 u = none → H2 u = some (.lst ((ws ++ zs).map V.str)) → G u H2) :
    ∃ x, H1 p = some (.lst x) ∧ ∃ y, H1 t = some (.lst y) ∧ x.length + y.length ≤ sizeLine ∧ ∀ u, H1 u = none → G u (upd H1 u (.lst (x ++ y))) := by
  refine ⟨_, hp, _, ht, by rw [sizeLine_eq, List.length_map, List.length_map]; omega, fun u hu => g u _ (Kp.refl.new hu) hu ?_⟩
  rw [upd_same, List.map_append]
def spPackWords (K : PySem.W.Frag) : Sp := fun vs H Q _ => ∃ v la ls nw nl, vs = [v, .ref la] ∧ H la = some (.lst (ls.map V.str)) ∧ ls.length ≤ 100000 ∧ IsPk K v H nw nl ∧
  ∀ H' p, Kp [la] H H' → H p = none → H' p = some (.lst (nw.map V.str)) → H' la = some (.lst ((ls ++ nl).map V.str)) → Q (.ref p) H'
theorem ok_pack_words (T : Txt K w mg CN CB CH) (F : At K mg "_law_pack_words" s_l_pack_words ["_law_row_here", "_law_lines"]) (G_l_words : Dfn P w K mg base 2 "_law_words" ["_law_thing"] (spWords K true)) : Dfn P w K mg base 3 "_law_pack_words" ["_law_row_here", "_law_lines"] (spPackWords K) := by
  refine F.ok sc_l_pack_words (fun vs H Q E h => ?_) (fun qual f cdv A outer s H vs Q E hr h => ?_)
  · obtain ⟨v, la, ls, nw, nl, rfl, _⟩ := h
    rfl
  · refine ⟨_, (pss_cons (ps_set (i := 2) sc_l_pack_words.nd rfl (Or.inl rfl) (pe_lst (pa_cons (pe_callTy call_str_int (by rfl) T.str_ (by decide +kernel) (pa_cons (pe_ix ix_tup (pv 0) pe_int (fun _ _ => rfl)) pa_nil)) (pa_cons (pe_ix ix_tup (pv 0) pe_int (fun _ _ => rfl)) pa_nil))))
      (pss_cons (ps_if (pt_cmpR op_eq (pe_ix ix_tup (pv 0) pe_int (fun _ _ => rfl)) pe_str (nomark _)) (pss_cons (ps_set (i := 2) sc_l_pack_words.nd rfl (Or.inl rfl) (pe_op op_cat (pv 2) (pe_lst (pa_cons (pe_callTy call_str_int (by rfl) T.str_ (by decide +kernel) (pa_cons (pe_ix ix_tup (pv 0) pe_int (fun _ _ => rfl)) pa_nil)) (pa_cons pe_str pa_nil)))))
      (pss_cons (ps_for (passes_of rfl) rfl (pi_tup (pe_ix ix_tup (pv 0) pe_int (fun _ _ => rfl))) (pg_name (i := 3) sc_l_pack_words.nd rfl (Or.inl rfl)) (pss_one (ps_if (pt_cmpR op_eq (pe_ix ix_tup (pv 3) pe_int (fun _ _ => rfl)) pe_str (nomark _)) (pss_one (ps_set (i := 2) sc_l_pack_words.nd rfl (Or.inl rfl) (pe_op op_cat (pv 2) (pe_lst (pa_cons pe_str (pa_cons (pe_callTy call_str_int (by rfl) T.str_ (by decide +kernel) (pa_cons (pe_ix ix_tup (pv 3) pe_int (fun _ _ => rfl)) pa_nil)) (pa_cons (pe_callTy call_str_int (by rfl) T.str_ (by decide +kernel) (pa_cons (pe_ix ix_tup (pv 3) pe_int (fun _ _ => rfl)) pa_nil)) pa_nil))))))) (pss_cons (ps_set (i := 2) sc_l_pack_words.nd rfl (Or.inl rfl) (pe_op op_cat (pv 2) (pe_lst (pa_cons pe_str (pa_cons (pe_callTy call_str_int (by rfl) T.str_ (by decide +kernel) (pa_cons (pe_callB call_len (by rfl) T.len_ (by decide +kernel) (pa_cons (pe_ix ix_tup (pv 3) pe_int (fun _ _ => rfl)) pa_nil)) pa_nil)) pa_nil)))))
      (pss_one (ps_expr (pe_bm PySem.F.plainAttrs_list PySem.F.slot_list_extend PySem.F.type_list_extend mt_extendT (pv 1) (pa_cons (pe_ix ix_tup (pv 3) pe_int (fun _ _ => rfl)) pa_nil))))))))
      (pss_one (ps_ret (pe_op op_cat (pv 2) (pe_lst (pa_cons pe_str pa_nil))))))) pss_nil)
      (pss_cons (ps_expr (pe_bm PySem.F.plainAttrs_list PySem.F.slot_list_append PySem.F.type_list_append mt_append (pv 2) (pa_cons (pe_ix ix_tup (pe_ix ix_tup (pv 0) pe_int (fun _ _ => rfl)) pe_int (fun _ _ => rfl)) pa_nil)))
      (pss_cons (ps_if (pt_cmpR op_eq (pe_ix ix_tup (pe_ix ix_tup (pv 0) pe_int (fun _ _ => rfl)) pe_int (fun _ _ => rfl)) pe_str (nomark _)) (pss_cons (ps_expr (pe_bm PySem.F.plainAttrs_list PySem.F.slot_list_extend PySem.F.type_list_extend mt_extendT (pv 1) (pa_cons (pe_ix ix_tup (pe_ix ix_tup (pv 0) pe_int (fun _ _ => rfl)) pe_int (fun _ _ => rfl)) pa_nil)))
      (pss_one (ps_ret (pe_op op_cat (pv 2) (pe_lst (pa_cons (pe_callTy call_str_int (by rfl) T.str_ (by decide +kernel) (pa_cons (pe_callB call_len (by rfl) T.len_ (by decide +kernel) (pa_cons (pe_ix ix_tup (pe_ix ix_tup (pv 0) pe_int (fun _ _ => rfl)) pe_int (fun _ _ => rfl)) pa_nil)) pa_nil)) pa_nil)))))) pss_nil)
      (pss_cons (ps_for (passes_of rfl) rfl (pi_tup (pe_slice sl_tup (pe_ix ix_tup (pv 0) pe_int (fun _ _ => rfl)) (po_some pe_int) po_none)) (pg_name (i := 4) sc_l_pack_words.nd rfl (Or.inl rfl)) (pss_one (ps_set (i := 2) sc_l_pack_words.nd rfl (Or.inl rfl) (pe_op op_cat (pv 2) (pe_fn G_l_words hr (pa_cons (pv 4) pa_nil))))))
      (pss_one (ps_ret (pv 2)))))))), ?_⟩
    obtain ⟨v, la, ls, nw, nl, rfl, hla, hln, hPk, q⟩ := h
    obtain ⟨b1, b2, b3, b4⟩ := bnd_Pk _ _ _ _ hPk
    obtain ⟨a, nm, rfl, hnm, ⟨c, cw, hs, hc, rfl⟩ | ⟨bn, ps, pw, hs, hb, hL, rfl⟩⟩ := hPk
    · walk_at "rd"
      refine ixT hs (at_is 0) ?_
      walk_at "rd"
      refine ⟨okI_log hnm, ixT hs (at_is 1) ?_⟩
      walk_at "rd"
      refine ⟨by decide, fun p hp => ?_⟩
      have k1 : Kp [la] H (upd H p (.lst [V.str (Str.ofString (toString nm)), V.str (Str.ofString "plain")])) := Kp.refl.new hp
      have e1 : upd H p (.lst [V.str (Str.ofString (toString nm)), V.str (Str.ofString "plain")]) p = some (.lst ([iS nm, ("plain" : Str)].map V.str)) := upd_same
      have hla1 : upd H p (.lst [V.str (Str.ofString (toString nm)), V.str (Str.ofString "plain")]) la = some (.lst (ls.map V.str)) := (Kp.refl (M := []).new hp).at hla (by simp)
      have c1 := stb_Co _ _ _ _ _ _ k1 hc
      have hpl : p ≠ la := fun z => by
        rw [z] at hp
        rw [hp] at hla
        cases hla
      generalize upd H p (.lst [V.str (Str.ofString (toString nm)), V.str (Str.ofString "plain")]) = H1 at k1 e1 hla1 c1 ⊢
      have hs1 := k1.tup hs
      refine ixT hs1 (at_is 1) ?_
      walk_at "rd"
      have parts : ∀ (H2 : Hp) (p ca : Addr) (w0 : List Str) (wd : V) (xs : List V) (us : List (List Str)), Kp [la] H H2 → H p = none → H2 p = some (.lst (w0.map V.str)) → H2 la = some (.lst (ls.map V.str)) → SqT K H2 a [.int nm, .str (Str.ofString "plain"), .ref ca] → SqT K H2 ca (wd :: xs) →
          us.length = xs.length → (∀ (i : Nat) (x : V) (u : List Str), xs[i]? = some x → us[i]? = some u → IsSc x u ∨ IsTw K x H2 u) → w0.length + (us.flatMap id).length ≤ 2000 → xs ≠ [] → (∀ H' t, Kp [la] H H' → H t = none → H' t = some (.lst ((w0 ++ us.flatMap id).map V.str)) → H' la = some (.lst (ls.map V.str)) → Q (.ref t) H') →
          tFor (iTup K (tSl (rSlT K) (tOp (rIxT K) (tVar 0) (tC (V.int 2))) (tPart (tC (V.int 1))) tNoPart)) (gName 4) (tAsg (tOp rCat (tVar 2) (tCall (spWords K true) [] E0 (tCons (tVar 4) tNil))) (gName 2))
            { nx := tRet (tVar 2) { nx := fun x H' => Q V.non H', rt := Q }, rt := Q } [some (V.ref a), some (V.ref la), some (V.ref p), none, none] H2 := by
        intro H2 p ca w0 wd xs us k2 hp e2 hla2 hs2 hcs2 hul hus hfew hne qq
        rw [tFor_tup]
        walk_at "rd"
        refine ixT hs2 (at_is 2) ?_
        walk_at "rd"
        have hnw : ¬ (HT.sIx (wd :: xs).length 0 (some 1) = 0 ∧ HT.sIx (wd :: xs).length (wd :: xs).length none = (wd :: xs).length) := by
          have e : HT.sIx (wd :: xs).length 0 (some 1) = min 1 (wd :: xs).length := HT.sIx_nat _ 0 1
          rw [e]
          simp
        refine ⟨ca, _, rfl, hcs2, hnw, fun p3 hp3 => ?_⟩
        have k3 : Kp [] H2 (upd H2 p3 (.tup (cutV (wd :: xs) (some 1) none))) := Kp.refl.new hp3
        have hs3 : SqT K (upd H2 p3 (.tup (cutV (wd :: xs) (some 1) none))) p3 xs := .inl (.inl (by simp [upd_same, cut1]))
        generalize upd H2 p3 (.tup (cutV (wd :: xs) (some 1) none)) = H3 at k3 hs3 ⊢
        obtain ⟨Pv, hPv⟩ : ∃ Pv : Nat → L2.St → Hp → Prop, ∀ i σ H', Pv i σ H' ↔ (Kp [] H3 H' ∧ ∃ o p', σ = [some (V.ref a), some (V.ref la), some (V.ref p'), none, o] ∧ H p' = none ∧ H' p' = some (.lst ((w0 ++ (us.take i).flatMap id).map V.str))) := ⟨_, fun _ _ _ => Iff.rfl⟩
        refine ⟨p3, rfl, ⟨xs, hs3⟩, tup_goal (xs := xs) Pv ?_ ?_ ?_ ?_⟩
        · refine (hPv _ _ _).mpr ⟨Kp.refl, _, p, rfl, hp, ?_⟩
          simpa using k3.at e2 (by simp)
        · intro i σ H' _ h
          exact ((hPv _ _ _).mp h).1.tup hs3
        · intro i x σ H4 hxi h
          obtain ⟨k4, o, p', rfl, hp', e4⟩ := (hPv _ _ _).mp h
          have hi : i < us.length := by
            have := (List.getElem?_eq_some_iff.mp hxi).1
            omega
          have hui : us[i]? = some us[i] := List.getElem?_eq_getElem hi
          have k24 := k3.trans k4
          have lenx : ((us.take (i + 1)).flatMap id).length ≤ (us.flatMap id).length := by
            have e5 : us.flatMap id = (us.take (i + 1)).flatMap id ++ (us.drop (i + 1)).flatMap id := by rw [← List.flatMap_append, List.take_append_drop]
            rw [e5, List.length_append]
            omega
          rw [flat_take hui, List.length_append] at lenx
          have lx2 : ((us.take i).flatMap id).length + us[i].length ≤ (us.flatMap id).length := lenx
          walk_at "rd"
          refine ⟨x, us[i], rfl, ?_, fun H5 t k5 ht e5 => ⟨t, rfl, cat_mk2 e5 (k5.at e4 (by simp)) (by rw [List.length_append]; omega) fun u H6 k6 hu e6 => ?_⟩⟩
          · rcases hus i x _ hxi hui with h1 | h1
            · exact .inl h1
            · exact .inr ⟨rfl, h1.kp k24⟩
          · refine (hPv _ _ _).mpr ⟨k4.trans (k5.trans k6), _, u, rfl, ((k2.trans k24.nil).trans k5.nil).free hu, ?_⟩
            rw [e6, flat_take hui, List.append_assoc]
            rfl
        · intro σ H4 h
          obtain ⟨k4, o, p', rfl, hp', e4⟩ := (hPv _ _ _).mp h
          rw [← hul, List.take_length] at e4
          walk_at "rd"
          exact qq H4 p' (k2.trans (k3.trans k4).nil) hp' e4 ((k3.trans k4).at hla2 (by simp))
      obtain ⟨ca, rfl, ⟨r, hcs, hr2, rfl⟩ | ⟨e, es, hcs, hes, rfl, rfl⟩ | ⟨ps, ns, r, t, hcs, hps, hn4, _, hr1, hr2, rfl, rfl⟩⟩ := c1
      · refine ⟨tyV_L e1, ixT hs1 (at_is 2) (ixT hcs (at_is 0) ⟨_, e1, by rw [sizeLine_eq]; simp, ?_⟩)⟩
        have kp : Kp [p] H1 (upd H1 p (.lst (([iS nm, ("plain" : Str)].map V.str) ++ [V.str (Str.ofString "leaf")]))) := Kp.refl.put e1 trivial (by simp)
        have k2 : Kp [la] H (upd H1 p (.lst (([iS nm, ("plain" : Str)].map V.str) ++ [V.str (Str.ofString "leaf")]))) := k1.late hp
        have e2 : upd H1 p (.lst (([iS nm, ("plain" : Str)].map V.str) ++ [V.str (Str.ofString "leaf")])) p = some (.lst ([iS nm, ("plain" : Str), ("leaf" : Str)].map V.str)) := upd_same
        have hla2 : upd H1 p (.lst (([iS nm, ("plain" : Str)].map V.str) ++ [V.str (Str.ofString "leaf")])) la = some (.lst (ls.map V.str)) := by rw [upd_ne (fun z => hpl z.symm)]; exact hla1
        generalize upd H1 p (.lst (([iS nm, ("plain" : Str)].map V.str) ++ [V.str (Str.ofString "leaf")])) = H2 at kp k2 e2 hla2 ⊢
        have hs2 := kp.tup hs1
        have hcs2 := kp.tup hcs
        refine ixT hs2 (at_is 2) (ixT hcs2 (at_is 0) ?_)
        walk_at "rd"
        obtain ⟨ra, rfl, hrs, hr40, _⟩ := hr2.kp kp
        refine ⟨tyV_L hla2, ixT hs2 (at_is 2) (ixT hcs2 (at_is 1) ⟨ra, rfl, _, hla2, _, hrs, by rw [sizeLine_eq]; simp; omega, ?_⟩)⟩
        have k3 : Kp [la] H2 (upd H2 la (.lst (ls.map V.str ++ nl.map V.str))) := Kp.refl.put hla2 trivial (by simp)
        have e3 : upd H2 la (.lst (ls.map V.str ++ nl.map V.str)) p = some (.lst ([iS nm, ("plain" : Str), ("leaf" : Str)].map V.str)) := by rw [upd_ne hpl]; exact e2
        have hla3 : upd H2 la (.lst (ls.map V.str ++ nl.map V.str)) la = some (.lst ((ls ++ nl).map V.str)) := by rw [upd_same, List.map_append]
        generalize upd H2 la (.lst (ls.map V.str ++ nl.map V.str)) = H3 at k3 e3 hla3 ⊢
        refine ixT (k3.tup hs2) (at_is 2) (ixT (k3.tup hcs2) (at_is 1) ⟨_, lenV_T (k3.tup hrs), ?_⟩)
        rw [List.length_map]
        refine ⟨okI_log (okI_nat (by omega)), by decide, fun t ht => ?_⟩
        exact cat_mk [iS ((nl.length : Nat) : Int)] ht e3 (by simp) fun u H4 k4 hu e4 => q H4 u ((k2.trans k3).trans k4.nil) ((k2.trans k3).free hu) e4 (k4.at hla3 (by simp))
      · refine ⟨tyV_L e1, ixT hs1 (at_is 2) (ixT hcs (at_is 0) ⟨_, e1, by rw [sizeLine_eq]; simp, ?_⟩)⟩
        have kp : Kp [p] H1 (upd H1 p (.lst (([iS nm, ("plain" : Str)].map V.str) ++ [V.str (Str.ofString "tree")]))) := Kp.refl.put e1 trivial (by simp)
        have k2 : Kp [la] H (upd H1 p (.lst (([iS nm, ("plain" : Str)].map V.str) ++ [V.str (Str.ofString "tree")]))) := k1.late hp
        have e2 : upd H1 p (.lst (([iS nm, ("plain" : Str)].map V.str) ++ [V.str (Str.ofString "tree")])) p = some (.lst ([iS nm, ("plain" : Str), ("tree" : Str)].map V.str)) := upd_same
        have hla2 : upd H1 p (.lst (([iS nm, ("plain" : Str)].map V.str) ++ [V.str (Str.ofString "tree")])) la = some (.lst (ls.map V.str)) := by rw [upd_ne (fun z => hpl z.symm)]; exact hla1
        generalize upd H1 p (.lst (([iS nm, ("plain" : Str)].map V.str) ++ [V.str (Str.ofString "tree")])) = H2 at kp k2 e2 hla2 ⊢
        have hs2 := kp.tup hs1
        have hcs2 := kp.tup hcs
        refine ixT hs2 (at_is 2) (ixT hcs2 (at_is 0) ?_)
        walk_at "rd"
        refine parts H2 p ca [iS nm, ("plain" : Str), ("tree" : Str)] (.str (Str.ofString "tree")) [e] [enW es] k2 hp e2 hla2 hs2 hcs2 rfl ?_ ?_ (by simp) ?_
        · intro i x u h1 h2
          cases i with
          | zero =>
            cases h1
            cases h2
            exact .inr (tw_Pr (by decide) (hes.kp kp).isL).1
          | succ i => cases h1
        · simp at b1 ⊢
          omega
        · intro H' t k' ht e' hla'
          refine q H' t k' ht ?_ (by simpa using hla')
          simpa using e'
      · refine ⟨tyV_L e1, ixT hs1 (at_is 2) (ixT hcs (at_is 0) ⟨_, e1, by rw [sizeLine_eq]; simp, ?_⟩)⟩
        have kp : Kp [p] H1 (upd H1 p (.lst (([iS nm, ("plain" : Str)].map V.str) ++ [V.str (Str.ofString "version")]))) := Kp.refl.put e1 trivial (by simp)
        have k2 : Kp [la] H (upd H1 p (.lst (([iS nm, ("plain" : Str)].map V.str) ++ [V.str (Str.ofString "version")]))) := k1.late hp
        have e2 : upd H1 p (.lst (([iS nm, ("plain" : Str)].map V.str) ++ [V.str (Str.ofString "version")])) p = some (.lst ([iS nm, ("plain" : Str), ("version" : Str)].map V.str)) := upd_same
        have hla2 : upd H1 p (.lst (([iS nm, ("plain" : Str)].map V.str) ++ [V.str (Str.ofString "version")])) la = some (.lst (ls.map V.str)) := by rw [upd_ne (fun z => hpl z.symm)]; exact hla1
        generalize upd H1 p (.lst (([iS nm, ("plain" : Str)].map V.str) ++ [V.str (Str.ofString "version")])) = H2 at kp k2 e2 hla2 ⊢
        have hs2 := kp.tup hs1
        have hcs2 := kp.tup hcs
        refine ixT hs2 (at_is 2) (ixT hcs2 (at_is 0) ?_)
        walk_at "rd"
        refine parts H2 p ca [iS nm, ("plain" : Str), ("version" : Str)] (.str (Str.ofString "version")) [ps, .int r, .int t] [isW ns, [iS r], [iS t]] k2 hp e2 hla2 hs2 hcs2 rfl ?_ ?_ (by simp) ?_
        · intro i x u h1 h2
          match i with
          | 0 =>
            cases h1
            cases h2
            exact .inr (tw_I (n := 4) (by decide) ((hps.kp kp).isL hn4)).1
          | 1 =>
            cases h1
            cases h2
            exact .inl (sc_I hr1)
          | 2 =>
            cases h1
            cases h2
            exact .inl (sc_I hr2)
          | n + 3 => cases h1
        · simp at b1 ⊢
          omega
        · intro H' t k' ht e' hla'
          refine q H' t k' ht ?_ (by simpa using hla')
          simpa using e'
    · obtain ⟨pa, xs, its, rfl, hps, hx40, hil, hpc, rfl, rfl⟩ := hL
      walk_at "rd"
      refine ixT hs (at_is 0) ?_
      walk_at "rd"
      refine ⟨okI_log hnm, ixT hs (at_is 1) ?_⟩
      walk_at "rd"
      refine ⟨by decide, fun p hp => ?_⟩
      have k1 : Kp [la] H (upd H p (.lst [V.str (Str.ofString (toString nm)), V.str (Str.ofString "over")])) := Kp.refl.new hp
      have e1 : upd H p (.lst [V.str (Str.ofString (toString nm)), V.str (Str.ofString "over")]) p = some (.lst ([iS nm, ("over" : Str)].map V.str)) := upd_same
      have hla1 : upd H p (.lst [V.str (Str.ofString (toString nm)), V.str (Str.ofString "over")]) la = some (.lst (ls.map V.str)) := (Kp.refl (M := []).new hp).at hla (by simp)
      have hnl : ∀ u, H u = none → u ≠ la := fun u hu z => by
        rw [z] at hu
        rw [hu] at hla
        cases hla
      generalize upd H p (.lst [V.str (Str.ofString (toString nm)), V.str (Str.ofString "over")]) = H1 at k1 e1 hla1 ⊢
      have hs1 := k1.tup hs
      refine ixT hs1 (at_is 1) ?_
      walk_at "rd"
      refine ixT hs1 (at_is 2) ?_
      walk_at "rd"
      refine ⟨okI_log hb, by decide, fun t ht => cat_mk [iS bn, ("(" : Str)] ht e1 (by simp) fun p2 H2 k2 hp2 e2 => ?_⟩
      have k12 := k1.trans k2.nil
      have hp20 := k1.free hp2
      have hla2 := k2.at hla1 (by simp)
      rw [tFor_tup]
      walk_at "rd"
      refine ixT (k12.tup hs) (at_is 3) ⟨pa, rfl, ⟨xs, k12.tup hps⟩, ?_⟩
      have lw : ∀ i, ((its.take i).flatMap (·.1)).length ≤ 1700 := fun i => by
        have e5 : its.flatMap (·.1) = (its.take i).flatMap (·.1) ++ (its.drop i).flatMap (·.1) := by rw [← List.flatMap_append, List.take_append_drop]
        rw [e5] at b1
        simp only [List.length_cons, List.length_append] at b1
        omega
      have ll : ∀ i, ((its.take i).flatMap (·.2)).length ≤ 1700 := fun i => by
        have e5 : its.flatMap (·.2) = (its.take i).flatMap (·.2) ++ (its.drop i).flatMap (·.2) := by rw [← List.flatMap_append, List.take_append_drop]
        rw [e5] at b2
        simp only [List.length_append] at b2
        omega
      obtain ⟨Pv, hPv⟩ : ∃ Pv : Nat → L2.St → Hp → Prop, ∀ i σ H', Pv i σ H' ↔ (Kp [la] H H' ∧ ∃ o p', σ = [some (V.ref a), some (V.ref la), some (V.ref p'), o, none] ∧ H p' = none ∧ H' p' = some (.lst (([iS nm, ("over" : Str), iS bn, ("(" : Str)] ++ (its.take i).flatMap (·.1)).map V.str)) ∧
        H' la = some (.lst ((ls ++ (its.take i).flatMap (·.2)).map V.str))) := ⟨_, fun _ _ _ => Iff.rfl⟩
      refine tup_goal (xs := xs) Pv ?_ ?_ ?_ ?_
      · refine (hPv _ _ _).mpr ⟨k12, _, p2, rfl, hp20, ?_, ?_⟩
        · simpa using e2
        · simpa using hla2
      · intro i σ H' _ h
        exact ((hPv _ _ _).mp h).1.tup hps
      · intro i x σ H4 hxi h
        obtain ⟨k4, o, p', rfl, hp', e4, hla4⟩ := (hPv _ _ _).mp h
        have hi : i < its.length := by
          have := (List.getElem?_eq_some_iff.mp hxi).1
          omega
        have hui : its[i]? = some its[i] := List.getElem?_eq_getElem hi
        have lw1 := lw (i + 1)
        have ll1 := ll (i + 1)
        rw [flat_take hui, List.length_append] at lw1 ll1
        obtain ⟨qa, rfl, ⟨i1, j1, hq, g1, g2, _, g3, g4⟩ | ⟨r, zs, hq, hr, _, g3, g4⟩⟩ := stb_Pc _ _ _ _ _ _ k4 (hpc i x _ hxi hui)
        · walk_at "rd"
          refine ixT hq (at_is 0) ?_
          walk_at "rd"
          refine ixT hq (at_is 1) ⟨_, rfl, okI_log g1, ixT hq (at_is 2) ⟨_, rfl, okI_log g2, by decide, fun t ht => ?_⟩⟩
          refine cat_mk [("take" : Str), iS i1, iS j1] ht e4 (by simp at lw1 ⊢; omega) fun u H6 k6 hu e6 => (hPv _ _ _).mpr ⟨k4.trans k6.nil, _, u, rfl, k4.free hu, ?_, ?_⟩
          · rw [e6, flat_take hui, g3]
            simp
          · rw [k6.at hla4 (by simp), flat_take hui, g4]
            simp
        · obtain ⟨ra, rfl, hrs, hr40, _⟩ := hr
          walk_at "rd"
          refine ixT hq (at_is 0) ?_
          walk_at "rd"
          refine ixT hq (at_is 1) ?_
          walk_at "rd"
          refine ⟨_, lenV_T hrs, ?_⟩
          rw [List.length_map]
          refine ⟨okI_log (okI_nat (by omega)), by decide, fun t ht => ?_⟩
          have kt : Kp [] H4 (upd H4 t (.lst [V.str (Str.ofString "put"), V.str (Str.ofString (toString ((zs.length : Nat) : Int)))])) := Kp.refl.new ht
          refine ⟨_, kt.at e4 (by simp), _, upd_same, by rw [sizeLine_eq]; simp at lw1 ⊢; omega, fun u hu => ?_⟩
          have k6 : Kp [] H4 (upd (upd H4 t (.lst [V.str (Str.ofString "put"), V.str (Str.ofString (toString ((zs.length : Nat) : Int)))])) u (.lst (([iS nm, ("over" : Str), iS bn, ("(" : Str)] ++ (its.take i).flatMap (·.1)).map V.str ++ [V.str (Str.ofString "put"), V.str (Str.ofString (toString ((zs.length : Nat) : Int)))]))) := kt.new hu
          have e6 : (upd (upd H4 t (.lst [V.str (Str.ofString "put"), V.str (Str.ofString (toString ((zs.length : Nat) : Int)))])) u (.lst (([iS nm, ("over" : Str), iS bn, ("(" : Str)] ++ (its.take i).flatMap (·.1)).map V.str ++ [V.str (Str.ofString "put"), V.str (Str.ofString (toString ((zs.length : Nat) : Int)))]))) u = some (.lst ((([iS nm, ("over" : Str), iS bn, ("(" : Str)] ++ (its.take i).flatMap (·.1)) ++ [("put" : Str), iS ((zs.length : Nat) : Int)]).map V.str)) := by
            rw [upd_same]
            simp only [List.map_append]
            rfl
          have hu4 : H4 u = none := kt.free hu
          generalize upd (upd H4 t (.lst [V.str (Str.ofString "put"), V.str (Str.ofString (toString ((zs.length : Nat) : Int)))])) u (.lst (([iS nm, ("over" : Str), iS bn, ("(" : Str)] ++ (its.take i).flatMap (·.1)).map V.str ++ [V.str (Str.ofString "put"), V.str (Str.ofString (toString ((zs.length : Nat) : Int)))])) = H6 at k6 e6 ⊢
          have hla6 := k6.at hla4 (by simp)
          refine ⟨tyV_L hla6, ixT (k6.tup hq) (at_is 1) ⟨ra, rfl, _, hla6, _, k6.tup hrs, by rw [sizeLine_eq]; simp at ll1 ⊢; omega, (hPv _ _ _).mpr ⟨(k4.trans k6.nil).trans (Kp.refl.put hla6 trivial (by simp)), _, u, rfl, k4.free hu4, ?_, ?_⟩⟩⟩
          · rw [upd_ne (hnl u (k4.free hu4)), e6, flat_take hui, g3]
            simp
          · rw [upd_same, flat_take hui, g4]
            simp
      · intro σ H4 h
        obtain ⟨k4, o, p', rfl, hp', e4, hla4⟩ := (hPv _ _ _).mp h
        have lw1 := lw its.length
        rw [← hil, List.take_length] at e4 hla4
        rw [List.take_length] at lw1
        walk_at "rd"
        refine ⟨by decide, fun t ht => cat_mk [(")" : Str)] ht e4 (by simp at lw1 ⊢; omega) fun u H6 k6 hu e6 => q H6 u (k4.trans k6.nil) (k4.free hu) ?_ (k6.at hla4 (by simp))⟩
        rw [e6]
        simp
end
end Kq
set_option Elab.async false
set_option linter.all false
set_option maxRecDepth 100000
set_option maxHeartbeats 4000000
namespace Kq
open PySem PySem.Spec PyProof.Rows L2 Fw
local macro_rules | `(tactic| walk_at "rd") => `(tactic| try simp only [tSeq, tNext, tBreak, tCont, tDrop, tRet, tRetN, tIfS, tAsg, tVar, tC, tOp, tUn, tTest, tB, tAnd, tOr, tNot, tAndV, tOrV, tNotV, tIf, tChain, tCB, tCons, tNil, tTup, tLst, tCall, tCallS, WE,
  gName, gSub, rI, rI0, rU, rEq, rNe, rIsiC, tSl, tPart, tNoPart, rSetL, tBM, tBM0, rAppend, rExtend, rExtendT, tCallL, L2.start, List.map_cons, List.map_nil, List.length_cons, List.length_nil, Nat.sub_self, Nat.reduceAdd, Nat.reduceSub, List.replicate_zero, List.replicate_succ, List.append_nil, List.nil_append, List.cons_append,
  List.getElem?_cons_zero, List.getElem?_cons_succ, List.set_cons_zero, List.set_cons_succ, Option.some.injEq, exists_eq_left', exists_eq_left, exists_eq_right, exists_eq_right', exists_const, exists_and_left, exists_and_right, V.int.injEq, V.bl.injEq, V.str.injEq, V.ref.injEq, V.ty.injEq, List.cons.injEq, and_true, true_and, and_assoc, reduceCtorEq, false_and, and_false, exists_false, false_or, or_false,
  if_true, if_false, Bool.not_true, Bool.not_false, Bool.false_eq_true, Bool.true_eq_false, ↓reduceIte, decide_eq_true_eq, decide_true, decide_false, sc_nn, sc_ni, sc_in, sc_nb, sc_bn, sc_ns, sc_sn, sc_ii, sc_bb, sc_ss, sc_is, sc_si, sc_bs, sc_sb, ipI, Int.reduceLT, Int.reduceLE, Int.reduceEq, Nat.reduceLT, Nat.reduceEqDiff, String.reduceEq, nc0, nc1, nc2, nc3, nc4, nc5, nc6, nc7, nc8, nc9, nc10, nc11, nc12, cx_K, cx_w, wipe, lenV_str, rCat, exists_eq, exists_eq', relO, relC, relM, relI, relSl, spOf, ciOf, csOf, crOf, L2.rIxD, eq_self, not_true_eq_false, not_false_eq_true, Option.isSome_some, Option.isSome_none, tCallV, ofS_inj, sg_inj, sg_len, sg_lt, tM1, tM0, tLc_rng1, tLc_rng2, tFor_rng1, tFor_rng2, tDNewK, sDPut,  Nat.reduceLeDiff, Bool.not_eq_true', decide_eq_false_iff_not,
  isi_int_int, isi_int_bool, isi_int_str, isi_int_tuple, isi_int_list, isi_int_dict, isi_bool_int, isi_bool_bool, isi_bool_str, isi_bool_tuple, isi_bool_list, isi_bool_dict, isi_str_int, isi_str_bool, isi_str_str, isi_str_tuple, isi_str_list, isi_str_dict, isi_non_int, isi_non_bool, isi_non_str, isi_non_tuple, isi_non_list, isi_non_dict])
local macro_rules | `(tactic| walk_at "ix") => `(tactic| (refine ixT (by assumption) rfl ?_; walk_at "rd"))
local macro_rules | `(tactic| walk_at "len") => `(tactic| (refine ⟨_, lenV_T (by assumption), ?_⟩; walk_at "rd"))
local macro_rules | `(tactic| walk_at "isT") => `(tactic| (refine ⟨true, isiT (by assumption), ?_⟩; walk_at "rd"))

section
variable {P : Program} {w : World} {K : PySem.W.Frag} {mg : Str → Option Value} {base : Heap} {CN CB CH : Addr}
theorem sc_l_written : FnScope ["_law_row_here", "_law_words_here", "_law_lines", "_law_k"] ["_law_row_here"] (defScope s_l_written) := ⟨rfl, rfl, rfl, by decide +kernel, rfl, by decide +kernel, by decide +kernel⟩
theorem forms_pack : ∀ j : Fin 11, ∀ i : Fin 11, (match forms[j.val]!.2[i.val]? with | some kd => decide (kd = Kd.nPack) == (decide (forms[j.val]!.1 = ("row" : Str)) && decide (i.val = 1)) | none => true) = true := by decide +kernel
theorem sc_K {kd : Kd} {v : V} {H : Hp} {nw nl : List Str} (hk : kd ≠ .nPack) (h : WrK K kd v H nw nl) : (IsSc v nw ∨ IsTw K v H nw) ∧ nl = [] := by
  cases kd with
  | nInts => exact ⟨.inr (tw_I (by decide) h).1, (tw_I (by decide) h).2⟩
  | nInt =>
    obtain ⟨i, rfl, hi, rfl, rfl⟩ := h
    exact ⟨.inl (sc_I hi), rfl⟩
  | nLabels => exact ⟨.inr (tw_Lb (by decide) h).1, (tw_Lb (by decide) h).2⟩
  | nTruth =>
    obtain ⟨b, rfl, rfl, rfl⟩ := h
    exact ⟨.inl (.inr (.inl ⟨b, rfl, rfl⟩)), rfl⟩
  | nTruths => exact ⟨.inr (tw_B (by decide) h).1, (tw_B (by decide) h).2⟩
  | nMarks => exact ⟨.inr (tw_Pr (by decide) h).1, (tw_Pr (by decide) h).2⟩
  | nPack => exact absurd rfl hk
structure Smalls (its : List (List Str × List Str)) : Prop where
  w : (its.flatMap (·.1)).length ≤ 17000
  l : (its.flatMap (·.2)).length ≤ 17000
  w40 : ∀ z ∈ its.flatMap (·.1), z.length ≤ 40
  l40 : ∀ z ∈ its.flatMap (·.2), z.length ≤ 40
theorem parts_small {H : Hp} {ks : List Kd} {ps : List V} {its : List (List Str × List Str)} (hP : Parts K H ks ps its) (h10 : ps.length ≤ 10) : Smalls its := by
  have hl1 := hP.l1
  have hl2 := hP.l2
  have each : ∀ p ∈ its, (p.1.length ≤ 1700 ∧ p.2.length ≤ 1700 ∧ (∀ z ∈ p.1, z.length ≤ 40) ∧ ∀ z ∈ p.2, z.length ≤ 40) := by
    intro p hp
    obtain ⟨i, hi⟩ := List.mem_iff_getElem?.mp hp
    have h1 : i < ps.length := by have := (List.getElem?_eq_some_iff.mp hi).1; omega
    exact bnd_K _ _ _ _ _ (hP.at_ i ps[i] (ks[i]'(by omega)) p (List.getElem?_eq_getElem h1) (List.getElem?_eq_getElem _) hi)
  have e1 := flat_len (f := fun p : List Str × List Str => p.1) (n := 1700) (l := its) fun p hp => (each p hp).1
  have e2 := flat_len (f := fun p : List Str × List Str => p.2) (n := 1700) (l := its) fun p hp => (each p hp).2.1
  refine ⟨by omega, by omega, fun z hz => ?_, fun z hz => ?_⟩
  · obtain ⟨p, hp, hz⟩ := List.mem_flatMap.mp hz
    exact (each p hp).2.2.1 z hz
  · obtain ⟨p, hp, hz⟩ := List.mem_flatMap.mp hz
    exact (each p hp).2.2.2 z hz
def spWritten (K : PySem.W.Frag) : Sp := fun vs H Q _ => ∃ v j its, vs = [v] ∧ RowAt K v H j its ∧ ∀ H', Kp [] H H' → Q (.str (rowText j its)) H'
theorem ok_written (T : Txt K w mg CN CB CH) (F : At K mg "_law_written" s_l_written ["_law_row_here"]) (G_l_words : Dfn P w K mg base 2 "_law_words" ["_law_thing"] (spWords K true)) (G_l_pack_words : Dfn P w K mg base 3 "_law_pack_words" ["_law_row_here", "_law_lines"] (spPackWords K)) : Dfn P w K mg base 4 "_law_written" ["_law_row_here"] (spWritten K) := by
  refine F.ok sc_l_written (fun vs H Q E h => ?_) (fun qual f cdv A outer s H vs Q E hr h => ?_)
  · obtain ⟨v, j, its, rfl, _⟩ := h
    rfl
  · refine ⟨_, (pss_cons (ps_set (i := 1) sc_l_written.nd rfl (Or.inl rfl) (pe_lst (pa_cons (pe_ix ix_tup (pv 0) pe_int (fun _ _ => rfl)) pa_nil)))
      (pss_cons (ps_set (i := 2) sc_l_written.nd rfl (Or.inl rfl) (pe_lst pa_nil))
      (pss_cons (ps_for (passes_of rfl) rfl (pi_range2 rfl T.range_ (pa_cons pe_int (pa_cons (pe_callB call_len (by rfl) T.len_ (by decide +kernel) (pa_cons (pv 0) pa_nil)) pa_nil))) (pg_name (i := 3) sc_l_written.nd rfl (Or.inl rfl)) (pss_one (ps_if (PW.pt (pw_and (pt_cmpR op_eq (pe_ix ix_tup (pv 0) pe_int (fun _ _ => rfl)) pe_str (nomark _)) (pw_and1 (pt_cmpR op_eq (pv 3) pe_int (nomark _))))) (pss_one (ps_set (i := 1) sc_l_written.nd rfl (Or.inl rfl) (pe_op op_cat (pv 1) (pe_fn G_l_pack_words hr (pa_cons (pe_ix ix_tup (pv 0) pe_int (fun _ _ => rfl)) (pa_cons (pv 2) pa_nil)))))) (pss_one (ps_set (i := 1) sc_l_written.nd rfl (Or.inl rfl) (pe_op op_cat (pv 1) (pe_fn G_l_words hr (pa_cons (pe_ix ix_tup (pv 0) (pv 3) (fun _ _ => rfl)) pa_nil))))))))
      (pss_one (ps_ret (pe_join pe_str (pe_op op_cat (pe_lst (pa_cons (pe_join pe_str (pv 1)) pa_nil)) (pv 2)))))))), ?_⟩
    obtain ⟨v, j, its, rfl, hv, q⟩ := h
    obtain ⟨a, ps, rfl, hs, hP⟩ := hv.ex
    have hj := hv.lt
    obtain ⟨s3, s4⟩ := forms_small ⟨j, hj⟩
    have hl1 := hP.l1
    have h10 : ps.length ≤ 10 := by
      rw [← hl1]
      exact s4
    have hsm := parts_small hP h10
    walk_at "rd"
    refine ixT hs at0 ?_
    walk_at "rd"
    refine ⟨by decide, fun p hp => ⟨by decide, fun lp hlp => ?_⟩⟩
    have k2 : Kp [] H (upd (upd H p (.lst [V.str forms[j]!.1])) lp (.lst [])) := (Kp.refl.new hp).new hlp
    have ne : p ≠ lp := ne_of_none upd_same hlp
    have hlp0 : H lp = none := (Kp.refl.new (M := []) hp).free hlp
    have e2 : upd (upd H p (.lst [V.str forms[j]!.1])) lp (.lst []) p = some (.lst ([forms[j]!.1].map V.str)) := by
      rw [upd_ne ne, upd_same]
      rfl
    have l2 : upd (upd H p (.lst [V.str forms[j]!.1])) lp (.lst []) lp = some (.lst (([] : List Str).map V.str)) := upd_same
    generalize upd (upd H p (.lst [V.str forms[j]!.1])) lp (.lst []) = H2 at k2 e2 l2 ⊢
    refine ⟨_, lenV_T (k2.tup hs), by decide, by decide, by rw [List.length_cons]; omega, by rw [List.length_cons]; omega, ?_⟩
    have en : ((((V.str forms[j]!.1 :: ps).length : Nat) : Int) - 1).toNat = ps.length := by
      rw [List.length_cons]
      omega
    rw [en]
    have hl2 := hP.l2
    have lw : ∀ i, ((its.take i).flatMap (·.1)).length ≤ 17000 := fun i => by
      have b1 := hsm.w
      have e5 : its.flatMap (·.1) = (its.take i).flatMap (·.1) ++ (its.drop i).flatMap (·.1) := by rw [← List.flatMap_append, List.take_append_drop]
      rw [e5, List.length_append] at b1
      omega
    have ll : ∀ i, ((its.take i).flatMap (·.2)).length ≤ 17000 := fun i => by
      have b1 := hsm.l
      have e5 : its.flatMap (·.2) = (its.take i).flatMap (·.2) ++ (its.drop i).flatMap (·.2) := by rw [← List.flatMap_append, List.take_append_drop]
      rw [e5, List.length_append] at b1
      omega
    obtain ⟨Pv, hPv⟩ : ∃ Pv : Nat → L2.St → Hp → Prop, ∀ i σ H', Pv i σ H' ↔ (Kp [] H H' ∧ ∃ o p', σ = [some (V.ref a), some (V.ref p'), some (V.ref lp), o] ∧ p' ≠ lp ∧ H p' = none ∧ H' p' = some (.lst (([forms[j]!.1] ++ (its.take i).flatMap (·.1)).map V.str)) ∧
      H' lp = some (.lst (((its.take i).flatMap (·.2)).map V.str))) := ⟨_, fun _ _ _ => Iff.rfl⟩
    refine for_rng Pv ?_ ?_ ?_
    · refine (hPv _ _ _).mpr ⟨k2, _, p, rfl, ne, hp, ?_, ?_⟩
      · simpa using e2
      · simpa using l2
    · intro i σ H4 hi h
      obtain ⟨k4, o, p', rfl, hpl, hp', e4, l4⟩ := (hPv _ _ _).mp h
      have hit : its[i]? = some its[i] := List.getElem?_eq_getElem (by omega)
      have hpt : ps[i]? = some ps[i] := List.getElem?_eq_getElem (by omega)
      have hkt : forms[j]!.2[i]? = some (forms[j]!.2[i]'(by omega)) := List.getElem?_eq_getElem (by omega)
      have hW := stb_K _ _ _ _ _ _ _ k4 (hP.at_ i _ _ _ hpt hkt hit)
      have hfp := forms_pack ⟨j, hj⟩ ⟨i, by omega⟩
      simp only [hkt] at hfp
      generalize forms[j]!.2[i]'(by omega) = kd at hW hfp
      have hx : SqT K H4 a (V.str forms[j]!.1 :: ps) := k4.tup hs
      have e1i : (1 : Int) + (i : Nat) = ((i + 1 : Nat) : Int) := by omega
      rw [e1i]
      have lw1 := lw (i + 1)
      have ll1 := ll (i + 1)
      rw [flat_take hit, List.length_append] at lw1 ll1
      have hix : atI (V.str forms[j]!.1 :: ps) (((i + 1 : Nat)) : Int) = some ps[i] := atI_nat (by simpa using hpt)
      walk_at "rd"
      refine ixT hx at0 ?_
      walk_at "rd"
      have step : ∀ (H5 H6 : Hp) (t u : Addr) (nw nl : List Str), Kp [lp] H4 H5 → H4 t = none → H5 lp = some (.lst (((its.take i).flatMap (·.2) ++ nl).map V.str)) → Kp [] H5 H6 → H5 u = none → H6 u = some (.lst (([forms[j]!.1] ++ (its.take i).flatMap (·.1) ++ nw).map V.str)) → its[i] = (nw, nl) →
          Pv (i + 1) [some (V.ref a), some (V.ref u), some (V.ref lp), some (V.int ((i + 1 : Nat) : Int))] H6 := by
        intro H5 H6 t u nw nl k5 ht l5 k6 hu e6 eit
        have k05 : Kp [] H H5 := k4.hide k5 fun m hm => .inr (by rw [List.mem_singleton.mp hm]; exact hlp0)
        refine (hPv _ _ _).mpr ⟨k05.trans k6, _, u, rfl, fun z => ?_, k05.free hu, ?_, ?_⟩
        · rw [z, l5] at hu
          cases hu
        · rw [e6, flat_take hit, eit]
          simp
        · rw [k6.at l5 (by simp), flat_take hit, eit]
      by_cases hkp : kd = .nPack
      · subst hkp
        have hfp2 : decide (forms[j]!.1 = ("row" : Str)) = true ∧ decide (i = 1) = true := by
          simpa using hfp
        obtain ⟨f1, f2⟩ := hfp2
        have f2' : i = 1 := of_decide_eq_true f2
        rw [if_pos (of_decide_eq_true f1), if_pos (by omega)]
        subst f2'
        refine ixT hx hix ?_
        refine ⟨_, lp, _, _, _, rfl, l4, by omega, hW, fun H5 t k5 ht e5 l5 => ⟨t, rfl, cat_mk2 e5 (k5.at e4 (by simpa using hpl)) (by rw [List.length_append]; simp at lw1 ⊢; omega) fun u H6 k6 hu e6 => step H5 H6 t u _ _ k5 ht l5 k6 hu e6 rfl⟩⟩
      · obtain ⟨hsc, hnl⟩ := sc_K hkp hW
        have plain : rIxT K (V.ref a) (V.int ((i + 1 : Nat) : Int)) H4 fun x H1 => spWords K true [x] H1 (fun y H2 => ∃ x, y = V.ref x ∧ ∃ x_1, H2 p' = some (HO.lst x_1) ∧ ∃ x_2, H2 x = some (HO.lst x_2) ∧ x_1.length + x_2.length ≤ sizeLine ∧ ∀ (p : Addr), H2 p = none →
            Pv (i + 1) [some (V.ref a), some (V.ref p), some (V.ref lp), some (V.int ((i + 1 : Nat) : Int))] (upd H2 p (HO.lst (x_1 ++ x_2)))) E0 := by
          refine ixT hx hix ⟨_, its[i].1, rfl, hsc.imp id fun h => ⟨rfl, h⟩, fun H5 t k5 ht e5 => ⟨t, rfl, cat_mk2 e5 (k5.at e4 (by simp)) (by rw [List.length_append]; simp at lw1 ⊢; omega) fun u H6 k6 hu e6 => step H5 H6 t u its[i].1 [] k5.nil ht ?_ k6 hu e6 ?_⟩⟩
          · rw [k5.at l4 (by simp), List.append_nil]
          · rw [← hnl]
        by_cases f1 : forms[j]!.1 = ("row" : Str)
        · rw [if_pos f1, if_neg (fun f2 => ?_)]
          · exact plain
          · have f3 : i = 1 := by omega
            rw [decide_eq_true f1, decide_eq_true f3, decide_eq_false hkp] at hfp
            cases hfp
        · rw [if_neg f1]
          exact plain
    · intro σ H4 h
      obtain ⟨k4, o, p', rfl, hpl, hp', e4, l4⟩ := (hPv _ _ _).mp h
      rw [← hl2, List.take_length] at e4 l4
      walk_at "rd"
      have c1 := hsm.w
      have c2 := hsm.l
      have w40 : ∀ z ∈ [forms[j]!.1] ++ its.flatMap (·.1), z.length ≤ 40 := by
        intro z hz
        rcases List.mem_append.mp hz with hz | hz
        · rw [List.mem_singleton.mp hz]
          exact s3
        · exact hsm.w40 z hz
      have s1 := sum_le w40
      have s2 := sum_le hsm.l40
      have s5 := join_len (" " : Str) ([forms[j]!.1] ++ its.flatMap (·.1))
      have z1 : (" " : Str).length = 1 := by rw [len_S]; decide
      have z2 : ("\n" : Str).length = 1 := by rw [len_S]; decide
      rw [z1] at s5
      have c3 : ([forms[j]!.1] ++ its.flatMap (·.1)).length ≤ 17001 := by rw [List.length_append, List.length_singleton]; omega
      refine ⟨_, .inl (SqL.of e4), by rw [z1]; omega, by decide, fun p5 hp5 => ?_⟩
      have k5 : Kp [] H4 (upd H4 p5 (.lst [V.str (Txt.join " " ([forms[j]!.1] ++ its.flatMap (·.1)))])) := Kp.refl.new hp5
      refine ⟨_, upd_same, _, k5.at l4 (by simp), sz_of (by rw [List.length_map, List.length_singleton]; omega), fun p6 hp6 => ?_⟩
      refine ⟨Txt.join " " ([forms[j]!.1] ++ its.flatMap (·.1)) :: its.flatMap (·.2), .inl (SqL.of (by simp [upd_same])), ?_, ?_⟩
      · simp only [List.map_cons, List.sum_cons, List.length_cons, z2]
        omega
      · exact q _ ((k4.trans k5).new hp6)
end
end Kq
set_option Elab.async false
set_option linter.all false
set_option maxRecDepth 100000
set_option maxHeartbeats 4000000
namespace Fw
open PySem PySem.Spec PyProof.Rows L2 TL PySem.NumText
/-! ### the signs of a number -/
theorem numL_digits : ∀ n : Nat, AllDigits (numL n) := by
  intro n
  induction n using Nat.strongRecOn with
  | _ n ih =>
    by_cases h : n < 10
    · rw [numL_lt h]
      intro c hc
      rw [List.mem_singleton.mp hc]
      omega
    · rw [numL_step (by omega)]
      intro c hc
      rcases List.mem_append.mp hc with hc | hc
      · exact ih (n / 10) (by omega) c hc
      · rw [List.mem_singleton.mp hc]
        have := Nat.mod_lt n (by decide : 0 < 10)
        omega
theorem numL_val (n : Nat) : digitsVal (numL n) = n := by
  induction n using Nat.strongRecOn with
  | _ n ih =>
    by_cases h : n < 10
    · rw [numL_lt h]
      show 0 * 10 + (48 + n - 48) = n
      omega
    · rw [numL_step (by omega)]
      unfold digitsVal
      rw [List.foldl_append]
      have e := ih (n / 10) (by omega)
      unfold digitsVal at e
      rw [e]
      show n / 10 * 10 + (48 + n % 10 - 48) = n
      have := Nat.mod_lt n (by decide : 0 < 10)
      omega
theorem numL_len : ∀ (k n : Nat), n < 10 ^ (k + 1) → (numL n).length ≤ k + 1
  | 0, n, h => by
    rw [numL_lt (by simpa using h)]
    exact Nat.le_refl 1
  | k + 1, n, h => by
    by_cases h2 : n < 10
    · rw [numL_lt h2]
      show 1 ≤ _
      omega
    · rw [numL_step (by omega), List.length_append, List.length_singleton]
      have := numL_len k (n / 10) (by rw [Nat.pow_succ] at h; omega)
      omega
theorem numL_pos (n : Nat) : 1 ≤ (numL n).length := by
  by_cases h : n < 10
  · rw [numL_lt h]
    exact Nat.le_refl 1
  · rw [numL_step (by omega), List.length_append, List.length_singleton]
    omega
theorem numL_head : ∀ n : Nat, n ≠ 0 → ∃ c r, numL n = c :: r ∧ c ≠ 48 := by
  intro n
  induction n using Nat.strongRecOn with
  | _ n ih =>
    intro h0
    by_cases h : n < 10
    · exact ⟨48 + n, [], numL_lt h, by omega⟩
    · obtain ⟨c, r, e, hc⟩ := ih (n / 10) (by omega) (by omega)
      exact ⟨c, r ++ [48 + n % 10], by rw [numL_step (by omega), e]; rfl, hc⟩
end Fw
set_option Elab.async false
set_option linter.all false
set_option maxRecDepth 100000
set_option maxHeartbeats 4000000
namespace Fw
open PySem PySem.Spec PyProof.Rows L2 PySem.Calls
/-! ### head, *rest = xs -/
section
variable {prog : Program} {w : World} {A : Around} {E : Value → Shared → Prop} {s : Shared}
theorem shiftS {I : Addr} {fp wr : List Addr} {G : Array GenState → Array GenState → Prop} {n : Nat} {Pv : Nat → Value → Prop} {St : Nat → Shared → Prop} (W : WalksS prog w A I fp wr G (n + 1) Pv St) : WalksS prog w A I fp wr G n (fun i v => Pv (i + 1) v) (fun i s => St (i + 1) s) where
  sub := W.sub
  grefl := W.grefl
  gtrans := W.gtrans
  frame := fun i s h' tk st => W.frame (i + 1) s h' tk st
  item := fun i s Q E hi st hQ => W.item (i + 1) s Q E (by omega) st hQ
  done := fun s Q E st hQ => W.done s Q E st hQ
  self := fun i s Q E st hQ => W.self (i + 1) s Q E st hQ
theorem unpack_star {l : Addr} {x : Value} {rest : List Value} {Q : List Value → Shared → Prop} (hh : A.handled = none) (hl : s.heap.IsList l (x :: rest).toArray) (hz : rest.length ≤ sizeLine)
    (hQ : ∀ (h' : Heap) (tk : Nat), (∀ b o, s.heap.get? b = some o → h'.get? b = some o) → Q [x, .ref h'.objs.size] { s with heap := h'.push { cls := .type "list", data := .seq rest.toArray }, toks := tk }) :
    wpAny (model prog w) A (unpackItems (.ref l) 2 (some 1)) Q E s := by
  have hlt : l < s.heap.objs.size := by
    obtain ⟨o, ho, _⟩ := hl
    exact Heap.lt_size ho
  have hne : l ≠ s.heap.objs.size := Nat.ne_of_lt hlt
  have hsz : (x :: rest).toArray.size = rest.length + 1 := by simp
  have W0 := (Walks.list (prog := prog) (w := w) (A := A) hh s.heap.objs.size l hne (x :: rest).toArray).toS
  have W1 := (Walks.list (prog := prog) (w := w) (A := A.in1) (by simp [hh]) s.heap.objs.size l hne (x :: rest).toArray).toS
  rw [hsz] at W0 W1
  have W2 := shiftS W1
  unfold unpackItems
  refine wpAny_bind ?_
  unfold notIterableAtAll
  refine wpAny_bind (wpAny_specialOf hl.typeIs F.slot_list_iter.lookup ?_)
  refine wpAny_pure ?_
  simp only [Bool.false_eq_true, if_false]
  refine wpAny_bind (wpAny_holding (wpAny_pyIter_list hl ?_))
  have st0 : (s.heap.push { cls := .type "list_iterator", data := .fields #[.ref l, .int 0 0] }).IsListIter s.heap.objs.size l 0 ∧ (s.heap.push { cls := .type "list_iterator", data := .fields #[.ref l, .int 0 0] }).IsList l (x :: rest).toArray := ⟨⟨_, Heap.get?_push_size _ rfl, rfl, rfl⟩, hl.push _⟩
  have keep0 : ∀ b o, s.heap.get? b = some o → (s.heap.push { cls := .type "list_iterator", data := .fields #[.ref l, .int 0 0] }).get? b = some o := fun b o e => Heap.get?_push_of_some _ e
  refine wpAny_bind (wpAny_holding ?_)
  show wpAny _ A (draw (.ref s.heap.objs.size) 1) _ _ _
  unfold draw
  refine wpAny_bind (W0.item 0 _ _ _ (by omega) st0 fun v s1 hv st1 mv1 => ?_)
  have hv' : v = x := by
    have e : (x :: rest).toArray[0]? = some x := by simp
    rw [e] at hv
    exact (Option.some.inj hv).symm
  subst hv'
  dsimp only
  unfold draw
  refine wpAny_bind (wpAny_holding (wpAny_pure ?_))
  refine wpAny_pure ?_
  rw [if_neg (by simp)]
  have lt1 : ∀ b ∈ [s.heap.objs.size, l], b < s1.heap.objs.size := by
    intro b hb
    simp only [List.mem_cons, List.not_mem_nil, or_false] at hb
    rcases hb with rfl | rfl
    · obtain ⟨o, ho, _⟩ := st1.1
      exact Heap.lt_size ho
    · obtain ⟨o, ho, _⟩ := st1.2
      exact Heap.lt_size ho
  refine wpAny_bind (wpAny_holding (wpAny_collect_iter (T := "list_iterator") (.inr (.inr (.inl rfl))) W2 (fun i s' st => ?_) st1 lt1 (by simp) (fun s2 acc mv2 hacc => ?_) hz))
  · obtain ⟨o, ho, hc, _⟩ := st.1
    exact ⟨o, ho, hc⟩
  · have eacc : acc.toList = rest := by
      apply List.ext_getElem?
      intro i
      by_cases hi : i < rest.length
      · have hi2 : i < acc.size := by
          rw [hacc.1]
          exact hi
        have h1 : acc[i]? = some acc[i] := Array.getElem?_eq_getElem hi2
        have h2 : (v :: rest).toArray[i + 1]? = some acc[i] := hacc.2 i _ h1
        rw [Array.getElem?_toList, h1]
        have h3 : (v :: rest).toArray[i + 1]? = rest[i]? := by simp
        rw [h3] at h2
        exact h2.symm
      · rw [List.getElem?_eq_none (by rw [Array.length_toList, hacc.1]; omega), List.getElem?_eq_none (by omega)]
    rw [eacc]
    have gen : s2.gens = s.gens := mv2.gens.trans mv1.gens
    have drn : s2.drawn = s.drawn := mv2.drawn.trans mv1.drawn
    have os2 : s2.os = s.os := mv2.os.trans mv1.os
    have keep : ∀ b o, s.heap.get? b = some o → s2.heap.get? b = some o := fun b o e => by
      have hb : b ∉ [s.heap.objs.size] := by simpa using Nat.ne_of_lt (Heap.lt_size e)
      exact mv2.heap b o hb (mv1.heap b o hb (keep0 b o e))
    obtain ⟨h2, g2, d2, t2, o2⟩ := s2
    dsimp only at gen drn os2 keep
    subst gen drn os2
    rw [if_neg (by simp)]
    have e1 : rest.take (rest.length - (2 - 1 - 1)) = rest := List.take_of_length_le (by omega)
    have e2 : rest.drop (rest.length - (2 - 1 - 1)) = [] := List.drop_eq_nil_of_le (by omega)
    rw [e1, e2]
    refine wpAny_bind (wpAny_newList ?_ hz)
    exact wpAny_pure (hQ h2 t2 keep)
theorem assign_star {env : Env} {e1 e2 : Expr} {k : Nat} {sp pos : Pos} {l : Addr} {x : Value} {rest : List Value} {Q : Unit → Shared → Prop} (hh : A.handled = none) (hl : s.heap.IsList l (x :: rest).toArray) (hz : rest.length ≤ sizeLine)
    (h1 : assignEach [e1, .Starred e2 sp] env = [(false, assign e1 env), (true, assign e2 env)])
    (h : ∀ (h' : Heap) (tk : Nat), (∀ b o, s.heap.get? b = some o → h'.get? b = some o) → wpAny (model prog w) A (assignInOrder [assign e1 env, assign e2 env] [x, .ref h'.objs.size]) Q E { s with heap := h'.push { cls := .type "list", data := .seq rest.toArray }, toks := tk }) :
    wpAny (model prog w) A (assign (.Tuple [e1, .Starred e2 sp] k pos) env (.ref l)) Q E s := by
  rw [assign_Tuple, h1]
  refine wpAny_bind (wpAny_standAt ?_)
  unfold unpack
  exact wpAny_bind (wpAny_holding (unpack_star hh hl hz h))
end
/-- the target: one name, then all the rest -/
def gStar (K : PySem.W.Frag) (t u : TG) : TG := fun v σ H Q => ∃ a x xs, v = .ref a ∧ SqL K H a (x :: xs) ∧ xs.length ≤ sizeLine ∧ ∀ D, H D = none → t x σ (upd H D (.lst xs)) fun σ1 H1 => u (.ref D) σ1 H1 Q
theorem pg_star {X : Cx} {e1 e2 : Expr} {k : Nat} {sp pos : Pos} {t u : TG} (hc : X.calm = true) (h1 : PG X e1 t) (h2 : PG X e2 u) (he : assignEach [e1, .Starred e2 sp] X.env = [(false, assign e1 X.env), (true, assign e2 X.env)] := by rfl) : PG X (.Tuple [e1, .Starred e2 sp] k pos) (gStar X.K t u) := by
  refine ⟨fun pins s σ H v w Q I r hw => ?_⟩
  obtain ⟨a, x, xs, rfl, hs, hz, hw⟩ := hw
  cases r
  obtain ⟨its, rv, pl, hz2⟩ := I.list hs
  obtain ⟨u0, us, rfl, rx, rxs⟩ : ∃ u0 us, its = u0 :: us ∧ RelV x u0 ∧ Vals xs us := by
    cases rv with
    | cons r1 r2 => exact ⟨_, _, rfl, r1, r2⟩
  have hz3 : us.length ≤ sizeLine := by
    rw [← rxs.length]
    exact hz
  refine assign_star (I.ok.hd hc) pl.isList hz3 he fun h' tk keep => ?_
  have I1 : Inv X pins σ H { s with heap := h', toks := tk } := I.kept keep
  have I2 : Inv X pins σ (upd H h'.objs.size (.lst xs)) { s with heap := h'.push { cls := .type "list", data := .seq us.toArray }, toks := tk } :=
    I1.laid (h' := h'.push { cls := .type "list", data := .seq us.toArray }) (t' := tk) (fun b o e => Heap.get?_push_of_some _ e) (Nat.le_refl _) ⟨hz, us, 0, rxs, Heap.get?_push_size _ rfl⟩
  have hn : H h'.objs.size = none := I1.hok.fresh (Nat.le_refl _)
  refine assignInOrder_cons (wpAny_mono (h1.run pins _ σ _ x u0 _ I2 rx (hw _ hn)) (fun _ s2 y => ?_) fun _ _ e => e)
  obtain ⟨σ1, H1, I3, q⟩ := y
  refine assignInOrder_cons (wpAny_mono (h2.run pins s2 σ1 H1 (.ref h'.objs.size) (.ref h'.objs.size) _ I3 rfl q) (fun _ s3 y => ?_) fun _ _ e => e)
  obtain ⟨σ2, H2, I4, q4⟩ := y
  exact assignInOrder_nil ⟨σ2, H2, I4, q4⟩
end Fw
set_option Elab.async false
set_option linter.all false
set_option maxRecDepth 100000
set_option maxHeartbeats 4000000
namespace Fw
open PySem PySem.Spec PyProof.Rows L2 PySem.Calls
/-! ### methods of an own class -/
structure Dfm (P : Program) (w : World) (K : PySem.W.Frag) (mg : Str → Option Value) (base : Heap) (k : Nat) (C : Addr) (m : Str) (ps : List Str) (sp : Sp) : Prop where
  ex : ∃ (f : Addr) (fd : FuncData), FnOk P w K mg base (L2.CX P w) k f fd ps sp ∧ Cls K C ∧ Meth K C m f ∧ Binds K fd ps []
/-- a method of the text as the head's facts tell it -/
structure AtM (K : PySem.W.Frag) (C : Addr) (m q : Str) (st : Stmt) (ps : List Str) : Prop where
  ex : ∃ (f : Addr) (fd : FuncData), FunD K m q (defArgs st) (defBody st) (defScope st) [] [] f fd ∧ Cls K C ∧ Meth K C m f ∧ Binds K fd ps []
theorem AtM.ok {P : Program} {w : World} {K : PySem.W.Frag} {mg : Str → Option Value} {base : Heap} {C : Addr} {m q : Str} {st : Stmt} {N ps : List Str} {k : Nat} {sp : Sp} (F : AtM K C m q st ps) (S : FnScope N ps (defScope st)) (len : ∀ vs H Q E, sp vs H Q E → vs.length = ps.length)
    (hbody : ∀ (qual : Str) (f : Addr) (cdv : Value) (A : Around) (outer : List Env) (s : Shared) (H : Hp) (vs : List V) (Q : VK) (E : XK), Room k (A.deeper (envOfC qual (defScope st) s.heap.objs.size f cdv)) → sp vs H Q E →
      ∃ t, PSs (cxOf (L2.CX P w) P w K mg base N qual (defScope st) f cdv A outer s H E) (defBody st) t ∧ t { nx := fun _ H' => Q .non H', rt := Q } (start N vs) H) : Dfm P w K mg base (k + 1) C m ps sp := by
  obtain ⟨f, fd, FD, hc, hm, hb⟩ := F.ex
  exact ⟨f, fd, FD.ok S len fun cdv A outer s H vs Q E hr hsp => hbody q f cdv A outer s H vs Q E hr hsp, hc, hm, hb⟩
theorem Dfm.mono {P : Program} {w : World} {K : PySem.W.Frag} {mg : Str → Option Value} {base : Heap} {k j : Nat} {C : Addr} {x : Str} {ps : List Str} {sp : Sp} (G : Dfm P w K mg base k C x ps sp) (h : k ≤ j) : Dfm P w K mg base j C x ps sp := by
  obtain ⟨f, fd, F, r⟩ := G.ex
  exact ⟨f, fd, F.mono h, r⟩
theorem Dfm.imp {P : Program} {w : World} {K : PySem.W.Frag} {mg : Str → Option Value} {base : Heap} {k : Nat} {C : Addr} {x : Str} {ps : List Str} {sp sp' : Sp} (G : Dfm P w K mg base k C x ps sp) (h : ∀ vs H Q E, sp' vs H Q E → sp vs H Q E) : Dfm P w K mg base k C x ps sp' := by
  obtain ⟨f, fd, F, r⟩ := G.ex
  exact ⟨f, fd, F.imp h, r⟩
section
variable {X : Cx} {k j : Nat} {C : Addr} {m : Str} {ps : List Str} {sp : Sp} {E : XK} {apos pos : Pos} {e o : Expr} {es : List Expr} {ta : TE} {t : TA} {pl : Sem Bool}
theorem pe_m (G : Dfm X.prog X.w X.K X.mg X.base k C m ps sp) (hr : Room j X.A) (hx : Passes (L2.CX X.prog X.w) X E) (he : PE X o ta) (ha : PA X (e :: es) t) (hk : k ≤ j := by decide)
    (hst : starEach (e :: es) X.env = (false, eval e X.env) :: starEach es X.env := by rfl) (hpl : (backTo pos (starEach es X.env)).any (·.1) = false := by rfl)
    (ht : eval (.Call (.Attribute o m apos) (e :: es) [] pos) X.env = (do
      let ov ← eval o X.env
      standAt apos.atName
      let (f, first) ← holding [ov] (getMethod ov m pl)
      callWith pos f first (backTo pos (starEach (e :: es) X.env)) (backToKw pos (keywordEach [] X.env))) := by rfl) : PE X (.Call (.Attribute o m apos) (e :: es) [] pos) (tMeth C m sp [] E ta t) := by
  obtain ⟨f, fd, F, hc, hm, hb⟩ := G.ex
  exact pe_meth he hc hm F (hr.mono hk) hb .nil hx ha hst hpl ht
theorem pe_m0 (G : Dfm X.prog X.w X.K X.mg X.base k C m ps sp) (hr : Room j X.A) (hx : Passes (L2.CX X.prog X.w) X E) (he : PE X o ta) (hk : k ≤ j := by decide)
    (ht : eval (.Call (.Attribute o m apos) [] [] pos) X.env = (do
      let ov ← eval o X.env
      standAt apos.atName
      let (f, first) ← holding [ov] (getMethod ov m pl)
      callWith pos f first (backTo pos (starEach [] X.env)) (backToKw pos (keywordEach [] X.env))) := by rfl) : PE X (.Call (.Attribute o m apos) [] [] pos) (tMeth C m sp [] E ta tNil) := by
  obtain ⟨f, fd, F, hc, hm, hb⟩ := G.ex
  exact pe_meth0 he hc hm F (hr.mono hk) hb .nil hx ht
/-- within a try's body -/
def tMethT (C : Addr) (m : Str) (sp : Sp) (E : L2.St → XK) (ta : TE) (t : TA) : TE := fun σ H Q => ta σ H fun x H1 => ∃ a dx fs, x = .ref a ∧ H1 a = some (.ins C dx fs) ∧ fs.lookup m = none ∧ t σ H1 fun vs H2 => sp (x :: vs) H2 Q (E σ)
theorem pe_mT {W : WX} (G : Dfm X.prog X.w X.K X.mg X.base k C m ps sp) (hr : Room j X.A) (tk : Takes X W) (he : PE X o ta) (ha : PA X (e :: es) t) (hk : k ≤ j := by decide)
    (hst : starEach (e :: es) X.env = (false, eval e X.env) :: starEach es X.env := by rfl) (hpl : (backTo pos (starEach es X.env)).any (·.1) = false := by rfl)
    (ht : eval (.Call (.Attribute o m apos) (e :: es) [] pos) X.env = (do
      let ov ← eval o X.env
      standAt apos.atName
      let (f, first) ← holding [ov] (getMethod ov m pl)
      callWith pos f first (backTo pos (starEach (e :: es) X.env)) (backToKw pos (keywordEach [] X.env))) := by rfl) : PE X (.Call (.Attribute o m apos) (e :: es) [] pos) (tMethT C m sp (WE W) ta t) := by
  obtain ⟨f, fd, F, hc, hm, hb⟩ := G.ex
  refine ⟨fun pins s σ H Q I h => ?_⟩
  refine PySem.W.methodCall_KW (pl := pl) (thn (he.run pins s σ H _ I h) fun u s1 ⟨x, H1, I1, rx, a, dx, fs, ex, ea, l, q⟩ => ?_) ht
  subst ex
  obtain rfl : u = Value.ref a := rx
  refine getmeth_ok I1 ea hc hm l ?_
  refine PySem.W.callWith_K (first := [.ref a]) (h₀ := X.base) I.ok.mod.kin hm.kp (thn (ha.run pos pins s1 σ H1 _ I1 q) fun us s2 ⟨vs, H2, I2, r, q2⟩ => ⟨I2.kIn, ?_⟩) hst hpl
  exact run_fnS (us := .ref a :: us) (vs := .ref a :: vs) F (hr.mono hk) hb (passAt tk σ) I2 (.cons rfl r) q2
end
/-- a local name that holds one of several defs, within a try's body -/
def tCallVT (i : Nat) (S : Addr → Sp → Prop) (E : L2.St → XK) (t : TA) : TE := fun σ H Q => ∃ f sp, σ[i]? = some (some (.ref f)) ∧ S f sp ∧ t σ H fun vs H1 => sp vs H1 Q (E σ)
/-! ### repr of data -/
theorem cr_repr {X : Cx} (hg : X.A.guards = some []) (hu : X.A.units + 64 < cLine) : CallR X (.builtin "repr") (fun xs H Q => ∃ a d, xs = [.ref a] ∧ Dp X.K H (.ref a) d ∧ d.showable = true ∧ d.hasDict = false ∧ d.depth ≤ 20 ∧ d.shown.length ≤ sizeLine ∧ Q (.str d.shown) H) := by
  intro pins s σ H xs us Q I r h
  obtain ⟨a, d, rfl, hd, hs, hh, h20, hz, q⟩ := h
  obtain rfl := Vals.ref1 r
  obtain ⟨as, hr⟩ := Dp.reads I d (.ref a) (.ref a) hd rfl
  refine PySem.repr_of_reads' hr hs (fun z => by rw [hh] at z; cases z) hg (by omega) (fun b o e => e) (fun h' u tk keep => ?_) hz
  exact ⟨.str d.shown, H, I.kept keep, ⟨u, rfl⟩, q⟩
end Fw
set_option Elab.async false
set_option linter.all false
set_option maxRecDepth 100000
set_option maxHeartbeats 4000000
namespace Fw
open PySem PySem.Spec PyProof.Rows L2 PySem.Calls
/-! ### a law whose promise is wanted at the caller alone (what stands around is known: no repr under way) -/
/-- the promise of a def at one place -/
def AtA (A : Around) (P : Program) (w : World) (K : PySem.W.Frag) (mg : Str → Option Value) (base : Heap) (f : Addr) (fd : FuncData) (ps : List Str) (sp : Sp) : Prop :=
  ∀ (outer : List Env) (s : Shared) (H : Hp) (args : Args) (us : List Value) (vs : List V) (Q : VK) (E : XK), Env0 P w K mg base A outer s H → BindsTo s fd args (ps.zip us) → Vals vs us → sp vs H Q E →
    codeAny (model P w) A (.call (.ref f) args) (CR (L2.CX P w) outer P w H s Q E) s
/-- the heap that tracks at most the script -/
def scriptH (K : PySem.W.Frag) (a : Addr) (vs : List Value) (ns : List Int) : Hp := fun b => if b = a ∧ K.lookup a = none then some (.frz { cls := .type "list", data := .seq vs.toArray } (.lst (ns.map V.int))) else none
section
variable {P : Program} {w : World} {K : PySem.W.Frag} {mg mb : Str → Option Value} {fa a : Addr} {fd : FuncData} {x : Str} {sp : Sp} {s₁ : Shared} {vs : List Value} {ns : List Int}
theorem scriptH_some {b : Addr} {u : HO} (h : scriptH K a vs ns b = some u) : b = a ∧ K.lookup a = none ∧ u = .frz { cls := .type "list", data := .seq vs.toArray } (.lst (ns.map V.int)) := by
  unfold scriptH at h
  by_cases c : b = a ∧ K.lookup a = none
  · rw [if_pos c] at h
    exact ⟨c.1, c.2, (Option.some.inj h).symm⟩
  · rw [if_neg c] at h
    cases h
theorem law_callG (KX : K.In s₁.heap) (hns : s₁.heap.Ns mainGlobals mg) (hb : s₁.heap.Ns builtinsNs mb) (hbb : ∀ x : Str, x ≠ "__name__" → mb x = bootBuiltins x) (hlim : s₁.heap.NoLimit) (hg : s₁.gens = #[])
    (ha : s₁.heap.get? a = some { cls := .type "list", data := .seq vs.toArray }) (hi : IntsAre vs ns) (hl : ns.length ≤ sizeLine)
    (F : ∀ base : Heap, K.In base → base.Ns mainGlobals mg → AtA callerA P w K mg base fa fd [x] sp) (hbind : ∀ (s : Shared) (u : Value), BindsTo s fd ⟨[u], []⟩ [(x, u)])
    (hsp : ∀ H : Hp, SqL K H a (ns.map V.int) → sp [.ref a] H (fun v _ => v = .bl true) fun _ _ _ => False) :
    codeAny (model P w) callerA (.call (.ref fa) ⟨[.ref a], []⟩) (fun r s' => r = .ok (.ret (.bool true)) ∧ OldK s₁.heap s'.heap ∧ s'.os = s₁.os ∧ AllBare s'.gens) s₁ := by
  have rv := vals_ints hi
  have cnt := hi.length
  generalize hH : scriptH K a vs ns = H
  have known : ∀ {b u}, H b = some u → b = a ∧ K.lookup a = none ∧ u = .frz { cls := .type "list", data := .seq vs.toArray } (.lst (ns.map V.int)) := by
    intro b u h
    rw [← hH] at h
    exact scriptH_some h
  -- the script can be read
  have readS : SqL K H a (ns.map V.int) := by
    cases hk : K.lookup a with
    | none =>
      refine .inl (.inr ⟨{ cls := .type "list", data := .seq vs.toArray }, ?_⟩)
      rw [← hH]
      exact if_pos ⟨rfl, hk⟩
    | some o =>
      have e := KX a o hk
      rw [ha] at e
      cases e
      exact .inr ⟨_, vs.toArray, _, hk, rfl, rfl, rfl, by rw [List.size_toArray, cnt]; exact hl, by simpa using rv⟩
  have okH : HOk P w H s₁.heap := by
    intro b u h
    obtain ⟨rfl, _, rfl⟩ := known h
    exact ⟨ha, by rw [List.length_map]; exact hl, vs, _, rv, ha⟩
  -- dicts are not tracked
  have free : ∀ {b : Addr} {o : Obj} {es : Array DictEntry} {ep : Nat}, s₁.heap.get? b = some o → o.data = .dict es ep → H b = none := by
    intro b o es ep e d
    cases q : H b with
    | none => rfl
    | some u =>
      obtain ⟨rfl, _, _⟩ := known q
      rw [ha] at e
      cases e
      cases d
  have ns' : ∀ {b : Addr} {m : Str → Option Value}, s₁.heap.Ns b m → (hidT s₁.heap H).Ns b m := fun {b m} ⟨o, es, ep, e, d, r⟩ => ⟨o, es, ep, hidT_get e (free e d), d, r⟩
  have kin : K.In (hidT s₁.heap H) := by
    intro b o e
    refine hidT_get (KX b o e) ?_
    cases q : H b with
    | none => rfl
    | some u =>
      obtain ⟨rfl, h2, _⟩ := known q
      rw [h2] at e
      cases e
  have mod : Mod K mg (hidT s₁.heap H) := by
    obtain ⟨mc, h1, h2⟩ := hlim
    exact ⟨kin, ns' hns, ⟨mb, ns' hb, hbb⟩, ⟨mc, ns' h1, h2⟩⟩
  have env : Env0 P w K mg (hidT s₁.heap H) callerA [] s₁ H := ⟨rfl, mod, fun b o e => of_hidT e, Nat.le_of_eq (hidT_size _ _), trivial, fun b hb => absurd (show b ∈ ([] : List Addr) from hb) (by simp), okH, .of_eq hg⟩
  refine codeAny_mono (F _ kin (ns' hns) [] s₁ H ⟨[.ref a], []⟩ [.ref a] [.ref a] _ _ env (hbind s₁ (.ref a)) (.cons rfl .nil) (hsp H readS)) fun r s' h => ?_
  cases r with
  | error e =>
    obtain ⟨_, _, _, _, _, _, _, _, _, _, _, _, z⟩ := h
    exact z.elim
  | ok fl =>
    cases fl with
    | ret u =>
      obtain ⟨v, H', os, bare, un, hok', r', q⟩ := h
      have q' : v = .bl true := q
      subst q'
      obtain rfl : u = Value.bool true := r'
      refine ⟨rfl, OldK.of_keep fun b o e => ?_, os, bare⟩
      cases q2 : H b with
      | none => exact un.keep b o e q2 (by intro z; exact absurd (show b ∈ ([] : List Addr) from z) (by simp)) (by simp)
      | some u =>
        obtain ⟨rfl, _, rfl⟩ := known q2
        have z2 := un.frzs b _ _ q2
        obtain ⟨e2, _⟩ := hok' b _ z2
        rw [ha] at e
        cases e
        exact e2
    | _ => exact h.elim
end
/-- the goal of head_any, by the promise at the caller -/
theorem walk_G {l : PySem.W.OpenLaw} {n : Nat} {q : Program} {loose : List Str} {XP : (Str → Option Value) → Heap → Prop} {YP : World → Heap → Prop} {d : DefRec} {x : Str} (hn : l.most = some n) (hn2 : n ≤ sizeLine) (hdf : d.params.defaults = [])
    (F : ∀ (w : World) (mg : Str → Option Value) (fa : Addr) (h : Heap), YP w h → h.Ns mainGlobals mg → mg d.name = some (.ref fa) → ∃ (K : PySem.W.Frag) (fd : FuncData) (sp : Sp), K.In h ∧ (∀ (s : Shared) (u : Value), BindsTo s fd ⟨[u], []⟩ [(x, u)]) ∧
      (∀ (H : Hp) (a : Addr) (ns : List Int), ns.length ≤ n → (∀ z ∈ ns, Builtin.Int.intBits z ≤ 1048576) → SqL K H a (ns.map V.int) → sp [.ref a] H (fun v _ => v = .bl true) fun _ _ _ => False) ∧
      ∀ base : Heap, K.In base → base.Ns mainGlobals mg → AtA callerA l.prog w K mg base fa fd [x] sp) : PySem.W.WalkO q loose XP YP l.row.toRowW d [] (fun f vs => PySem.call f vs) := by
  refine Att.attach_callB hn hdf fun w s₀ s₁ mg mb fa o pm cd doc a vs ns G Y ho hd hcd hmg hobj hints hlen hbits hg => ?_
  obtain ⟨K, fd, sp, KX, hb, hsp, hF⟩ := F w mg fa _ Y G.T.g hmg
  exact law_callG KX G.T.g G.T.b G.T.builtins G.T.nolimit hg hobj hints (Nat.le_trans hlen hn2) hF hb (fun H hS => hsp H a ns hlen hbits hS)
/-- the promise of a def at one place, from its body there -/
theorem at_of {P : Program} {w : World} {K : PySem.W.Frag} {mg : Str → Option Value} {base : Heap} {A : Around} {x : Str} {st : Stmt} {N ps : List Str} {k : Nat} {sp : Sp} {f : Addr} {fd : FuncData} (F : FunD K x x (defArgs st) (defBody st) (defScope st) [] [] f fd) (S : FnScope N ps (defScope st)) (hr : Room (k + 1) A)
    (len : ∀ vs H Q E, sp vs H Q E → vs.length = ps.length)
    (hbody : ∀ (cdv : Value) (outer : List Env) (s : Shared) (H : Hp) (vs : List V) (Q : VK) (E : XK), Room k (A.deeper (envOfC x (defScope st) s.heap.objs.size f cdv)) → sp vs H Q E →
      ∃ t, PSs (cxOf (L2.CX P w) P w K mg base N x (defScope st) f cdv A outer s H E) (defBody st) t ∧ t { nx := fun _ H' => Q .non H', rt := Q } (start N vs) H) : AtA A P w K mg base f fd ps sp := by
  obtain ⟨oc, od, dV, kV, doc, pm, an, cdv, ct, osl, rfl, lk, hcd, _, _⟩ := F.ex
  intro outer s H args us vs Q E e0 hb r hsp
  have KX : K.In s.heap := e0.mod.kin.keeps fun b o e => (e0.bs b o e).1
  have lim : s.heap.NoLimit := e0.mod.nolimit.keeps fun b o e => (e0.bs b o e).1
  refine codeAny_call_function hr.depth (KX _ _ lk) rfl S.co S.gen rfl (PySem.W.codeRec_of KX hcd) (hb _ _ _ _ ?_)
  refine wpAny_newFunctionEnv_cells S.kind (fun ⟨n, v⟩ hy => ?_) fun env he s1 y => ?_
  · rcases S.par n (List.of_mem_zip hy).1 with q | q
    · exact .inl q
    · exact .inr ⟨q, PySem.W.cellsFrom_some _ _ _ (.inl q)⟩
  subst he
  refine ⟨lim.keeps y.toInCall.keep, codeAny_func ?_⟩
  obtain ⟨t, ht, hq⟩ := hbody cdv outer s H vs Q E (hr.deeper _) hsp
  have I : Inv (cxOf (L2.CX P w) P w K mg base N x (defScope st) f cdv A outer s H E) [] (start N vs) H s1 := inv_start S hr.hd e0 (len _ _ _ _ hsp) r y
  refine wpAny_mono (ht.run [] s1 (start N vs) H _ I hq) (fun fl s' hs => ?_) fun e s' hs => hs
  have back : ∀ {σ' : L2.St} {H' : Hp} {v : V} {u : Value}, Inv (cxOf (L2.CX P w) P w K mg base N x (defScope st) f cdv A outer s H E) [] σ' H' s' → RelV v u → Q v H' → CE outer P w H s Q u s' := fun J rv q => ⟨_, _, J.os, J.bare, J.base, J.hok, rv, q⟩
  cases fl with
  | ret u =>
    obtain ⟨v, σ', H', J, rv, q⟩ := hs
    exact back J rv q
  | next =>
    obtain ⟨σ', H', J, q⟩ := hs
    exact back (v := V.non) J rfl q
  | _ =>
    obtain ⟨_, _, _, q⟩ := hs
    exact q.elim
end Fw
set_option Elab.async false
set_option linter.all false
set_option maxRecDepth 100000
set_option maxHeartbeats 4000000
namespace Fw
open PySem PySem.Spec PyProof.Rows L2 PySem.Calls TL PySem.NumText
/-! ### data of tuples alone: it stays -/
mutual
inductive Dt (K : PySem.W.Frag) (H : Hp) : V → PyData → Prop
  | non : Dt K H .non .none
  | bl (b : Bool) : Dt K H (.bl b) (.bool b)
  | int (i : Int) : Dt K H (.int i) (.int i)
  | str (x : Str) : Dt K H (.str x) (.str x)
  | tup {a : Addr} {xs : List V} {ds : List PyData} : SqT K H a xs → DtAll K H xs ds → Dt K H (.ref a) (.tuple ds)
inductive DtAll (K : PySem.W.Frag) (H : Hp) : List V → List PyData → Prop
  | nil : DtAll K H [] []
  | cons {v : V} {vs : List V} {d : PyData} {ds : List PyData} : Dt K H v d → DtAll K H vs ds → DtAll K H (v :: vs) (d :: ds)
end
section
variable {K : PySem.W.Frag} {H H' : Hp} {M : List Addr}
mutual
theorem Dt.dp : ∀ (d : PyData) (v : V), Dt K H v d → Dp K H v d
  | .none, _, h => by
    cases h
    exact .non
  | .bool b, _, h => by
    cases h
    exact .bl b
  | .int i, _, h => by
    cases h
    exact .int i
  | .str x, _, h => by
    cases h
    exact .str x
  | .list ds, _, h => by cases h
  | .tuple ds, _, h => by
    cases h with
    | tup hs ha => exact .tup hs (Dt.dpAll ds _ ha)
  | .dict _, _, h => by cases h
theorem Dt.dpAll : ∀ (ds : List PyData) (vs : List V), DtAll K H vs ds → DpAll K H vs ds
  | [], _, h => by
    cases h
    exact .nil
  | d :: ds, _, h => by
    cases h with
    | cons h1 h2 => exact .cons (Dt.dp d _ h1) (Dt.dpAll ds _ h2)
end
mutual
theorem Dt.kp (k : Kp M H H') : ∀ (d : PyData) (v : V), Dt K H v d → Dt K H' v d
  | .none, _, h => by
    cases h
    exact .non
  | .bool b, _, h => by
    cases h
    exact .bl b
  | .int i, _, h => by
    cases h
    exact .int i
  | .str x, _, h => by
    cases h
    exact .str x
  | .list ds, _, h => by cases h
  | .tuple ds, _, h => by
    cases h with
    | tup hs ha => exact .tup (k.tup hs) (Dt.kpAll k ds _ ha)
  | .dict _, _, h => by cases h
theorem Dt.kpAll (k : Kp M H H') : ∀ (ds : List PyData) (vs : List V), DtAll K H vs ds → DtAll K H' vs ds
  | [], _, h => by
    cases h
    exact .nil
  | d :: ds, _, h => by
    cases h with
    | cons h1 h2 => exact .cons (Dt.kp k d _ h1) (Dt.kpAll k ds _ h2)
end
end
/-- what repr bears -/
structure Nice (k m : Nat) (d : PyData) : Prop where
  s : d.showable = true
  h : d.hasDict = false
  dp : d.depth ≤ k
  sh : d.shown.length ≤ m
theorem Nice.mono {k m k' m' : Nat} {d : PyData} (h : Nice k m d) (h1 : k ≤ k') (h2 : m ≤ m') : Nice k' m' d := ⟨h.s, h.h, Nat.le_trans h.dp h1, Nat.le_trans h.sh h2⟩
theorem depthAll_le {k : Nat} : ∀ {ds : List PyData}, (∀ d ∈ ds, d.depth ≤ k) → PyData.depthAll ds ≤ k
  | [], _ => by simp [PyData.depthAll]
  | d :: ds, h => by
    simp only [PyData.depthAll]
    exact Nat.max_le.mpr ⟨h d (by simp), depthAll_le fun e he => h e (List.mem_cons_of_mem _ he)⟩
theorem hasDictAll_f : ∀ {ds : List PyData}, (∀ d ∈ ds, d.hasDict = false) → PyData.hasDictAll ds = false
  | [], _ => by simp [PyData.hasDictAll]
  | d :: ds, h => by
    simp only [PyData.hasDictAll]
    rw [h d (by simp), hasDictAll_f fun e he => h e (List.mem_cons_of_mem _ he)]
    rfl
theorem shownAll_sum {m : Nat} : ∀ {ds : List PyData}, (∀ d ∈ ds, d.shown.length ≤ m) → ((PyData.shownAll ds).map (·.length)).sum ≤ ds.length * m
  | [], _ => by simp [PyData.shownAll]
  | d :: ds, h => by
    have h1 := h d (by simp)
    have h2 := shownAll_sum (m := m) fun e he => h e (List.mem_cons_of_mem _ he)
    simp only [PyData.shownAll, List.map_cons, List.sum_cons, List.length_cons, Nat.add_mul, Nat.one_mul]
    omega
theorem Nice.tup {k m n : Nat} {ds : List PyData} (h : ∀ d ∈ ds, Nice k m d) (hn : ds.length ≤ n) : Nice (k + 1) (n * (m + 2) + 3) (.tuple ds) := by
  refine ⟨?_, ?_, ?_, ?_⟩
  · simp only [PyData.showable]
    exact showableAll_of fun d hd => (h d hd).s
  · simp only [PyData.hasDict]
    exact hasDictAll_f fun d hd => (h d hd).h
  · simp only [PyData.depth]
    have := depthAll_le fun d hd => (h d hd).dp
    omega
  · simp only [PyData.shown]
    have h1 := tupleText_len_le (PyData.shownAll ds)
    have h2 := shownAll_sum fun d hd => (h d hd).sh
    rw [PyData.shownAll_length] at h1
    have h3 : ds.length * m ≤ n * m := Nat.mul_le_mul_right m hn
    rw [Nat.mul_add]
    omega
/-- two things that show alike -/
def Al (K : PySem.W.Frag) (H : Hp) (v v' : V) (k m : Nat) : Prop := ∃ d, Dt K H v d ∧ Dt K H v' d ∧ Nice k m d
section
variable {K : PySem.W.Frag} {H H' : Hp} {M : List Addr} {v v' : V} {k m k' m' : Nat}
theorem Al.kp (h : Al K H v v' k m) (kk : Kp M H H') : Al K H' v v' k m := by
  obtain ⟨d, h1, h2, n⟩ := h
  exact ⟨d, h1.kp kk _ _, h2.kp kk _ _, n⟩
theorem Al.mono (h : Al K H v v' k m) (h1 : k ≤ k') (h2 : m ≤ m') : Al K H v v' k' m' := by
  obtain ⟨d, e1, e2, n⟩ := h
  exact ⟨d, e1, e2, n.mono h1 h2⟩
theorem Al.int {i : Int} (h : i.natAbs.log2 < 1920) (h2 : (Str.ofString (toString i)).length ≤ 40) : Al K H (.int i) (.int i) 0 40 := ⟨_, .int i, .int i, by simpa [PyData.showable] using h, by simp [PyData.hasDict], by simp [PyData.depth], by simpa only [PyData.shown] using h2⟩
theorem Al.bl {b : Bool} : Al K H (.bl b) (.bl b) 0 40 := ⟨_, .bl b, .bl b, by simp [PyData.showable], by simp [PyData.hasDict], by simp [PyData.depth], by
  rw [PyData.shown_bool]
  cases b <;> decide⟩
theorem Al.str {z : Str} {n : Nat} (h : z.length ≤ n) (h2 : ∀ c ∈ z.cps.toList, c < 1000) : Al K H (.str z) (.str z) 0 (10 * n + 2) := ⟨_, .str z, .str z, by simp [PyData.showable], by simp [PyData.hasDict], by simp [PyData.depth], by
  rw [PyData.shown_str]
  have := StrLaws.reprText_len z fun c hc => Nat.lt_trans (h2 c hc) (by decide)
  omega⟩
theorem als_of : ∀ {xs ys : List V}, xs.length = ys.length → (∀ (i : Nat) (x y : V), xs[i]? = some x → ys[i]? = some y → Al K H x y k m) → ∃ ds, DtAll K H xs ds ∧ DtAll K H ys ds ∧ ds.length = xs.length ∧ ∀ d ∈ ds, Nice k m d
  | [], [], _, _ => ⟨[], .nil, .nil, rfl, fun d h => by cases h⟩
  | [], _ :: _, h, _ => by simp at h
  | _ :: _, [], h, _ => by simp at h
  | x :: xs, y :: ys, h, q => by
    obtain ⟨d, h1, h2, n⟩ := q 0 x y rfl rfl
    obtain ⟨ds, g1, g2, g3, g4⟩ := als_of (xs := xs) (ys := ys) (by simpa using h) fun i a b e1 e2 => q (i + 1) a b (by simpa using e1) (by simpa using e2)
    refine ⟨d :: ds, .cons h1 g1, .cons h2 g2, by simp [g3], fun e he => ?_⟩
    rcases List.mem_cons.mp he with rfl | he
    · exact n
    · exact g4 e he
theorem Al.tup {a b : Addr} {xs ys : List V} {n : Nat} (ha : SqT K H a xs) (hb : SqT K H b ys) (hl : xs.length = ys.length) (hn : xs.length ≤ n) (h : ∀ (i : Nat) (x y : V), xs[i]? = some x → ys[i]? = some y → Al K H x y k m) : Al K H (.ref a) (.ref b) (k + 1) (n * (m + 2) + 3) := by
  obtain ⟨ds, g1, g2, g3, g4⟩ := als_of hl h
  exact ⟨_, .tup ha g1, .tup hb g2, Nice.tup g4 (by omega)⟩
end
/-! ### texts of words and lines -/
abbrev okW (z : Str) : Prop := ∀ c ∈ z.cps.toList, 33 ≤ c
abbrev okN (z : Str) : Prop := ∀ c ∈ z.cps.toList, 32 ≤ c
theorem mem_joinL {S : List Nat} {c : Nat} : ∀ {ps : List (List Nat)}, c ∈ joinL S ps → c ∈ S ∨ ∃ p ∈ ps, c ∈ p
  | [], h => by cases h
  | [p], h => .inr ⟨p, by simp, h⟩
  | p :: q :: r, h => by
    rcases List.mem_append.mp h with h | h
    · exact .inr ⟨p, by simp, h⟩
    · rcases List.mem_append.mp h with h | h
      · exact .inl h
      · rcases mem_joinL h with h | ⟨u, hu, h⟩
        · exact .inl h
        · exact .inr ⟨u, List.mem_cons_of_mem _ hu, h⟩
theorem tl_sp : tl (" " : Str) = [32] := by decide +kernel
theorem tl_nl : tl ("\n" : Str) = [10] := by decide +kernel
theorem tl_eq (z : Str) : tl z = z.cps.toList := rfl
theorem join_okN {ws : List Str} (h : ∀ z ∈ ws, okW z) : okN (Txt.join " " ws) := by
  intro c hc
  rw [← tl_eq, join_eq, tl_join, tl_sp] at hc
  rcases mem_joinL hc with h1 | ⟨p, hp, h1⟩
  · have := List.mem_singleton.mp h1
    omega
  · obtain ⟨z, hz, rfl⟩ := List.mem_map.mp hp
    have := h z hz c h1
    omega
theorem split_words {ws : List Str} (hne : ws ≠ []) (h : ∀ z ∈ ws, okW z) : Txt.split (Txt.join " " ws) " " = ws :=
  split_join (s := 32) (S := []) tl_sp (by decide +kernel) hne fun p hp hc => by
    have := h p hp 32 hc
    omega
theorem split_lines {h : Str} {ls : List Str} (hh : okN h) (hl : ∀ z ∈ ls, okN z) : Txt.split (Txt.join "\n" (h :: ls)) "\n" = h :: ls :=
  split_join (s := 10) (S := []) tl_nl (by decide +kernel) (by simp) fun p hp hc => by
    rcases List.mem_cons.mp hp with rfl | hp
    · have := hh 10 hc
      omega
    · have := hl p hp 10 hc
      omega
theorem join_behind {ws : List Str} (hne : ws ≠ []) : Txt.join " " ws ++ (" " : Str) = Txt.join " " (ws ++ [("" : Str)]) := by
  rw [join_eq, join_eq]
  induction ws with
  | nil => exact absurd rfl hne
  | cons x r ih =>
    cases r with
    | nil =>
      show x ++ (" " : Str) = x ++ " " ++ ("" : Str)
      exact (Str.append_empty _).symm
    | cons y r =>
      have e := ih (by simp)
      show (x ++ " " ++ Str.join " " (y :: r)) ++ (" " : Str) = x ++ " " ++ Str.join " " (y :: r ++ [("" : Str)])
      rw [← e, Str.append_assoc]
theorem join_ahead {ws : List Str} (hne : ws ≠ []) : (" " : Str) ++ Txt.join " " ws = Txt.join " " (("" : Str) :: ws) := by
  rw [join_eq, join_eq]
  cases ws with
  | nil => exact absurd rfl hne
  | cons x r =>
    show (" " : Str) ++ Str.join " " (x :: r) = ("" : Str) ++ " " ++ Str.join " " (x :: r)
    rw [show (("" : Str) ++ (" " : Str)) = (" " : Str) by decide +kernel]
/-! ### number words -/
theorem iS_nat {i : Int} (h : 0 ≤ i) : (Str.ofString (toString i)).cps.toList = numL i.toNat := by
  obtain ⟨n, rfl⟩ := Int.eq_ofNat_of_zero_le h
  exact tl_num n
theorem iS_int {i : Int} (h : 0 ≤ i) (h2 : (Str.ofString (toString i)).length ≤ 640) : PySem.intText? (Str.ofString (toString i)) = some i := by
  have e := iS_nat h
  have hp := numL_pos i.toNat
  rw [PySem.intText_digits (by rw [e]; exact numL_digits _) (by rw [e]; intro z; rw [z] at hp; simp at hp) (by omega), e, numL_val]
  congr 1
  omega
/-! ### a rule for a call of a local name that holds one of several defs, within a try's body -/
theorem pe_callVT {X : Cx} {W : WX} {k j i : Nat} {S : Addr → Sp → Prop} {x : Str} {p pos : Pos} {e : Expr} {es : List Expr} {t : TA} (A : ∀ f sp, S f sp → Hd X.prog X.w X.K X.mg X.base k f sp) (hr : Room j X.A) (tk : Takes X W) (hN : X.N[i]? = some x) (hv : Vis X.env.scope x) (ha : PA X (e :: es) t) (hk : k ≤ j := by decide)
    (hdb : (x == ("__debug__" : Str)) = false := by decide) (hcd : (x == ("__classdict__" : Str)) = false := by decide)
    (he : starEach (e :: es) X.env = (false, eval e X.env) :: starEach es X.env := by rfl) (hpl : (backTo pos (starEach es X.env)).any (·.1) = false := by rfl) : PE X (.Call (.Name x p) (e :: es) [] pos) (tCallVT i S (WE W) t) := by
  refine ⟨fun pins s σ H Q I h => ?_⟩
  obtain ⟨f, sp, hs, hS, ht⟩ := h
  obtain ⟨fd, ps, F, hkp, hb⟩ := (A f sp hS).ex
  refine wpAny_Call_Name_kw (thn ((pe_var (pos := p) hN hv hdb hcd).run pins s σ H (fun v H1 => v = .ref f ∧ H1 = H) I ⟨.ref f, hs, rfl, rfl⟩) fun u s1 ⟨v, H1, I1, r1, q1⟩ => ?_)
  obtain ⟨rfl, rfl⟩ := q1
  cases r1
  refine PySem.W.callWith_K (h₀ := X.base) I.ok.mod.kin hkp (thn (ha.run pos pins s1 σ _ _ I1 ht) fun us s2 ⟨vs, H2, I2, r, q⟩ => ⟨I2.kIn, ?_⟩) he hpl
  exact run_fnS F (hr.mono hk) hb (passAt tk σ) I2 r q
end Fw
set_option Elab.async false
set_option linter.all false
set_option maxRecDepth 100000
set_option maxHeartbeats 4000000
namespace Fw
open PySem PySem.Spec PyProof.Rows L2
/-! ### a class of the text, made -/
structure Dfc (P : Program) (w : World) (K : PySem.W.Frag) (mg : Str → Option Value) (base : Heap) (k : Nat) (x : Str) (C : Addr) (ps : List Str) (sp : Sp) : Prop where
  ex : ∃ (f : Addr) (fd : FuncData), FnOk P w K mg base (L2.CX P w) k f fd ps sp ∧ Mk K C f ∧ mg x = some (.ref C) ∧ Binds K fd ps []
theorem Dfm.made {P : Program} {w : World} {K : PySem.W.Frag} {mg : Str → Option Value} {base : Heap} {k : Nat} {C : Addr} {x : Str} {ps : List Str} {sp : Sp} {f : Addr} (G : Dfm P w K mg base k C "__init__" ps sp) (M : Mk K C f) (hm : mg x = some (.ref C)) : Dfc P w K mg base k x C ps sp := by
  obtain ⟨f', fd, F, hc, hmm, hb⟩ := G.ex
  have e : f' = f := by
    have h1 := hmm.at_
    have h2 := M.init
    rw [h1] at h2
    cases h2
    rfl
  subst e
  exact ⟨f', fd, F, M, hm, hb⟩
theorem pe_mk {X : Cx} {k j : Nat} {x : Str} {C : Addr} {ps : List Str} {sp : Sp} {p pos : Pos} {e : Expr} {es : List Expr} {t : TA} (G : Dfc X.prog X.w X.K X.mg X.base k x C ps sp) (hr : Room j X.A) (ha : PA X (e :: es) t) (hk : k + 1 ≤ j := by decide) (hg : Gl X x := by rfl)
    (hdb : (x == ("__debug__" : Str)) = false := by decide) (he : starEach (e :: es) X.env = (false, eval e X.env) :: starEach es X.env := by rfl) (hpl : (backTo pos (starEach es X.env)).any (·.1) = false := by rfl) :
    PE X (.Call (.Name x p) (e :: es) [] pos) (tMake C sp [] E0 t) := by
  obtain ⟨f, fd, F, M, hm, hb⟩ := G.ex
  exact pe_make M F (hr.mono hk) hg hm hb .nil passL ha hdb he hpl
abbrev spM {P : Program} {w : World} {K : PySem.W.Frag} {mg : Str → Option Value} {base : Heap} {k : Nat} {C : Addr} {m : Str} {ps : List Str} {sp : Sp} (_ : Dfm P w K mg base k C m ps sp) : Sp := sp
end Fw
namespace Kq
open PySem PySem.Spec PyProof.Rows L2 Fw
local macro_rules | `(tactic| walk_at "rd") => `(tactic| try simp only [tMeth, tMake, tFld, sFld, sFldAug, gStar, tMethT, tCallVT, rNewStrs, tSeq, tNext, tBreak, tCont, tDrop, tRet, tRetN, tIfS, tAsg, tVar, tC, tOp, tUn, tTest, tB, tAnd, tOr, tNot, tAndV, tOrV, tNotV, tIf, tChain, tCB, tCons, tNil, tTup, tLst, tCall, tCallS, WE,
  gName, gSub, rI, rI0, rU, rEq, rNe, rIsiC, tSl, tPart, tNoPart, rSetL, tBM, tBM0, rAppend, rExtend, rExtendT, tCallL, L2.start, List.map_cons, List.map_nil, List.length_cons, List.length_nil, Nat.sub_self, Nat.reduceAdd, Nat.reduceSub, List.replicate_zero, List.replicate_succ, List.append_nil, List.nil_append, List.cons_append,
  List.getElem?_cons_zero, List.getElem?_cons_succ, List.set_cons_zero, List.set_cons_succ, Option.some.injEq, exists_eq_left', exists_eq_left, exists_eq_right, exists_eq_right', exists_const, exists_and_left, exists_and_right, V.int.injEq, V.bl.injEq, V.str.injEq, V.ref.injEq, V.ty.injEq, List.cons.injEq, and_true, true_and, and_assoc, reduceCtorEq, false_and, and_false, exists_false, false_or, or_false,
  if_true, if_false, Bool.not_true, Bool.not_false, Bool.false_eq_true, Bool.true_eq_false, ↓reduceIte, decide_eq_true_eq, decide_true, decide_false, sc_nn, sc_ni, sc_in, sc_nb, sc_bn, sc_ns, sc_sn, sc_ii, sc_bb, sc_ss, sc_is, sc_si, sc_bs, sc_sb, ipI, Int.reduceLT, Int.reduceLE, Int.reduceEq, Nat.reduceLT, Nat.reduceEqDiff, String.reduceEq, nc0, nc1, nc2, nc3, nc4, nc5, nc6, nc7, nc8, nc9, nc10, nc11, nc12, cx_K, cx_w, wipe, lenV_str, rCat, exists_eq, exists_eq', relO, relC, relM, relI, relSl, spOf, ciOf, csOf, crOf, L2.rIxD, eq_self, not_true_eq_false, not_false_eq_true, Option.isSome_some, Option.isSome_none, tCallV, ofS_inj, sg_inj, sg_len, sg_lt, tM1, tM0, tLc_rng1, tLc_rng2, tFor_rng1, tFor_rng2, tDNewK, sDPut,  Nat.reduceLeDiff, Bool.not_eq_true', decide_eq_false_iff_not,
  isi_int_int, isi_int_bool, isi_int_str, isi_int_tuple, isi_int_list, isi_int_dict, isi_bool_int, isi_bool_bool, isi_bool_str, isi_bool_tuple, isi_bool_list, isi_bool_dict, isi_str_int, isi_str_bool, isi_str_str, isi_str_tuple, isi_str_list, isi_str_dict, isi_non_int, isi_non_bool, isi_non_str, isi_non_tuple, isi_non_list, isi_non_dict])
local macro_rules | `(tactic| walk_at "ix") => `(tactic| (refine ixT (by assumption) rfl ?_; walk_at "rd"))
local macro_rules | `(tactic| walk_at "len") => `(tactic| (refine ⟨_, lenV_T (by assumption), ?_⟩; walk_at "rd"))
local macro_rules | `(tactic| walk_at "isT") => `(tactic| (refine ⟨true, isiT (by assumption), ?_⟩; walk_at "rd"))

/-! ### the desk -/
abbrev dkF (wa la : Addr) (i j : Nat) : List (Str × V) := [("words", .ref wa), ("lines", .ref la), ("word_place", .int (i : Nat)), ("line_place", .int (j : Nat))]
theorem lkw {wa la : Addr} {i j : Nat} : (dkF wa la i j).lookup ("words" : Str) = some (.ref wa) := by rfl
theorem lkl {wa la : Addr} {i j : Nat} : (dkF wa la i j).lookup ("lines" : Str) = some (.ref la) := by rfl
theorem lki {wa la : Addr} {i j : Nat} : (dkF wa la i j).lookup ("word_place" : Str) = some (.int (i : Nat)) := by rfl
theorem lkj {wa la : Addr} {i j : Nat} : (dkF wa la i j).lookup ("line_place" : Str) = some (.int (j : Nat)) := by rfl
theorem pti {wa la : Addr} {i j k : Nat} : putF "word_place" (.int (k : Nat)) (dkF wa la i j) = dkF wa la k j := by rfl
theorem ptj {wa la : Addr} {i j k : Nat} : putF "line_place" (.int (k : Nat)) (dkF wa la i j) = dkF wa la i k := by rfl
theorem pt4 {wa la : Addr} : putF "line_place" (.int 0) (putF "word_place" (.int 0) (putF "lines" (.ref la) (putF "words" (.ref wa) []))) = dkF wa la 0 0 := by rfl
structure TxtD (K : PySem.W.Frag) (C : Addr) : Prop where
  cl : Cls K C
  nw : NoAttr K C "words"
  nl : NoAttr K C "lines"
  ni : NoAttr K C "word_place"
  nj : NoAttr K C "line_place"
local macro_rules | `(tactic| walk_at "fw") => `(tactic| (refine ⟨_, _, _, (by assumption), (TxtD.cl (by assumption)), (TxtD.nw (by assumption)), _, lkw, ?_⟩; walk_at "rd"))
local macro_rules | `(tactic| walk_at "fl") => `(tactic| (refine ⟨_, _, _, (by assumption), (TxtD.cl (by assumption)), (TxtD.nl (by assumption)), _, lkl, ?_⟩; walk_at "rd"))
local macro_rules | `(tactic| walk_at "fi") => `(tactic| (refine ⟨_, _, _, (by assumption), (TxtD.cl (by assumption)), (TxtD.ni (by assumption)), _, lki, ?_⟩; walk_at "rd"))
local macro_rules | `(tactic| walk_at "fj") => `(tactic| (refine ⟨_, _, _, (by assumption), (TxtD.cl (by assumption)), (TxtD.nj (by assumption)), _, lkj, ?_⟩; walk_at "rd"))
structure DeskAt (C : Addr) (H : Hp) (a wa la : Addr) (ws ls : List Str) (i j : Nat) : Prop where
  ex : ∃ dx, H a = some (.ins C dx (dkF wa la i j)) ∧ H wa = some (.lst (ws.map V.str)) ∧ H la = some (.lst (ls.map V.str))
  iw : i ≤ ws.length
  il : j ≤ ls.length
  fw : ws.length ≤ 100000
  fl : ls.length ≤ 100000
theorem DeskAt.kp {C : Addr} {H H' : Hp} {a wa la : Addr} {ws ls : List Str} {i j : Nat} (h : DeskAt C H a wa la ws ls i j) (k : Kp [] H H') : DeskAt C H' a wa la ws ls i j := by
  obtain ⟨⟨dx, h1, h2, h3⟩, r⟩ := h
  exact ⟨⟨dx, k.at h1 (by simp), k.at h2 (by simp), k.at h3 (by simp)⟩, by assumption, by assumption, by assumption, by assumption⟩
/-- a text of words and lines -/
structure Says (t : Str) (ws ls : List Str) : Prop where
  eq : t = Txt.join "\n" (Txt.join " " ws :: ls)
  ne : ws ≠ []
  w : ∀ z ∈ ws, okW z
  l : ∀ z ∈ ls, okN z
  sz : t.length + 2 ≤ sizeLine
  sz2 : (Txt.join " " ws).length + 2 ≤ sizeLine
  fw : ws.length ≤ 100000
  fl : ls.length ≤ 100000
section
variable {P : Program} {w : World} {K : PySem.W.Frag} {mg : Str → Option Value} {base : Heap} {CN CB CH CD : Addr}
theorem sc_Desk___init__ : FnScope ["self", "text", "head", "lines"] ["self", "text"] (defScope s_Desk___init__) := ⟨rfl, rfl, rfl, by decide +kernel, rfl, by decide +kernel, by decide +kernel⟩
theorem sc_Desk_next_word : FnScope ["self"] ["self"] (defScope s_Desk_next_word) := ⟨rfl, rfl, rfl, by decide +kernel, rfl, by decide +kernel, by decide +kernel⟩
theorem sc_Desk_need : FnScope ["self", "word"] ["self", "word"] (defScope s_Desk_need) := ⟨rfl, rfl, rfl, by decide +kernel, rfl, by decide +kernel, by decide +kernel⟩
theorem sc_Desk_is_next : FnScope ["self", "word"] ["self", "word"] (defScope s_Desk_is_next) := ⟨rfl, rfl, rfl, by decide +kernel, rfl, by decide +kernel, by decide +kernel⟩
theorem sc_Desk_next_lines : FnScope ["self", "many", "rows"] ["self", "many"] (defScope s_Desk_next_lines) := ⟨rfl, rfl, rfl, by decide +kernel, rfl, by decide +kernel, by decide +kernel⟩
theorem sc_Desk_is_done : FnScope ["self"] ["self"] (defScope s_Desk_is_done) := ⟨rfl, rfl, rfl, by decide +kernel, rfl, by decide +kernel, by decide +kernel⟩
def spDeskI (CD : Addr) : Sp := fun vs H Q _ => ∃ (p dx : Addr) (t : Str) (ws ls : List Str), vs = [.ref p, .str t] ∧ H p = some (.ins CD dx []) ∧ Says t ws ls ∧ ∀ H' wa la, Kp [p] H H' → DeskAt CD H' p wa la ws ls 0 0 → Q .non H'
theorem ok_desk_init (T : Txt K w mg CN CB CH) (TD : TxtD K CD) (F : AtM K CD "__init__" "Desk.__init__" s_Desk___init__ ["self", "text"]) : Dfm P w K mg base 1 CD "__init__" ["self", "text"] (spDeskI CD) := by
  refine F.ok sc_Desk___init__ (fun vs H Q E h => ?_) (fun qual f cdv A outer s H vs Q E hr h => ?_)
  · obtain ⟨p, dx, t, ws, ls, rfl, _⟩ := h
    rfl
  · refine ⟨_, (pss_cons (ps_asg (pe_split (pv 1) pe_str) (pg_star rfl (pg_name (i := 2) sc_Desk___init__.nd rfl (Or.inl rfl)) (pg_name (i := 3) sc_Desk___init__.nd rfl (Or.inl rfl))))
      (pss_cons (ps_fld (pv 0) (pe_split (pv 2) pe_str) rfl)
      (pss_cons (ps_fld (pv 0) (pv 3) rfl)
      (pss_cons (ps_fld (pv 0) pe_int rfl)
      (pss_one (ps_fld (pv 0) pe_int rfl)))))), ?_⟩
    obtain ⟨p, dx, t, ws, ls, rfl, hp, S, q⟩ := h
    walk_at "rd"
    have e1 : Txt.split t ("\n" : Str) = Txt.join " " ws :: ls := by
      rw [S.eq]
      exact split_lines (join_okN S.w) S.l
    have e2 : Txt.split (Txt.join " " ws) (" " : Str) = ws := split_words S.ne S.w
    rw [e1]
    refine ⟨by decide +kernel, S.sz, fun p1 hp1 => ⟨_, _, SqL.of upd_same, by simpa using sz_of S.fl, fun D hD => ⟨⟨_, rfl⟩, _, rfl, by decide +kernel, S.sz2, fun p2 hp2 => ?_⟩⟩⟩
    rw [e2]
    have k3 : Kp [] H (upd (upd (upd H p1 (.lst ((Txt.join " " ws :: ls).map V.str))) D (.lst (ls.map V.str))) p2 (.lst (ws.map V.str))) := ((Kp.refl.new hp1).new hD).new hp2
    have hp3 := k3.at hp (by simp)
    have hD2 : (upd (upd (upd H p1 (.lst ((Txt.join " " ws :: ls).map V.str))) D (.lst (ls.map V.str))) p2 (.lst (ws.map V.str))) D = some (.lst (ls.map V.str)) := by
      rw [upd_ne (ne_of_none upd_same hp2), upd_same]
    have hp22 : (upd (upd (upd H p1 (.lst ((Txt.join " " ws :: ls).map V.str))) D (.lst (ls.map V.str))) p2 (.lst (ws.map V.str))) p2 = some (.lst (ws.map V.str)) := upd_same
    generalize upd (upd (upd H p1 (.lst ((Txt.join " " ws :: ls).map V.str))) D (.lst (ls.map V.str))) p2 (.lst (ws.map V.str)) = H3 at k3 hp3 hD2 hp22 ⊢
    refine ⟨CD, dx, [], hp3, TD.cl, TD.nw, (by show 0 < 1000; decide), CD, dx, _, upd_same, TD.cl, TD.nl, (by show 1 < 1000; decide), CD, dx, _, upd_same, TD.cl, TD.ni, (by show 2 < 1000; decide), CD, dx, _, upd_same, TD.cl, TD.nj, (by show 3 < 1000; decide), ?_⟩
    have n1 : D ≠ p := (ne_of hp3 hD2 (by intro z; cases z)).symm
    have n2 : p2 ≠ p := (ne_of hp3 hp22 (by intro z; cases z)).symm
    have m4 : ∀ fs, Mu (HO.ins CD dx fs) := fun _ => trivial
    refine q _ _ _ ((((k3.nil.put hp3 (m4 _) (by simp)).put upd_same (m4 _) (by simp)).put upd_same (m4 _) (by simp)).put upd_same (m4 _) (by simp)) ⟨⟨dx, upd_same, ?_, ?_⟩, Nat.zero_le _, Nat.zero_le _, S.fw, S.fl⟩
    · rw [upd_ne n2, upd_ne n2, upd_ne n2, upd_ne n2]
      exact hp22
    · rw [upd_ne n1, upd_ne n1, upd_ne n1, upd_ne n1]
      exact hD2
def spNext (CD CN : Addr) : Sp := fun vs H Q E => ∃ (a wa la : Addr) (ws ls : List Str) (i j : Nat), vs = [.ref a] ∧ DeskAt CD H a wa la ws ls i j ∧ (∀ z, ws[i]? = some z → ∀ H', Kp [a] H H' → DeskAt CD H' a wa la ws ls (i + 1) j → Q (.str z) H') ∧ (ws[i]? = none → E (.ref CN) none H)
theorem DeskAt.seti {H : Hp} {a dx wa la : Addr} {ws ls : List Str} {i j : Nat} (h : DeskAt CD H a wa la ws ls i j) (h1 : H a = some (.ins CD dx (dkF wa la i j))) (h2 : H wa = some (.lst (ws.map V.str))) (h3 : H la = some (.lst (ls.map V.str))) {i' j' : Nat} (hi : i' ≤ ws.length) (hj : j' ≤ ls.length) :
    Kp [a] H (upd H a (.ins CD dx (dkF wa la i' j'))) ∧ DeskAt CD (upd H a (.ins CD dx (dkF wa la i' j'))) a wa la ws ls i' j' := by
  have n1 : wa ≠ a := (ne_of h1 h2 (by intro z; cases z)).symm
  have n2 : la ≠ a := (ne_of h1 h3 (by intro z; cases z)).symm
  exact ⟨Kp.refl.put h1 trivial (by simp), ⟨dx, upd_same, by rw [upd_ne n1]; exact h2, by rw [upd_ne n2]; exact h3⟩, hi, hj, h.fw, h.fl⟩
theorem ok_next_word (T : Txt K w mg CN CB CH) (TD : TxtD K CD) (F : AtM K CD "next_word" "Desk.next_word" s_Desk_next_word ["self"]) : Dfm P w K mg base 1 CD "next_word" ["self"] (spNext CD CN) := by
  refine F.ok sc_Desk_next_word (fun vs H Q E h => ?_) (fun qual f cdv A outer s H vs Q E hr h => ?_)
  · obtain ⟨a, wa, la, ws, ls, i, j, rfl, _⟩ := h
    rfl
  · refine ⟨_, (pss_cons (ps_if (pt_cmpR op_ge (pe_fld (pv 0) rfl) (pe_callB call_len (by rfl) T.len_ (by decide +kernel) (pa_cons (pe_fld (pv 0) rfl) pa_nil)) (nomark _)) (pss_one (ps_raise rfl (takes_of rfl rfl rfl rfl) (pmk_own0 T.e_NoText rfl))) pss_nil)
      (pss_cons (ps_fldaug (pv 0) pe_int in_add)
      (pss_one (ps_ret (pe_ix ix_list (pe_fld (pv 0) rfl) (pe_op op_sub (pe_fld (pv 0) rfl) pe_int) (fun _ _ => rfl)))))), ?_⟩
    obtain ⟨a, wa, la, ws, ls, i, j, rfl, hd, q1, q2⟩ := h
    obtain ⟨dx, h1, h2, h3⟩ := id hd.ex
    walk_at "rd"
    walk_at "fi"
    walk_at "fw"
    refine ⟨_, lenV_L (SqL.of h2), ?_⟩
    rw [List.length_map]
    by_cases hi : i < ws.length
    · rw [if_neg (by omega)]
      walk_at "fi"
      obtain ⟨k1, hd1⟩ := hd.seti h1 h2 h3 (i' := i + 1) (j' := j) hi hd.il
      refine ⟨_, _, rfl, rfl, _, _, h1, (by show 4 < 1000; decide), ?_⟩
      have e1 : putF ("word_place" : Str) (V.int ((i : Int) + 1)) (dkF wa la i j) = dkF wa la (i + 1) j := pti (k := i + 1)
      rw [e1]
      obtain ⟨dx2, g1, g2, g3⟩ := id hd1.ex
      generalize upd H a (.ins CD dx (dkF wa la (i + 1) j)) = H1 at k1 hd1 g1 g2 g3 ⊢
      walk_at "fw"
      walk_at "fi"
      refine ixL (SqL.of g2) (v := .str ws[i]) ?_ ?_
      · have e2 : ((i + 1 : Nat) : Int) - 1 = ((i : Nat) : Int) := by omega
        rw [e2]
        exact atI_nat (by simp [hi])
      · exact q1 _ (List.getElem?_eq_getElem hi) H1 k1 hd1
    · rw [if_pos (by omega)]
      exact q2 (List.getElem?_eq_none (by omega))
def spNeedM (CD CN : Addr) : Sp := fun vs H Q E => ∃ (a : Addr) (y : Str) (wa la : Addr) (ws ls : List Str) (i j : Nat), vs = [.ref a, .str y] ∧ DeskAt CD H a wa la ws ls i j ∧ (ws[i]? = some y → ∀ H', Kp [a] H H' → DeskAt CD H' a wa la ws ls (i + 1) j → Q .non H') ∧ (ws[i]? ≠ some y → ∀ H', Kp [a] H H' → E (.ref CN) none H')
theorem ok_needM (T : Txt K w mg CN CB CH) (TD : TxtD K CD) (F : AtM K CD "need" "Desk.need" s_Desk_need ["self", "word"]) (M_next_word : Dfm P w K mg base 1 CD "next_word" ["self"] (spNext CD CN)) : Dfm P w K mg base 2 CD "need" ["self", "word"] (spNeedM CD CN) := by
  refine F.ok sc_Desk_need (fun vs H Q E h => ?_) (fun qual f cdv A outer s H vs Q E hr h => ?_)
  · obtain ⟨a, y, wa, la, ws, ls, i, j, rfl, _⟩ := h
    rfl
  · refine ⟨_, (pss_one (ps_if (pt_cmpR op_ne (Fw.pe_m0 M_next_word hr (passes_call (takes_of rfl rfl rfl rfl) (fun _ _ _ _ h => h)) (pv 0)) (pv 1) (nomark _)) (pss_one (ps_raise rfl (takes_of rfl rfl rfl rfl) (pmk_own0 T.e_NoText rfl))) pss_nil)), ?_⟩
    obtain ⟨a, y, wa, la, ws, ls, i, j, rfl, hd, q1, q2⟩ := h
    obtain ⟨dx, h1, h2, h3⟩ := id hd.ex
    walk_at "rd"
    refine ⟨_, _, h1, rfl, a, wa, la, ws, ls, i, j, rfl, hd, fun z hz H' k hd' => ?_, fun hn => q2 (by rw [hn]; simp) H Kp.refl⟩
    walk_at "rd"
    by_cases e : z = y
    · subst e
      rw [if_neg (by simp)]
      exact q1 hz H' k hd'
    · rw [if_pos e]
      exact q2 (by rw [hz]; simpa using e) H' k
def spIsNext (CD : Addr) : Sp := fun vs H Q _ => ∃ (a : Addr) (y : Str) (wa la : Addr) (ws ls : List Str) (i j : Nat), vs = [.ref a, .str y] ∧ DeskAt CD H a wa la ws ls i j ∧ Q (.bl (decide (ws[i]? = some y))) H
theorem ok_is_next (T : Txt K w mg CN CB CH) (TD : TxtD K CD) (F : AtM K CD "is_next" "Desk.is_next" s_Desk_is_next ["self", "word"]) : Dfm P w K mg base 1 CD "is_next" ["self", "word"] (spIsNext CD) := by
  refine F.ok sc_Desk_is_next (fun vs H Q E h => ?_) (fun qual f cdv A outer s H vs Q E hr h => ?_)
  · obtain ⟨a, y, wa, la, ws, ls, i, j, rfl, _⟩ := h
    rfl
  · refine ⟨_, (pss_one (ps_ret (pe_and (pe_cmpR op_lt (pe_fld (pv 0) rfl) (pe_callB call_len (by rfl) T.len_ (by decide +kernel) (pa_cons (pe_fld (pv 0) rfl) pa_nil)) (nomark _)) (pe_one (pe_cmpR op_eq (pe_ix ix_list (pe_fld (pv 0) rfl) (pe_fld (pv 0) rfl) (fun _ _ => rfl)) (pv 1) (nomark _)))))), ?_⟩
    obtain ⟨a, y, wa, la, ws, ls, i, j, rfl, hd, q⟩ := h
    obtain ⟨dx, h1, h2, h3⟩ := id hd.ex
    walk_at "rd"
    walk_at "fi"
    walk_at "fw"
    refine ⟨_, lenV_L (SqL.of h2), ?_⟩
    rw [List.length_map]
    by_cases hi : i < ws.length
    · rw [if_pos (by omega)]
      walk_at "fw"
      walk_at "fi"
      refine ixL (SqL.of h2) (v := .str ws[i]) (atI_nat (by simp [hi])) ?_
      walk_at "rd"
      rw [List.getElem?_eq_getElem hi] at q
      simpa using q
    · rw [if_neg (by omega)]
      rw [List.getElem?_eq_none (by omega)] at q
      simpa using q
theorem cut_mid {xs : List V} {j n : Nat} (h : j + n ≤ xs.length) : cutV xs (some (j : Int)) (some ((j + n : Nat) : Int)) = (xs.drop j).take n := by
  unfold cutV
  rw [HT.sIx_nat, HT.sIx_nat]
  have e1 : min j xs.length = j := by omega
  have e2 : min (j + n) xs.length = j + n := by omega
  have e3 : j + n - j = n := by omega
  rw [e1, e2, e3]
def spNextLines (K : PySem.W.Frag) (CD : Addr) : Sp := fun vs H Q _ => ∃ (a wa la : Addr) (ws ls : List Str) (i j : Nat) (zs rl : List Str), vs = [.ref a, .int ((zs.length : Nat) : Int)] ∧ DeskAt CD H a wa la ws ls i j ∧ zs.length ≤ 40 ∧ (∀ z ∈ zs, okR z = true) ∧ ls.drop j = zs ++ rl ∧
  ∀ H' p, Kp [a] H H' → DeskAt CD H' a wa la ws ls i (j + zs.length) → SqT K H' p (zs.map V.str) → Q (.ref p) H'
theorem ok_next_lines (T : Txt K w mg CN CB CH) (TD : TxtD K CD) (F : AtM K CD "next_lines" "Desk.next_lines" s_Desk_next_lines ["self", "many"]) (G_are_rows : Dfn P w K mg base 2 "are_rows" ["thing"] (spAreRows K)) : Dfm P w K mg base 3 CD "next_lines" ["self", "many"] (spNextLines K CD) := by
  refine F.ok sc_Desk_next_lines (fun vs H Q E h => ?_) (fun qual f cdv A outer s H vs Q E hr h => ?_)
  · obtain ⟨a, wa, la, ws, ls, i, j, zs, rl, rfl, _⟩ := h
    rfl
  · refine ⟨_, (pss_cons (ps_if (PW.pt (pw_or (pt_cmpR op_gt (pv 1) (pe_ci rfl T.ROWS) (nomark _)) (pw_or1 (pt_cmpR op_gt (pe_op op_add (pe_fld (pv 0) rfl) (pv 1)) (pe_callB call_len (by rfl) T.len_ (by decide +kernel) (pa_cons (pe_fld (pv 0) rfl) pa_nil)) (nomark _))))) (pss_one (ps_raise rfl (takes_of rfl rfl rfl rfl) (pmk_own0 T.e_NoText rfl))) pss_nil)
      (pss_cons (ps_set (i := 2) sc_Desk_next_lines.nd rfl (Or.inl rfl) (pe_callTy call_tuple_of (by rfl) T.tuple_ (by decide +kernel) (pa_cons (pe_slice sl_list (pe_fld (pv 0) rfl) (po_some (pe_fld (pv 0) rfl)) (po_some (pe_op op_add (pe_fld (pv 0) rfl) (pv 1)))) pa_nil)))
      (pss_cons (ps_fldaug (pv 0) (pv 1) in_add)
      (pss_cons (ps_if (pt_not (pt_val (pe_fn G_are_rows hr (pa_cons (pv 2) pa_nil)))) (pss_one (ps_raise rfl (takes_of rfl rfl rfl rfl) (pmk_own0 T.e_NoText rfl))) pss_nil)
      (pss_one (ps_ret (pv 2))))))), ?_⟩
    obtain ⟨a, wa, la, ws, ls, i, j, zs, rl, rfl, hd, h40, hz, hdr, q⟩ := h
    obtain ⟨dx, h1, h2, h3⟩ := id hd.ex
    walk_at "rd"
    have hl : j + zs.length ≤ ls.length := by
      have := congrArg List.length hdr
      rw [List.length_drop, List.length_append] at this
      have := hd.il
      omega
    rw [if_neg (by omega)]
    walk_at "fj"
    walk_at "fl"
    refine ⟨_, lenV_L (SqL.of h3), ?_⟩
    rw [List.length_map, if_neg (by omega)]
    walk_at "fl"
    walk_at "fj"
    walk_at "fj"
    refine ⟨la, _, rfl, SqL.of h3, fun p hp => ⟨p, rfl, _, .inl ⟨SqL.of upd_same, fun l hll => ?_⟩⟩⟩
    have ec : cutV (ls.map V.str) (some (j : Int)) (some ((j : Int) + (zs.length : Int))) = zs.map V.str := by
      have e0 : ((j : Int) + (zs.length : Int)) = ((j + zs.length : Nat) : Int) := rfl
      rw [e0, cut_mid (by simpa using hl), ← List.map_drop, hdr, List.map_append, List.take_left' (by simp)]
    rw [ec] at hll ⊢
    have k0 : Kp [] H (upd (upd H p (.lst (zs.map V.str))) l (.tup (zs.map V.str))) := (Kp.refl.new hp).new hll
    have hd0 := hd.kp k0
    have g1 := k0.at h1 (by simp)
    have g2 := k0.at h2 (by simp)
    have g3 := k0.at h3 (by simp)
    have hs : SqT K (upd (upd H p (.lst (zs.map V.str))) l (.tup (zs.map V.str))) l (zs.map V.str) := .inl (.inl upd_same)
    generalize upd (upd H p (.lst (zs.map V.str))) l (.tup (zs.map V.str)) = H1 at k0 hd0 g1 g2 g3 hs ⊢
    walk_at "fj"
    obtain ⟨k1, hd1⟩ := hd0.seti g1 g2 g3 (i' := i) (j' := j + zs.length) hd.iw hl
    refine ⟨_, _, rfl, rfl, _, _, g1, (by show 4 < 1000; decide), ?_⟩
    have e1 : putF ("line_place" : Str) (V.int ((j : Int) + (zs.length : Int))) (dkF wa la i j) = dkF wa la i (j + zs.length) := ptj (k := j + zs.length)
    rw [e1]
    generalize upd H1 a (.ins CD dx (dkF wa la i (j + zs.length))) = H2 at k1 hd1 ⊢
    refine ⟨l, zs, rfl, k1.tup hs, by omega, fun z h => okR_len (hz z h), fun H3 k3 => ⟨_, rfl, ?_⟩⟩
    have hok : (decide (zs.length ≤ 40) && zs.all okR) = true := by
      rw [decide_eq_true h40, Bool.true_and, List.all_eq_true]
      exact hz
    rw [hok, if_neg (by simp)]
    exact q H3 l (k0.nil.trans (k1.trans k3.nil)) (hd1.kp k3) (k3.tup (k1.tup hs))
def spIsDone (CD : Addr) : Sp := fun vs H Q _ => ∃ (a wa la : Addr) (ws ls : List Str) (i j : Nat), vs = [.ref a] ∧ DeskAt CD H a wa la ws ls i j ∧ Q (.bl (decide (i = ws.length) && decide (j = ls.length))) H
theorem ok_is_done (T : Txt K w mg CN CB CH) (TD : TxtD K CD) (F : AtM K CD "is_done" "Desk.is_done" s_Desk_is_done ["self"]) : Dfm P w K mg base 1 CD "is_done" ["self"] (spIsDone CD) := by
  refine F.ok sc_Desk_is_done (fun vs H Q E h => ?_) (fun qual f cdv A outer s H vs Q E hr h => ?_)
  · obtain ⟨a, wa, la, ws, ls, i, j, rfl, _⟩ := h
    rfl
  · refine ⟨_, (pss_one (ps_ret (pe_and (pe_cmpR op_eq (pe_fld (pv 0) rfl) (pe_callB call_len (by rfl) T.len_ (by decide +kernel) (pa_cons (pe_fld (pv 0) rfl) pa_nil)) (nomark _)) (pe_one (pe_cmpR op_eq (pe_fld (pv 0) rfl) (pe_callB call_len (by rfl) T.len_ (by decide +kernel) (pa_cons (pe_fld (pv 0) rfl) pa_nil)) (nomark _)))))), ?_⟩
    obtain ⟨a, wa, la, ws, ls, i, j, rfl, hd, q⟩ := h
    obtain ⟨dx, h1, h2, h3⟩ := id hd.ex
    walk_at "rd"
    walk_at "fi"
    walk_at "fw"
    refine ⟨_, lenV_L (SqL.of h2), ?_⟩
    rw [List.length_map]
    walk_at "rd"
    by_cases e : i = ws.length
    · rw [if_pos (by omega)]
      walk_at "fj"
      walk_at "fl"
      refine ⟨_, lenV_L (SqL.of h3), ?_⟩
      rw [List.length_map]
      walk_at "rd"
      rw [decide_eq_true e, Bool.true_and] at q
      have e2 : decide ((j : Int) = (ls.length : Int)) = decide (j = ls.length) := by
        by_cases e3 : j = ls.length
        · rw [decide_eq_true e3, decide_eq_true (by omega)]
        · rw [decide_eq_false e3, decide_eq_false (by omega)]
      rw [e2]
      exact q
    · rw [if_neg (by omega)]
      rw [decide_eq_false e, Bool.false_and] at q
      exact q
end
end Kq
set_option Elab.async false
set_option linter.all false
set_option maxRecDepth 100000
set_option maxHeartbeats 4000000
namespace Kq
open PySem PySem.Spec PyProof.Rows L2 Fw TL
local macro_rules | `(tactic| walk_at "rd") => `(tactic| try simp only [tMeth, tMake, tFld, sFld, sFldAug, gStar, tMethT, tCallVT, rNewStrs, tSeq, tNext, tBreak, tCont, tDrop, tRet, tRetN, tIfS, tAsg, tVar, tC, tOp, tUn, tTest, tB, tAnd, tOr, tNot, tAndV, tOrV, tNotV, tIf, tChain, tCB, tCons, tNil, tTup, tLst, tCall, tCallS, WE,
  gName, gSub, rI, rI0, rU, rEq, rNe, rIsiC, tSl, tPart, tNoPart, rSetL, tBM, tBM0, rAppend, rExtend, rExtendT, tCallL, L2.start, List.map_cons, List.map_nil, List.length_cons, List.length_nil, Nat.sub_self, Nat.reduceAdd, Nat.reduceSub, List.replicate_zero, List.replicate_succ, List.append_nil, List.nil_append, List.cons_append,
  List.getElem?_cons_zero, List.getElem?_cons_succ, List.set_cons_zero, List.set_cons_succ, Option.some.injEq, exists_eq_left', exists_eq_left, exists_eq_right, exists_eq_right', exists_const, exists_and_left, exists_and_right, V.int.injEq, V.bl.injEq, V.str.injEq, V.ref.injEq, V.ty.injEq, List.cons.injEq, and_true, true_and, and_assoc, reduceCtorEq, false_and, and_false, exists_false, false_or, or_false,
  if_true, if_false, Bool.not_true, Bool.not_false, Bool.false_eq_true, Bool.true_eq_false, ↓reduceIte, decide_eq_true_eq, decide_true, decide_false, sc_nn, sc_ni, sc_in, sc_nb, sc_bn, sc_ns, sc_sn, sc_ii, sc_bb, sc_ss, sc_is, sc_si, sc_bs, sc_sb, ipI, Int.reduceLT, Int.reduceLE, Int.reduceEq, Nat.reduceLT, Nat.reduceEqDiff, String.reduceEq, nc0, nc1, nc2, nc3, nc4, nc5, nc6, nc7, nc8, nc9, nc10, nc11, nc12, cx_K, cx_w, wipe, lenV_str, rCat, exists_eq, exists_eq', relO, relC, relM, relI, relSl, spOf, ciOf, csOf, crOf, L2.rIxD, eq_self, not_true_eq_false, not_false_eq_true, Option.isSome_some, Option.isSome_none, tCallV, ofS_inj, sg_inj, sg_len, sg_lt, tM1, tM0, tLc_rng1, tLc_rng2, tFor_rng1, tFor_rng2, tDNewK, sDPut,  Nat.reduceLeDiff, Bool.not_eq_true', decide_eq_false_iff_not,
  isi_int_int, isi_int_bool, isi_int_str, isi_int_tuple, isi_int_list, isi_int_dict, isi_bool_int, isi_bool_bool, isi_bool_str, isi_bool_tuple, isi_bool_list, isi_bool_dict, isi_str_int, isi_str_bool, isi_str_str, isi_str_tuple, isi_str_list, isi_str_dict, isi_non_int, isi_non_bool, isi_non_str, isi_non_tuple, isi_non_list, isi_non_dict])
local macro_rules | `(tactic| walk_at "ix") => `(tactic| (refine ixT (by assumption) rfl ?_; walk_at "rd"))
local macro_rules | `(tactic| walk_at "len") => `(tactic| (refine ⟨_, lenV_T (by assumption), ?_⟩; walk_at "rd"))
local macro_rules | `(tactic| walk_at "isT") => `(tactic| (refine ⟨true, isiT (by assumption), ?_⟩; walk_at "rd"))

section
variable {P : Program} {w : World} {K : PySem.W.Frag} {mg : Str → Option Value} {base : Heap} {CN CB CH CD : Addr}
abbrev okF (c : Nat) : Bool := decide (c ∈ (Str.ofString "0123456789").cps.toList)
structure TxtF (mg : Str → Option Value) : Prop where
  FIGURES : ∃ t, mg "FIGURES" = some (.str "0123456789" t)
/-- no number's word -/
def badI (z : Str) : Bool := !(decide (1 ≤ z.length) && decide (z.length ≤ 19) && z.cps.toList.all okF)
def BadI (r : List Str) : Prop := r = [] ∨ ∃ z t, r = z :: t ∧ z.length ≤ 1000 ∧ badI z = true
def BadB (r : List Str) : Prop := ∃ z t, r = z :: t ∧ z ≠ ("yes" : Str) ∧ z ≠ ("no" : Str)
/-- reads what D writes; v: the thing that was written -/
def spGet (K : PySem.W.Frag) (CD : Addr) (D : Wr) (k m : Nat) : Sp := fun vs H Q _ => ∃ (a wa la : Addr) (ws ls : List Str) (i j : Nat) (v : V) (nw nl rw rl : List Str), vs = [.ref a] ∧ DeskAt CD H a wa la ws ls i j ∧ D v H nw nl ∧ ws.drop i = nw ++ rw ∧ ls.drop j = nl ++ rl ∧
  ∀ H' v', Kp [a] H H' → DeskAt CD H' a wa la ws ls (i + nw.length) (j + nl.length) → D v' H' nw nl → Al K H' v v' k m → Q v' H'
/-- refuses what stands there -/
def spBad (CD CN : Addr) (B : List Str → Prop) : Sp := fun vs H _ E => ∃ (a wa la : Addr) (ws ls : List Str) (i j : Nat), vs = [.ref a] ∧ DeskAt CD H a wa la ws ls i j ∧ B (ws.drop i) ∧ ∀ H', Kp [a] H H' → E (.ref CN) none H'
theorem spGet.len {D : Wr} {k m : Nat} {vs : List V} {H : Hp} {Q : VK} {E : XK} (h : spGet K CD D k m vs H Q E) : vs.length = 1 := by
  obtain ⟨a, wa, la, ws, ls, i, j, v, nw, nl, rw, rl, rfl, _⟩ := h
  rfl
theorem spBad.len {B : List Str → Prop} {vs : List V} {H : Hp} {Q : VK} {E : XK} (h : spBad CD CN B vs H Q E) : vs.length = 1 := by
  obtain ⟨a, wa, la, ws, ls, i, j, rfl, _⟩ := h
  rfl
theorem drop_at {ws : List Str} {i : Nat} {z : Str} {r : List Str} (h : ws.drop i = z :: r) : ws[i]? = some z ∧ ws.drop (i + 1) = r := by
  have h1 : ws[i]? = some z := by
    have e : (ws.drop i)[0]? = some z := by rw [h]; rfl
    rw [List.getElem?_drop] at e
    simpa using e
  refine ⟨h1, ?_⟩
  rw [← List.drop_drop, h]
  rfl
theorem drop_no {ws : List Str} {i : Nat} (h : ws.drop i = []) : ws[i]? = none := List.getElem?_eq_none (List.drop_eq_nil_iff.mp h)
/-- a call of next_word -/
theorem callN {H : Hp} {a wa la : Addr} {ws ls : List Str} {i j : Nat} {z : Str} {r : List Str} {Q : VK} {E : XK} (hd : DeskAt CD H a wa la ws ls i j) (e : ws.drop i = z :: r) (q : ∀ H', Kp [a] H H' → DeskAt CD H' a wa la ws ls (i + 1) j → Q (.str z) H') :
    ∃ x x_1, H a = some (HO.ins CD x x_1) ∧ List.lookup ("next_word" : Str) x_1 = none ∧ spNext CD CN [V.ref a] H Q E := by
  obtain ⟨dx, h1, h2, h3⟩ := id hd.ex
  refine ⟨_, _, h1, rfl, a, wa, la, ws, ls, i, j, rfl, hd, fun y hy H' k hd' => ?_, fun hn => ?_⟩
  · rw [(drop_at e).1] at hy
    cases hy
    exact q H' k hd'
  · rw [(drop_at e).1] at hn
    cases hn
theorem callN0 {H : Hp} {a wa la : Addr} {ws ls : List Str} {i j : Nat} {Q : VK} {E : XK} (hd : DeskAt CD H a wa la ws ls i j) (e : ws.drop i = []) (q : E (.ref CN) none H) :
    ∃ x x_1, H a = some (HO.ins CD x x_1) ∧ List.lookup ("next_word" : Str) x_1 = none ∧ spNext CD CN [V.ref a] H Q E := by
  obtain ⟨dx, h1, h2, h3⟩ := id hd.ex
  refine ⟨_, _, h1, rfl, a, wa, la, ws, ls, i, j, rfl, hd, fun y hy H' k hd' => ?_, fun _ => q⟩
  rw [drop_no e] at hy
  cases hy
theorem iS_good {i : Int} (h : okI i = true) : 1 ≤ (iS i).length ∧ (iS i).length ≤ 19 ∧ (iS i).cps.toList.all okF = true ∧ (iS i = ("0" : Str) ∨ ∃ c, atI (iS i).cps.toList 0 = some c ∧ c ≠ 48) ∧ PySem.intText? (iS i) = some i := by
  obtain ⟨h0, h1⟩ := okI_ge h
  have e := iS_nat h0
  have ln : (iS i).length = (numL i.toNat).length := by rw [← e]; rfl
  have l1 := numL_pos i.toNat
  have l2 := numL_len 18 i.toNat (by omega)
  refine ⟨by omega, by omega, ?_, ?_, iS_int h0 (by show (iS i).length ≤ 640; omega)⟩
  · rw [e, List.all_eq_true]
    intro c hc
    have hd := Fw.numL_digits i.toNat c hc
    have : c = 48 ∨ c = 49 ∨ c = 50 ∨ c = 51 ∨ c = 52 ∨ c = 53 ∨ c = 54 ∨ c = 55 ∨ c = 56 ∨ c = 57 := by omega
    rcases this with rfl | rfl | rfl | rfl | rfl | rfl | rfl | rfl | rfl | rfl <;> decide +kernel
  · by_cases hz : i.toNat = 0
    · left
      have e0 : i = 0 := by omega
      subst e0
      decide +kernel
    · right
      obtain ⟨c, r, e2, hc⟩ := numL_head i.toNat hz
      refine ⟨c, ?_, hc⟩
      rw [e, e2]
      exact at0
theorem sc_get_int : FnScope ["desk", "word", "sign"] ["desk"] (defScope s_get_int) := ⟨rfl, rfl, rfl, by decide +kernel, rfl, by decide +kernel, by decide +kernel⟩
theorem ok_get_int (T : Txt K w mg CN CB CH) (TF : TxtF mg) (F : At K mg "get_int" s_get_int ["desk"]) (G_need : Dfn P w K mg base 1 "need" ["good"] (spNeed CN)) (M_next_word : Dfm P w K mg base 1 CD "next_word" ["self"] (spNext CD CN)) : Dfn P w K mg base 2 "get_int" ["desk"] (fun vs H Q E => spGet K CD IsI 0 40 vs H Q E ∨ spBad CD CN BadI vs H Q E) := by
  refine F.ok sc_get_int (fun vs H Q E h => h.elim spGet.len spBad.len) (fun qual f cdv A outer s H vs Q E hr h => ?_)
  refine ⟨_, (pss_cons (ps_set (i := 1) sc_get_int.nd rfl (Or.inl rfl) (Fw.pe_m0 M_next_word hr (passes_call (takes_of rfl rfl rfl rfl) (fun _ _ _ _ h => h)) (pv 0)))
      (pss_cons (ps_expr (pe_fnE G_need hr (passes_call (takes_of rfl rfl rfl rfl) (fun _ _ _ _ h => h)) (pa_cons (pe_and (pe_chain op_le op_le pe_int (pe_callB call_len (by rfl) T.len_ (by decide +kernel) (pa_cons (pv 1) pa_nil)) pe_int) (pe_one (pe_callB (cr_all rfl) (by rfl) T.all_ (by decide +kernel) (pa_cons (pe_lc (own := [("sign", 2)]) (g := gName 2) (tt := tYes) rfl sc_get_int.nd (pi_str (pv 1)) (blkOk_by (N := ["desk", "word", "sign"]) (sc := defScope s_get_int) (by decide +kernel)) (fun _ _ _ _ _ => pg_name (i := 2) sc_get_int.nd rfl (Or.inl rfl)) (fun _ _ _ _ _ => pts_nil) (fun _ _ _ _ _ => (pe_cmpR op_in_sign (pv 2) (pe_cs rfl TF.FIGURES) rfl))) pa_nil)))) pa_nil)))
      (pss_cons (ps_expr (pe_fnE G_need hr (passes_call (takes_of rfl rfl rfl rfl) (fun _ _ _ _ h => h)) (pa_cons (pe_or (pe_cmpR op_eq (pv 1) pe_str (nomark _)) (pe_one (pe_cmpR op_ne (pe_ix ix_str (pv 1) pe_int (fun _ _ => rfl)) pe_str (nomark _)))) pa_nil)))
      (pss_cons (ps_expr (pe_fnE G_need hr (passes_call (takes_of rfl rfl rfl rfl) (fun _ _ _ _ h => h)) (pa_cons (pe_cmpR op_le (pe_callTy call_int_str (by rfl) T.int_ (by decide +kernel) (pa_cons (pv 1) pa_nil)) (pe_ci rfl T.GREATEST) (nomark _)) pa_nil)))
      (pss_one (ps_ret (pe_callTy call_int_str (by rfl) T.int_ (by decide +kernel) (pa_cons (pv 1) pa_nil)))))))), ?_⟩
  rcases h with ⟨a, wa, la, ws, ls, i, j, v, nw, nl, rw, rl, rfl, hd, ⟨n, rfl, hn, rfl, rfl⟩, e1, e2, q⟩ | ⟨a, wa, la, ws, ls, i, j, rfl, hd, hb, q⟩
  · walk_at "rd"
    refine callN hd e1 fun H1 k1 hd1 => ?_
    obtain ⟨l1, l2, l3, l4, l5⟩ := iS_good hn
    refine ⟨_, lenV_str.mpr ⟨sz_of (by omega), rfl⟩, ?_⟩
    rw [if_pos (by omega), if_pos (by omega)]
    refine all_str okF (fun Q h => ⟨_, rfl, h⟩) (by omega) (fun _ => rfl) (fun c H Q _ q => ?_) (fun H2 k2 => ?_)
    · walk_at "rd"
      exact q
    · rw [l3]
      have fin : ∃ a, V.str (iS n) = V.str a ∧ ∃ x, intText? a = some x ∧ a.length ≤ 640 ∧ spNeed CN [V.bl (decide (x ≤ 10 ^ 18))] H2 (fun x H1 => ∃ a, V.str (iS n) = V.str a ∧ ∃ x, intText? a = some x ∧ a.length ≤ 640 ∧ Q (V.int x) H1) E :=
        ⟨_, rfl, n, l5, by omega, _, rfl, (fun _ => ⟨_, rfl, n, l5, by omega, q H2 _ (k1.trans k2.nil) (hd1.kp k2) ⟨n, rfl, hn, rfl, rfl⟩ (Al.int (okI_log hn) (iS_len hn))⟩), (fun z => absurd (okI_ge hn).2 (of_decide_eq_false z))⟩
      refine ⟨true, rfl, (fun _ => ?_), (fun z => by cases z)⟩
      refine ⟨rfl, ?_⟩
      by_cases e : iS n = ("0" : Str)
      · rw [if_pos (by rw [e])]
        exact ⟨true, rfl, (fun _ => fin), (fun z => by cases z)⟩
      · rw [if_neg (by simpa using e)]
        obtain ⟨c, hc, hc2⟩ := l4.resolve_left e
        refine ixS (sz_of (by omega)) hc ⟨rfl, _, rfl, (fun _ => fin), (fun z => ?_)⟩
        have e3 : (V.str (⟨#[c]⟩ : Str) = V.str ("0" : Str)) := by simpa using z
        have e4 : (⟨#[c]⟩ : Str) = ("0" : Str) := by simpa using e3
        have e5 : #[c] = #[48] := by
          have : ("0" : Str) = (⟨#[48]⟩ : Str) := by decide +kernel
          rw [this] at e4
          exact congrArg Str.cps e4
        exact absurd (by simpa using e5) hc2
  · walk_at "rd"
    rcases hb with hb | ⟨z, t, hb, hz1, hz⟩
    · exact callN0 hd hb (q H Kp.refl)
    · refine callN hd hb fun H1 k1 hd1 => ?_
      have bad : ∀ (H2 : Hp) (Q2 : VK), Kp [] H1 H2 → spNeed CN [V.bl false] H2 Q2 E := fun H2 Q2 k2 => ⟨false, rfl, (fun z => by cases z), (fun _ => q H2 (k1.trans k2.nil))⟩
      refine ⟨_, lenV_str.mpr ⟨sz_of (by omega), rfl⟩, ?_⟩
      by_cases l1 : 1 ≤ z.length
      · rw [if_pos (by omega)]
        by_cases l2 : z.length ≤ 19
        · rw [if_pos (by omega)]
          refine all_str okF (fun Q h => ⟨_, rfl, h⟩) (by omega) (fun _ => rfl) (fun c H Q _ q => ?_) (fun H2 k2 => ?_)
          · walk_at "rd"
            exact q
          · have l3 : z.cps.toList.all okF = false := by
              unfold badI at hz
              rw [decide_eq_true l1, decide_eq_true l2, Bool.true_and, Bool.true_and] at hz
              simpa using hz
            rw [l3]
            exact bad H2 _ k2
        · rw [if_neg (by omega)]
          exact bad H1 _ Kp.refl
      · rw [if_neg (by omega)]
        exact bad H1 _ Kp.refl
theorem sc_get_truth : FnScope ["desk", "word"] ["desk"] (defScope s_get_truth) := ⟨rfl, rfl, rfl, by decide +kernel, rfl, by decide +kernel, by decide +kernel⟩
theorem ok_get_truth (T : Txt K w mg CN CB CH) (F : At K mg "get_truth" s_get_truth ["desk"]) (G_need : Dfn P w K mg base 1 "need" ["good"] (spNeed CN)) (M_next_word : Dfm P w K mg base 1 CD "next_word" ["self"] (spNext CD CN)) : Dfn P w K mg base 2 "get_truth" ["desk"] (fun vs H Q E => spGet K CD IsB 0 40 vs H Q E ∨ spBad CD CN BadB vs H Q E) := by
  refine F.ok sc_get_truth (fun vs H Q E h => h.elim spGet.len spBad.len) (fun qual f cdv A outer s H vs Q E hr h => ?_)
  refine ⟨_, (pss_cons (ps_set (i := 1) sc_get_truth.nd rfl (Or.inl rfl) (Fw.pe_m0 M_next_word hr (passes_call (takes_of rfl rfl rfl rfl) (fun _ _ _ _ h => h)) (pv 0)))
      (pss_cons (ps_expr (pe_fnE G_need hr (passes_call (takes_of rfl rfl rfl rfl) (fun _ _ _ _ h => h)) (pa_cons (pe_or (pe_cmpR op_eq (pv 1) pe_str (nomark _)) (pe_one (pe_cmpR op_eq (pv 1) pe_str (nomark _)))) pa_nil)))
      (pss_one (ps_ret (pe_cmpR op_eq (pv 1) pe_str (nomark _)))))), ?_⟩
  rcases h with ⟨a, wa, la, ws, ls, i, j, v, nw, nl, rw, rl, rfl, hd, ⟨b, rfl, rfl, rfl⟩, e1, e2, q⟩ | ⟨a, wa, la, ws, ls, i, j, rfl, hd, ⟨z, t, hb, hz1, hz2⟩, q⟩
  · walk_at "rd"
    refine callN hd e1 fun H1 k1 hd1 => ?_
    have fin := q H1 (.bl b) k1 hd1 ⟨b, rfl, rfl, rfl⟩ Al.bl
    cases b with
    | true => exact ⟨rfl, by simpa using ⟨true, rfl, (fun _ => ⟨rfl, by simpa using fin⟩), (fun z => by cases z)⟩⟩
    | false =>
      have e3 : ¬ (V.str ("no" : Str) = V.str ("yes" : Str)) := by decide +kernel
      have e4 : (if (false : Bool) = true then Str.ofString "yes" else Str.ofString "no") = ("no" : Str) := rfl
      rw [e4]
      rw [if_neg e3, decide_eq_true rfl, decide_eq_false e3]
      exact ⟨rfl, rfl, true, rfl, (fun _ => ⟨rfl, fin⟩), (fun z => by cases z)⟩
  · walk_at "rd"
    refine callN hd hb fun H1 k1 hd1 => ?_
    rw [if_neg (by simpa using hz1), decide_eq_false (by simpa using hz2)]
    exact ⟨rfl, rfl, false, rfl, (fun z => by cases z), (fun _ => q H1 k1)⟩
theorem callI {H : Hp} {a wa la : Addr} {ws ls : List Str} {i j : Nat} {n : Int} {r : List Str} {Q : VK} {E : XK} (hd : DeskAt CD H a wa la ws ls i j) (hn : okI n = true) (e : ws.drop i = iS n :: r) (q : ∀ H', Kp [a] H H' → DeskAt CD H' a wa la ws ls (i + 1) j → Q (.int n) H') : spGet K CD IsI 0 40 [V.ref a] H Q E ∨ spBad CD CN BadI [V.ref a] H Q E := by
  refine .inl ⟨a, wa, la, ws, ls, i, j, .int n, [iS n], [], r, ls.drop j, rfl, hd, ⟨n, rfl, hn, rfl, rfl⟩, e, rfl, fun H' v' k hd' _ al => ?_⟩
  obtain ⟨d, h1, h2, _⟩ := al
  cases h1
  cases h2
  exact q H' k hd'
theorem callL {H : Hp} {a wa la : Addr} {ws ls : List Str} {i j : Nat} {z : Str} {r : List Str} {Q : VK} {E : XK} (hd : DeskAt CD H a wa la ws ls i j) (hz : okL z = true) (e : ws.drop i = z :: r) (q : ∀ H', Kp [a] H H' → DeskAt CD H' a wa la ws ls (i + 1) j → Q (.str z) H') : spGet K CD IsLb 0 402 [V.ref a] H Q E := by
  refine ⟨a, wa, la, ws, ls, i, j, .str z, [z], [], r, ls.drop j, rfl, hd, ⟨z, rfl, hz, rfl, rfl⟩, e, rfl, fun H' v' k hd' _ al => ?_⟩
  obtain ⟨d, h1, h2, _⟩ := al
  cases h1
  cases h2
  exact q H' k hd'
theorem okC_lt {c : Nat} (h : okC c = true) : c < 1000 := by
  have h2 : ∀ c ∈ sNum.cps.toList, c < 1000 := by decide +kernel
  exact h2 c (of_decide_eq_true h)
theorem Al.lbl {H : Hp} {z : Str} (hz : okL z = true) : Al K H (.str z) (.str z) 0 402 := by
  refine Al.str (n := 40) (okL_8 hz) fun c hc => ?_
  simp only [okL, Bool.and_eq_true, List.all_eq_true] at hz
  exact okC_lt (hz.2 c hc)
theorem Al.row {H : Hp} {z : Str} (hz : okR z = true) : Al K H (.str z) (.str z) 0 402 := by
  refine Al.str (n := 40) (okR_40 hz) fun c hc => ?_
  simp only [okR, Bool.and_eq_true, List.all_eq_true] at hz
  have := hz.2 c hc
  simp only [okG, Bool.and_eq_true, decide_eq_true_eq] at this
  omega
theorem Al.lit {H : Hp} {z : Str} (h : z.length ≤ 40) (h2 : z.cps.toList.all (fun c => decide (c < 1000)) = true) : Al K H (.str z) (.str z) 0 402 := by
  refine Al.str (n := 40) h fun c hc => ?_
  have := List.all_eq_true.mp h2 c hc
  simpa using this
theorem Al.kI {H : Hp} {n : Int} (hn : okI n = true) : Al K H (.int n) (.int n) 0 402 := (Al.int (okI_log hn) (iS_len hn)).mono (Nat.le_refl _) (by decide)
/-- tuples of two, three, four alike things -/
theorem Al.t2 {H : Hp} {a b : Addr} {x1 x2 y1 y2 : V} {k m : Nat} (ha : SqT K H a [x1, x2]) (hb : SqT K H b [y1, y2]) (h1 : Al K H x1 y1 k m) (h2 : Al K H x2 y2 k m) : Al K H (.ref a) (.ref b) (k + 1) (2 * (m + 2) + 3) := by
  refine Al.tup ha hb rfl (Nat.le_refl _) fun i x y e1 e2 => ?_
  match i, e1, e2 with
  | 0, e1, e2 => cases e1; cases e2; exact h1
  | 1, e1, e2 => cases e1; cases e2; exact h2
  | n + 2, e1, e2 => simp at e1
theorem Al.t3 {H : Hp} {a b : Addr} {x1 x2 x3 y1 y2 y3 : V} {k m : Nat} (ha : SqT K H a [x1, x2, x3]) (hb : SqT K H b [y1, y2, y3]) (h1 : Al K H x1 y1 k m) (h2 : Al K H x2 y2 k m) (h3 : Al K H x3 y3 k m) : Al K H (.ref a) (.ref b) (k + 1) (3 * (m + 2) + 3) := by
  refine Al.tup ha hb rfl (Nat.le_refl _) fun i x y e1 e2 => ?_
  match i, e1, e2 with
  | 0, e1, e2 => cases e1; cases e2; exact h1
  | 1, e1, e2 => cases e1; cases e2; exact h2
  | 2, e1, e2 => cases e1; cases e2; exact h3
  | n + 3, e1, e2 => simp at e1
theorem Al.t4 {H : Hp} {a b : Addr} {x1 x2 x3 x4 y1 y2 y3 y4 : V} {k m : Nat} (ha : SqT K H a [x1, x2, x3, x4]) (hb : SqT K H b [y1, y2, y3, y4]) (h1 : Al K H x1 y1 k m) (h2 : Al K H x2 y2 k m) (h3 : Al K H x3 y3 k m) (h4 : Al K H x4 y4 k m) : Al K H (.ref a) (.ref b) (k + 1) (4 * (m + 2) + 3) := by
  refine Al.tup ha hb rfl (Nat.le_refl _) fun i x y e1 e2 => ?_
  match i, e1, e2 with
  | 0, e1, e2 => cases e1; cases e2; exact h1
  | 1, e1, e2 => cases e1; cases e2; exact h2
  | 2, e1, e2 => cases e1; cases e2; exact h3
  | 3, e1, e2 => cases e1; cases e2; exact h4
  | n + 4, e1, e2 => simp at e1
/-- rows of leaves -/
theorem Al.rows {H : Hp} {a b : Addr} {zs : List Str} (ha : SqT K H a (zs.map V.str)) (hb : SqT K H b (zs.map V.str)) (hn : zs.length ≤ 40) (hz : ∀ z ∈ zs, okR z = true) : Al K H (.ref a) (.ref b) 1 16163 := by
  refine Al.tup (k := 0) (m := 402) (n := 40) ha hb rfl (by simpa using hn) fun i x y e1 e2 => ?_
  rw [e1] at e2
  cases e2
  rw [List.getElem?_map, Option.map_eq_some_iff] at e1
  obtain ⟨z, h1, rfl⟩ := e1
  exact Al.row (hz z (List.mem_of_getElem? h1))
theorem sc_get_label : FnScope ["desk", "word"] ["desk"] (defScope s_get_label) := ⟨rfl, rfl, rfl, by decide +kernel, rfl, by decide +kernel, by decide +kernel⟩
theorem ok_get_label (T : Txt K w mg CN CB CH) (F : At K mg "get_label" s_get_label ["desk"]) (G_need : Dfn P w K mg base 1 "need" ["good"] (spNeed CN)) (G_is_label : Dfn P w K mg base 1 "is_label" ["thing"] spIsLabel) (M_next_word : Dfm P w K mg base 1 CD "next_word" ["self"] (spNext CD CN)) : Dfn P w K mg base 2 "get_label" ["desk"] (spGet K CD IsLb 0 402) := by
  refine F.ok sc_get_label (fun vs H Q E h => h.len) (fun qual f cdv A outer s H vs Q E hr h => ?_)
  refine ⟨_, (pss_cons (ps_set (i := 1) sc_get_label.nd rfl (Or.inl rfl) (Fw.pe_m0 M_next_word hr (passes_call (takes_of rfl rfl rfl rfl) (fun _ _ _ _ h => h)) (pv 0)))
      (pss_cons (ps_expr (pe_fnE G_need hr (passes_call (takes_of rfl rfl rfl rfl) (fun _ _ _ _ h => h)) (pa_cons (pe_fn G_is_label hr (pa_cons (pv 1) pa_nil)) pa_nil)))
      (pss_one (ps_ret (pv 1))))), ?_⟩
  obtain ⟨a, wa, la, ws, ls, i, j, v, nw, nl, rw, rl, rfl, hd, ⟨z, rfl, hz, rfl, rfl⟩, e1, e2, q⟩ := h
  walk_at "rd"
  refine callN hd e1 fun H1 k1 hd1 => ?_
  exact ⟨z, rfl, okL_len hz, fun H2 k2 => ⟨_, rfl, (fun _ => q H2 _ (k1.trans k2.nil) (hd1.kp k2) ⟨z, rfl, hz, rfl, rfl⟩ (Al.lbl hz)), (fun y => by rw [hz] at y; cases y)⟩⟩
theorem sc_get_pair : FnScope ["desk", "label"] ["desk"] (defScope s_get_pair) := ⟨rfl, rfl, rfl, by decide +kernel, rfl, by decide +kernel, by decide +kernel⟩
theorem ok_get_pair (T : Txt K w mg CN CB CH) (F : At K mg "get_pair" s_get_pair ["desk"]) (G_get_label : Dfn P w K mg base 2 "get_label" ["desk"] (spGet K CD IsLb 0 402)) (G_get_int : Dfn P w K mg base 2 "get_int" ["desk"] (fun vs H Q E => spGet K CD IsI 0 40 vs H Q E ∨ spBad CD CN BadI vs H Q E)) : Dfn P w K mg base 3 "get_pair" ["desk"] (spGet K CD (IsPr K) 1 1000) := by
  refine F.ok sc_get_pair (fun vs H Q E h => h.len) (fun qual f cdv A outer s H vs Q E hr h => ?_)
  refine ⟨_, (pss_cons (ps_set (i := 1) sc_get_pair.nd rfl (Or.inl rfl) (pe_fnE G_get_label hr (passes_call (takes_of rfl rfl rfl rfl) (fun _ _ _ _ h => h)) (pa_cons (pv 0) pa_nil)))
      (pss_one (ps_ret (pe_tup (pa_cons (pv 1) (pa_cons (pe_fnE G_get_int hr (passes_call (takes_of rfl rfl rfl rfl) (fun _ _ _ _ h => h)) (pa_cons (pv 0) pa_nil)) pa_nil)))))), ?_⟩
  obtain ⟨a, wa, la, ws, ls, i, j, v, nw, nl, rw, rl, rfl, hd, ⟨b, z, n, rfl, hb, hz, hn, rfl, rfl⟩, e1, e2, q⟩ := h
  walk_at "rd"
  refine callL hd hz e1 fun H1 k1 hd1 => ?_
  refine callI hd1 hn (drop_at e1).2 fun H2 k2 hd2 => ⟨by decide, fun p hp => ?_⟩
  have k3 : Kp [] H2 (upd H2 p (.tup [.str z, .int n])) := Kp.refl.new hp
  exact q _ _ ((k1.trans k2).trans k3.nil) (hd2.kp k3) ⟨p, z, n, rfl, .inl (.inl upd_same), hz, hn, rfl, rfl⟩ ((Al.t2 (k := 0) (m := 402) (((k1.trans k2).trans k3.nil).tup hb) (.inl (.inl upd_same)) (Al.lbl hz) (Al.kI hn)).mono (Nat.le_refl _) (by decide))
theorem sc_get_piece : FnScope ["desk", "word", "first", "many"] ["desk"] (defScope s_get_piece) := ⟨rfl, rfl, rfl, by decide +kernel, rfl, by decide +kernel, by decide +kernel⟩
theorem ok_get_piece (T : Txt K w mg CN CB CH) (F : At K mg "get_piece" s_get_piece ["desk"]) (G_need : Dfn P w K mg base 1 "need" ["good"] (spNeed CN)) (M_next_word : Dfm P w K mg base 1 CD "next_word" ["self"] (spNext CD CN)) (M_next_lines : Dfm P w K mg base 3 CD "next_lines" ["self", "many"] (spNextLines K CD)) (G_get_int : Dfn P w K mg base 2 "get_int" ["desk"] (fun vs H Q E => spGet K CD IsI 0 40 vs H Q E ∨ spBad CD CN BadI vs H Q E)) : Dfn P w K mg base 4 "get_piece" ["desk"] (spGet K CD (IsPc K) 2 32333) := by
  refine F.ok sc_get_piece (fun vs H Q E h => h.len) (fun qual f cdv A outer s H vs Q E hr h => ?_)
  refine ⟨_, (pss_cons (ps_set (i := 1) sc_get_piece.nd rfl (Or.inl rfl) (Fw.pe_m0 M_next_word hr (passes_call (takes_of rfl rfl rfl rfl) (fun _ _ _ _ h => h)) (pv 0)))
      (pss_cons (ps_set (i := 2) sc_get_piece.nd rfl (Or.inl rfl) (pe_fnE G_get_int hr (passes_call (takes_of rfl rfl rfl rfl) (fun _ _ _ _ h => h)) (pa_cons (pv 0) pa_nil)))
      (pss_cons (ps_if (pt_cmpR op_eq (pv 1) pe_str (nomark _)) (pss_cons (ps_set (i := 3) sc_get_piece.nd rfl (Or.inl rfl) (pe_fnE G_get_int hr (passes_call (takes_of rfl rfl rfl rfl) (fun _ _ _ _ h => h)) (pa_cons (pv 0) pa_nil)))
      (pss_cons (ps_expr (pe_fnE G_need hr (passes_call (takes_of rfl rfl rfl rfl) (fun _ _ _ _ h => h)) (pa_cons (pe_cmpR op_gt (pv 3) pe_int (nomark _)) pa_nil)))
      (pss_one (ps_ret (pe_tup (pa_cons pe_str (pa_cons (pv 2) (pa_cons (pv 3) pa_nil)))))))) pss_nil)
      (pss_cons (ps_expr (pe_fnE G_need hr (passes_call (takes_of rfl rfl rfl rfl) (fun _ _ _ _ h => h)) (pa_cons (pe_and (pe_cmpR op_eq (pv 1) pe_str (nomark _)) (pe_one (pe_cmpR op_gt (pv 2) pe_int (nomark _)))) pa_nil)))
      (pss_one (ps_ret (pe_tup (pa_cons pe_str (pa_cons (Fw.pe_m M_next_lines hr (passes_call (takes_of rfl rfl rfl rfl) (fun _ _ _ _ h => h)) (pv 0) (pa_cons (pv 2) pa_nil)) pa_nil))))))))), ?_⟩
  obtain ⟨a, wa, la, ws, ls, i, j, v, nw, nl, rw, rl, rfl, hd, ⟨b, rfl, ⟨n, m, hb, hn, hm, hm0, rfl, rfl⟩ | ⟨r, zs, hb, hz, hz0, rfl, rfl⟩⟩, e1, e2, q⟩ := h
  · walk_at "rd"
    refine callN hd e1 fun H1 k1 hd1 => ?_
    refine callI hd1 hn (drop_at e1).2 fun H2 k2 hd2 => ⟨rfl, ?_⟩
    rw [if_pos rfl]
    refine callI hd2 hm (drop_at (drop_at e1).2).2 fun H3 k3 hd3 => ⟨m, rfl, _, rfl, (fun _ => ⟨by decide, fun p hp => ?_⟩), (fun z => absurd hm0 (of_decide_eq_false z))⟩
    have k4 : Kp [] H3 (upd H3 p (.tup [.str ("take" : Str), .int n, .int m])) := Kp.refl.new hp
    have k14 := ((k1.trans k2).trans k3).trans k4.nil
    exact q _ _ k14 (hd3.kp k4) ⟨p, rfl, .inl ⟨n, m, .inl (.inl upd_same), hn, hm, hm0, rfl, rfl⟩⟩ ((Al.t3 (k := 0) (m := 402) (k14.tup hb) (.inl (.inl upd_same)) (Al.lit (by decide +kernel) (by decide +kernel)) (Al.kI hn) (Al.kI hm)).mono (by decide) (by decide))
  · walk_at "rd"
    refine callN hd e1 fun H1 k1 hd1 => ?_
    obtain ⟨ra, rfl, hra, h40, hok⟩ := hz
    refine callI hd1 (okI_nat (by omega)) (drop_at e1).2 fun H2 k2 hd2 => ⟨rfl, ?_⟩
    rw [if_neg (by decide +kernel)]
    refine ⟨rfl, ?_⟩
    rw [if_pos rfl]
    refine ⟨_, rfl, _, rfl, (fun _ => ?_), (fun z => absurd (by omega) (of_decide_eq_false z))⟩
    obtain ⟨dx, h1, h2, h3⟩ := id hd2.ex
    refine ⟨_, _, h1, rfl, a, wa, la, ws, ls, _, _, nl, rl, rfl, hd2, h40, hok, e2, fun H3 p k3 hd3 hp => ⟨by decide, fun p2 hp2 => ?_⟩⟩
    have k4 : Kp [] H3 (upd H3 p2 (.tup [.str ("put" : Str), .ref p])) := Kp.refl.new hp2
    have k14 := ((k1.trans k2).trans k3).trans k4.nil
    exact q _ _ k14 (hd3.kp k4) ⟨p2, rfl, .inr ⟨.ref p, nl, .inl (.inl upd_same), ⟨p, rfl, k4.tup hp, h40, hok⟩, hz0, rfl, rfl⟩⟩
      ((Al.t2 (k := 1) (m := 16163) (k14.tup hb) (.inl (.inl upd_same)) ((Al.lit (by decide +kernel) (by decide +kernel)).mono (by decide) (by decide)) (Al.rows (k14.tup hra) (k4.tup hp) h40 hok)).mono (by decide) (by decide))
end
end Kq
set_option Elab.async false
set_option linter.all false
set_option maxRecDepth 100000
set_option maxHeartbeats 4000000
namespace Kq
open PySem PySem.Spec PyProof.Rows L2 Fw TL
local macro_rules | `(tactic| walk_at "rd") => `(tactic| try simp only [tMeth, tMake, tFld, sFld, sFldAug, gStar, tMethT, tCallVT, rNewStrs, tSeq, tNext, tBreak, tCont, tDrop, tRet, tRetN, tIfS, tAsg, tVar, tC, tOp, tUn, tTest, tB, tAnd, tOr, tNot, tAndV, tOrV, tNotV, tIf, tChain, tCB, tCons, tNil, tTup, tLst, tCall, tCallS, WE,
  gName, gSub, rI, rI0, rU, rEq, rNe, rIsiC, tSl, tPart, tNoPart, rSetL, tBM, tBM0, rAppend, rExtend, rExtendT, tCallL, L2.start, List.map_cons, List.map_nil, List.length_cons, List.length_nil, Nat.sub_self, Nat.reduceAdd, Nat.reduceSub, List.replicate_zero, List.replicate_succ, List.append_nil, List.nil_append, List.cons_append,
  List.getElem?_cons_zero, List.getElem?_cons_succ, List.set_cons_zero, List.set_cons_succ, Option.some.injEq, exists_eq_left', exists_eq_left, exists_eq_right, exists_eq_right', exists_const, exists_and_left, exists_and_right, V.int.injEq, V.bl.injEq, V.str.injEq, V.ref.injEq, V.ty.injEq, List.cons.injEq, and_true, true_and, and_assoc, reduceCtorEq, false_and, and_false, exists_false, false_or, or_false,
  if_true, if_false, Bool.not_true, Bool.not_false, Bool.false_eq_true, Bool.true_eq_false, ↓reduceIte, decide_eq_true_eq, decide_true, decide_false, sc_nn, sc_ni, sc_in, sc_nb, sc_bn, sc_ns, sc_sn, sc_ii, sc_bb, sc_ss, sc_is, sc_si, sc_bs, sc_sb, ipI, Int.reduceLT, Int.reduceLE, Int.reduceEq, Nat.reduceLT, Nat.reduceEqDiff, String.reduceEq, nc0, nc1, nc2, nc3, nc4, nc5, nc6, nc7, nc8, nc9, nc10, nc11, nc12, cx_K, cx_w, wipe, lenV_str, rCat, exists_eq, exists_eq', relO, relC, relM, relI, relSl, spOf, ciOf, csOf, crOf, L2.rIxD, eq_self, not_true_eq_false, not_false_eq_true, Option.isSome_some, Option.isSome_none, tCallV, ofS_inj, sg_inj, sg_len, sg_lt, tM1, tM0, tLc_rng1, tLc_rng2, tFor_rng1, tFor_rng2, tDNewK, sDPut,  Nat.reduceLeDiff, Bool.not_eq_true', decide_eq_false_iff_not,
  isi_int_int, isi_int_bool, isi_int_str, isi_int_tuple, isi_int_list, isi_int_dict, isi_bool_int, isi_bool_bool, isi_bool_str, isi_bool_tuple, isi_bool_list, isi_bool_dict, isi_str_int, isi_str_bool, isi_str_str, isi_str_tuple, isi_str_list, isi_str_dict, isi_non_int, isi_non_bool, isi_non_str, isi_non_tuple, isi_non_list, isi_non_dict])
local macro_rules | `(tactic| walk_at "ix") => `(tactic| (refine ixT (by assumption) rfl ?_; walk_at "rd"))
local macro_rules | `(tactic| walk_at "len") => `(tactic| (refine ⟨_, lenV_T (by assumption), ?_⟩; walk_at "rd"))
local macro_rules | `(tactic| walk_at "isT") => `(tactic| (refine ⟨true, isiT (by assumption), ?_⟩; walk_at "rd"))

section
variable {P : Program} {w : World} {K : PySem.W.Frag} {mg : Str → Option Value} {base : Heap} {CN CB CH CD : Addr}
/-- the first word is no bracket -/
def Hd1 (D : Wr) : Prop := ∀ v H nw nl, D v H nw nl → ∃ z r, nw = z :: r ∧ z ≠ (")" : Str)
theorem hd_I : Hd1 IsI := by
  rintro v H nw nl ⟨i, rfl, h, rfl, rfl⟩
  refine ⟨_, _, rfl, fun e => ?_⟩
  have h1 := (iS_good h).2.2.1
  rw [e] at h1
  exact absurd h1 (by decide +kernel)
theorem hd_Lb : Hd1 IsLb := by
  rintro v H nw nl ⟨z, rfl, h, rfl, rfl⟩
  refine ⟨_, _, rfl, fun e => ?_⟩
  rw [e] at h
  exact absurd h (by decide +kernel)
theorem hd_B : Hd1 IsB := by
  rintro v H nw nl ⟨b, rfl, rfl, rfl⟩
  refine ⟨_, _, rfl, ?_⟩
  cases b <;> decide +kernel
theorem hd_Pr : Hd1 (IsPr K) := by
  rintro v H nw nl ⟨a, z, i, rfl, _, h, _, rfl, rfl⟩
  refine ⟨_, _, rfl, fun e => ?_⟩
  rw [e] at h
  exact absurd h (by decide +kernel)
theorem hd_Pc : Hd1 (IsPc K) := by
  rintro v H nw nl ⟨a, rfl, ⟨i, j, _, _, _, _, rfl, rfl⟩ | ⟨r, zs, _, _, _, rfl, rfl⟩⟩
  · exact ⟨_, _, rfl, by decide +kernel⟩
  · exact ⟨_, _, rfl, by decide +kernel⟩
/-- a call of desk.need -/
theorem callM {H : Hp} {a wa la : Addr} {ws ls : List Str} {i j : Nat} {z : Str} {r : List Str} {Q : VK} {E : XK} (hd : DeskAt CD H a wa la ws ls i j) (e : ws.drop i = z :: r) (q : ∀ H', Kp [a] H H' → DeskAt CD H' a wa la ws ls (i + 1) j → Q .non H') :
    ∃ x x_1, H a = some (HO.ins CD x x_1) ∧ List.lookup ("need" : Str) x_1 = none ∧ spNeedM CD CN [V.ref a, V.str z] H Q E := by
  obtain ⟨dx, h1, h2, h3⟩ := id hd.ex
  exact ⟨_, _, h1, rfl, a, z, wa, la, ws, ls, i, j, rfl, hd, fun _ => q, fun n => absurd (drop_at e).1 n⟩
/-- a call of desk.is_next -/
theorem callX {H : Hp} {a wa la : Addr} {ws ls : List Str} {i j : Nat} {y z : Str} {r : List Str} {Q : VK} {E : XK} (hd : DeskAt CD H a wa la ws ls i j) (e : ws.drop i = z :: r) (q : Q (.bl (decide (z = y))) H) :
    ∃ x x_1, H a = some (HO.ins CD x x_1) ∧ List.lookup ("is_next" : Str) x_1 = none ∧ spIsNext CD [V.ref a, V.str y] H Q E := by
  obtain ⟨dx, h1, h2, h3⟩ := id hd.ex
  refine ⟨_, _, h1, rfl, a, y, wa, la, ws, ls, i, j, rfl, hd, ?_⟩
  rw [(drop_at e).1]
  simpa using q
theorem _root_.Kq.DeskAt.ne {H : Hp} {a wa la p : Addr} {ws ls : List Str} {i j : Nat} (h : DeskAt CD H a wa la ws ls i j) (hp : H p = none) : p ≠ a ∧ p ≠ wa ∧ p ≠ la := by
  obtain ⟨dx, g1, g2, g3⟩ := h.ex
  exact ⟨(ne_of_none g1 hp).symm, (ne_of_none g2 hp).symm, (ne_of_none g3 hp).symm⟩
theorem _root_.Kq.DeskAt.wr {H : Hp} {a wa la p : Addr} {o : HO} {ws ls : List Str} {i j : Nat} (h : DeskAt CD H a wa la ws ls i j) (h1 : p ≠ a) (h2 : p ≠ wa) (h3 : p ≠ la) : DeskAt CD (upd H p o) a wa la ws ls i j := by
  obtain ⟨⟨dx, g1, g2, g3⟩, r1, r2, r3, r4⟩ := h
  exact ⟨⟨dx, by rw [upd_ne h1.symm]; exact g1, by rw [upd_ne h2.symm]; exact g2, by rw [upd_ne h3.symm]; exact g3⟩, r1, r2, r3, r4⟩
theorem sc_get_list : FnScope ["desk", "most", "each", "things"] ["desk", "most", "each"] (defScope s_get_list) := ⟨rfl, rfl, rfl, by decide +kernel, rfl, by decide +kernel, by decide +kernel⟩
def spGetL (K : PySem.W.Frag) (CD f : Addr) (D : Wr) (most k m : Nat) : Sp := fun vs H Q E => ∃ a, vs = [.ref a, .int (most : Nat), .ref f] ∧ spGet K CD (IsL K D most) (k + 1) (most * (m + 2) + 3) [.ref a] H Q E
def BadL (B : List Str → Prop) (r : List Str) : Prop := ∃ z t, r = ("(" : Str) :: z :: t ∧ z ≠ (")" : Str) ∧ B (z :: t)
def spBadL (CD CN f : Addr) (most : Nat) (B : List Str → Prop) : Sp := fun vs H Q E => ∃ a, vs = [.ref a, .int (most : Nat), .ref f] ∧ spBad CD CN (BadL B) [.ref a] H Q E
theorem drop_app {ws : List Str} {i : Nat} {xs r : List Str} (h : ws.drop i = xs ++ r) : ws.drop (i + xs.length) = r := by
  rw [← List.drop_drop, h, List.drop_left]
theorem ok_get_list (T : Txt K w mg CN CB CH) (F : At K mg "get_list" s_get_list ["desk", "most", "each"]) {j : Nat} {fe : Addr} {fde : FuncData} {D : Wr} {most k m : Nat} (sD : Stb D) (hD : Hd1 D) (G_need : Dfn P w K mg base 1 "need" ["good"] (spNeed CN)) (M_need : Dfm P w K mg base 2 CD "need" ["self", "word"] (spNeedM CD CN)) (M_is_next : Dfm P w K mg base 1 CD "is_next" ["self", "word"] (spIsNext CD))
    (Fe : FnOk P w K mg base (L2.CX P w) j fe fde ["desk"] (spGet K CD D k m)) (hke : PySem.W.keepIn K (.ref fe) = true) (hbe : Binds K fde ["desk"] []) (hj : j ≤ 6) (hmost : most ≤ 400) : Dfn P w K mg base 7 "get_list" ["desk", "most", "each"] (spGetL K CD fe D most k m) := by
  refine F.ok sc_get_list (fun vs H Q E h => ?_) (fun qual f cdv A outer s H vs Q E hr h => ?_)
  · obtain ⟨a, rfl, _⟩ := h
    rfl
  · have hpe : Passes (L2.CX P w) (cxOf (L2.CX P w) P w K mg base ["desk", "most", "each", "things"] qual (defScope s_get_list) f cdv A outer s H E) E := passes_call (takes_of rfl rfl rfl rfl) (fun _ _ _ _ h => h)
    refine ⟨_, (pss_cons (ps_expr (Fw.pe_m M_need hr (passes_call (takes_of rfl rfl rfl rfl) (fun _ _ _ _ h => h)) (pv 0) (pa_cons pe_str pa_nil)))
      (pss_cons (ps_set (i := 3) sc_get_list.nd rfl (Or.inl rfl) (pe_lst pa_nil))
      (pss_cons (ps_while (passes_of rfl) (pt_not (pt_val (Fw.pe_m M_is_next hr passL (pv 0) (pa_cons pe_str pa_nil)))) (pss_cons (ps_expr (pe_fnE G_need hr (passes_call (takes_of rfl rfl rfl rfl) (fun _ _ _ _ h => h)) (pa_cons (pe_cmpR op_lt (pe_callB call_len (by rfl) T.len_ (by decide +kernel) (pa_cons (pv 3) pa_nil)) (pv 1) (nomark _)) pa_nil)))
      (pss_one (ps_expr (pe_bm PySem.F.plainAttrs_list PySem.F.slot_list_append PySem.F.type_list_append mt_append (pv 3) (pa_cons (pe_callL (i := 2) Fe (hr.mono hj) rfl (Or.inl rfl) hke hbe .nil hpe (pa_cons (pv 0) pa_nil)) pa_nil))))))
      (pss_cons (ps_expr (Fw.pe_m M_need hr (passes_call (takes_of rfl rfl rfl rfl) (fun _ _ _ _ h => h)) (pv 0) (pa_cons pe_str pa_nil)))
      (pss_one (ps_ret (pe_callTy call_tuple_of (by rfl) T.tuple_ (by decide +kernel) (pa_cons (pv 3) pa_nil)))))))), ?_⟩
    obtain ⟨a, rfl, a', wa, la, ws, ls, i, j0, v, nw, nl, rw, rl, e0, hd, ⟨ta, xs, its, rfl, hs, hm, hl, hDx, rfl, rfl⟩, e1, e2, q⟩ := h
    cases e0
    walk_at "rd"
    refine callM hd (r := its.flatMap (·.1) ++ ([(")" : Str)] ++ rw)) (by simpa using e1) fun H1 k1 hd1 => ⟨by decide, fun p hp => ?_⟩
    obtain ⟨hpa, hpw, hpl⟩ := hd1.ne hp
    have kp : Kp [] H1 (upd H1 p (.lst [])) := Kp.refl.new hp
    have e3 : ws.drop (i + 1) = its.flatMap (·.1) ++ ([(")" : Str)] ++ rw) := (drop_at (r := its.flatMap (·.1) ++ ([(")" : Str)] ++ rw)) (by simpa using e1)).2
    obtain ⟨Pv, hPv⟩ : ∃ Pv : Nat → L2.St → Hp → Prop, ∀ t σ H', Pv t σ H' ↔ (σ = [some (V.ref a), some (V.int (most : Nat)), some (V.ref fe), some (V.ref p)] ∧ Kp [a] H H' ∧ DeskAt CD H' a wa la ws ls (i + 1 + ((its.take t).flatMap (·.1)).length) (j0 + ((its.take t).flatMap (·.2)).length) ∧
      ∃ ys, H' p = some (.lst ys) ∧ ys.length = t ∧ ∀ (s : Nat) (y : V), ys[s]? = some y → ∃ x q, xs[s]? = some x ∧ its[s]? = some q ∧ D y H' q.1 q.2 ∧ Al K H' x y k m) := ⟨_, fun _ _ _ => Iff.rfl⟩
    refine ⟨fun mm σ H' => ∃ t, t + mm = xs.length ∧ Pv t σ H', ⟨xs.length, 0, by omega, (hPv _ _ _).mpr ⟨rfl, k1.trans kp.nil, by simpa using hd1.kp kp, [], upd_same, rfl, fun s y h => by simp at h⟩⟩, ?_⟩
    rintro mm σ H2 ⟨t, ht, hP⟩
    obtain ⟨rfl, k2, hd2, ys, hy, hyl, hys⟩ := (hPv _ _ _).mp hP
    have eW : ws.drop (i + 1 + ((its.take t).flatMap (·.1)).length) = (its.drop t).flatMap (·.1) ++ ([(")" : Str)] ++ rw) := by
      refine drop_app ?_
      have es : its.flatMap (·.1) = (its.take t).flatMap (·.1) ++ (its.drop t).flatMap (·.1) := by rw [← List.flatMap_append, List.take_append_drop]
      rw [e3]
      conv => lhs; rw [es]
      rw [List.append_assoc]
    have eL : ls.drop (j0 + ((its.take t).flatMap (·.2)).length) = (its.drop t).flatMap (·.2) ++ rl := by
      refine drop_app ?_
      have es : its.flatMap (·.2) = (its.take t).flatMap (·.2) ++ (its.drop t).flatMap (·.2) := by rw [← List.flatMap_append, List.take_append_drop]
      rw [e2]
      conv => lhs; rw [es]
      rw [List.append_assoc]
    by_cases hlt : t < xs.length
    · have hit : its[t]? = some its[t] := List.getElem?_eq_getElem (by omega)
      have hxt : xs[t]? = some xs[t] := List.getElem?_eq_getElem hlt
      have hDt := sD _ _ _ _ _ _ k2 (hDx t _ _ hxt hit)
      obtain ⟨z, r, ez, hz⟩ := hD _ _ _ _ hDt
      have ed : its.drop t = its[t] :: its.drop (t + 1) := List.drop_eq_getElem_cons (by omega)
      rw [ed, List.flatMap_cons] at eW eL
      walk_at "rd"
      refine callX hd2 (z := z) (r := r ++ ((its.drop (t + 1)).flatMap (·.1) ++ ([(")" : Str)] ++ rw))) (by rw [eW, ez]; simp) ?_
      rw [decide_eq_false hz]
      walk_at "rd"
      have hp0 : H p = none := k1.free hp
      refine ⟨Pv (t + 1), (fun σ' H' h => ⟨mm - 1, by omega, t + 1, by omega, h⟩), _, lenV_L (SqL.of hy), _, rfl, (fun _ => ?_), (fun z => absurd (by omega) (of_decide_eq_false z))⟩
      refine ⟨tyV_L hy, a, wa, la, ws, ls, _, _, xs[t], its[t].1, its[t].2, _, _, rfl, hd2, hDt, by rw [eW, List.append_assoc], by rw [eL, List.append_assoc], fun H3 y k3 hd3 hy3 al3 => ?_⟩
      have hy3p : H3 p = some (.lst ys) := k3.at hy (by simpa using hpa)
      have k4 : Kp [p] H3 (upd H3 p (.lst (ys ++ [y]))) := Kp.refl.put hy3p trivial (by simp)
      refine ⟨ys, hy3p, by rw [hyl, sizeLine_eq]; omega, (hPv _ _ _).mpr ⟨rfl, (k2.trans k3).late hp0, ?_, ys ++ [y], upd_same, by simp [hyl], fun s y2 hs2 => ?_⟩⟩
      · rw [flat_take hit, flat_take hit, List.length_append, List.length_append, ← Nat.add_assoc, ← Nat.add_assoc]
        exact hd3.wr hpa hpw hpl
      · by_cases hsl : s < ys.length
        · rw [List.getElem?_append_left hsl] at hs2
          obtain ⟨x, q2, g1, g2, g3, g4⟩ := hys s y2 hs2
          exact ⟨x, q2, g1, g2, sD _ _ _ _ _ _ k4 (sD _ _ _ _ _ _ k3 g3), (g4.kp k3).kp k4⟩
        · have hs3 : s = ys.length := by
            have := (List.getElem?_eq_some_iff.mp hs2).1
            simp at this
            omega
          subst hs3
          have ey : y2 = y := by simpa using hs2.symm
          subst ey
          rw [hyl]
          exact ⟨_, _, hxt, hit, sD _ _ _ _ _ _ k4 hy3, al3.kp k4⟩
    · have et : t = xs.length := by omega
      subst et
      have en : its.drop xs.length = [] := List.drop_eq_nil_of_le (by omega)
      rw [en] at eW eL
      walk_at "rd"
      refine callX hd2 (z := (")" : Str)) (r := rw) (by rw [eW]; rfl) ?_
      rw [decide_eq_true rfl]
      walk_at "rd"
      refine callM hd2 (r := rw) (by rw [eW]; rfl) fun H3 k3 hd3 => ?_
      have hy3 : H3 p = some (.lst ys) := k3.at hy (by simpa using hpa)
      refine ⟨ys, .inl ⟨SqL.of hy3, fun l hl2 => ?_⟩⟩
      have k4 : Kp [] H3 (upd H3 l (.tup ys)) := Kp.refl.new hl2
      have k24 := k3.trans k4.nil
      have en2 : its.take xs.length = its := List.take_of_length_le (by omega)
      rw [en2] at hd3
      have hl3 : SqT K (upd H3 l (.tup ys)) l ys := .inl (.inl upd_same)
      have each : ∀ (s : Nat) (x y : V), xs[s]? = some x → ys[s]? = some y → Al K (upd H3 l (.tup ys)) x y k m := fun s x y g1 g2 => by
        obtain ⟨x', q2, e4, _, _, al⟩ := hys s y g2
        rw [g1] at e4
        cases e4
        exact al.kp k24
      refine q _ _ (k2.trans k24) ?_ ⟨l, ys, its, rfl, hl3, by omega, by omega, fun s y q2 g1 g2 => ?_, rfl, rfl⟩ (Al.tup ((k2.trans k24).tup hs) hl3 (by omega) hm each)
      · have := hd3.kp k4
        simp only [List.length_append, List.length_cons, List.length_nil]
        have e5 : i + (0 + 1 + (its.flatMap (·.1)).length + (0 + 1)) = i + 1 + (its.flatMap (·.1)).length + 1 := by omega
        rw [e5]
        exact this
      · obtain ⟨x', q3, _, e4, d, _⟩ := hys s y g1
        rw [g2] at e4
        cases e4
        exact sD _ _ _ _ _ _ k24 d
end
end Kq
set_option Elab.async false
set_option linter.all false
set_option maxRecDepth 100000
set_option maxHeartbeats 4000000
namespace Kq
open PySem PySem.Spec PyProof.Rows L2 Fw TL
local macro_rules | `(tactic| walk_at "rd") => `(tactic| try simp only [tMeth, tMake, tFld, sFld, sFldAug, gStar, tMethT, tCallVT, rNewStrs, tSeq, tNext, tBreak, tCont, tDrop, tRet, tRetN, tIfS, tAsg, tVar, tC, tOp, tUn, tTest, tB, tAnd, tOr, tNot, tAndV, tOrV, tNotV, tIf, tChain, tCB, tCons, tNil, tTup, tLst, tCall, tCallS, WE,
  gName, gSub, rI, rI0, rU, rEq, rNe, rIsiC, tSl, tPart, tNoPart, rSetL, tBM, tBM0, rAppend, rExtend, rExtendT, tCallL, L2.start, List.map_cons, List.map_nil, List.length_cons, List.length_nil, Nat.sub_self, Nat.reduceAdd, Nat.reduceSub, List.replicate_zero, List.replicate_succ, List.append_nil, List.nil_append, List.cons_append,
  List.getElem?_cons_zero, List.getElem?_cons_succ, List.set_cons_zero, List.set_cons_succ, Option.some.injEq, exists_eq_left', exists_eq_left, exists_eq_right, exists_eq_right', exists_const, exists_and_left, exists_and_right, V.int.injEq, V.bl.injEq, V.str.injEq, V.ref.injEq, V.ty.injEq, List.cons.injEq, and_true, true_and, and_assoc, reduceCtorEq, false_and, and_false, exists_false, false_or, or_false,
  if_true, if_false, Bool.not_true, Bool.not_false, Bool.false_eq_true, Bool.true_eq_false, ↓reduceIte, decide_eq_true_eq, decide_true, decide_false, sc_nn, sc_ni, sc_in, sc_nb, sc_bn, sc_ns, sc_sn, sc_ii, sc_bb, sc_ss, sc_is, sc_si, sc_bs, sc_sb, ipI, Int.reduceLT, Int.reduceLE, Int.reduceEq, Nat.reduceLT, Nat.reduceEqDiff, String.reduceEq, nc0, nc1, nc2, nc3, nc4, nc5, nc6, nc7, nc8, nc9, nc10, nc11, nc12, cx_K, cx_w, wipe, lenV_str, rCat, exists_eq, exists_eq', relO, relC, relM, relI, relSl, spOf, ciOf, csOf, crOf, L2.rIxD, eq_self, not_true_eq_false, not_false_eq_true, Option.isSome_some, Option.isSome_none, tCallV, ofS_inj, sg_inj, sg_len, sg_lt, tM1, tM0, tLc_rng1, tLc_rng2, tFor_rng1, tFor_rng2, tDNewK, sDPut,  Nat.reduceLeDiff, Bool.not_eq_true', decide_eq_false_iff_not,
  isi_int_int, isi_int_bool, isi_int_str, isi_int_tuple, isi_int_list, isi_int_dict, isi_bool_int, isi_bool_bool, isi_bool_str, isi_bool_tuple, isi_bool_list, isi_bool_dict, isi_str_int, isi_str_bool, isi_str_str, isi_str_tuple, isi_str_list, isi_str_dict, isi_non_int, isi_non_bool, isi_non_str, isi_non_tuple, isi_non_list, isi_non_dict])
local macro_rules | `(tactic| walk_at "ix") => `(tactic| (refine ixT (by assumption) rfl ?_; walk_at "rd"))
local macro_rules | `(tactic| walk_at "len") => `(tactic| (refine ⟨_, lenV_T (by assumption), ?_⟩; walk_at "rd"))
local macro_rules | `(tactic| walk_at "isT") => `(tactic| (refine ⟨true, isiT (by assumption), ?_⟩; walk_at "rd"))

section
variable {P : Program} {w : World} {K : PySem.W.Frag} {mg : Str → Option Value} {base : Heap} {CN CB CH CD : Addr}
theorem ok_get_listB (T : Txt K w mg CN CB CH) (F : At K mg "get_list" s_get_list ["desk", "most", "each"]) {j : Nat} {fe : Addr} {fde : FuncData} {most : Nat} {B : List Str → Prop} (G_need : Dfn P w K mg base 1 "need" ["good"] (spNeed CN)) (M_need : Dfm P w K mg base 2 CD "need" ["self", "word"] (spNeedM CD CN)) (M_is_next : Dfm P w K mg base 1 CD "is_next" ["self", "word"] (spIsNext CD))
    (Fe : FnOk P w K mg base (L2.CX P w) j fe fde ["desk"] (spBad CD CN B)) (hke : PySem.W.keepIn K (.ref fe) = true) (hbe : Binds K fde ["desk"] []) (hj : j ≤ 6) (hmost : 0 < most) : Dfn P w K mg base 7 "get_list" ["desk", "most", "each"] (spBadL CD CN fe most B) := by
  refine F.ok sc_get_list (fun vs H Q E h => ?_) (fun qual f cdv A outer s H vs Q E hr h => ?_)
  · obtain ⟨a, rfl, _⟩ := h
    rfl
  · have hpe : Passes (L2.CX P w) (cxOf (L2.CX P w) P w K mg base ["desk", "most", "each", "things"] qual (defScope s_get_list) f cdv A outer s H E) E := passes_call (takes_of rfl rfl rfl rfl) (fun _ _ _ _ h => h)
    refine ⟨_, (pss_cons (ps_expr (Fw.pe_m M_need hr (passes_call (takes_of rfl rfl rfl rfl) (fun _ _ _ _ h => h)) (pv 0) (pa_cons pe_str pa_nil)))
      (pss_cons (ps_set (i := 3) sc_get_list.nd rfl (Or.inl rfl) (pe_lst pa_nil))
      (pss_cons (ps_while (passes_of rfl) (pt_not (pt_val (Fw.pe_m M_is_next hr passL (pv 0) (pa_cons pe_str pa_nil)))) (pss_cons (ps_expr (pe_fnE G_need hr (passes_call (takes_of rfl rfl rfl rfl) (fun _ _ _ _ h => h)) (pa_cons (pe_cmpR op_lt (pe_callB call_len (by rfl) T.len_ (by decide +kernel) (pa_cons (pv 3) pa_nil)) (pv 1) (nomark _)) pa_nil)))
      (pss_one (ps_expr (pe_bm PySem.F.plainAttrs_list PySem.F.slot_list_append PySem.F.type_list_append mt_append (pv 3) (pa_cons (pe_callL (i := 2) Fe (hr.mono hj) rfl (Or.inl rfl) hke hbe .nil hpe (pa_cons (pv 0) pa_nil)) pa_nil))))))
      (pss_cons (ps_expr (Fw.pe_m M_need hr (passes_call (takes_of rfl rfl rfl rfl) (fun _ _ _ _ h => h)) (pv 0) (pa_cons pe_str pa_nil)))
      (pss_one (ps_ret (pe_callTy call_tuple_of (by rfl) T.tuple_ (by decide +kernel) (pa_cons (pv 3) pa_nil)))))))), ?_⟩
    obtain ⟨a, rfl, a', wa, la, ws, ls, i, j0, e0, hd, ⟨z, t, e1, hz, hB⟩, q⟩ := h
    cases e0
    walk_at "rd"
    refine callM hd e1 fun H1 k1 hd1 => ⟨by decide, fun p hp => ?_⟩
    have kp : Kp [] H1 (upd H1 p (.lst [])) := Kp.refl.new hp
    have hd2 := hd1.kp kp
    have hp2 : upd H1 p (.lst []) p = some (.lst []) := upd_same
    have k12 := k1.trans kp.nil
    have e2 := (drop_at e1).2
    generalize upd H1 p (.lst []) = H2 at kp hd2 hp2 k12 ⊢
    refine ⟨fun mm σ H' => σ = [some (V.ref a), some (V.int (most : Nat)), some (V.ref fe), some (V.ref p)] ∧ H' = H2, ⟨0, rfl, rfl⟩, ?_⟩
    rintro mm σ H' ⟨rfl, rfl⟩
    walk_at "rd"
    refine callX hd2 e2 ?_
    rw [decide_eq_false hz]
    walk_at "rd"
    refine ⟨fun _ _ => False, (fun _ _ h => h.elim), _, lenV_L (SqL.of hp2), _, rfl, (fun _ => ?_), (fun z => absurd (by simp; omega) (of_decide_eq_false z))⟩
    exact ⟨tyV_L hp2, a, wa, la, ws, ls, _, _, rfl, hd2, by rw [e2]; exact hB, fun H3 k3 => q H3 (k12.trans k3)⟩
/-! ### what the words tell of entries and parents -/
theorem iS_inj {i j : Int} (hi : okI i = true) (hj : okI j = true) (h : iS i = iS j) : i = j := by
  have h1 := iS_nat (okI_ge hi).1
  have h2 := iS_nat (okI_ge hj).1
  rw [show Str.ofString (toString i) = iS i from rfl, h] at h1
  rw [show Str.ofString (toString j) = iS j from rfl] at h2
  have h3 := Fw.numL_val i.toNat
  rw [← h1, h2, Fw.numL_val] at h3
  have := (okI_ge hi).1
  have := (okI_ge hj).1
  omega
theorem flat_pairs : ∀ {es fs : List (Str × Int)}, (∀ p ∈ es, okI p.2 = true) → (∀ p ∈ fs, okI p.2 = true) → es.flatMap (fun p => [p.1, iS p.2]) = fs.flatMap (fun p => [p.1, iS p.2]) → es = fs
  | [], [], _, _, _ => rfl
  | [], _ :: _, _, _, h => by simp at h
  | _ :: _, [], _, _, h => by simp at h
  | (z, i) :: es, (y, j) :: fs, h1, h2, h => by
    simp only [List.flatMap_cons, List.cons_append, List.nil_append, List.cons.injEq] at h
    obtain ⟨e1, e2, e3⟩ := h
    have e4 := iS_inj (h1 (z, i) (by simp)) (h2 (y, j) (by simp)) e2
    have e5 := flat_pairs (fun p hp => h1 p (List.mem_cons_of_mem _ hp)) (fun p hp => h2 p (List.mem_cons_of_mem _ hp)) e3
    simp only at e4
    subst e1 e4 e5
    rfl
theorem flat_ints : ∀ {es fs : List Int}, (∀ p ∈ es, okI p = true) → (∀ p ∈ fs, okI p = true) → es.map iS = fs.map iS → es = fs
  | [], [], _, _, _ => rfl
  | [], _ :: _, _, _, h => by simp at h
  | _ :: _, [], _, _, h => by simp at h
  | i :: es, j :: fs, h1, h2, h => by
    simp only [List.map_cons, List.cons.injEq] at h
    rw [iS_inj (h1 i (by simp)) (h2 j (by simp)) h.1, flat_ints (fun p hp => h1 p (List.mem_cons_of_mem _ hp)) (fun p hp => h2 p (List.mem_cons_of_mem _ hp)) h.2]
theorem mid_inj {xs ys : List Str} {u v : Str} (h : [u] ++ xs ++ [v] = [u] ++ ys ++ [v]) : xs = ys := by
  have h1 := List.append_cancel_right h
  exact List.append_cancel_left h1
theorem isEn_of {v : V} {H : Hp} {es : List (Str × Int)} (hf : es.length ≤ 20) (ho : ∀ p ∈ es, okL p.1 = true ∧ okI p.2 = true) (hr : risesS (es.map (·.1)) = true) (h : IsL K (IsPr K) 20 v H (enW es) []) : IsEn K v H es := by
  obtain ⟨a, xs, its, rfl, hs, hm, hl, hD, e1, e2⟩ := h
  obtain ⟨fs, hfs, hlen, hok, hat⟩ : ∃ fs : List (Str × Int), its.flatMap (·.1) = fs.flatMap (fun p => [p.1, iS p.2]) ∧ fs.length = xs.length ∧ (∀ p ∈ fs, okI p.2 = true) ∧ ∀ (i : Nat) (x : V) (p : Str × Int), xs[i]? = some x → fs[i]? = some p → ∃ b, x = .ref b ∧ SqT K H b [.str p.1, .int p.2] := by
    clear hm e1 e2 hs
    induction xs generalizing its with
    | nil =>
      have : its = [] := List.eq_nil_of_length_eq_zero (by simpa using hl)
      subst this
      exact ⟨[], rfl, rfl, (fun p h => by cases h), (fun i x p h => by simp at h)⟩
    | cons x xs ih =>
      match its, hl with
      | q :: its, hl =>
        obtain ⟨b, z, i, ex, hb, hz, hi, eq1, _⟩ := hD 0 x q rfl rfl
        obtain ⟨fs, g1, g2, g3, g4⟩ := ih its (by simpa using hl) fun i y p h1 h2 => hD (i + 1) y p (by simpa using h1) (by simpa using h2)
        refine ⟨(z, i) :: fs, by rw [List.flatMap_cons, List.flatMap_cons, g1, eq1], by simp [g2], fun p hp => ?_, fun j y p h1 h2 => ?_⟩
        · rcases List.mem_cons.mp hp with rfl | hp
          · exact hi
          · exact g3 p hp
        · cases j with
          | zero =>
            cases h1
            cases h2
            exact ⟨b, ex, hb⟩
          | succ j => exact g4 j y p (by simpa using h1) (by simpa using h2)
  have e3 : es.flatMap (fun p => [p.1, iS p.2]) = fs.flatMap (fun p => [p.1, iS p.2]) := by
    rw [← hfs]
    exact mid_inj e1
  have e4 := flat_pairs (fun p hp => (ho p hp).2) hok e3
  subst e4
  exact ⟨⟨a, xs, rfl, hs, by omega, hat⟩, hf, ho, hr⟩
theorem isIs_of {v : V} {H : Hp} {ns : List Int} (ho : ∀ p ∈ ns, okI p = true) (h : IsL K IsI 4 v H (isW ns) []) : IsIs K v H ns := by
  obtain ⟨a, xs, its, rfl, hs, hm, hl, hD, e1, e2⟩ := h
  obtain ⟨fs, hfs, hok, hat⟩ : ∃ fs : List Int, its.flatMap (·.1) = fs.map iS ∧ (∀ p ∈ fs, okI p = true) ∧ xs = fs.map V.int := by
    clear hm e1 e2 hs
    induction xs generalizing its with
    | nil =>
      have : its = [] := List.eq_nil_of_length_eq_zero (by simpa using hl)
      subst this
      exact ⟨[], rfl, (fun p h => by cases h), rfl⟩
    | cons x xs ih =>
      match its, hl with
      | q :: its, hl =>
        obtain ⟨i, ex, hi, eq1, _⟩ := hD 0 x q rfl rfl
        obtain ⟨fs, g1, g3, g4⟩ := ih its (by simpa using hl) fun i y p h1 h2 => hD (i + 1) y p (by simpa using h1) (by simpa using h2)
        refine ⟨i :: fs, by rw [List.flatMap_cons, List.map_cons, g1, eq1]; rfl, fun p hp => ?_, by rw [ex, g4]; rfl⟩
        rcases List.mem_cons.mp hp with rfl | hp
        · exact hi
        · exact g3 p hp
  have e3 : ns.map iS = fs.map iS := by
    rw [← hfs]
    exact mid_inj e1
  have e4 := flat_ints ho hok e3
  subst e4
  subst hat
  exact ⟨⟨a, rfl, hs⟩, ho⟩
theorem sc_get_content : FnScope ["desk", "word", "many", "entries", "parents", "root", "label", "name"] ["desk"] (defScope s_get_content) := ⟨rfl, rfl, rfl, by decide +kernel, rfl, by decide +kernel, by decide +kernel⟩
theorem ok_get_content (T : Txt K w mg CN CB CH) (F : At K mg "get_content" s_get_content ["desk"]) {f_pr f_i : Addr} (h_get_pair : mg "get_pair" = some (.ref f_pr)) (h_get_int : mg "get_int" = some (.ref f_i)) (G_need : Dfn P w K mg base 1 "need" ["good"] (spNeed CN)) (G_rises : Dfn P w K mg base 1 "rises" ["things"] (spRises K)) (M_next_word : Dfm P w K mg base 1 CD "next_word" ["self"] (spNext CD CN)) (M_next_lines : Dfm P w K mg base 3 CD "next_lines" ["self", "many"] (spNextLines K CD)) (G_get_int : Dfn P w K mg base 2 "get_int" ["desk"] (fun vs H Q E => spGet K CD IsI 0 40 vs H Q E ∨ spBad CD CN BadI vs H Q E))
    (G_get_list_pr : Dfn P w K mg base 7 "get_list" ["desk", "most", "each"] (spGetL K CD f_pr (IsPr K) 20 1 1000)) (G_get_list_i : Dfn P w K mg base 7 "get_list" ["desk", "most", "each"] (spGetL K CD f_i IsI 4 0 40)) : Dfn P w K mg base 8 "get_content" ["desk"] (spGet K CD (IsCo K) 3 90000) := by
  refine F.ok sc_get_content (fun vs H Q E h => h.len) (fun qual f cdv A outer s H vs Q E hr h => ?_)
  refine ⟨_, (pss_cons (ps_set (i := 1) sc_get_content.nd rfl (Or.inl rfl) (Fw.pe_m0 M_next_word hr (passes_call (takes_of rfl rfl rfl rfl) (fun _ _ _ _ h => h)) (pv 0)))
      (pss_cons (ps_if (pt_cmpR op_eq (pv 1) pe_str (nomark _)) (pss_cons (ps_set (i := 2) sc_get_content.nd rfl (Or.inl rfl) (pe_fnE G_get_int hr (passes_call (takes_of rfl rfl rfl rfl) (fun _ _ _ _ h => h)) (pa_cons (pv 0) pa_nil)))
      (pss_one (ps_ret (pe_tup (pa_cons pe_str (pa_cons (Fw.pe_m M_next_lines hr (passes_call (takes_of rfl rfl rfl rfl) (fun _ _ _ _ h => h)) (pv 0) (pa_cons (pv 2) pa_nil)) pa_nil)))))) pss_nil)
      (pss_cons (ps_if (pt_cmpR op_eq (pv 1) pe_str (nomark _)) (pss_cons (ps_set (i := 3) sc_get_content.nd rfl (Or.inl rfl) (pe_fnE G_get_list_pr hr (passes_call (takes_of rfl rfl rfl rfl) (fun _ _ _ _ h => h)) (pa_cons (pv 0) (pa_cons pe_int (pa_cons (pe_cr rfl h_get_pair) pa_nil)))))
      (pss_cons (ps_expr (pe_fnE G_need hr (passes_call (takes_of rfl rfl rfl rfl) (fun _ _ _ _ h => h)) (pa_cons (pe_fn G_rises hr (pa_cons (pe_lc (own := [("name", 7), ("label", 6)]) (g := gTup K 2 (gCons (gName 6) (gCons (gName 7) gNil))) (tt := tYes) rfl sc_get_content.nd (pi_tup (pv 3)) (blkOk_by (N := ["desk", "word", "many", "entries", "parents", "root", "label", "name"]) (sc := defScope s_get_content) (by decide +kernel)) (fun _ _ _ _ _ => (pg_tup rfl (pgs_cons (pg_name (i := 6) sc_get_content.nd rfl (Or.inl rfl) (hf := Or.inr rfl)) (pgs_cons (pg_name (i := 7) sc_get_content.nd rfl (Or.inl rfl) (hf := Or.inr rfl)) pgs_nil)))) (fun _ _ _ _ _ => pts_nil) (fun _ _ _ _ _ => (pv 6))) pa_nil)) pa_nil)))
      (pss_one (ps_ret (pe_tup (pa_cons pe_str (pa_cons (pv 3) pa_nil))))))) pss_nil)
      (pss_cons (ps_expr (pe_fnE G_need hr (passes_call (takes_of rfl rfl rfl rfl) (fun _ _ _ _ h => h)) (pa_cons (pe_cmpR op_eq (pv 1) pe_str (nomark _)) pa_nil)))
      (pss_cons (ps_set (i := 4) sc_get_content.nd rfl (Or.inl rfl) (pe_fnE G_get_list_i hr (passes_call (takes_of rfl rfl rfl rfl) (fun _ _ _ _ h => h)) (pa_cons (pv 0) (pa_cons pe_int (pa_cons (pe_cr rfl h_get_int) pa_nil)))))
      (pss_cons (ps_expr (pe_fnE G_need hr (passes_call (takes_of rfl rfl rfl rfl) (fun _ _ _ _ h => h)) (pa_cons (pe_fn G_rises hr (pa_cons (pv 4) pa_nil)) pa_nil)))
      (pss_cons (ps_set (i := 5) sc_get_content.nd rfl (Or.inl rfl) (pe_fnE G_get_int hr (passes_call (takes_of rfl rfl rfl rfl) (fun _ _ _ _ h => h)) (pa_cons (pv 0) pa_nil)))
      (pss_one (ps_ret (pe_tup (pa_cons pe_str (pa_cons (pv 4) (pa_cons (pv 5) (pa_cons (pe_fnE G_get_int hr (passes_call (takes_of rfl rfl rfl rfl) (fun _ _ _ _ h => h)) (pa_cons (pv 0) pa_nil)) pa_nil)))))))))))))), ?_⟩
  obtain ⟨a, wa, la, ws, ls, i, j, v, nw, nl, rw, rl, rfl, hd, ⟨b, rfl, ⟨r, hb, hz, rfl⟩ | ⟨e, es, hb, he, rfl, rfl⟩ | ⟨ps, ns, r, t, hb, hp, hn4, hri, hr1, hr2, rfl, rfl⟩⟩, e1, e2, q⟩ := h
  · walk_at "rd"
    refine callN hd e1 fun H1 k1 hd1 => ⟨rfl, ?_⟩
    rw [if_pos rfl]
    obtain ⟨ra, rfl, hra, h40, hok⟩ := hz
    refine callI hd1 (okI_nat (by omega)) (drop_at e1).2 fun H2 k2 hd2 => ?_
    obtain ⟨dx, h1, h2, h3⟩ := id hd2.ex
    refine ⟨_, _, h1, rfl, a, wa, la, ws, ls, _, _, nl, rl, rfl, hd2, h40, hok, e2, fun H3 p k3 hd3 hp => ⟨by decide, fun p2 hp2 => ?_⟩⟩
    have k4 : Kp [] H3 (upd H3 p2 (.tup [.str ("leaf" : Str), .ref p])) := Kp.refl.new hp2
    have k14 := ((k1.trans k2).trans k3).trans k4.nil
    exact q _ _ k14 (hd3.kp k4) ⟨p2, rfl, .inl ⟨.ref p, .inl (.inl upd_same), ⟨p, rfl, k4.tup hp, h40, hok⟩, rfl⟩⟩
      ((Al.t2 (k := 1) (m := 16163) (k14.tup hb) (.inl (.inl upd_same)) ((Al.lit (by decide +kernel) (by decide +kernel)).mono (by decide) (by decide)) (Al.rows (k14.tup hra) (k4.tup hp) h40 hok)).mono (by decide) (by decide))
  · walk_at "rd"
    refine callN hd e1 fun H1 k1 hd1 => ⟨rfl, ?_⟩
    rw [if_neg (by decide +kernel)]
    refine ⟨rfl, ?_⟩
    rw [if_pos rfl]
    refine ⟨a, rfl, a, wa, la, ws, ls, _, _, e, _, _, rw, rl, rfl, hd1, (he.kp k1).isL, (drop_at e1).2, e2, fun H2 v2 k2 hd2 hL al => ?_⟩
    have he2 := isEn_of he.few he.ok he.rise hL
    obtain ⟨t, xs, rfl, hts, hxl, hx⟩ := he2.ex
    have hfew := he.few
    refine ⟨_, rfl, t, rfl, ⟨xs, hts⟩, fun D hD => ?_⟩
    refine lc_pairG (n := xs.length) (fx := fun i => (es.map (fun p => V.str p.1))[i]?) (fy := fun i => (es.map (fun p => V.int p.2))[i]?) walk_tup (fun i v H5 H6 k5 y => ?_) hD (by omega) (fun _ _ => rfl) (fun i v _ => (es.map (fun p => V.str p.1))[i]? = some v) (fun _ _ _ _ r _ => r) (fun H5 k5 => k5.tup hts)
      (fun i x y H5 Q5 hi k5 h1 h2 q5 => ⟨_, rfl, q5 _ H5 Kp.refl h1⟩) (fun H5 ys k5 e5 l5 r5 => ?_)
    · obtain ⟨rfl, y⟩ := y
      have hi : i < es.length := by have := (List.getElem?_eq_some_iff.mp y).1; omega
      have he : es[i]? = some es[i] := List.getElem?_eq_getElem hi
      obtain ⟨b, rfl, hb⟩ := hx i v _ y he
      exact ⟨Kp.refl, b, _, _, rfl, k5.tup hb, by simp [he], by simp [he]⟩
    · have ey : ys = (es.map (·.1)).map V.str := by
        rw [List.map_map]
        apply List.ext_getElem?
        intro i
        cases h : ys[i]? with
        | some y => exact (r5 i y h).symm
        | none =>
          have := List.getElem?_eq_none_iff.mp h
          rw [List.getElem?_eq_none (by simp; omega)]
      rw [ey] at e5
      refine .inr ⟨D, es.map (·.1), rfl, SqL.of e5, by simp; omega, fun H7 k7 => ⟨_, rfl, (fun _ => ⟨by decide, fun p2 hp2 => ?_⟩), (fun n => by rw [he.rise] at n; cases n)⟩⟩
      have k8 : Kp [] H7 (upd H7 p2 (.tup [.str ("tree" : Str), .ref t])) := Kp.refl.new hp2
      have k28 : Kp [] H2 (upd H7 p2 (.tup [.str ("tree" : Str), .ref t])) := (k5.trans k7).trans k8
      have k18 := (k1.trans k2).trans k28.nil
      have hw : i + 1 + (enW es).length = i + (("tree" : Str) :: enW es).length := by
        rw [List.length_cons]
        omega
      refine q _ _ k18 (by rw [← hw]; exact hd2.kp k28) ⟨p2, rfl, .inr (.inl ⟨.ref t, es, .inl (.inl upd_same), he2.kp k28, rfl, rfl⟩)⟩ ((Al.t2 (k := 2) (m := 20043) (k18.tup hb) (.inl (.inl upd_same)) ((Al.lit (by decide +kernel) (by decide +kernel)).mono (by decide) (by decide)) (al.kp k28)).mono (by decide) (by decide))
  · walk_at "rd"
    refine callN hd e1 fun H1 k1 hd1 => ⟨rfl, ?_⟩
    rw [if_neg (by decide +kernel)]
    refine ⟨rfl, ?_⟩
    rw [if_neg (by decide +kernel)]
    refine ⟨rfl, _, rfl, (fun _ => ?_), (fun z => by cases z)⟩
    have f1 : ws.drop (i + 1) = isW ns ++ ([iS r, iS t] ++ rw) := by
      have := (drop_at e1).2
      rw [this]
      exact List.append_assoc _ _ _
    refine ⟨a, rfl, a, wa, la, ws, ls, _, _, ps, _, _, _, rl, rfl, hd1, (hp.kp k1).isL hn4, f1, e2, fun H2 v2 k2 hd2 hL al => ?_⟩
    have hp2 := isIs_of hp.ok hL
    obtain ⟨t2, rfl, hts⟩ := hp2.ex
    refine .inl ⟨t2, ns, rfl, hts, by omega, fun H3 k3 => ⟨_, rfl, (fun _ => ?_), (fun n => by rw [hri] at n; cases n)⟩⟩
    have f2 := drop_app f1
    refine callI (hd2.kp k3) hr1 f2 fun H4 k4 hd4 => ?_
    refine callI hd4 hr2 (drop_at f2).2 fun H5 k5 hd5 => ⟨by decide, fun p2 hp3 => ?_⟩
    have k6 : Kp [] H5 (upd H5 p2 (.tup [.str ("version" : Str), .ref t2, .int r, .int t])) := Kp.refl.new hp3
    have k36 := k3.nil.trans ((k4.trans k5).trans k6.nil)
    have k16 := (k1.trans k2).trans k36
    have hw : i + 1 + (isW ns).length + 1 + 1 = i + (("version" : Str) :: (isW ns ++ [iS r, iS t])).length := by
      simp only [List.length_cons, List.length_append, List.length_nil]
      omega
    refine q _ _ k16 (by rw [← hw]; exact hd5.kp k6) ⟨p2, rfl, .inr (.inr ⟨.ref t2, ns, r, t, .inl (.inl upd_same), hp2.kp k36, hn4, hri, hr1, hr2, rfl, rfl⟩)⟩
      ((Al.t4 (k := 1) (m := 402) (k16.tup hb) (.inl (.inl upd_same)) ((Al.lit (by decide +kernel) (by decide +kernel)).mono (by decide) (by decide)) ((al.kp k36).mono (by decide) (by decide)) ((Al.kI hr1).mono (by decide) (by decide)) ((Al.kI hr2).mono (by decide) (by decide))).mono (by decide) (by decide))
theorem sc_get_pack : FnScope ["desk", "name", "word", "base"] ["desk"] (defScope s_get_pack) := ⟨rfl, rfl, rfl, by decide +kernel, rfl, by decide +kernel, by decide +kernel⟩
theorem ok_get_pack (T : Txt K w mg CN CB CH) (F : At K mg "get_pack" s_get_pack ["desk"]) {f_pc : Addr} (h_get_piece : mg "get_piece" = some (.ref f_pc)) (G_need : Dfn P w K mg base 1 "need" ["good"] (spNeed CN)) (M_next_word : Dfm P w K mg base 1 CD "next_word" ["self"] (spNext CD CN)) (G_get_int : Dfn P w K mg base 2 "get_int" ["desk"] (fun vs H Q E => spGet K CD IsI 0 40 vs H Q E ∨ spBad CD CN BadI vs H Q E)) (G_get_content : Dfn P w K mg base 8 "get_content" ["desk"] (spGet K CD (IsCo K) 3 90000))
    (G_get_list_pc : Dfn P w K mg base 7 "get_list" ["desk", "most", "each"] (spGetL K CD f_pc (IsPc K) 40 2 32333)) : Dfn P w K mg base 9 "get_pack" ["desk"] (fun vs H Q E => spGet K CD (IsPk K) 4 5173623 vs H Q E ∨ spBad CD CN BadI vs H Q E) := by
  refine F.ok sc_get_pack (fun vs H Q E h => h.elim spGet.len spBad.len) (fun qual f cdv A outer s H vs Q E hr h => ?_)
  refine ⟨_, (pss_cons (ps_set (i := 1) sc_get_pack.nd rfl (Or.inl rfl) (pe_fnE G_get_int hr (passes_call (takes_of rfl rfl rfl rfl) (fun _ _ _ _ h => h)) (pa_cons (pv 0) pa_nil)))
      (pss_cons (ps_set (i := 2) sc_get_pack.nd rfl (Or.inl rfl) (Fw.pe_m0 M_next_word hr (passes_call (takes_of rfl rfl rfl rfl) (fun _ _ _ _ h => h)) (pv 0)))
      (pss_cons (ps_if (pt_cmpR op_eq (pv 2) pe_str (nomark _)) (pss_one (ps_ret (pe_tup (pa_cons (pv 1) (pa_cons pe_str (pa_cons (pe_fnE G_get_content hr (passes_call (takes_of rfl rfl rfl rfl) (fun _ _ _ _ h => h)) (pa_cons (pv 0) pa_nil)) pa_nil)))))) pss_nil)
      (pss_cons (ps_expr (pe_fnE G_need hr (passes_call (takes_of rfl rfl rfl rfl) (fun _ _ _ _ h => h)) (pa_cons (pe_cmpR op_eq (pv 2) pe_str (nomark _)) pa_nil)))
      (pss_cons (ps_set (i := 3) sc_get_pack.nd rfl (Or.inl rfl) (pe_fnE G_get_int hr (passes_call (takes_of rfl rfl rfl rfl) (fun _ _ _ _ h => h)) (pa_cons (pv 0) pa_nil)))
      (pss_one (ps_ret (pe_tup (pa_cons (pv 1) (pa_cons pe_str (pa_cons (pv 3) (pa_cons (pe_fnE G_get_list_pc hr (passes_call (takes_of rfl rfl rfl rfl) (fun _ _ _ _ h => h)) (pa_cons (pv 0) (pa_cons (pe_ci rfl T.ROWS) (pa_cons (pe_cr rfl h_get_piece) pa_nil)))) pa_nil)))))))))))), ?_⟩
  rcases h with ⟨a, wa, la, ws, ls, i, j, v, nw, nl, rw, rl, rfl, hd, ⟨b, nm, rfl, hn, ⟨c, cw, hb, hc, rfl⟩ | ⟨bs, ps, pw, hb, hbs, hp, rfl⟩⟩, e1, e2, q⟩ | ⟨a, wa, la, ws, ls, i, j, rfl, hd, hB, q⟩
  · walk_at "rd"
    refine callI hd hn e1 fun H1 k1 hd1 => ?_
    have f1 := (drop_at e1).2
    refine callN hd1 f1 fun H2 k2 hd2 => ⟨rfl, ?_⟩
    rw [if_pos rfl]
    refine ⟨a, wa, la, ws, ls, _, _, c, cw, nl, rw, rl, rfl, hd2, stb_Co _ _ _ _ _ _ (k1.trans k2) hc, (drop_at f1).2, e2, fun H3 v3 k3 hd3 hc3 al => ⟨by decide, fun p2 hp2 => ?_⟩⟩
    have k4 : Kp [] H3 (upd H3 p2 (.tup [.int nm, .str ("plain" : Str), v3])) := Kp.refl.new hp2
    have k14 := ((k1.trans k2).trans k3).trans k4.nil
    have hw : i + 1 + 1 + cw.length = i + (iS nm :: ("plain" : Str) :: cw).length := by
      simp only [List.length_cons]
      omega
    refine q _ _ k14 (by rw [← hw]; exact hd3.kp k4) ⟨p2, nm, rfl, hn, .inl ⟨v3, cw, .inl (.inl upd_same), stb_Co _ _ _ _ _ _ k4 hc3, rfl⟩⟩
      ((Al.t3 (k := 3) (m := 90000) (k14.tup hb) (.inl (.inl upd_same)) ((Al.kI hn).mono (by decide) (by decide)) ((Al.lit (by decide +kernel) (by decide +kernel)).mono (by decide) (by decide)) (al.kp k4)).mono (by decide) (by decide))
  · walk_at "rd"
    refine callI hd hn e1 fun H1 k1 hd1 => ?_
    have f1 := (drop_at e1).2
    refine callN hd1 f1 fun H2 k2 hd2 => ⟨rfl, ?_⟩
    rw [if_neg (by decide +kernel)]
    refine ⟨rfl, _, rfl, (fun _ => ?_), (fun z => by cases z)⟩
    have f2 := (drop_at f1).2
    refine callI hd2 hbs f2 fun H3 k3 hd3 => ?_
    have f3 := (drop_at f2).2
    refine ⟨a, rfl, a, wa, la, ws, ls, _, _, ps, pw, nl, rw, rl, rfl, hd3, stb_IsL_Pc _ _ _ _ _ _ ((k1.trans k2).trans k3) hp, f3, e2, fun H4 v4 k4 hd4 hp4 al => ⟨by decide, fun p2 hp2 => ?_⟩⟩
    have k5 : Kp [] H4 (upd H4 p2 (.tup [.int nm, .str ("over" : Str), .int bs, v4])) := Kp.refl.new hp2
    have k15 := (((k1.trans k2).trans k3).trans k4).trans k5.nil
    have hw : i + 1 + 1 + 1 + pw.length = i + (iS nm :: ("over" : Str) :: iS bs :: pw).length := by
      simp only [List.length_cons]
      omega
    refine q _ _ k15 (by rw [← hw]; exact hd4.kp k5) ⟨p2, nm, rfl, hn, .inr ⟨bs, v4, pw, .inl (.inl upd_same), hbs, stb_IsL_Pc _ _ _ _ _ _ k5 hp4, rfl⟩⟩
      ((Al.t4 (k := 3) (m := 1293403) (k15.tup hb) (.inl (.inl upd_same)) ((Al.kI hn).mono (by decide) (by decide)) ((Al.lit (by decide +kernel) (by decide +kernel)).mono (by decide) (by decide)) ((Al.kI hbs).mono (by decide) (by decide)) (al.kp k5)).mono (by decide) (by decide))
  · walk_at "rd"
    exact .inr ⟨a, wa, la, ws, ls, i, j, rfl, hd, hB, q⟩
end
end Kq
set_option Elab.async false
set_option linter.all false
set_option maxRecDepth 100000
set_option maxHeartbeats 4000000
namespace Kq
open PySem PySem.Spec PyProof.Rows L2 Fw TL
local macro_rules | `(tactic| walk_at "rd") => `(tactic| try simp only [tMeth, tMake, tFld, sFld, sFldAug, gStar, tMethT, tCallVT, rNewStrs, tSeq, tNext, tBreak, tCont, tDrop, tRet, tRetN, tIfS, tAsg, tVar, tC, tOp, tUn, tTest, tB, tAnd, tOr, tNot, tAndV, tOrV, tNotV, tIf, tChain, tCB, tCons, tNil, tTup, tLst, tCall, tCallS, WE,
  gName, gSub, rI, rI0, rU, rEq, rNe, rIsiC, tSl, tPart, tNoPart, rSetL, tBM, tBM0, rAppend, rExtend, rExtendT, tCallL, L2.start, List.map_cons, List.map_nil, List.length_cons, List.length_nil, Nat.sub_self, Nat.reduceAdd, Nat.reduceSub, List.replicate_zero, List.replicate_succ, List.append_nil, List.nil_append, List.cons_append,
  List.getElem?_cons_zero, List.getElem?_cons_succ, List.set_cons_zero, List.set_cons_succ, Option.some.injEq, exists_eq_left', exists_eq_left, exists_eq_right, exists_eq_right', exists_const, exists_and_left, exists_and_right, V.int.injEq, V.bl.injEq, V.str.injEq, V.ref.injEq, V.ty.injEq, List.cons.injEq, and_true, true_and, and_assoc, reduceCtorEq, false_and, and_false, exists_false, false_or, or_false,
  if_true, if_false, Bool.not_true, Bool.not_false, Bool.false_eq_true, Bool.true_eq_false, ↓reduceIte, decide_eq_true_eq, decide_true, decide_false, sc_nn, sc_ni, sc_in, sc_nb, sc_bn, sc_ns, sc_sn, sc_ii, sc_bb, sc_ss, sc_is, sc_si, sc_bs, sc_sb, ipI, Int.reduceLT, Int.reduceLE, Int.reduceEq, Nat.reduceLT, Nat.reduceEqDiff, String.reduceEq, nc0, nc1, nc2, nc3, nc4, nc5, nc6, nc7, nc8, nc9, nc10, nc11, nc12, cx_K, cx_w, wipe, lenV_str, rCat, exists_eq, exists_eq', relO, relC, relM, relI, relSl, spOf, ciOf, csOf, crOf, L2.rIxD, eq_self, not_true_eq_false, not_false_eq_true, Option.isSome_some, Option.isSome_none, tCallV, ofS_inj, sg_inj, sg_len, sg_lt, tM1, tM0, tLc_rng1, tLc_rng2, tFor_rng1, tFor_rng2, tDNewK, sDPut,  Nat.reduceLeDiff, Bool.not_eq_true', decide_eq_false_iff_not,
  isi_int_int, isi_int_bool, isi_int_str, isi_int_tuple, isi_int_list, isi_int_dict, isi_bool_int, isi_bool_bool, isi_bool_str, isi_bool_tuple, isi_bool_list, isi_bool_dict, isi_str_int, isi_str_bool, isi_str_str, isi_str_tuple, isi_str_list, isi_str_dict, isi_non_int, isi_non_bool, isi_non_str, isi_non_tuple, isi_non_list, isi_non_dict])
local macro_rules | `(tactic| walk_at "ix") => `(tactic| (refine ixT (by assumption) rfl ?_; walk_at "rd"))
local macro_rules | `(tactic| walk_at "len") => `(tactic| (refine ⟨_, lenV_T (by assumption), ?_⟩; walk_at "rd"))
local macro_rules | `(tactic| walk_at "isT") => `(tactic| (refine ⟨true, isiT (by assumption), ?_⟩; walk_at "rd"))

section
variable {P : Program} {w : World} {K : PySem.W.Frag} {mg : Str → Option Value} {base : Heap} {CN CB CH CD : Addr}
def nmG : Kd → Str
  | .nInts => "get_int"
  | .nInt => "get_int"
  | .nLabels => "get_label"
  | .nTruth => "get_truth"
  | .nTruths => "get_truth"
  | .nMarks => "get_pair"
  | .nPack => "get_pack"
def szK : Kd → Nat
  | .nPack => 5173623
  | _ => 401000
def BadK : Kd → List Str → Prop
  | .nInts => BadL BadI
  | .nInt => BadI
  | .nTruths => BadL BadB
  | .nTruth => BadB
  | .nPack => BadI
  | _ => fun _ => False
/-- the tables of the module -/
structure Txt5 (K : PySem.W.Frag) (w : World) (mg : Str → Option Value) (aE aP : Addr) (esE esP : Array DictEntry) (nE nP : Nat) (f : Kd → Addr) : Prop where
  GETS_EACH : mg "GETS_EACH" = some (.ref aE)
  GETS : mg "GETS" = some (.ref aP)
  dE : KDict K w aE esE nE
  dP : KDict K w aP esP nP
  at_ : ∀ k, mg (nmG k) = some (.ref (f k))
  eIn : ∀ k, eachK k = true → PySem.W.nsIn K aE (kdS k) = some (some (.ref (f k)))
  eNot : ∀ k, eachK k = false → PySem.W.nsIn K aE (kdS k) = some none
  pIn : ∀ k, eachK k = false → PySem.W.nsIn K aP (kdS k) = some (some (.ref (f k)))
theorem Txt5.kE {aE aP : Addr} {esE esP : Array DictEntry} {nE nP : Nat} {f : Kd → Addr} (T : Txt5 K w mg aE aP esE esP nE nP f) {k : Kd} (h : eachK k = true) : KDct K w aE (kdS k) (.ref (f k)) := ⟨_, _, _, T.dE.at_, T.dE.lit, T.eIn k h, rfl⟩
theorem Txt5.kP {aE aP : Addr} {esE esP : Array DictEntry} {nE nP : Nat} {f : Kd → Addr} (T : Txt5 K w mg aE aP esE esP nE nP f) {k : Kd} (h : eachK k = false) : KDct K w aP (kdS k) (.ref (f k)) := ⟨_, _, _, T.dP.at_, T.dP.lit, T.pIn k h, rfl⟩
def spGetK (K : PySem.W.Frag) (CD CN : Addr) (k : Kd) : Sp := fun vs H Q E => spGet K CD (WrK K k) 4 (szK k) vs H Q E ∨ spBad CD CN (BadK k) vs H Q E
/-- the defs that a deed may be -/
def SGet (K : PySem.W.Frag) (CD CN : Addr) (f : Kd → Addr) : Addr → Sp → Prop := fun a sp => ∃ k, eachK k = false ∧ a = f k ∧ sp = spGetK K CD CN k
/-- get_list as row_by calls it -/
def spGets (K : PySem.W.Frag) (CD CN : Addr) (f : Kd → Addr) : Sp := fun vs H Q E => ∃ a k, eachK k = true ∧ vs = [.ref a, .int 400, .ref (f k)] ∧ spGetK K CD CN k [.ref a] H Q E
structure AlP (K : PySem.W.Frag) (H : Hp) (ks : List Kd) (ps ps' : List V) : Prop where
  len : ps.length = ps'.length
  at_ : ∀ (i : Nat) (x y : V) (k : Kd), ps[i]? = some x → ps'[i]? = some y → ks[i]? = some k → Al K H x y 4 (szK k)
def spRowBy (K : PySem.W.Frag) : Sp := fun vs H Q _ => ∃ (t word : Str) (c : Addr) (ks : List Kd) (ws ls : List Str), vs = [.str t, .str word, .ref c] ∧ Says t ws ls ∧ SqT K H c (ks.map fun k => .str (kdS k)) ∧ ks.length ≤ 10 ∧
  ((ws[0]? ≠ some word ∧ ∀ H', Kp [] H H' → Q .non H') ∨
   (∃ ps its rw rl, ws = word :: (its.flatMap (·.1) ++ rw) ∧ ls = its.flatMap (·.2) ++ rl ∧ Parts K H ks ps its ∧ ((rw ≠ [] ∨ rl ≠ []) → ∀ H', Kp [] H H' → Q .non H') ∧
      (rw = [] → rl = [] → ∀ H' p ps', Kp [] H H' → SqT K H' p (.str word :: ps') → Parts K H' ks ps' its → AlP K H' ks ps ps' → Q (.ref p) H')) ∨
   (∃ ps its ks1 kb ks2 rw rl, ks = ks1 ++ kb :: ks2 ∧ ws = word :: (its.flatMap (·.1) ++ rw) ∧ ls = its.flatMap (·.2) ++ rl ∧ Parts K H ks1 ps its ∧ BadK kb rw ∧ ∀ H', Kp [] H H' → Q .non H'))
theorem sc_row_by : FnScope ["text", "word", "kinds", "desk", "row", "kind", "deed"] ["text", "word", "kinds"] (defScope s_row_by) := ⟨rfl, rfl, rfl, by decide +kernel, rfl, by decide +kernel, by decide +kernel⟩
theorem ok_row_by (T : Txt K w mg CN CB CH) {aE aP : Addr} {esE esP : Array DictEntry} {nE nP : Nat} {T5f : Kd → Addr} (T5 : Txt5 K w mg aE aP esE esP nE nP T5f) (F : At K mg "row_by" s_row_by ["text", "word", "kinds"]) (xNN : PySem.W.exmOne K (.ref CN) (.ref CN) = some true) (C_Desk : Dfc P w K mg base 1 "Desk" CD ["self", "text"] (spDeskI CD))
    (M_need : Dfm P w K mg base 2 CD "need" ["self", "word"] (spNeedM CD CN)) (M_is_done : Dfm P w K mg base 1 CD "is_done" ["self"] (spIsDone CD))
    (G_get_list : Dfn P w K mg base 7 "get_list" ["desk", "most", "each"] (spGets K CD CN T5f)) (hDeed : ∀ f sp, SGet K CD CN T5f f sp → Hd P w K mg base 9 f sp) : Dfn P w K mg base 11 "row_by" ["text", "word", "kinds"] (spRowBy K) := by
  refine F.ok sc_row_by (fun vs H Q E h => ?_) (fun qual f cdv A outer s H vs Q E hr h => ?_)
  · obtain ⟨t, word, c, ks, ws, ls, rfl, _⟩ := h
    rfl
  · refine ⟨_, (pss_cons (ps_set (i := 3) sc_row_by.nd rfl (Or.inl rfl) (pe_mk C_Desk hr (pa_cons (pv 0) pa_nil)))
      (pss_cons (ps_set (i := 4) sc_row_by.nd rfl (Or.inl rfl) (pe_lst (pa_cons (pv 1) pa_nil)))
      (pss_cons (ps_tryR rfl rfl ⟨rfl, by decide, .inl T.g_NoText⟩ takes0 (fun a oe cls d pn hz hf =>
      (pss_one (ps_ret pe_non))))
      (pss_cons (ps_if (pt_not (pt_val (Fw.pe_m0 M_is_done hr passL (pv 3)))) (pss_one (ps_ret pe_non)) pss_nil)
      (pss_one (ps_ret (pe_callTy call_tuple_of (by rfl) T.tuple_ (by decide +kernel) (pa_cons (pv 4) pa_nil)))))))), ?_⟩
    obtain ⟨t, word, c, ks, ws, ls, rfl, S, hc, hk10, h⟩ := h
    walk_at "rd"
    intro x dx hx hdx hne
    refine ⟨x, dx, t, ws, ls, rfl, upd_same, S, fun H1 wa la k1 hd1 => ⟨rfl, by decide, fun p hp => ?_⟩⟩
    have k0 : Kp [] H (upd (upd H dx (.own x)) x (.ins CD dx [])) := (Kp.refl.new hdx).new (by rw [upd_ne hne.symm]; exact hx)
    have k01 : Kp [] H H1 := k0.hide k1 fun m hm => .inr (by rw [List.mem_singleton.mp hm]; exact hx)
    obtain ⟨npx, npw, npl⟩ := hd1.ne hp
    have hp0 : H p = none := k01.free hp
    have k2 : Kp [] H1 (upd H1 p (.lst [V.str word])) := Kp.refl.new hp
    have hd2 := hd1.kp k2
    have hp2 : upd H1 p (.lst [V.str word]) p = some (.lst [V.str word]) := upd_same
    have k02 := k01.trans k2
    generalize upd H1 p (.lst [V.str word]) = H2 at k2 hd2 hp2 k02 ⊢
    have back : ∀ {H3}, Kp [x, p] H2 H3 → Kp [] H H3 := fun k => k02.hide k fun m hm => by
      simp only [List.mem_cons, List.not_mem_nil, or_false] at hm
      rcases hm with rfl | rfl
      · exact .inr hx
      · exact .inr hp0
    intro WW hWW
    refine ⟨(tSeq (tDrop (tMethT CD "need" (spM M_need) (WE WW) (tVar 3) (tCons (tVar 1) tNil))) (tFor (iTup K (tVar 2)) (gName 5) (tIfS (tTest (tOp (relO (X := cxOf (L2.CX P w) P w K mg base ["text", "word", "kinds", "desk", "row", "kind", "deed"] qual (defScope s_row_by) f cdv A outer s H E) (op_in_kd T5.dE)) (tVar 5) (tC (crOf T5.GETS_EACH)))) (tDrop (tBM K "list" rAppend (tVar 4) (tCons (tCallS (spOf G_get_list) (WE WW) (tCons (tVar 3) (tCons (tC (ciOf T.MANY)) (tCons (tOp (relI (X := cxOf (L2.CX P w) P w K mg base ["text", "word", "kinds", "desk", "row", "kind", "deed"] qual (defScope s_row_by) f cdv A outer s H E) ix_kdict) (tC (crOf T5.GETS_EACH)) (tVar 5)) tNil)))) tNil))) (tSeq (tAsg (tOp (relI (X := cxOf (L2.CX P w) P w K mg base ["text", "word", "kinds", "desk", "row", "kind", "deed"] qual (defScope s_row_by) f cdv A outer s H E) ix_kdict) (tC (crOf T5.GETS)) (tVar 5)) (gName 6)) (tDrop (tBM K "list" rAppend (tVar 4) (tCons (tCallVT 6 (SGet K CD CN T5f) (WE WW) (tCons (tVar 3) tNil)) tNil))))))), fun pn xe tk hp => (pss_cons (ps_expr (pe_mT M_need hr tk (pv 3) (pa_cons (pv 1) pa_nil)))
      (pss_one (ps_for hp rfl (pi_tup (pv 2)) (pg_name (i := 5) sc_row_by.nd rfl (Or.inl rfl)) (pss_one (ps_if (pt_cmpR (op_in_kd T5.dE) (pv 5) (pe_cr rfl T5.GETS_EACH) rfl) (pss_one (ps_expr (pe_bm PySem.F.plainAttrs_list PySem.F.slot_list_append PySem.F.type_list_append mt_append (pv 4) (pa_cons (pe_fnT G_get_list hr tk (pa_cons (pv 3) (pa_cons (pe_ci rfl T.MANY) (pa_cons (pe_ix ix_kdict (pe_cr rfl T5.GETS_EACH) (pv 5) (fun _ _ => rfl)) pa_nil)))) pa_nil)))) (pss_cons (ps_set (i := 6) sc_row_by.nd rfl (Or.inl rfl) (pe_ix ix_kdict (pe_cr rfl T5.GETS) (pv 5) (fun _ _ => rfl)))
      (pss_one (ps_expr (pe_bm PySem.F.plainAttrs_list PySem.F.slot_list_append PySem.F.type_list_append mt_append (pv 4) (pa_cons (pe_callVT (i := 6) (S := SGet K CD CN T5f) hDeed hr tk rfl (Or.inl rfl) (pa_cons (pv 3) pa_nil)) pa_nil)))))))))), ?_⟩
    walk_at "rd"
    rcases h with ⟨hA, q⟩ | h
    · obtain ⟨dx2, h1, h2, h3⟩ := id hd2.ex
      refine ⟨_, _, h1, rfl, x, word, wa, la, ws, ls, 0, 0, rfl, hd2, fun e => absurd e hA, fun _ H3 k3 => ?_⟩
      show WW (.ref CN) none _ H3
      rw [hWW]
      refine ⟨true, xNN, fun _ e he => ?_, fun z => by cases z⟩
      exact q H3 (back (k3.mono (by simp)))
    · have h : ∃ ps its ks1 rw rl, ws = word :: (its.flatMap (·.1) ++ rw) ∧ ls = its.flatMap (·.2) ++ rl ∧ Parts K H ks1 ps its ∧ ((ks1 = ks ∧ ((rw ≠ [] ∨ rl ≠ []) → ∀ H', Kp [] H H' → Q .non H') ∧
          (rw = [] → rl = [] → ∀ H' p ps', Kp [] H H' → SqT K H' p (.str word :: ps') → Parts K H' ks ps' its → AlP K H' ks ps ps' → Q (.ref p) H')) ∨
          (∃ kb ks2, ks = ks1 ++ kb :: ks2 ∧ BadK kb rw ∧ ∀ H', Kp [] H H' → Q .non H')) := by
        rcases h with ⟨ps, its, rw, rl, e1, e2, hP, q1, q2⟩ | ⟨ps, its, ks1, kb, ks2, rw, rl, e0, e1, e2, hP, hB, q⟩
        · exact ⟨ps, its, ks, rw, rl, e1, e2, hP, .inl ⟨rfl, q1, q2⟩⟩
        · exact ⟨ps, its, ks1, rw, rl, e1, e2, hP, .inr ⟨kb, ks2, e0, hB, q⟩⟩
      obtain ⟨ps, its, ks1, rw, rl, ew, el, hP, htl⟩ := h
      have e1 : ws.drop 0 = word :: (its.flatMap (·.1) ++ rw) := ew
      refine callM hd2 e1 fun H3 k3 hd3 => ?_
      have hp3 : H3 p = some (.lst [V.str word]) := k3.at hp2 (by simpa using npx)
      have hks : ∀ (i : Nat) (kd : Kd), ks[i]? = some kd → i ≤ ks1.length → (i < ks1.length ∧ ks1[i]? = some kd) ∨ (i = ks1.length ∧ BadK kd rw ∧ ∀ H', Kp [] H H' → Q .non H') := by
        intro i kd hi hle
        rcases htl with ⟨rfl, _⟩ | ⟨kb, ks2, rfl, hB, q⟩
        · exact .inl ⟨(List.getElem?_eq_some_iff.mp hi).1, hi⟩
        · by_cases hlt : i < ks1.length
          · rw [List.getElem?_append_left hlt] at hi
            exact .inl ⟨hlt, hi⟩
          · have e : i = ks1.length := by omega
            subst e
            rw [List.getElem?_append_right (Nat.le_refl _), Nat.sub_self] at hi
            cases hi
            exact .inr ⟨rfl, hB, q⟩
      have hl1 := hP.l1
      have hl2 := hP.l2
      have eW0 : ws.drop 1 = its.flatMap (·.1) ++ rw := (drop_at e1).2
      obtain ⟨Pv, hPv⟩ : ∃ Pv : Nat → L2.St → Hp → Prop, ∀ i σ H', Pv i σ H' ↔ (i ≤ ks1.length ∧ (∃ o5 o6, σ = [some (V.str t), some (V.str word), some (V.ref c), some (V.ref x), some (V.ref p), o5, o6]) ∧ Kp [x, p] H2 H' ∧
        DeskAt CD H' x wa la ws ls (0 + 1 + ((its.take i).flatMap (·.1)).length) (0 + ((its.take i).flatMap (·.2)).length) ∧
        ∃ ys, H' p = some (.lst (.str word :: ys)) ∧ ys.length = i ∧ ∀ (s : Nat) (y : V), ys[s]? = some y → ∃ x k q, ps[s]? = some x ∧ ks1[s]? = some k ∧ its[s]? = some q ∧ WrK K k y H' q.1 q.2 ∧ Al K H' x y 4 (szK k)) := ⟨_, fun _ _ _ => Iff.rfl⟩
      refine ⟨_, rfl, c, rfl, ⟨_, k3.tup (k02.tup hc)⟩, for_tup (xs := ks.map fun k => .str (kdS k)) Pv ?_ ?_ ?_ ?_⟩
      · exact (hPv _ _ _).mpr ⟨Nat.zero_le _, ⟨_, _, rfl⟩, k3.mono (by simp), by simpa using hd3, [], hp3, rfl, fun s y h => by simp at h⟩
      · intro i σ H' _ h
        exact ((hPv _ _ _).mp h).2.2.1.tup (k02.tup hc)
      · intro i xk σ H4 hxk h
        obtain ⟨hi, ⟨o5, o6, rfl⟩, k4, hd4, ys, hy4, hyl, hys⟩ := (hPv _ _ _).mp h
        rw [List.getElem?_map, Option.map_eq_some_iff] at hxk
        obtain ⟨kd, hkd, rfl⟩ := hxk
        have eW : ws.drop (0 + 1 + ((its.take i).flatMap (·.1)).length) = (its.drop i).flatMap (·.1) ++ rw := by
          refine drop_app ?_
          have es : its.flatMap (·.1) = (its.take i).flatMap (·.1) ++ (its.drop i).flatMap (·.1) := by rw [← List.flatMap_append, List.take_append_drop]
          rw [show 0 + 1 = 1 from rfl, eW0]
          conv => lhs; rw [es]
          rw [List.append_assoc]
        have eL : ls.drop (0 + ((its.take i).flatMap (·.2)).length) = (its.drop i).flatMap (·.2) ++ rl := by
          refine drop_app ?_
          have es : its.flatMap (·.2) = (its.take i).flatMap (·.2) ++ (its.drop i).flatMap (·.2) := by rw [← List.flatMap_append, List.take_append_drop]
          rw [List.drop_zero, el]
          conv => lhs; rw [es]
          rw [List.append_assoc]
        -- what a part's reading asks, what it gives
        have get : ∀ (Q2 : VK) (o5 o6 : Option V) (E2 : XK), (∀ H5 y, H5 p = some (.lst (.str word :: ys)) → Pv (i + 1) [some (V.str t), some (V.str word), some (V.ref c), some (V.ref x), some (V.ref p), o5, o6] (upd H5 p (.lst (.str word :: ys ++ [y]))) → Q2 y H5) → ((∀ H', Kp [] H H' → Q .non H') → ∀ H', Kp [x] H4 H' → E2 (.ref CN) none H') → spGetK K CD CN kd [V.ref x] H4 Q2 E2 := by
          intro Q2 o5 o6 E2 q2 qe
          rcases hks i kd hkd hi with ⟨hlt, hk1⟩ | ⟨rfl, hB, q⟩
          · have hit : its[i]? = some its[i] := List.getElem?_eq_getElem (by omega)
            have hpt : ps[i]? = some ps[i] := List.getElem?_eq_getElem (by omega)
            have hW := stb_K _ _ _ _ _ _ _ (k02.trans (M := []) Kp.refl) (hP.at_ i _ _ _ hpt hk1 hit)
            have hW4 := stb_K _ _ _ _ _ _ _ k4 hW
            have ed : its.drop i = its[i] :: its.drop (i + 1) := List.drop_eq_getElem_cons (by omega)
            rw [ed, List.flatMap_cons] at eW eL
            refine .inl ⟨x, wa, la, ws, ls, _, _, ps[i], its[i].1, its[i].2, _, _, rfl, hd4, hW4, by rw [eW, List.append_assoc], by rw [eL, List.append_assoc], fun H5 y k5 hd5 hy5 al5 => ?_⟩
            have hy5p : H5 p = some (.lst (.str word :: ys)) := k5.at hy4 (by simpa using npx)
            have k6 : Kp [p] H5 (upd H5 p (.lst (.str word :: ys ++ [y]))) := Kp.refl.put hy5p trivial (by simp)
            refine q2 H5 y hy5p ((hPv _ _ _).mpr ⟨by omega, ⟨_, _, rfl⟩, (k4.trans (k5.mono (by simp))).trans (k6.mono (by simp)), ?_, ys ++ [y], upd_same, by simp [hyl], fun s y2 hs2 => ?_⟩)
            · rw [flat_take hit, flat_take hit, List.length_append, List.length_append, ← Nat.add_assoc, ← Nat.add_assoc]
              exact hd5.wr npx npw npl
            · by_cases hsl : s < ys.length
              · rw [List.getElem?_append_left hsl] at hs2
                obtain ⟨x, k, q2, g1, g2, g3, g4, g5⟩ := hys s y2 hs2
                exact ⟨x, k, q2, g1, g2, g3, stb_K _ _ _ _ _ _ _ k6 (stb_K _ _ _ _ _ _ _ k5 g4), (g5.kp k5).kp k6⟩
              · have hs3 : s = ys.length := by
                  have := (List.getElem?_eq_some_iff.mp hs2).1
                  simp at this
                  omega
                subst hs3
                have ey : y2 = y := by simpa using hs2.symm
                subst ey
                rw [hyl]
                exact ⟨_, _, _, hpt, hk1, hit, stb_K _ _ _ _ _ _ _ k6 hy5, al5.kp k6⟩
          · have en : its.drop ks1.length = [] := List.drop_eq_nil_of_le (by omega)
            rw [en] at eW
            refine .inr ⟨x, wa, la, ws, ls, _, _, rfl, hd4, by rw [eW]; exact hB, qe q⟩
        walk_at "rd"
        have hi10 : i < ks.length := (List.getElem?_eq_some_iff.mp hkd).1
        have fail : ∀ σ, (∀ H', Kp [] H H' → Q .non H') → ∀ H', Kp [x] H4 H' → WE WW σ (.ref CN) none H' := by
          intro σ q H5 k5
          show WW (.ref CN) none σ H5
          rw [hWW]
          refine ⟨true, xNN, fun _ e he => ?_, fun z => by cases z⟩
          exact q H5 (back (k4.trans (k5.mono (by simp))))
        cases hek : eachK kd with
        | true =>
          refine ⟨_, T5.eIn kd hek, ?_⟩
          walk_at "rd"
          refine ⟨tyV_L hy4, _, T5.kE hek, x, kd, hek, rfl, get _ _ _ _ (fun H5 y e5 hv => ⟨_, e5, by rw [List.length_cons, hyl, sizeLine_eq]; omega, hv⟩) (fail _)⟩
        | false =>
          refine ⟨_, T5.eNot kd hek, ?_⟩
          walk_at "rd"
          refine ⟨_, T5.kP hek, tyV_L hy4, _, rfl, _, ⟨kd, hek, rfl, rfl⟩, get _ _ _ _ (fun H5 y e5 hv => ⟨_, e5, by rw [List.length_cons, hyl, sizeLine_eq]; omega, hv⟩) (fail _)⟩
      · intro σ H4 h
        obtain ⟨hi, ⟨o5, o6, rfl⟩, k4, hd4, ys, hy4, hyl, hys⟩ := (hPv _ _ _).mp h
        walk_at "rd"
        obtain ⟨dx2, h1, h2, h3⟩ := id hd4.ex
        rw [List.length_map] at hyl hi
        rcases htl with ⟨rfl, q1, q2⟩ | ⟨kb, ks2, rfl, hB, q⟩
        · have en : its.take ks1.length = its := List.take_of_length_le (by omega)
          rw [List.length_map, en] at hd4
          have hlw : ws.length = 0 + 1 + (its.flatMap (·.1)).length + rw.length := by
            rw [ew, List.length_cons, List.length_append]
            omega
          have hll : ls.length = 0 + (its.flatMap (·.2)).length + rl.length := by
            rw [el, List.length_append]
            omega
          obtain ⟨dx2, h1, h2, h3⟩ := id hd4.ex
          refine ⟨_, _, h1, rfl, x, wa, la, ws, ls, _, _, rfl, hd4, ?_⟩
          walk_at "rd"
          by_cases hr0 : rw = [] ∧ rl = []
          · obtain ⟨h1, h2⟩ := hr0
            have z1 : rw.length = 0 := by rw [h1]; rfl
            have z2 : rl.length = 0 := by rw [h2]; rfl
            rw [decide_eq_true (by omega), decide_eq_true (by omega), if_neg (by simp)]
            refine ⟨_, .inl ⟨SqL.of hy4, fun l hl => ?_⟩⟩
            have k5 : Kp [] H4 (upd H4 l (.tup (.str word :: ys))) := Kp.refl.new hl
            have kk := (back k4).trans k5
            refine q2 h1 h2 _ l ys kk (.inl (.inl upd_same)) ⟨hyl.symm, by omega, fun i y kd q2 g1 g2 g3 => ?_⟩ ⟨by omega, fun i x2 y kd g1 g2 g3 => ?_⟩
            · obtain ⟨x2, k', q', f1, f2, f3, f4, f5⟩ := hys i y g1
              rw [g2] at f2
              cases f2
              rw [g3] at f3
              cases f3
              exact stb_K _ _ _ _ _ _ _ k5 f4
            · obtain ⟨x3, k', q', f1, f2, f3, f4, f5⟩ := hys i y g2
              rw [g1] at f1
              cases f1
              rw [g3] at f2
              cases f2
              exact f5.kp k5
          · have e0 : (decide (1 + (its.flatMap (·.1)).length = ws.length) && decide (0 + (its.flatMap (·.2)).length = ls.length)) = false := by
              rw [Bool.and_eq_false_iff, decide_eq_false_iff_not, decide_eq_false_iff_not]
              by_cases z1 : rw.length = 0
              · right
                intro z
                exact hr0 ⟨List.eq_nil_of_length_eq_zero z1, List.eq_nil_of_length_eq_zero (by omega)⟩
              · left
                omega
            rw [if_pos e0]
            refine q1 ?_ H4 (back k4)
            by_cases z1 : rw = []
            · exact .inr fun z2 => hr0 ⟨z1, z2⟩
            · exact .inl z1
        · rw [List.length_append, List.length_cons] at hi
          omega
end
end Kq
set_option Elab.async false
set_option linter.all false
set_option maxRecDepth 100000
set_option maxHeartbeats 4000000
namespace Kq
open PySem PySem.Spec PyProof.Rows L2 Fw TL
local macro_rules | `(tactic| walk_at "rd") => `(tactic| try simp only [tMeth, tMake, tFld, sFld, sFldAug, gStar, tMethT, tCallVT, rNewStrs, tSeq, tNext, tBreak, tCont, tDrop, tRet, tRetN, tIfS, tAsg, tVar, tC, tOp, tUn, tTest, tB, tAnd, tOr, tNot, tAndV, tOrV, tNotV, tIf, tChain, tCB, tCons, tNil, tTup, tLst, tCall, tCallS, WE,
  gName, gSub, rI, rI0, rU, rEq, rNe, rIsiC, tSl, tPart, tNoPart, rSetL, tBM, tBM0, rAppend, rExtend, rExtendT, tCallL, L2.start, List.map_cons, List.map_nil, List.length_cons, List.length_nil, Nat.sub_self, Nat.reduceAdd, Nat.reduceSub, List.replicate_zero, List.replicate_succ, List.append_nil, List.nil_append, List.cons_append,
  List.getElem?_cons_zero, List.getElem?_cons_succ, List.set_cons_zero, List.set_cons_succ, Option.some.injEq, exists_eq_left', exists_eq_left, exists_eq_right, exists_eq_right', exists_const, exists_and_left, exists_and_right, V.int.injEq, V.bl.injEq, V.str.injEq, V.ref.injEq, V.ty.injEq, List.cons.injEq, and_true, true_and, and_assoc, reduceCtorEq, false_and, and_false, exists_false, false_or, or_false,
  if_true, if_false, Bool.not_true, Bool.not_false, Bool.false_eq_true, Bool.true_eq_false, ↓reduceIte, decide_eq_true_eq, decide_true, decide_false, sc_nn, sc_ni, sc_in, sc_nb, sc_bn, sc_ns, sc_sn, sc_ii, sc_bb, sc_ss, sc_is, sc_si, sc_bs, sc_sb, ipI, Int.reduceLT, Int.reduceLE, Int.reduceEq, Nat.reduceLT, Nat.reduceEqDiff, String.reduceEq, nc0, nc1, nc2, nc3, nc4, nc5, nc6, nc7, nc8, nc9, nc10, nc11, nc12, cx_K, cx_w, wipe, lenV_str, rCat, exists_eq, exists_eq', relO, relC, relM, relI, relSl, spOf, ciOf, csOf, crOf, L2.rIxD, eq_self, not_true_eq_false, not_false_eq_true, Option.isSome_some, Option.isSome_none, tCallV, ofS_inj, sg_inj, sg_len, sg_lt, tM1, tM0, tLc_rng1, tLc_rng2, tFor_rng1, tFor_rng2, tDNewK, sDPut,  Nat.reduceLeDiff, Bool.not_eq_true', decide_eq_false_iff_not,
  isi_int_int, isi_int_bool, isi_int_str, isi_int_tuple, isi_int_list, isi_int_dict, isi_bool_int, isi_bool_bool, isi_bool_str, isi_bool_tuple, isi_bool_list, isi_bool_dict, isi_str_int, isi_str_bool, isi_str_str, isi_str_tuple, isi_str_list, isi_str_dict, isi_non_int, isi_non_bool, isi_non_str, isi_non_tuple, isi_non_list, isi_non_dict])
local macro_rules | `(tactic| walk_at "ix") => `(tactic| (refine ixT (by assumption) rfl ?_; walk_at "rd"))
local macro_rules | `(tactic| walk_at "len") => `(tactic| (refine ⟨_, lenV_T (by assumption), ?_⟩; walk_at "rd"))
local macro_rules | `(tactic| walk_at "isT") => `(tactic| (refine ⟨true, isiT (by assumption), ?_⟩; walk_at "rd"))

section
variable {P : Program} {w : World} {K : PySem.W.Frag} {mg : Str → Option Value} {base : Heap} {CN CB CH CD : Addr}
theorem forms_same : ∀ i : Fin 11, ∀ j : Fin 11, forms[i.val]!.1 = forms[j.val]!.1 → i = j ∨ (i.val = 1 ∧ j.val = 2) ∨ (i.val = 2 ∧ j.val = 1) ∨ (i.val = 5 ∧ j.val = 10) ∨ (i.val = 10 ∧ j.val = 5) := by decide +kernel
theorem forms_parts : ∀ i : Fin 11, (i.val = 10 ∧ forms[i.val]!.2.length = 2) ∨ (forms[i.val]!.2.length ≤ 6 ∧ forms[i.val]!.2.all (fun k => decide (k ≠ .nPack)) = true) := by decide +kernel
theorem szK_le (k : Kd) : szK k ≤ 5173623 := by cases k <;> decide
theorem szK_np {k : Kd} (h : k ≠ .nPack) : szK k = 401000 := by cases k <;> first | rfl | exact absurd rfl h
theorem forms_ok : ∀ i : Fin 11, forms[i.val]!.1.length ≤ 40 ∧ forms[i.val]!.1.cps.toList.all (fun c => decide (c < 1000)) = true ∧ forms[i.val]!.1.cps.toList.all (fun c => decide (33 ≤ c)) = true := by decide +kernel
theorem al_row {H : Hp} {a b : Addr} {i : Nat} {z : Str} {ps ps' : List V} (hi : i < 11) (ez : z = forms[i]!.1) (ha : SqT K H a (.str z :: ps)) (hb : SqT K H b (.str z :: ps')) (hl : forms[i]!.2.length = ps.length) (al : AlP K H forms[i]!.2 ps ps') : Al K H (.ref a) (.ref b) 5 15520878 := by
  obtain ⟨f1, f2, _⟩ := forms_ok ⟨i, hi⟩
  have f1 : forms[i]!.1.length ≤ 40 := f1
  have f2 : forms[i]!.1.cps.toList.all (fun c => decide (c < 1000)) = true := f2
  rw [← ez] at f1 f2
  have hz : Al K H (.str z) (.str z) 0 402 := Al.lit f1 f2
  have core : ∀ m, (402 ≤ m) → (∀ k ∈ forms[i]!.2, szK k ≤ m) → Al K H (.ref a) (.ref b) 5 ((ps.length + 1) * (m + 2) + 3) := by
    intro m h402 hm
    refine Al.tup (k := 4) (m := m) (n := ps.length + 1) ha hb (by simp [al.len]) (by simp) fun s x y h1 h2 => ?_
    cases s with
    | zero =>
      cases h1
      cases h2
      exact hz.mono (by decide) h402
    | succ s =>
      have h1 : ps[s]? = some x := by simpa using h1
      have h2 : ps'[s]? = some y := by simpa using h2
      have hs : s < forms[i]!.2.length := by rw [hl]; exact (List.getElem?_eq_some_iff.mp h1).1
      have h3 : forms[i]!.2[s]? = some (forms[i]!.2[s]'hs) := List.getElem?_eq_getElem hs
      exact (al.at_ s x y _ h1 h2 h3).mono (Nat.le_refl _) (hm _ (List.mem_of_getElem? h3))
  rcases forms_parts ⟨i, hi⟩ with ⟨_, h2⟩ | ⟨h2, h3⟩
  · have h2 : forms[i]!.2.length = 2 := h2
    have e : ps.length = 2 := by omega
    have := core 5173623 (by decide) fun k _ => szK_le k
    rw [e] at this
    exact this
  · have h2 : forms[i]!.2.length ≤ 6 := h2
    have := core 401000 (by decide) fun k hk => by
      have := List.all_eq_true.mp h3 k hk
      rw [szK_np (of_decide_eq_true this)]
      exact Nat.le_refl _
    exact this.mono (Nat.le_refl _) (by omega)
theorem bad_sp : BadI [("" : Str)] := .inr ⟨_, _, rfl, by decide +kernel, by decide +kernel⟩
theorem bad_yes {t : List Str} : BadI (("yes" : Str) :: t) := .inr ⟨_, _, rfl, by decide +kernel, by decide +kernel⟩
theorem bad_no {t : List Str} : BadI (("no" : Str) :: t) := .inr ⟨_, _, rfl, by decide +kernel, by decide +kernel⟩
/-- what a form makes of a row's text -/
theorem rowBy_mk {H : Hp} {v : V} {i j : Nat} {its : List (List Str × List Str)} {t : Str} {c : Addr} {rw rl : List Str} {Q : VK} {E : XK} (hi : i < 11) (hv : RowAt K v H j its) (S : Says t (forms[j]!.1 :: (its.flatMap (·.1) ++ rw)) (its.flatMap (·.2) ++ rl)) (hc : SqT K H c (forms[i]!.2.map fun k => .str (kdS k))) (hB : BadI rw)
    (qN : (i ≠ j ∨ rw ≠ [] ∨ rl ≠ []) → ∀ H', Kp [] H H' → Q .non H') (qS : rw = [] → rl = [] → ∀ H' p, Kp [] H H' → RowAt K (.ref p) H' i its → forms[i]!.1 = forms[j]!.1 → (∃ xs, SqT K H' p xs) → Al K H' v (.ref p) 5 15520878 → Q (.ref p) H') : spRowBy K [.str t, .str forms[i]!.1, .ref c] H Q E := by
  obtain ⟨hj, a, ps, rfl, hs, hP⟩ := hv
  obtain ⟨_, h10⟩ := forms_small ⟨i, hi⟩
  have h10 : forms[i]!.2.length ≤ 10 := h10
  refine ⟨t, forms[i]!.1, c, forms[i]!.2, _, _, rfl, S, hc, h10, ?_⟩
  by_cases e : forms[i]!.1 = forms[j]!.1
  · -- a success under the form i
    have suc : ∀ (hPi : Parts K H forms[i]!.2 ps its) (H' : Hp) (p : Addr) (ps' : List V), rw = [] → rl = [] → Kp [] H H' → SqT K H' p (.str forms[i]!.1 :: ps') → Parts K H' forms[i]!.2 ps' its → AlP K H' forms[i]!.2 ps ps' → Q (.ref p) H' := by
      intro hPi H' p ps' h1 h2 k hp hP' al
      refine qS h1 h2 H' p k ⟨hi, p, ps', rfl, hp, hP'⟩ e ⟨_, hp⟩ (al_row hi rfl ?_ hp hPi.l1 al)
      rw [e]
      exact k.tup hs
    have full : ∀ (hPi : Parts K H forms[i]!.2 ps its), ∃ ps' its' rw' rl', forms[j]!.1 :: (its.flatMap (·.1) ++ rw) = forms[i]!.1 :: (List.flatMap (·.1) its' ++ rw') ∧ its.flatMap (·.2) ++ rl = List.flatMap (·.2) its' ++ rl' ∧ Parts K H forms[i]!.2 ps' its' ∧ ((rw' ≠ [] ∨ rl' ≠ []) → ∀ H', Kp [] H H' → Q .non H') ∧
        (rw' = [] → rl' = [] → ∀ H' p qs, Kp [] H H' → SqT K H' p (.str forms[i]!.1 :: qs) → Parts K H' forms[i]!.2 qs its' → AlP K H' forms[i]!.2 ps' qs → Q (.ref p) H') := fun hPi =>
      ⟨ps, its, rw, rl, by rw [e], rfl, hPi, fun h => qN (.inr h), fun h1 h2 H' p qs k hp hP' al => suc hPi H' p qs h1 h2 k hp hP' al⟩
    rcases forms_same ⟨i, hi⟩ ⟨j, hj⟩ e with h | ⟨h1, h2⟩ | ⟨h1, h2⟩ | ⟨h1, h2⟩ | ⟨h1, h2⟩
    · have h : i = j := by simpa using h
      subst h
      exact .inr (.inl (full hP))
    · have h1 : i = 1 := h1
      have h2 : j = 2 := h2
      subst h1 h2
      have hl1 := hP.l1
      have hl2 := hP.l2
      obtain ⟨x, rfl⟩ : ∃ x, ps = [x] := by
        match ps, hl1 with
        | [x], _ => exact ⟨x, rfl⟩
      obtain ⟨p0, rfl⟩ : ∃ p0, its = [p0] := by
        match its, hl2 with
        | [p0], _ => exact ⟨p0, rfl⟩
      obtain ⟨t2, xs, it2, rfl, hts, hm, hln, hx, g1, g2⟩ := hP.at_ 0 x .nTruths p0 rfl rfl rfl
      cases xs with
      | nil =>
        have hn0 : it2 = [] := List.eq_nil_of_length_eq_zero hln
        refine .inr (.inl (full ⟨rfl, rfl, fun s x2 kd q2 f1 f2 f3 => ?_⟩))
        cases s with
        | zero =>
          cases f1
          cases f3
          have f4 : Kd.nInts = kd := by simpa [forms] using f2
          subst f4
          exact ⟨t2, [], it2, rfl, hts, by decide, hln, (fun i x p h => by cases h), g1, g2⟩
        | succ n => cases f1
      | cons y ys =>
        have hp0 : 0 < it2.length := by
          rw [hln]
          exact Nat.succ_pos _
        obtain ⟨q0, qs, rfl⟩ : ∃ q0 qs, it2 = q0 :: qs := by
          match it2, hp0 with
          | q0 :: qs, _ => exact ⟨q0, qs, rfl⟩
        obtain ⟨b, rfl, e1, _⟩ := hx 0 y q0 rfl rfl
        refine .inr (.inr ⟨[], [], [], .nInts, [], [p0].flatMap (·.1) ++ rw, [p0].flatMap (·.2) ++ rl, rfl, rfl, rfl, parts_nil, ?_, qN (.inl (by decide))⟩)
        show BadL BadI ([p0].flatMap (·.1) ++ rw)
        rw [List.flatMap_cons, List.flatMap_nil, g1, List.flatMap_cons, e1]
        cases b with
        | true => exact ⟨("yes" : Str), _, rfl, by decide +kernel, bad_yes⟩
        | false => exact ⟨("no" : Str), _, rfl, by decide +kernel, bad_no⟩
    · have h1 : i = 2 := h1
      have h2 : j = 1 := h2
      subst h1 h2
      have hl1 := hP.l1
      have hl2 := hP.l2
      obtain ⟨x, rfl⟩ : ∃ x, ps = [x] := by
        match ps, hl1 with
        | [x], _ => exact ⟨x, rfl⟩
      obtain ⟨p0, rfl⟩ : ∃ p0, its = [p0] := by
        match its, hl2 with
        | [p0], _ => exact ⟨p0, rfl⟩
      obtain ⟨t2, xs, it2, rfl, hts, hm, hln, hx, g1, g2⟩ := hP.at_ 0 x .nInts p0 rfl rfl rfl
      cases xs with
      | nil =>
        have hn0 : it2 = [] := List.eq_nil_of_length_eq_zero hln
        refine .inr (.inl (full ⟨rfl, rfl, fun s x2 kd q2 f1 f2 f3 => ?_⟩))
        cases s with
        | zero =>
          cases f1
          cases f3
          have f4 : Kd.nTruths = kd := by simpa [forms] using f2
          subst f4
          exact ⟨t2, [], it2, rfl, hts, by decide, hln, (fun i x p h => by cases h), g1, g2⟩
        | succ n => cases f1
      | cons y ys =>
        have hp0 : 0 < it2.length := by
          rw [hln]
          exact Nat.succ_pos _
        obtain ⟨q0, qs, rfl⟩ : ∃ q0 qs, it2 = q0 :: qs := by
          match it2, hp0 with
          | q0 :: qs, _ => exact ⟨q0, qs, rfl⟩
        obtain ⟨n, rfl, hn, e1, _⟩ := hx 0 y q0 rfl rfl
        refine .inr (.inr ⟨[], [], [], .nTruths, [], [p0].flatMap (·.1) ++ rw, [p0].flatMap (·.2) ++ rl, rfl, rfl, rfl, parts_nil, ?_, qN (.inl (by decide))⟩)
        show BadL BadB ([p0].flatMap (·.1) ++ rw)
        rw [List.flatMap_cons, List.flatMap_nil, g1, List.flatMap_cons, e1]
        have g3 := (iS_good hn).2.2.1
        refine ⟨iS n, _, rfl, ?_, iS n, _, rfl, ?_, ?_⟩ <;> (intro z; rw [z] at g3; exact absurd g3 (by decide +kernel))
    · have h1 : i = 5 := h1
      have h2 : j = 10 := h2
      subst h1 h2
      have hl1 := hP.l1
      have hl2 := hP.l2
      obtain ⟨x, y, rfl⟩ : ∃ x y, ps = [x, y] := by
        match ps, hl1 with
        | [x, y], _ => exact ⟨x, y, rfl⟩
      obtain ⟨p0, p1, rfl⟩ : ∃ p0 p1, its = [p0, p1] := by
        match its, hl2 with
        | [p0, p1], _ => exact ⟨p0, p1, rfl⟩
      have w0 := hP.at_ 0 x .nInt p0 rfl rfl rfl
      have w1 := hP.at_ 1 y .nPack p1 rfl rfl rfl
      have hne : p1.1 ++ rw ≠ [] := by
        obtain ⟨b, nm, _, _, ⟨c, cw, _, _, e3⟩ | ⟨b, ps, pw, _, _, _, e3⟩⟩ := w1 <;> (rw [e3]; simp)
      refine .inr (.inl ⟨[x], [p0], p1.1 ++ rw, p1.2 ++ rl, by rw [e]; simp, by simp, parts_cons w0 parts_nil, fun _ => qN (.inl (by decide)), fun z => absurd z hne⟩)
    · have h1 : i = 10 := h1
      have h2 : j = 5 := h2
      subst h1 h2
      have hl1 := hP.l1
      have hl2 := hP.l2
      obtain ⟨x, rfl⟩ : ∃ x, ps = [x] := by
        match ps, hl1 with
        | [x], _ => exact ⟨x, rfl⟩
      obtain ⟨p0, rfl⟩ : ∃ p0, its = [p0] := by
        match its, hl2 with
        | [p0], _ => exact ⟨p0, rfl⟩
      have w0 := hP.at_ 0 x .nInt p0 rfl rfl rfl
      exact .inr (.inr ⟨[x], [p0], [.nInt], .nPack, [], rw, rl, rfl, by rw [e], rfl, parts_cons w0 parts_nil, hB, qN (.inl (by decide))⟩)
  · refine .inl ⟨?_, qN (.inl fun z => e (by rw [z]))⟩
    exact fun z => e (Option.some.inj z).symm
def spRowOf (K : PySem.W.Frag) (CN : Addr) : Sp := fun vs H Q E => (∃ (v : V) (j : Nat) (its : List (List Str × List Str)) (t : Str), vs = [.str t] ∧ RowAt K v H j its ∧ Says t (forms[j]!.1 :: its.flatMap (·.1)) (its.flatMap (·.2)) ∧
    ∀ H' p j', Kp [] H H' → RowAt K (.ref p) H' j' its → forms[j']!.1 = forms[j]!.1 → (∃ xs, SqT K H' p xs) → Al K H' v (.ref p) 5 15520878 → Q (.ref p) H') ∨
  (∃ (v : V) (j : Nat) (its : List (List Str × List Str)) (t : Str) (rw rl : List Str), vs = [.str t] ∧ RowAt K v H j its ∧ Says t (forms[j]!.1 :: (its.flatMap (·.1) ++ rw)) (its.flatMap (·.2) ++ rl) ∧ (rw ≠ [] ∨ rl ≠ []) ∧ BadI rw ∧ ∀ H', Kp [] H H' → E (.ref CN) none H') ∨
  (∃ (t : Str) (ws ls : List Str), vs = [.str t] ∧ Says t (("" : Str) :: ws) ls ∧ ∀ H', Kp [] H H' → E (.ref CN) none H')
theorem sc_row_of : FnScope ["text", "word", "kinds", "row"] ["text"] (defScope s_row_of) := ⟨rfl, rfl, rfl, by decide +kernel, rfl, by decide +kernel, by decide +kernel⟩
theorem ok_row_of (T : Txt K w mg CN CB CH) {aF : Addr} {fs : List Addr} (T3 : Txt3 K mg aF fs) (F : At K mg "row_of" s_row_of ["text"]) (G_row_by : Dfn P w K mg base 11 "row_by" ["text", "word", "kinds"] (spRowBy K)) : Dfn P w K mg base 12 "row_of" ["text"] (spRowOf K CN) := by
  refine F.ok sc_row_of (fun vs H Q E h => ?_) (fun qual f cdv A outer s H vs Q E hr h => ?_)
  · rcases h with ⟨v, j, its, t, rfl, _⟩ | ⟨v, j, its, t, rw, rl, rfl, _⟩ | ⟨t, ws, ls, rfl, _⟩ <;> rfl
  · refine ⟨_, (pss_cons (ps_for (passes_of rfl) rfl (pi_tup (pe_cr rfl T3.FORMS)) (pg_tup rfl (pgs_cons (pg_name (i := 1) sc_row_of.nd rfl (Or.inl rfl)) (pgs_cons (pg_name (i := 2) sc_row_of.nd rfl (Or.inl rfl)) pgs_nil))) (pss_cons (ps_set (i := 3) sc_row_of.nd rfl (Or.inl rfl) (pe_fn G_row_by hr (pa_cons (pv 0) (pa_cons (pv 1) (pa_cons (pv 2) pa_nil)))))
      (pss_one (ps_if (pt_cmpR op_notN (pv 3) pe_non (nomark _)) (pss_one (ps_ret (pv 3))) pss_nil))))
      (pss_one (ps_raise rfl (takes_of rfl rfl rfl rfl) (pmk_own0 T.e_NoText rfl)))), ?_⟩
    obtain ⟨t, rfl⟩ : ∃ t, vs = [.str t] := by
      rcases h with ⟨v, j, its, t, rfl, _⟩ | ⟨v, j, its, t, rw, rl, rfl, _⟩ | ⟨t, ws, ls, rfl, _⟩ <;> exact ⟨_, rfl⟩
    walk_at "rd"
    have all : ∃ top : Nat, (∀ (i : Nat) (H1 : Hp) (c : Addr) (Q1 : VK) (E1 : XK), i < 11 → i ≤ top → Kp [] H H1 → SqT K H1 c (forms[i]!.2.map fun k => .str (kdS k)) → (i + 1 ≤ top → ∀ H2, Kp [] H1 H2 → Q1 .non H2) → (∀ H2 p, Q (.ref p) H2 → Q1 (.ref p) H2) → spRowBy K [.str t, .str forms[i]!.1, .ref c] H1 Q1 E1) ∧ (11 ≤ top → ∀ H', Kp [] H H' → E (.ref CN) none H') := by
      rcases h with ⟨v, j, its, t', et, hv, S, q⟩ | ⟨v, j, its, t', rw, rl, et, hv, S, hne, hB, q⟩ | ⟨t', ws, ls, et, S, q⟩
      · cases et
        have hj := hv.lt
        refine ⟨j, fun i H1 c Q1 E1 hi hij k hc qN qS => ?_, fun z => absurd z (by omega)⟩
        refine rowBy_mk (rw := []) (rl := []) hi (hv.kp k) (by simpa using S) hc (.inl rfl) (fun h H2 k2 => qN ?_ H2 k2) (fun _ _ H2 p k2 hv2 e hx al => qS H2 p (q H2 p i (k.trans k2) hv2 e hx al))
        rcases h with h | h | h
        · omega
        · exact absurd rfl h
        · exact absurd rfl h
      · cases et
        refine ⟨11, fun i H1 c Q1 E1 hi hij k hc qN qS => ?_, fun _ => q⟩
        refine rowBy_mk hi (hv.kp k) S hc hB (fun _ => qN (by omega)) (fun h1 h2 => ?_)
        rcases hne with h | h
        · exact absurd h1 h
        · exact absurd h2 h
      · cases et
        refine ⟨11, fun i H1 c Q1 E1 hi hij k hc qN qS => ?_, fun _ => q⟩
        obtain ⟨_, h10⟩ := forms_small ⟨i, hi⟩
        refine ⟨t, forms[i]!.1, c, forms[i]!.2, _, _, rfl, S, hc, h10, .inl ⟨fun z => ?_, qN (by omega)⟩⟩
        have e2 : ("" : Str) = forms[i]!.1 := Option.some.inj z
        have hall : ∀ i : Fin 11, ("" : Str) ≠ forms[i.val]!.1 := by decide +kernel
        exact hall ⟨i, hi⟩ e2
    obtain ⟨top, turn, fin⟩ := all
    obtain ⟨Pv, hPv⟩ : ∃ Pv : Nat → L2.St → Hp → Prop, ∀ i σ H', Pv i σ H' ↔ (i ≤ top ∧ (∃ o1 o2 o3, σ = [some (V.str t), o1, o2, o3]) ∧ Kp [] H H') := ⟨_, fun _ _ _ => Iff.rfl⟩
    refine ⟨aF, rfl, ⟨_, .inr T3.all⟩, for_tup (xs := fs.map V.ref) Pv ?_ ?_ ?_ ?_⟩
    · exact (hPv _ _ _).mpr ⟨Nat.zero_le _, ⟨_, _, _, rfl⟩, Kp.refl⟩
    · intro i σ H' _ p
      exact .inr T3.all
    · intro i x σ H' hx p
      obtain ⟨hij, ⟨o1, o2, o3, rfl⟩, k1⟩ := (hPv _ _ _).mp p
      rw [List.getElem?_map, Option.map_eq_some_iff] at hx
      obtain ⟨fa, hf, rfl⟩ := hx
      obtain ⟨c, hw, hc⟩ := T3.at_ i fa hf
      have hi : i < 11 := by
        have := (List.getElem?_eq_some_iff.mp hf).1
        rw [T3.len] at this
        exact this
      refine ⟨fa, _, rfl, .inr hw, rfl, _, _, rfl, _, [], rfl, rfl, ?_⟩
      walk_at "rd"
      refine turn i H' c _ _ hi hij k1 (.inr hc) (fun hl H2 k2 => ?_) (fun H2 p q => ?_)
      · show (if ¬V.non = V.non then _ else _)
        rw [if_neg (fun h => h rfl)]
        exact (hPv _ _ _).mpr ⟨hl, ⟨_, _, _, rfl⟩, k1.trans k2⟩
      · show (if ¬V.ref _ = V.non then _ else _)
        rw [if_pos (fun h => by cases h)]
        exact q
    · intro σ H' p
      obtain ⟨h11, _, k⟩ := (hPv _ _ _).mp p
      rw [List.length_map, T3.len] at h11
      exact fin h11 H' k
end
end Kq
set_option Elab.async false
set_option linter.all false
set_option maxRecDepth 100000
set_option maxHeartbeats 4000000
namespace Kq
open PySem PySem.Spec PyProof.Rows L2 Fw TL
local macro_rules | `(tactic| walk_at "rd") => `(tactic| try simp only [tMeth, tMake, tFld, sFld, sFldAug, gStar, tMethT, tCallVT, rNewStrs, tSeq, tNext, tBreak, tCont, tDrop, tRet, tRetN, tIfS, tAsg, tVar, tC, tOp, tUn, tTest, tB, tAnd, tOr, tNot, tAndV, tOrV, tNotV, tIf, tChain, tCB, tCons, tNil, tTup, tLst, tCall, tCallS, WE,
  gName, gSub, rI, rI0, rU, rEq, rNe, rIsiC, tSl, tPart, tNoPart, rSetL, tBM, tBM0, rAppend, rExtend, rExtendT, tCallL, L2.start, List.map_cons, List.map_nil, List.length_cons, List.length_nil, Nat.sub_self, Nat.reduceAdd, Nat.reduceSub, List.replicate_zero, List.replicate_succ, List.append_nil, List.nil_append, List.cons_append,
  List.getElem?_cons_zero, List.getElem?_cons_succ, List.set_cons_zero, List.set_cons_succ, Option.some.injEq, exists_eq_left', exists_eq_left, exists_eq_right, exists_eq_right', exists_const, exists_and_left, exists_and_right, V.int.injEq, V.bl.injEq, V.str.injEq, V.ref.injEq, V.ty.injEq, List.cons.injEq, and_true, true_and, and_assoc, reduceCtorEq, false_and, and_false, exists_false, false_or, or_false,
  if_true, if_false, Bool.not_true, Bool.not_false, Bool.false_eq_true, Bool.true_eq_false, ↓reduceIte, decide_eq_true_eq, decide_true, decide_false, sc_nn, sc_ni, sc_in, sc_nb, sc_bn, sc_ns, sc_sn, sc_ii, sc_bb, sc_ss, sc_is, sc_si, sc_bs, sc_sb, ipI, Int.reduceLT, Int.reduceLE, Int.reduceEq, Nat.reduceLT, Nat.reduceEqDiff, String.reduceEq, nc0, nc1, nc2, nc3, nc4, nc5, nc6, nc7, nc8, nc9, nc10, nc11, nc12, cx_K, cx_w, wipe, lenV_str, rCat, exists_eq, exists_eq', relO, relC, relM, relI, relSl, spOf, ciOf, csOf, crOf, L2.rIxD, eq_self, not_true_eq_false, not_false_eq_true, Option.isSome_some, Option.isSome_none, tCallV, ofS_inj, sg_inj, sg_len, sg_lt, tM1, tM0, tLc_rng1, tLc_rng2, tFor_rng1, tFor_rng2, tDNewK, sDPut,  Nat.reduceLeDiff, Bool.not_eq_true', decide_eq_false_iff_not,
  isi_int_int, isi_int_bool, isi_int_str, isi_int_tuple, isi_int_list, isi_int_dict, isi_bool_int, isi_bool_bool, isi_bool_str, isi_bool_tuple, isi_bool_list, isi_bool_dict, isi_str_int, isi_str_bool, isi_str_str, isi_str_tuple, isi_str_list, isi_str_dict, isi_non_int, isi_non_bool, isi_non_str, isi_non_tuple, isi_non_list, isi_non_dict])
local macro_rules | `(tactic| walk_at "ix") => `(tactic| (refine ixT (by assumption) rfl ?_; walk_at "rd"))
local macro_rules | `(tactic| walk_at "len") => `(tactic| (refine ⟨_, lenV_T (by assumption), ?_⟩; walk_at "rd"))
local macro_rules | `(tactic| walk_at "isT") => `(tactic| (refine ⟨true, isiT (by assumption), ?_⟩; walk_at "rd"))

/-! ### clean words and lines -/
def Cln (D : Wr) : Prop := ∀ v H nw nl, D v H nw nl → (∀ z ∈ nw, okW z) ∧ ∀ z ∈ nl, okN z
section
variable {K : PySem.W.Frag} {D : Wr} {n : Nat}
theorem okW_iS {i : Int} (h : okI i = true) : okW (iS i) := by
  intro c hc
  rw [iS_nat (okI_ge h).1] at hc
  have := Fw.numL_digits _ c hc
  omega
theorem okW_lit {z : Str} (h : z.cps.toList.all (fun c => decide (33 ≤ c)) = true) : okW z := fun c hc => of_decide_eq_true (List.all_eq_true.mp h c hc)
theorem okW_lb {z : Str} (h : okL z = true) : okW z := by
  intro c hc
  simp only [okL, Bool.and_eq_true, List.all_eq_true] at h
  have h2 : ∀ c ∈ sNum.cps.toList, 33 ≤ c := by decide +kernel
  exact h2 c (of_decide_eq_true (h.2 c hc))
theorem okN_row {z : Str} (h : okR z = true) : okN z := by
  intro c hc
  simp only [okR, Bool.and_eq_true, List.all_eq_true] at h
  have := h.2 c hc
  simp only [okG, Bool.and_eq_true, decide_eq_true_eq] at this
  omega
theorem cln_I : Cln IsI := by
  rintro v H nw nl ⟨i, rfl, h, rfl, rfl⟩
  exact ⟨fun z hz => by rw [List.mem_singleton.mp hz]; exact okW_iS h, fun z hz => by cases hz⟩
theorem cln_B : Cln IsB := by
  rintro v H nw nl ⟨b, rfl, rfl, rfl⟩
  refine ⟨fun z hz => ?_, fun z hz => by cases hz⟩
  rw [List.mem_singleton.mp hz]
  cases b <;> exact okW_lit (by decide +kernel)
theorem cln_Lb : Cln IsLb := by
  rintro v H nw nl ⟨z, rfl, h, rfl, rfl⟩
  exact ⟨fun y hy => by rw [List.mem_singleton.mp hy]; exact okW_lb h, fun z hz => by cases hz⟩
theorem cln_Pr : Cln (IsPr K) := by
  rintro v H nw nl ⟨a, z, i, rfl, _, h1, h2, rfl, rfl⟩
  refine ⟨fun y hy => ?_, fun z hz => by cases hz⟩
  simp only [List.mem_cons, List.not_mem_nil, or_false] at hy
  rcases hy with rfl | rfl
  · exact okW_lb h1
  · exact okW_iS h2
theorem cln_Pc : Cln (IsPc K) := by
  rintro v H nw nl ⟨a, rfl, ⟨i, j, _, h1, h2, _, rfl, rfl⟩ | ⟨r, zs, _, ⟨_, _, _, h4, h5⟩, _, rfl, rfl⟩⟩
  · refine ⟨fun y hy => ?_, fun z hz => by cases hz⟩
    simp only [List.mem_cons, List.not_mem_nil, or_false] at hy
    rcases hy with rfl | rfl | rfl
    · exact okW_lit (by decide +kernel)
    · exact okW_iS h1
    · exact okW_iS h2
  · refine ⟨fun y hy => ?_, fun z hz => okN_row (h5 z hz)⟩
    simp only [List.mem_cons, List.not_mem_nil, or_false] at hy
    rcases hy with rfl | rfl
    · exact okW_lit (by decide +kernel)
    · exact okW_iS (okI_nat (by omega))
theorem cln_L (b : Cln D) : Cln (IsL K D n) := by
  rintro v H nw nl ⟨a, xs, its, rfl, _, hm, hl, hD, rfl, rfl⟩
  have each : ∀ p ∈ its, ∃ x, D x H p.1 p.2 := by
    intro p hp
    obtain ⟨i, hi⟩ := List.mem_iff_getElem?.mp hp
    have hlt : i < xs.length := by have := (List.getElem?_eq_some_iff.mp hi).1; omega
    exact ⟨_, hD i xs[i] p (List.getElem?_eq_getElem hlt) hi⟩
  refine ⟨fun z hz => ?_, fun z hz => ?_⟩
  · simp only [List.mem_append, List.mem_singleton, List.mem_flatMap] at hz
    rcases hz with (rfl | ⟨p, hp, hz⟩) | rfl
    · exact okW_lit (by decide +kernel)
    · obtain ⟨x, h⟩ := each p hp
      exact (b _ _ _ _ h).1 z hz
    · exact okW_lit (by decide +kernel)
  · simp only [List.mem_flatMap] at hz
    obtain ⟨p, hp, hz⟩ := hz
    obtain ⟨x, h⟩ := each p hp
    exact (b _ _ _ _ h).2 z hz
theorem cln_Co : Cln (IsCo K) := by
  rintro v H nw nl ⟨a, rfl, ⟨r, _, ⟨_, _, _, h4, h5⟩, rfl⟩ | ⟨e, es, _, he, rfl, rfl⟩ | ⟨ps, ns, r, t, _, hp, hn4, _, hr1, hr2, rfl, rfl⟩⟩
  · refine ⟨fun y hy => ?_, fun z hz => okN_row (h5 z hz)⟩
    simp only [List.mem_cons, List.not_mem_nil, or_false] at hy
    rcases hy with rfl | rfl
    · exact okW_lit (by decide +kernel)
    · exact okW_iS (okI_nat (by omega))
  · obtain ⟨b1, b2⟩ := cln_L cln_Pr _ _ _ _ he.isL
    refine ⟨fun y hy => ?_, fun z hz => by cases hz⟩
    rcases List.mem_cons.mp hy with rfl | hy
    · exact okW_lit (by decide +kernel)
    · exact b1 y hy
  · obtain ⟨b1, b2⟩ := cln_L (n := 4) cln_I _ _ _ _ (hp.isL (K := K) hn4)
    refine ⟨fun y hy => ?_, fun z hz => by cases hz⟩
    simp only [List.mem_cons, List.mem_append, List.not_mem_nil, or_false] at hy
    rcases hy with rfl | hy | rfl | rfl
    · exact okW_lit (by decide +kernel)
    · exact b1 y hy
    · exact okW_iS hr1
    · exact okW_iS hr2
theorem cln_Pk : Cln (IsPk K) := by
  rintro v H nw nl ⟨a, nm, rfl, h0, ⟨c, cw, _, hc, rfl⟩ | ⟨b, ps, pw, _, hb, hp, rfl⟩⟩
  · obtain ⟨b1, b2⟩ := cln_Co _ _ _ _ hc
    refine ⟨fun y hy => ?_, b2⟩
    simp only [List.mem_cons] at hy
    rcases hy with rfl | rfl | hy
    · exact okW_iS h0
    · exact okW_lit (by decide +kernel)
    · exact b1 y hy
  · obtain ⟨b1, b2⟩ := cln_L cln_Pc _ _ _ _ hp
    refine ⟨fun y hy => ?_, b2⟩
    simp only [List.mem_cons] at hy
    rcases hy with rfl | rfl | rfl | hy
    · exact okW_iS h0
    · exact okW_lit (by decide +kernel)
    · exact okW_iS hb
    · exact b1 y hy
theorem cln_K : ∀ k, Cln (WrK K k)
  | .nInts => cln_L cln_I
  | .nInt => cln_I
  | .nLabels => cln_L cln_Lb
  | .nTruth => cln_B
  | .nTruths => cln_L cln_B
  | .nMarks => cln_L cln_Pr
  | .nPack => cln_Pk
theorem says_of {ws ls : List Str} (ne : ws ≠ []) (h1 : ∀ z ∈ ws, okW z) (h2 : ∀ z ∈ ls, okN z) (w40 : ∀ z ∈ ws, z.length ≤ 40) (l40 : ∀ z ∈ ls, z.length ≤ 40) (c1 : ws.length ≤ 17010) (c2 : ls.length ≤ 17010) : Says (Txt.join "\n" (Txt.join " " ws :: ls)) ws ls := by
  have s1 := sum_le w40
  have s2 := sum_le l40
  have s3 := join_len (" " : Str) ws
  have s4 := join_len ("\n" : Str) (Txt.join " " ws :: ls)
  have z1 : (" " : Str).length = 1 := by rw [len_S]; decide
  have z2 : ("\n" : Str).length = 1 := by rw [len_S]; decide
  rw [z1] at s3
  rw [z2] at s4
  simp only [List.map_cons, List.sum_cons, List.length_cons] at s4
  exact ⟨rfl, ne, h1, h2, by rw [sizeLine_eq]; omega, by rw [sizeLine_eq]; omega, by omega, by omega⟩
theorem row_clean {v : V} {H : Hp} {j : Nat} {its : List (List Str × List Str)} (h : RowAt K v H j its) : (∀ z ∈ forms[j]!.1 :: its.flatMap (·.1), okW z ∧ z.length ≤ 40) ∧ (∀ z ∈ its.flatMap (·.2), okN z ∧ z.length ≤ 40) ∧ (forms[j]!.1 :: its.flatMap (·.1)).length ≤ 17001 ∧ (its.flatMap (·.2)).length ≤ 17000 := by
  obtain ⟨hj, a, ps, rfl, hs, hP⟩ := h
  obtain ⟨f1, f2, f3⟩ := forms_ok ⟨j, hj⟩
  obtain ⟨_, h10⟩ := forms_small ⟨j, hj⟩
  have h10 : forms[j]!.2.length ≤ 10 := h10
  have each : ∀ p ∈ its, ((∀ z ∈ p.1, okW z) ∧ ∀ z ∈ p.2, okN z) ∧ (p.1.length ≤ 1700 ∧ p.2.length ≤ 1700 ∧ (∀ z ∈ p.1, z.length ≤ 40) ∧ ∀ z ∈ p.2, z.length ≤ 40) := by
    intro p hp
    obtain ⟨i, hi⟩ := List.mem_iff_getElem?.mp hp
    have h1 : i < ps.length := by have := (List.getElem?_eq_some_iff.mp hi).1; have := hP.l2; omega
    have hW := hP.at_ i ps[i] (forms[j]!.2[i]'(by have := hP.l1; omega)) p (List.getElem?_eq_getElem h1) (List.getElem?_eq_getElem _) hi
    exact ⟨cln_K _ _ _ _ _ hW, bnd_K _ _ _ _ _ hW⟩
  have e1 := flat_len (f := fun p : List Str × List Str => p.1) (n := 1700) (l := its) fun p hp => (each p hp).2.1
  have e2 := flat_len (f := fun p : List Str × List Str => p.2) (n := 1700) (l := its) fun p hp => (each p hp).2.2.1
  have e3 := hP.l1
  have e4 := hP.l2
  refine ⟨fun z hz => ?_, fun z hz => ?_, by rw [List.length_cons]; omega, by omega⟩
  · rcases List.mem_cons.mp hz with rfl | hz
    · exact ⟨okW_lit f3, f1⟩
    · obtain ⟨p, hp, hz⟩ := List.mem_flatMap.mp hz
      exact ⟨(each p hp).1.1 z hz, (each p hp).2.2.2.1 z hz⟩
  · obtain ⟨p, hp, hz⟩ := List.mem_flatMap.mp hz
    exact ⟨(each p hp).1.2 z hz, (each p hp).2.2.2.2 z hz⟩
end
section
variable {P : Program} {w : World} {K : PySem.W.Frag} {mg : Str → Option Value} {base : Heap} {CN CB CH CD : Addr}
theorem sc_l_refused : FnScope ["_law_text_here", "_law_told"] ["_law_text_here"] (defScope s_l_refused) := ⟨rfl, rfl, rfl, by decide +kernel, rfl, by decide +kernel, by decide +kernel⟩
def spRef (K : PySem.W.Frag) : Sp := fun vs H Q _ => ((∃ (v : V) (j : Nat) (its : List (List Str × List Str)) (t : Str) (rw rl : List Str), vs = [.str t] ∧ RowAt K v H j its ∧ Says t (forms[j]!.1 :: (its.flatMap (·.1) ++ rw)) (its.flatMap (·.2) ++ rl) ∧ (rw ≠ [] ∨ rl ≠ []) ∧ BadI rw) ∨
  (∃ (t : Str) (ws ls : List Str), vs = [.str t] ∧ Says t (("" : Str) :: ws) ls)) ∧ ∀ H', Kp [] H H' → Q (.bl true) H'
theorem ok_ref (T : Txt K w mg CN CB CH) (xNN : PySem.W.exmOne K (.ref CN) (.ref CN) = some true) (F : At K mg "_law_refused" s_l_refused ["_law_text_here"]) (G_row_of : Dfn P w K mg base 12 "row_of" ["text"] (spRowOf K CN)) : Dfn P w K mg base 13 "_law_refused" ["_law_text_here"] (spRef K) := by
  refine F.ok sc_l_refused (fun vs H Q E h => ?_) (fun qual f cdv A outer s H vs Q E hr h => ?_)
  · obtain ⟨⟨v, j, its, t, rw, rl, rfl, _⟩ | ⟨t, ws, ls, rfl, _⟩, _⟩ := h <;> rfl
  · refine ⟨_, (pss_cons (ps_set (i := 1) sc_l_refused.nd rfl (Or.inl rfl) pe_bl)
      (pss_cons (ps_tryR rfl rfl ⟨rfl, by decide, .inl T.g_NoText⟩ takes0 (fun a oe cls d pn hz hf =>
      (pss_one (ps_set (i := 1) sc_l_refused.nd rfl (Or.inl rfl) pe_bl))))
      (pss_one (ps_ret (pv 1))))), ?_⟩
    obtain ⟨h, q⟩ := h
    have any : ∃ t, vs = [.str t] ∧ ∀ (Q1 : VK) (E1 : XK), (∀ H', Kp [] H H' → E1 (.ref CN) none H') → spRowOf K CN [.str t] H Q1 E1 := by
      rcases h with ⟨v, j, its, t, rw, rl, rfl, hv, S, hne, hB⟩ | ⟨t, ws, ls, rfl, S⟩
      · exact ⟨t, rfl, fun Q1 E1 e => .inr (.inl ⟨v, j, its, t, rw, rl, rfl, hv, S, hne, hB, e⟩)⟩
      · exact ⟨t, rfl, fun Q1 E1 e => .inr (.inr ⟨t, ws, ls, rfl, S, e⟩)⟩
    obtain ⟨t, rfl, any⟩ := any
    walk_at "rd"
    intro WW hWW
    refine ⟨(tDrop (tCallS (spOf G_row_of) (WE WW) (tCons (tVar 0) tNil))), fun pn xe tk hp => (pss_one (ps_expr (pe_fnT G_row_of hr tk (pa_cons (pv 0) pa_nil)))), ?_⟩
    walk_at "rd"
    refine any _ _ fun H1 k1 => ?_
    show WW (.ref CN) none _ H1
    rw [hWW]
    refine ⟨true, xNN, fun _ e he => ?_, fun z => by cases z⟩
    walk_at "rd"
    exact q H1 k1
end
end Kq
set_option Elab.async false
set_option linter.all false
set_option maxRecDepth 100000
set_option maxHeartbeats 4000000
namespace Kq
open PySem PySem.Spec PyProof.Rows L2 Fw TL
local macro_rules | `(tactic| walk_at "rd") => `(tactic| try simp only [tMeth, tMake, tFld, sFld, sFldAug, gStar, tMethT, tCallVT, rNewStrs, tSeq, tNext, tBreak, tCont, tDrop, tRet, tRetN, tIfS, tAsg, tVar, tC, tOp, tUn, tTest, tB, tAnd, tOr, tNot, tAndV, tOrV, tNotV, tIf, tChain, tCB, tCons, tNil, tTup, tLst, tCall, tCallS, WE,
  gName, gSub, rI, rI0, rU, rEq, rNe, rIsiC, tSl, tPart, tNoPart, rSetL, tBM, tBM0, rAppend, rExtend, rExtendT, tCallL, L2.start, List.map_cons, List.map_nil, List.length_cons, List.length_nil, Nat.sub_self, Nat.reduceAdd, Nat.reduceSub, List.replicate_zero, List.replicate_succ, List.append_nil, List.nil_append, List.cons_append,
  List.getElem?_cons_zero, List.getElem?_cons_succ, List.set_cons_zero, List.set_cons_succ, Option.some.injEq, exists_eq_left', exists_eq_left, exists_eq_right, exists_eq_right', exists_const, exists_and_left, exists_and_right, V.int.injEq, V.bl.injEq, V.str.injEq, V.ref.injEq, V.ty.injEq, List.cons.injEq, and_true, true_and, and_assoc, reduceCtorEq, false_and, and_false, exists_false, false_or, or_false,
  if_true, if_false, Bool.not_true, Bool.not_false, Bool.false_eq_true, Bool.true_eq_false, ↓reduceIte, decide_eq_true_eq, decide_true, decide_false, sc_nn, sc_ni, sc_in, sc_nb, sc_bn, sc_ns, sc_sn, sc_ii, sc_bb, sc_ss, sc_is, sc_si, sc_bs, sc_sb, ipI, Int.reduceLT, Int.reduceLE, Int.reduceEq, Nat.reduceLT, Nat.reduceEqDiff, String.reduceEq, nc0, nc1, nc2, nc3, nc4, nc5, nc6, nc7, nc8, nc9, nc10, nc11, nc12, cx_K, cx_w, wipe, lenV_str, rCat, exists_eq, exists_eq', relO, relC, relM, relI, relSl, spOf, ciOf, csOf, crOf, L2.rIxD, eq_self, not_true_eq_false, not_false_eq_true, Option.isSome_some, Option.isSome_none, tCallV, ofS_inj, sg_inj, sg_len, sg_lt, tM1, tM0, tLc_rng1, tLc_rng2, tFor_rng1, tFor_rng2, tDNewK, sDPut,  Nat.reduceLeDiff, Bool.not_eq_true', decide_eq_false_iff_not,
  isi_int_int, isi_int_bool, isi_int_str, isi_int_tuple, isi_int_list, isi_int_dict, isi_bool_int, isi_bool_bool, isi_bool_str, isi_bool_tuple, isi_bool_list, isi_bool_dict, isi_str_int, isi_str_bool, isi_str_str, isi_str_tuple, isi_str_list, isi_str_dict, isi_non_int, isi_non_bool, isi_non_str, isi_non_tuple, isi_non_list, isi_non_dict])
local macro_rules | `(tactic| walk_at "ix") => `(tactic| (refine ixT (by assumption) rfl ?_; walk_at "rd"))
local macro_rules | `(tactic| walk_at "len") => `(tactic| (refine ⟨_, lenV_T (by assumption), ?_⟩; walk_at "rd"))
local macro_rules | `(tactic| walk_at "isT") => `(tactic| (refine ⟨true, isiT (by assumption), ?_⟩; walk_at "rd"))

section
variable {P : Program} {w : World} {K : PySem.W.Frag} {mg : Str → Option Value} {base : Heap} {CN CB CH CD : Addr}
structure TxtR (mg : Str → Option Value) : Prop where
  repr_ : mg "repr" = none
theorem sc_law : FnScope ["_law_script", "_law_deck_here", "_law_row_here", "_law_other", "_law_one", "_law_text_here", "_law_found", "_law_head"] ["_law_script"] (defScope s_law) := ⟨rfl, rfl, rfl, by decide +kernel, rfl, by decide +kernel, by decide +kernel⟩
def LstGoal (K : PySem.W.Frag) (a : Addr) (g : TG) (tb : TS) (D : Ends) (σ : L2.St) (H : Hp) : Prop := ∃ W : Nat → Nat → L2.St → Hp → Prop, (∃ m, W 0 m σ H) ∧ ∀ i m σ H, W i m σ H →
      ((Itl K a).stop i H ∧ D.nx σ H) ∨ ((Itl K a).go i H ∧ ∃ N : L2.St → Hp → Prop, (∀ σ' H', N σ' H' → ∃ m', m' < m ∧ W (i + 1) m' σ' H') ∧ ∀ x H', (Itl K a).yld i H x H' → g x σ H' fun σ2 H2 => tb { D with nx := N, ct := N, bk := D.nx } σ2 H2)
theorem tFor_lst {ts : TE} {g : TG} {tb : TS} {D : Ends} {σ : L2.St} {H : Hp} : tFor (iList K ts) g tb D σ H = (ts σ H fun x H1 => ∃ a, x = .ref a ∧ (∃ xs, SqL K H1 a xs) ∧ LstGoal K a g tb D σ H1) := rfl
theorem lst_goal {a : Addr} {xs : List V} {g : TG} {tb : TS} {D : Ends} {σ : L2.St} {H : Hp} (Pv : Nat → L2.St → Hp → Prop) (h0 : Pv 0 σ H) (hG : ∀ i σ H, i ≤ xs.length → Pv i σ H → SqL K H a xs)
    (hs : ∀ i x σ H, xs[i]? = some x → Pv i σ H → g x σ H fun σ2 H2 => tb { D with nx := Pv (i + 1), ct := Pv (i + 1), bk := D.nx } σ2 H2) (hd : ∀ σ H, Pv xs.length σ H → D.nx σ H) : LstGoal K a g tb D σ H :=
  for_it walk_list Pv h0 hG (fun i x σ H H' hi p y => by
    obtain ⟨rfl, hx⟩ := y
    exact hs i x σ H' hx p) hd
theorem addTail {H : Hp} {p1 ph : Addr} {z h0 : Str} {L : List Str} {R : Str → Hp → Prop} (h1 : H p1 = some (.lst [.str z])) (h2 : H ph = some (.lst ((h0 :: L).map V.str))) (hz : z.length ≤ 710000) (hL : L.length ≤ 17000) (hs : (L.map (·.length)).sum ≤ 700000)
    (q : ∀ H', Kp [] H H' → R (Txt.join "\n" (z :: L)) H') : rSlL K (V.ref ph) (some 1) none H fun y H2 => ∃ x, y = V.ref x ∧ ∃ x_1, H2 p1 = some (HO.lst x_1) ∧ ∃ x_2, H2 x = some (HO.lst x_2) ∧ x_1.length + x_2.length ≤ sizeLine ∧ ∀ (p : Addr), H2 p = none →
      ∃ x, (SqL K (upd H2 p (HO.lst (x_1 ++ x_2))) p (List.map V.str x) ∨ SqT K (upd H2 p (HO.lst (x_1 ++ x_2))) p (List.map V.str x)) ∧ (List.map (fun x => x.length) x).sum + x.length * (Str.ofString "\n").length ≤ 16777216 ∧ R (Txt.join (Str.ofString "\n") x) (upd H2 p (HO.lst (x_1 ++ x_2))) := by
  refine ⟨ph, _, rfl, SqL.of h2, fun p hp => ?_⟩
  have ec : cutV ((h0 :: L).map V.str) (some 1) none = L.map V.str := by rw [cut1]; rfl
  rw [ec]
  have k1 : Kp [] H (upd H p (.lst (L.map V.str))) := Kp.refl.new hp
  refine ⟨p, rfl, _, k1.at h1 (by simp), _, upd_same, by rw [List.length_map, sizeLine_eq]; simp; omega, fun p2 hp2 => ⟨z :: L, .inl (SqL.of upd_same), ?_, q _ (k1.new hp2)⟩⟩
  have z2 : ("\n" : Str).length = 1 := by rw [len_S]; decide
  rw [z2]
  simp only [List.map_cons, List.sum_cons, List.length_cons]
  omega
def spLaw (K : PySem.W.Frag) : Sp := fun vs H Q _ => ∃ (a : Addr) (xs : List Int), vs = [.ref a] ∧ SqL K H a (xs.map V.int) ∧ xs.length ≤ 100 ∧ ∀ H', Q (.bl true) H'
theorem ok_law (T : Txt K w mg CN CB CH) (TR : TxtR mg) {f : Addr} {fd : FuncData} (F : FunD K "law" "law" (defArgs s_law) (defBody s_law) (defScope s_law) [] [] f fd) (hr0 : Room 15 callerA)
    (G_l_deck : Dfn P w K mg base 1 "_law_deck" ["_law_script"] (spDeck K)) (G_l_draw : Dfn P w K mg base 2 "_law_draw" ["_law_deck_here", "_law_many"] (spDraw K)) (G_l_row : Dfn P w K mg base 7 "_law_row" ["_law_deck_here", "_law_turn"] (spRow K)) (G_text_of : Dfn P w K mg base 12 "text_of" ["row"] (spTextOf K CN)) (G_row_of : Dfn P w K mg base 12 "row_of" ["text"] (spRowOf K CN))
    (G_l_written : Dfn P w K mg base 4 "_law_written" ["_law_row_here"] (spWritten K)) (G_l_refused : Dfn P w K mg base 13 "_law_refused" ["_law_text_here"] (spRef K)) : AtA callerA P w K mg base f fd ["_law_script"] (spLaw K) := by
  refine at_of (k := 14) F sc_law hr0 (fun vs H Q E h => ?_) (fun cdv outer s H vs Q E hr h => ?_)
  · obtain ⟨a, xs, rfl, _⟩ := h
    rfl
  · have hgd : (callerA.deeper (envOfC "law" (defScope s_law) s.heap.objs.size f cdv)).guards = some [] := rfl
    refine ⟨_, (pss_cons (ps_set (i := 1) sc_law.nd rfl (Or.inl rfl) (pe_fn G_l_deck hr (pa_cons (pv 0) pa_nil)))
      (pss_cons (ps_set (i := 2) sc_law.nd rfl (Or.inl rfl) (pe_fn G_l_row hr (pa_cons (pv 1) (pa_cons (pe_fn G_l_draw hr (pa_cons (pv 1) (pa_cons pe_int pa_nil))) pa_nil))))
      (pss_cons (ps_set (i := 3) sc_law.nd rfl (Or.inl rfl) (pe_fn G_l_row hr (pa_cons (pv 1) (pa_cons (pe_fn G_l_draw hr (pa_cons (pv 1) (pa_cons pe_int pa_nil))) pa_nil))))
      (pss_cons (ps_for (passes_of rfl) rfl (pi_list (pe_lst (pa_cons (pv 2) (pa_cons (pv 3) (pa_cons (pv 2) pa_nil))))) (pg_name (i := 4) sc_law.nd rfl (Or.inl rfl)) (pss_cons (ps_set (i := 5) sc_law.nd rfl (Or.inl rfl) (pe_fn G_l_written hr (pa_cons (pv 4) pa_nil)))
      (pss_cons (ps_set (i := 6) sc_law.nd rfl (Or.inl rfl) (pe_fn G_row_of hr (pa_cons (pv 5) pa_nil)))
      (pss_one (ps_if (PW.pt (pw_or (pt_not (pt_val (pe_callB call_isiC (by rfl) T.isinstance_ (by decide +kernel) (pa_cons (pv 6) (pa_cons (pe_ty "tuple" rfl T.tuple_ (by decide +kernel)) pa_nil))))) (pw_or (pt_cmpR op_ne (pe_callB (cr_repr hgd hr.units) (by rfl) TR.repr_ (by decide +kernel) (pa_cons (pv 6) pa_nil)) (pe_callB (cr_repr hgd hr.units) (by rfl) TR.repr_ (by decide +kernel) (pa_cons (pv 4) pa_nil)) (nomark _)) (pw_or1 (pt_cmpR op_ne (pe_fn G_text_of hr (pa_cons (pv 6) pa_nil)) (pv 5) (nomark _)))))) (pss_one (ps_ret pe_bl)) pss_nil)))))
      (pss_cons (ps_set (i := 7) sc_law.nd rfl (Or.inl rfl) (pe_split (pe_fn G_l_written hr (pa_cons (pv 2) pa_nil)) pe_str))
      (pss_cons (ps_if (PW.pt (pw_or (pt_not (pt_val (pe_fn G_l_refused hr (pa_cons pe_str pa_nil)))) (pw_or1 (pt_not (pt_val (pe_fn G_l_refused hr (pa_cons (pe_join pe_str (pe_op op_cat (pe_lst (pa_cons (pe_op op_add_str (pe_ix ix_list (pv 7) pe_int (fun _ _ => rfl)) pe_str) pa_nil)) (pe_slice sl_list (pv 7) (po_some pe_int) po_none))) pa_nil))))))) (pss_one (ps_ret pe_bl)) pss_nil)
      (pss_one (ps_ret (pe_and (pe_fn G_l_refused hr (pa_cons (pe_join pe_str (pe_op op_cat (pv 7) (pe_lst (pa_cons pe_str pa_nil)))) pa_nil)) (pe_one (pe_fn G_l_refused hr (pa_cons (pe_join pe_str (pe_op op_cat (pe_lst (pa_cons (pe_op op_add_str pe_str (pe_ix ix_list (pv 7) pe_int (fun _ _ => rfl))) pa_nil)) (pe_slice sl_list (pv 7) (po_some pe_int) po_none))) pa_nil)))))))))))), ?_⟩
    obtain ⟨a, xs, rfl, hs, hx, q⟩ := h
    walk_at "rd"
    refine ⟨a, xs, rfl, hs, hx, fun H1 d c k1 hd1 hd hc => ?_⟩
    walk_at "rd"
    refine spDraw_mk hd1 (by omega) (by decide) (by decide) fun H2 r2 k2 hd2 r20 r21 => ?_
    refine ⟨r2, r20, by omega, spG_mk hd2 (by omega) fun H3 v3 k3 hd3 hv3 => ?_⟩
    walk_at "rd"
    refine spDraw_mk hd3 (by omega) (by decide) (by decide) fun H4 r4 k4 hd4 r40 r41 => ?_
    refine ⟨r4, r40, by omega, spG_mk hd4 (by omega) fun H5 v5 k5 hd5 hv5 => ?_⟩
    obtain ⟨j3, it3, hv3⟩ := hv3
    obtain ⟨j5, it5, hv5⟩ := hv5
    have hv3 := hv3.kp (k4.trans k5)
    rw [tFor_lst]
    walk_at "rd"
    refine ⟨by decide, fun p hp => ?_⟩
    have k6 : Kp [] H5 (upd H5 p (.lst [v3, v5, v3])) := Kp.refl.new hp
    have hp6 : SqL K (upd H5 p (.lst [v3, v5, v3])) p [v3, v5, v3] := SqL.of upd_same
    have hv3 := hv3.kp k6
    have hv5 := hv5.kp k6
    generalize upd H5 p (.lst [v3, v5, v3]) = H6 at k6 hp6 hv3 hv5 ⊢
    obtain ⟨Pv, hPv⟩ : ∃ Pv : Nat → L2.St → Hp → Prop, ∀ i σ H', Pv i σ H' ↔ (Kp [] H6 H' ∧ ∃ o1 o2 o3 o4, σ = [some (V.ref a), some (V.ref d), some v3, some v5, o1, o2, o3, o4]) := ⟨_, fun _ _ _ => Iff.rfl⟩
    refine ⟨⟨_, hp6⟩, lst_goal (xs := [v3, v5, v3]) Pv ?_ ?_ ?_ ?_⟩
    · exact (hPv _ _ _).mpr ⟨Kp.refl, _, _, _, _, rfl⟩
    · intro i σ H' _ h
      exact ((hPv _ _ _).mp h).1.lst hp6 (by simp)
    · intro i x σ H7 hxi h
      obtain ⟨k7, o1, o2, o3, o4, rfl⟩ := (hPv _ _ _).mp h
      obtain ⟨j, its, hx⟩ : ∃ j its, RowAt K x H6 j its := by
        have hm := List.mem_of_getElem? hxi
        simp only [List.mem_cons, List.not_mem_nil, or_false] at hm
        rcases hm with rfl | rfl | rfl
        · exact ⟨_, _, hv3⟩
        · exact ⟨_, _, hv5⟩
        · exact ⟨_, _, hv3⟩
      walk_at "rd"
      obtain ⟨w1, w2, w3, w4⟩ := row_clean hx
      have S : Says (rowText j its) (forms[j]!.1 :: its.flatMap (·.1)) (its.flatMap (·.2)) := says_of (by simp) (fun z hz => (w1 z hz).1) (fun z hz => (w2 z hz).1) (fun z hz => (w1 z hz).2) (fun z hz => (w2 z hz).2) (by omega) (by omega)
      refine ⟨x, j, its, rfl, hx.kp k7, fun H8 k8 => ?_⟩
      refine .inl ⟨x, j, its, _, rfl, hx.kp (k7.trans k8), S, fun H9 p9 j' k9 hv9 e9 ⟨zs, hp9⟩ al => ⟨true, isiT hp9, ?_⟩⟩
      rw [if_neg (by simp)]
      obtain ⟨dd, g1, g2, n⟩ := al
      obtain ⟨_, ax, psx, rfl, _, _⟩ := hx
      refine ⟨p9, rfl, dd, g2.dp _ _, n.s, n.h, Nat.le_trans n.dp (by decide), Nat.le_trans n.sh (by decide), ax, rfl, dd, g1.dp _ _, n.s, n.h, Nat.le_trans n.dp (by decide), Nat.le_trans n.sh (by decide), ?_⟩
      rw [if_neg (fun h => h rfl)]
      refine .inl ⟨_, j', its, rfl, hv9, fun H10 k10 => ?_⟩
      have et : rowText j' its = rowText j its := by
        unfold rowText
        rw [e9]
      rw [et]
      refine ⟨rfl, ?_⟩
      rw [if_neg (fun h => h rfl)]
      exact (hPv _ _ _).mpr ⟨((k7.trans k8).trans k9).trans k10, _, _, _, _, rfl⟩
    · intro σ H7 h
      obtain ⟨k7, o1, o2, o3, o4, rfl⟩ := (hPv _ _ _).mp h
      walk_at "rd"
      obtain ⟨w1, w2, w3, w4⟩ := row_clean hv3
      have S : Says (rowText j3 it3) (forms[j3]!.1 :: it3.flatMap (·.1)) (it3.flatMap (·.2)) := says_of (by simp) (fun z hz => (w1 z hz).1) (fun z hz => (w2 z hz).1) (fun z hz => (w1 z hz).2) (fun z hz => (w2 z hz).2) (by omega) (by omega)
      have s1 := sum_le (n := 40) (ys := forms[j3]!.1 :: it3.flatMap (·.1)) fun z hz => (w1 z hz).2
      have s2 := sum_le (n := 40) (ys := it3.flatMap (·.2)) fun z hz => (w2 z hz).2
      have s3 := join_len (" " : Str) (forms[j3]!.1 :: it3.flatMap (·.1))
      have z1 : (" " : Str).length = 1 := by rw [len_S]; decide
      have z2 : ("\n" : Str).length = 1 := by rw [len_S]; decide
      rw [z1] at s3
      have esp : Txt.split (rowText j3 it3) ("\n" : Str) = Txt.join " " (forms[j3]!.1 :: it3.flatMap (·.1)) :: it3.flatMap (·.2) := by
        rw [S.eq]
        exact split_lines (join_okN S.w) S.l
      refine ⟨v3, j3, it3, rfl, hv3.kp k7, fun H8 k8 => ⟨⟨_, rfl⟩, _, rfl, by decide +kernel, S.sz, fun ph hph => ?_⟩⟩
      rw [esp]
      have jb := join_behind (ws := forms[j3]!.1 :: it3.flatMap (·.1)) (by simp)
      have ja := join_ahead (ws := forms[j3]!.1 :: it3.flatMap (·.1)) (by simp)
      -- the three texts that are refused
      have S1 : Says (Txt.join "\n" ((Txt.join " " (forms[j3]!.1 :: it3.flatMap (·.1)) ++ (" " : Str)) :: it3.flatMap (·.2))) (forms[j3]!.1 :: (it3.flatMap (·.1) ++ [("" : Str)])) (it3.flatMap (·.2) ++ []) := by
        rw [jb, List.append_nil]
        refine says_of (ws := forms[j3]!.1 :: (it3.flatMap (·.1) ++ [("" : Str)])) (by simp) (fun z hz => ?_) (fun z hz => (w2 z hz).1) (fun z hz => ?_) (fun z hz => (w2 z hz).2) (by simp at w3 ⊢; omega) (by omega)
        · rw [← List.cons_append] at hz
          rcases List.mem_append.mp hz with hz | hz
          · exact (w1 z hz).1
          · rw [List.mem_singleton.mp hz]
            exact okW_lit (by decide +kernel)
        · rw [← List.cons_append] at hz
          rcases List.mem_append.mp hz with hz | hz
          · exact (w1 z hz).2
          · rw [List.mem_singleton.mp hz]
            decide +kernel
      have S2 : Says (Txt.join "\n" (Txt.join " " (forms[j3]!.1 :: it3.flatMap (·.1)) :: (it3.flatMap (·.2) ++ [("ab" : Str)]))) (forms[j3]!.1 :: (it3.flatMap (·.1) ++ [])) (it3.flatMap (·.2) ++ [("ab" : Str)]) := by
        rw [List.append_nil]
        refine says_of (by simp) (fun z hz => (w1 z hz).1) (fun z hz => ?_) (fun z hz => (w1 z hz).2) (fun z hz => ?_) (by omega) (by rw [List.length_append, List.length_singleton]; omega)
        · rcases List.mem_append.mp hz with hz | hz
          · exact (w2 z hz).1
          · rw [List.mem_singleton.mp hz]
            intro c hc
            have h2 : ∀ c ∈ ("ab" : Str).cps.toList, 32 ≤ c := by decide +kernel
            exact h2 c hc
        · rcases List.mem_append.mp hz with hz | hz
          · exact (w2 z hz).2
          · rw [List.mem_singleton.mp hz]
            decide +kernel
      have S3 : Says (Txt.join "\n" (((" " : Str) ++ Txt.join " " (forms[j3]!.1 :: it3.flatMap (·.1))) :: it3.flatMap (·.2))) (("" : Str) :: (forms[j3]!.1 :: it3.flatMap (·.1))) (it3.flatMap (·.2)) := by
        rw [ja]
        refine says_of (by simp) (fun z hz => ?_) (fun z hz => (w2 z hz).1) (fun z hz => ?_) (fun z hz => (w2 z hz).2) (by rw [List.length_cons]; omega) (by omega)
        · rcases List.mem_cons.mp hz with rfl | hz
          · exact okW_lit (by decide +kernel)
          · exact (w1 z hz).1
        · rcases List.mem_cons.mp hz with rfl | hz
          · decide +kernel
          · exact (w1 z hz).2
      have S0 : Says ("" : Str) [("" : Str)] [] := by
        have e0 : ("" : Str) = Txt.join "\n" (Txt.join " " [("" : Str)] :: []) := by decide +kernel
        have := says_of (ws := [("" : Str)]) (ls := []) (by simp) (fun z hz => by rw [List.mem_singleton.mp hz]; exact okW_lit (by decide +kernel)) (fun z hz => by cases hz) (fun z hz => by rw [List.mem_singleton.mp hz]; decide +kernel) (fun z hz => by cases hz) (by decide) (by decide)
        rw [← e0] at this
        exact this
      generalize Txt.join " " (forms[j3]!.1 :: it3.flatMap (·.1)) = h0 at s3 S1 S2 S3 hph ⊢
      have kh : Kp [] H8 (upd H8 ph (.lst ((h0 :: it3.flatMap (·.2)).map V.str))) := Kp.refl.new hph
      have eh : upd H8 ph (.lst ((h0 :: it3.flatMap (·.2)).map V.str)) ph = some (.lst ((h0 :: it3.flatMap (·.2)).map V.str)) := upd_same
      have hv8 := hv3.kp ((k7.trans k8).trans kh)
      generalize upd H8 ph (.lst ((h0 :: it3.flatMap (·.2)).map V.str)) = H9 at kh eh hv8 ⊢
      refine ⟨.inr ⟨_, _, _, rfl, S0⟩, fun H10 k10 => ⟨true, rfl, ?_⟩⟩
      rw [if_neg (by simp)]
      have e10 := k10.at eh (by simp)
      have hl0 : h0.length ≤ 700000 := by omega
      refine ixL (SqL.of e10) (v := .str h0) at0 ⟨_, rfl, by rw [z1, sizeLine_eq]; omega, by decide, fun p1 hp1 => ?_⟩
      have k11 : Kp [] H10 (upd H10 p1 (.lst [.str (h0 ++ (" " : Str))])) := Kp.refl.new hp1
      have lb : (h0 ++ (" " : Str)).length = h0.length + 1 := by
        have : (h0 ++ (" " : Str)).length = h0.length + (" " : Str).length := Array.size_append
        rw [this, z1]
      have la2 : ((" " : Str) ++ h0).length = h0.length + 1 := by
        have : ((" " : Str) ++ h0).length = (" " : Str).length + h0.length := Array.size_append
        rw [this, z1]
        omega
      refine addTail (R := fun t H' => spRef K [V.str t] H' _ E0) upd_same (k11.at e10 (by simp)) (by omega) w4 (by omega) fun H12 k12 => ?_
      have k912 := (k10.trans k11).trans k12
      refine ⟨.inl ⟨v3, j3, it3, _, [("" : Str)], [], rfl, hv8.kp k912, S1, .inl (by simp), bad_sp⟩, fun H13 k13 => ⟨true, rfl, ?_⟩⟩
      rw [if_neg (by simp)]
      have e13 := (k912.trans k13).at eh (by simp)
      refine ⟨by decide, fun p4 hp4 => ?_⟩
      have k14 : Kp [] H13 (upd H13 p4 (.lst [.str ("ab" : Str)])) := Kp.refl.new hp4
      refine ⟨_, k14.at e13 (by simp), _, upd_same, by rw [List.length_map, sizeLine_eq]; simp only [List.length_cons, List.length_nil]; omega, fun p5 hp5 => ⟨(h0 :: it3.flatMap (·.2)) ++ [("ab" : Str)], .inl (SqL.of (by rw [upd_same, List.map_append]; rfl)), ?_, ?_⟩⟩
      · rw [z2, List.map_append, List.sum_append]
        have z3 : ("ab" : Str).length = 2 := by rw [len_S]; decide
        simp only [List.map_cons, List.map_nil, List.sum_cons, List.sum_nil, List.length_append, List.length_cons, List.length_nil, z3]
        omega
      · have k15 := (k912.trans k13).trans (k14.new (o := .lst ((h0 :: it3.flatMap (·.2)).map V.str ++ [.str ("ab" : Str)])) hp5)
        refine ⟨.inl ⟨v3, j3, it3, _, [], [("ab" : Str)], rfl, hv8.kp k15, S2, .inr (by simp), .inl rfl⟩, fun H16 k16 => ⟨true, rfl, ?_⟩⟩
        rw [if_pos rfl]
        have e16 := (k15.trans k16).at eh (by simp)
        refine ixL (SqL.of e16) (v := .str h0) at0 ⟨_, rfl, by rw [z1, sizeLine_eq]; omega, by decide, fun p6 hp6 => ?_⟩
        have k17 : Kp [] H16 (upd H16 p6 (.lst [.str ((" " : Str) ++ h0)])) := Kp.refl.new hp6
        refine addTail (R := fun t H' => spRef K [V.str t] H' _ E0) upd_same (k17.at e16 (by simp)) (by omega) w4 (by omega) fun H18 k18 => ?_
        exact ⟨.inr ⟨_, _, _, rfl, S3⟩, fun H19 _ => q H19⟩
end
end Kq
set_option Elab.async false
set_option linter.all false
set_option maxRecDepth 100000
set_option maxHeartbeats 0
namespace Kq
open PySem PySem.Spec PyProof.Rows L2 Fw TL
section
variable {P : Program} {w : World} {K : PySem.W.Frag} {mg : Str → Option Value} {base : Heap} {CN CB CH CD : Addr}
theorem lst_of (T : Txt K w mg CN CB CH) (F : At K mg "put_list" s_put_list ["thing", "most", "each", "words", "lines"]) {x : Str} {f : Addr} {D : Wr} {most n : Nat} (sD : Stb D) (bD : Bnd D n) (G_need : Dfn P w K mg base 1 "need" ["good"] (spNeed CN)) (G_is_list : Dfn P w K mg base 1 "is_list" ["thing", "most"] (spIsList K))
    (G : Dfn P w K mg base 3 x ["thing", "words", "lines"] (spPut D n)) (hm : mg x = some (.ref f)) : Dfn P w K mg base 7 "put_list" ["thing", "most", "each", "words", "lines"] (spPutL K f D most n) := by
  obtain ⟨f', fd, Fe, hm', hk, hb, _⟩ := G.ex
  rw [hm] at hm'
  cases hm'
  exact ok_put_list T F sD bD G_need G_is_list Fe hk hb (by decide)
theorem lst_ofB (T : Txt K w mg CN CB CH) (F : At K mg "put_list" s_put_list ["thing", "most", "each", "words", "lines"]) {f : Addr} {most : Nat} (G_need : Dfn P w K mg base 1 "need" ["good"] (spNeed CN)) (G_is_list : Dfn P w K mg base 1 "is_list" ["thing", "most"] (spIsList K))
    (G : Dfn P w K mg base 2 "put_int" ["thing", "words", "lines"] (spPutI CN)) (hm : mg "put_int" = some (.ref f)) : Dfn P w K mg base 7 "put_list" ["thing", "most", "each", "words", "lines"] (spPutLB K CN f most) := by
  obtain ⟨f', fd, Fe, hm', hk, hb, _⟩ := G.ex
  rw [hm] at hm'
  cases hm'
  exact ok_put_listB T F G_need G_is_list Fe hk hb
theorem spGet.mono {D : Wr} {k m k' m' : Nat} {vs : List V} {H : Hp} {Q : VK} {E : XK} (h : spGet K CD D k' m' vs H Q E) (h1 : k ≤ k') (h2 : m ≤ m') : spGet K CD D k m vs H Q E := by
  obtain ⟨a, wa, la, ws, ls, i, j, v, nw, nl, rw, rl, e, hd, hD, e1, e2, q⟩ := h
  exact ⟨a, wa, la, ws, ls, i, j, v, nw, nl, rw, rl, e, hd, hD, e1, e2, fun H' v' kk hd' hD' al => q H' v' kk hd' hD' (al.mono h1 h2)⟩
theorem gl_of (T : Txt K w mg CN CB CH) (F : At K mg "get_list" s_get_list ["desk", "most", "each"]) {x : Str} {f : Addr} {D : Wr} {most k m : Nat} (sD : Stb D) (hD : Hd1 D) (G_need : Dfn P w K mg base 1 "need" ["good"] (spNeed CN)) (M_need : Dfm P w K mg base 2 CD "need" ["self", "word"] (spNeedM CD CN)) (M_is_next : Dfm P w K mg base 1 CD "is_next" ["self", "word"] (spIsNext CD))
    (G : Dfn P w K mg base 6 x ["desk"] (spGet K CD D k m)) (hm : mg x = some (.ref f)) (hmost : most ≤ 400) : Dfn P w K mg base 7 "get_list" ["desk", "most", "each"] (spGetL K CD f D most k m) := by
  obtain ⟨f', fd, Fe, hm', hk, hb, _⟩ := G.ex
  rw [hm] at hm'
  cases hm'
  exact ok_get_list T F sD hD G_need M_need M_is_next Fe hk hb (by decide) hmost
theorem gl_ofB (T : Txt K w mg CN CB CH) (F : At K mg "get_list" s_get_list ["desk", "most", "each"]) {x : Str} {f : Addr} {most : Nat} {B : List Str → Prop} (G_need : Dfn P w K mg base 1 "need" ["good"] (spNeed CN)) (M_need : Dfm P w K mg base 2 CD "need" ["self", "word"] (spNeedM CD CN)) (M_is_next : Dfm P w K mg base 1 CD "is_next" ["self", "word"] (spIsNext CD))
    (G : Dfn P w K mg base 6 x ["desk"] (spBad CD CN B)) (hm : mg x = some (.ref f)) (hmost : 0 < most) : Dfn P w K mg base 7 "get_list" ["desk", "most", "each"] (spBadL CD CN f most B) := by
  obtain ⟨f', fd, Fe, hm', hk, hb, _⟩ := G.ex
  rw [hm] at hm'
  cases hm'
  exact ok_get_listB T F G_need M_need M_is_next Fe hk hb (by decide) hmost
/-! ### what the head tells beyond the facts -/
def tupAtB (K : PySem.W.Frag) (a : Addr) (vs : List V) : Bool := match K.lookup a with
  | some ⟨.type c, _, .seq its _, _⟩ => decide (c = "tuple") && (decide (its.size ≤ 100) && He.relAll vs its.toList)
  | _ => false
theorem tupAtB_ok {a : Addr} {vs : List V} (h : tupAtB K a vs = true) : KT K a vs := by
  unfold tupAtB at h
  cases q : K.lookup a with
  | none =>
    rw [q] at h
    cases h
  | some o =>
    obtain ⟨oc, od, dt, osl⟩ := o
    rw [q] at h
    cases oc with
    | type c =>
      cases dt with
      | seq its n =>
        obtain ⟨h1, h2⟩ := He.ba h
        obtain ⟨h3, h4⟩ := He.ba h2
        have e := of_decide_eq_true h1
        subst e
        exact ⟨_, its, n, q, rfl, rfl, Nat.le_trans (of_decide_eq_true h3) (by decide), He.relAll_ok h4⟩
      | _ => cases h
    | _ => cases dt <;> cases h
def itAt (K : PySem.W.Frag) (a : Addr) (i : Nat) : Addr := match K.lookup a with
  | some ⟨_, _, .seq its _, _⟩ => (match its.getD i .none with
    | .ref b => b
    | _ => 0)
  | _ => 0
def allK : List Kd := [.nInts, .nInt, .nLabels, .nTruth, .nTruths, .nMarks, .nPack]
def kB (K : PySem.W.Frag) : Bool := allK.all fun k => if eachK k = true then He.eqO (PySem.W.nsIn K (He.ga K "PUTS_EACH") (kdS k)) (some (some (.ref (He.ga K (nmK k)))))
  else He.eqO (PySem.W.nsIn K (He.ga K "PUTS_EACH") (kdS k)) (some none) && He.eqO (PySem.W.nsIn K (He.ga K "PUTS") (kdS k)) (some (some (.ref (He.ga K (nmK k)))))
theorem kB_ok (h : kB K = true) (k : Kd) : (if eachK k = true then He.eqO (PySem.W.nsIn K (He.ga K "PUTS_EACH") (kdS k)) (some (some (.ref (He.ga K (nmK k)))))
  else He.eqO (PySem.W.nsIn K (He.ga K "PUTS_EACH") (kdS k)) (some none) && He.eqO (PySem.W.nsIn K (He.ga K "PUTS") (kdS k)) (some (some (.ref (He.ga K (nmK k)))))) = true := List.all_eq_true.mp h k (by cases k <;> decide)
def kB2 (K : PySem.W.Frag) : Bool := allK.all fun k => if eachK k = true then He.eqO (PySem.W.nsIn K (He.ga K "GETS_EACH") (kdS k)) (some (some (.ref (He.ga K (nmG k)))))
  else He.eqO (PySem.W.nsIn K (He.ga K "GETS_EACH") (kdS k)) (some none) && He.eqO (PySem.W.nsIn K (He.ga K "GETS") (kdS k)) (some (some (.ref (He.ga K (nmG k)))))
theorem kB2_ok (h : kB2 K = true) (k : Kd) : (if eachK k = true then He.eqO (PySem.W.nsIn K (He.ga K "GETS_EACH") (kdS k)) (some (some (.ref (He.ga K (nmG k)))))
  else He.eqO (PySem.W.nsIn K (He.ga K "GETS_EACH") (kdS k)) (some none) && He.eqO (PySem.W.nsIn K (He.ga K "GETS") (kdS k)) (some (some (.ref (He.ga K (nmG k)))))) = true := List.all_eq_true.mp h k (by cases k <;> decide)
def formA (K : PySem.W.Frag) (i : Nat) : Addr := itAt K (He.ga K "FORMS") i
def formsB (K : PySem.W.Frag) : Bool := tupAtB K (He.ga K "FORMS") (((List.range 11).map (formA K)).map V.ref) && (List.range 11).all fun i => tupAtB K (formA K i) [.str forms[i]!.1, .ref (itAt K (formA K i) 1)] && tupAtB K (itAt K (formA K i) 1) (forms[i]!.2.map fun k => .str (kdS k))
def exB (K : PySem.W.Frag) : Bool := kB K && (kB2 K && formsB K)
end
/-! ### the facts -/
def d_need : He.DefD := ⟨("need", none), "need", "need", defArgs s_need, defBody s_need, defScope s_need, [], []⟩
def d_is_int : He.DefD := ⟨("is_int", none), "is_int", "is_int", defArgs s_is_int, defBody s_is_int, defScope s_is_int, [], []⟩
def d_is_label : He.DefD := ⟨("is_label", none), "is_label", "is_label", defArgs s_is_label, defBody s_is_label, defScope s_is_label, [], []⟩
def d_is_row : He.DefD := ⟨("is_row", none), "is_row", "is_row", defArgs s_is_row, defBody s_is_row, defScope s_is_row, [], []⟩
def d_are_rows : He.DefD := ⟨("are_rows", none), "are_rows", "are_rows", defArgs s_are_rows, defBody s_are_rows, defScope s_are_rows, [], []⟩
def d_is_list : He.DefD := ⟨("is_list", none), "is_list", "is_list", defArgs s_is_list, defBody s_is_list, defScope s_is_list, [], []⟩
def d_is_pair : He.DefD := ⟨("is_pair", none), "is_pair", "is_pair", defArgs s_is_pair, defBody s_is_pair, defScope s_is_pair, [], []⟩
def d_rises : He.DefD := ⟨("rises", none), "rises", "rises", defArgs s_rises, defBody s_rises, defScope s_rises, [], []⟩
def d_put_int : He.DefD := ⟨("put_int", none), "put_int", "put_int", defArgs s_put_int, defBody s_put_int, defScope s_put_int, [], []⟩
def d_put_truth : He.DefD := ⟨("put_truth", none), "put_truth", "put_truth", defArgs s_put_truth, defBody s_put_truth, defScope s_put_truth, [], []⟩
def d_put_label : He.DefD := ⟨("put_label", none), "put_label", "put_label", defArgs s_put_label, defBody s_put_label, defScope s_put_label, [], []⟩
def d_put_pair : He.DefD := ⟨("put_pair", none), "put_pair", "put_pair", defArgs s_put_pair, defBody s_put_pair, defScope s_put_pair, [], []⟩
def d_put_piece : He.DefD := ⟨("put_piece", none), "put_piece", "put_piece", defArgs s_put_piece, defBody s_put_piece, defScope s_put_piece, [], []⟩
def d_put_list : He.DefD := ⟨("put_list", none), "put_list", "put_list", defArgs s_put_list, defBody s_put_list, defScope s_put_list, [], []⟩
def d_put_content : He.DefD := ⟨("put_content", none), "put_content", "put_content", defArgs s_put_content, defBody s_put_content, defScope s_put_content, [], []⟩
def d_put_pack : He.DefD := ⟨("put_pack", none), "put_pack", "put_pack", defArgs s_put_pack, defBody s_put_pack, defScope s_put_pack, [], []⟩
def d_get_int : He.DefD := ⟨("get_int", none), "get_int", "get_int", defArgs s_get_int, defBody s_get_int, defScope s_get_int, [], []⟩
def d_get_truth : He.DefD := ⟨("get_truth", none), "get_truth", "get_truth", defArgs s_get_truth, defBody s_get_truth, defScope s_get_truth, [], []⟩
def d_get_label : He.DefD := ⟨("get_label", none), "get_label", "get_label", defArgs s_get_label, defBody s_get_label, defScope s_get_label, [], []⟩
def d_get_pair : He.DefD := ⟨("get_pair", none), "get_pair", "get_pair", defArgs s_get_pair, defBody s_get_pair, defScope s_get_pair, [], []⟩
def d_get_piece : He.DefD := ⟨("get_piece", none), "get_piece", "get_piece", defArgs s_get_piece, defBody s_get_piece, defScope s_get_piece, [], []⟩
def d_get_list : He.DefD := ⟨("get_list", none), "get_list", "get_list", defArgs s_get_list, defBody s_get_list, defScope s_get_list, [], []⟩
def d_get_content : He.DefD := ⟨("get_content", none), "get_content", "get_content", defArgs s_get_content, defBody s_get_content, defScope s_get_content, [], []⟩
def d_get_pack : He.DefD := ⟨("get_pack", none), "get_pack", "get_pack", defArgs s_get_pack, defBody s_get_pack, defScope s_get_pack, [], []⟩
def d_text_by : He.DefD := ⟨("text_by", none), "text_by", "text_by", defArgs s_text_by, defBody s_text_by, defScope s_text_by, [], []⟩
def d_text_of : He.DefD := ⟨("text_of", none), "text_of", "text_of", defArgs s_text_of, defBody s_text_of, defScope s_text_of, [], []⟩
def d_row_by : He.DefD := ⟨("row_by", none), "row_by", "row_by", defArgs s_row_by, defBody s_row_by, defScope s_row_by, [], []⟩
def d_row_of : He.DefD := ⟨("row_of", none), "row_of", "row_of", defArgs s_row_of, defBody s_row_of, defScope s_row_of, [], []⟩
def d_l_deck : He.DefD := ⟨("_law_deck", none), "_law_deck", "_law_deck", defArgs s_l_deck, defBody s_l_deck, defScope s_l_deck, [], []⟩
def d_l_mixed : He.DefD := ⟨("_law_mixed", none), "_law_mixed", "_law_mixed", defArgs s_l_mixed, defBody s_l_mixed, defScope s_l_mixed, [], []⟩
def d_l_draw : He.DefD := ⟨("_law_draw", none), "_law_draw", "_law_draw", defArgs s_l_draw, defBody s_l_draw, defScope s_l_draw, [], []⟩
def d_l_text : He.DefD := ⟨("_law_text", none), "_law_text", "_law_text", defArgs s_l_text, defBody s_l_text, defScope s_l_text, [], []⟩
def d_l_label : He.DefD := ⟨("_law_label", none), "_law_label", "_law_label", defArgs s_l_label, defBody s_l_label, defScope s_l_label, [], []⟩
def d_l_int : He.DefD := ⟨("_law_int", none), "_law_int", "_law_int", defArgs s_l_int, defBody s_l_int, defScope s_l_int, [], []⟩
def d_l_ints : He.DefD := ⟨("_law_ints", none), "_law_ints", "_law_ints", defArgs s_l_ints, defBody s_l_ints, defScope s_l_ints, [], []⟩
def d_l_leaf_rows : He.DefD := ⟨("_law_leaf_rows", none), "_law_leaf_rows", "_law_leaf_rows", defArgs s_l_leaf_rows, defBody s_l_leaf_rows, defScope s_l_leaf_rows, [], []⟩
def d_l_pairs : He.DefD := ⟨("_law_pairs", none), "_law_pairs", "_law_pairs", defArgs s_l_pairs, defBody s_l_pairs, defScope s_l_pairs, [], []⟩
def d_l_marks : He.DefD := ⟨("_law_marks", none), "_law_marks", "_law_marks", defArgs s_l_marks, defBody s_l_marks, defScope s_l_marks, [], []⟩
def d_l_pieces : He.DefD := ⟨("_law_pieces", none), "_law_pieces", "_law_pieces", defArgs s_l_pieces, defBody s_l_pieces, defScope s_l_pieces, [], []⟩
def d_l_pack : He.DefD := ⟨("_law_pack", none), "_law_pack", "_law_pack", defArgs s_l_pack, defBody s_l_pack, defScope s_l_pack, [], []⟩
def d_l_row : He.DefD := ⟨("_law_row", none), "_law_row", "_law_row", defArgs s_l_row, defBody s_l_row, defScope s_l_row, [], []⟩
def d_l_words : He.DefD := ⟨("_law_words", none), "_law_words", "_law_words", defArgs s_l_words, defBody s_l_words, defScope s_l_words, [], []⟩
def d_l_pack_words : He.DefD := ⟨("_law_pack_words", none), "_law_pack_words", "_law_pack_words", defArgs s_l_pack_words, defBody s_l_pack_words, defScope s_l_pack_words, [], []⟩
def d_l_written : He.DefD := ⟨("_law_written", none), "_law_written", "_law_written", defArgs s_l_written, defBody s_l_written, defScope s_l_written, [], []⟩
def d_l_refused : He.DefD := ⟨("_law_refused", none), "_law_refused", "_law_refused", defArgs s_l_refused, defBody s_l_refused, defScope s_l_refused, [], []⟩
def d_law : He.DefD := ⟨("law", none), "law", "law", defArgs s_law, defBody s_law, defScope s_law, [], []⟩
def m___init__ : He.DefD := ⟨("Desk", some "__init__"), "__init__", "Desk.__init__", defArgs s_Desk___init__, defBody s_Desk___init__, defScope s_Desk___init__, [], []⟩
def m_next_word : He.DefD := ⟨("Desk", some "next_word"), "next_word", "Desk.next_word", defArgs s_Desk_next_word, defBody s_Desk_next_word, defScope s_Desk_next_word, [], []⟩
def m_need : He.DefD := ⟨("Desk", some "need"), "need", "Desk.need", defArgs s_Desk_need, defBody s_Desk_need, defScope s_Desk_need, [], []⟩
def m_is_next : He.DefD := ⟨("Desk", some "is_next"), "is_next", "Desk.is_next", defArgs s_Desk_is_next, defBody s_Desk_is_next, defScope s_Desk_is_next, [], []⟩
def m_next_lines : He.DefD := ⟨("Desk", some "next_lines"), "next_lines", "Desk.next_lines", defArgs s_Desk_next_lines, defBody s_Desk_next_lines, defScope s_Desk_next_lines, [], []⟩
def m_is_done : He.DefD := ⟨("Desk", some "is_done"), "is_done", "Desk.is_done", defArgs s_Desk_is_done, defBody s_Desk_is_done, defScope s_Desk_is_done, [], []⟩
def fn : List He.DefD := [d_need, d_is_int, d_is_label, d_is_row, d_are_rows, d_is_list, d_is_pair, d_rises, d_put_int, d_put_truth, d_put_label, d_put_pair, d_put_piece, d_put_list, d_put_content, d_put_pack, d_get_int, d_get_truth, d_get_label, d_get_pair, d_get_piece, d_get_list, d_get_content, d_get_pack, d_text_by, d_text_of, d_row_by, d_row_of, d_l_deck, d_l_mixed] ++ [d_l_draw, d_l_text, d_l_label, d_l_int, d_l_ints, d_l_leaf_rows, d_l_pairs, d_l_marks, d_l_pieces, d_l_pack, d_l_row, d_l_words, d_l_pack_words, d_l_written, d_l_refused, d_law, m___init__, m_next_word, m_need, m_is_next, m_next_lines, m_is_done]
def fa0 : List He.Fa := [.glo "need", .glo "is_int", .glo "is_label", .glo "is_row", .glo "are_rows", .glo "is_list", .glo "is_pair", .glo "rises", .glo "put_int", .glo "put_truth", .glo "put_label", .glo "put_pair", .glo "put_piece", .glo "put_list", .glo "put_content", .glo "put_pack", .glo "get_int", .glo "get_truth", .glo "get_label", .glo "get_pair", .glo "get_piece", .glo "get_list", .glo "get_content", .glo "get_pack", .glo "text_by", .glo "text_of", .glo "row_by", .glo "row_of", .glo "_law_deck", .glo "_law_mixed"]
def fa1 : List He.Fa := [.glo "_law_draw", .glo "_law_text", .glo "_law_label", .glo "_law_int", .glo "_law_ints", .glo "_law_leaf_rows", .glo "_law_pairs", .glo "_law_marks", .glo "_law_pieces", .glo "_law_pack", .glo "_law_row", .glo "_law_words", .glo "_law_pack_words", .glo "_law_written", .glo "_law_refused", .glo "law", .glo "HouseError", .glo "NoText", .glo "FORMS", .glo "PUTS", .glo "PUTS_EACH", .glo "GETS", .glo "GETS_EACH", .glo "Desk", .free "len", .free "isinstance", .free "all", .free "max", .free "str", .free "int"]
def fa2 : List He.Fa := [.free "bool", .free "tuple", .free "list", .free "range", .free "zip", .free "sorted", .free "set", .free "ord", .free "ValueError", .free "repr", .int "GREATEST" (10 ^ 18), .int "MANY" 400, .int "ROWS" 40, .str "LETTERS" sNum, .exc "NoText", .exm "NoText" "NoText" true, .str "FIGURES" "0123456789", .cls "Desk", .mkr "Desk", .noat "Desk" "words", .noat "Desk" "lines", .noat "Desk" "word_place", .noat "Desk" "line_place", .meth "Desk" "__init__", .meth "Desk" "next_word", .meth "Desk" "need", .meth "Desk" "is_next", .meth "Desk" "next_lines", .meth "Desk" "is_done"]
def fa : List He.Fa := fa0 ++ (fa1 ++ (fa2))
def lo0 : List Str := ["HouseError", "NoText", "GREATEST", "MANY", "ROWS", "FIGURES", "LETTERS", "Desk", "need", "is_int", "is_label", "is_row", "are_rows", "is_list", "is_pair", "rises", "put_int", "put_truth", "put_label", "put_pair", "put_piece", "put_list", "put_content", "put_pack", "get_int", "get_truth", "get_label", "get_pair", "get_piece", "get_list"]
def lo1 : List Str := ["get_content", "get_pack", "FORMS", "PUTS", "PUTS_EACH", "GETS", "GETS_EACH", "text_by", "text_of", "row_by", "row_of", "_law_deck", "_law_mixed", "_law_draw", "_law_text", "_law_label", "_law_int", "_law_ints", "_law_leaf_rows", "_law_pairs", "_law_marks", "_law_pieces", "_law_pack", "_law_row", "_law_words", "_law_pack_words", "_law_written", "_law_refused"]
def lo : List Str := lo0 ++ lo1
def tabs : List He.Tab := [((fun K => He.ga K "PUTS_EACH"), ["ints", "truths", "labels", "marks"]), ((fun K => He.ga K "PUTS"), ["int", "truth", "pack row"]), ((fun K => He.ga K "GETS_EACH"), ["ints", "truths", "labels", "marks"]), ((fun K => He.ga K "GETS"), ["int", "truth", "pack row"])]
abbrev R : PySem.W.OpenRow := PySem.W.OpenLaw.row PySem.Challenge.rw_fewasks_k76_texts_read
abbrev hk : PySem.W.Hook := He.hookX 5 fa fn tabs [] exB
def ob (s : PySem.W.SharedT) : He.AlX := He.obsX 5 fa fn tabs [] exB (HandSHeadRun.getT s)
theorem ob_eq (s : PySem.W.SharedT) : ob s = hk.obs s.abs := He.obsX_eq (HandSHeadRun.getT_eq s)
theorem run0 (w : World) : HandSHeadRun.RunEq R (PySem.W.view R.prog [61]) hk ob 3000 lo (w.withFollow "special-get-raises" false) := by
  intro os
  kernel_rfl
theorem run1 (w : World) : HandSHeadRun.RunEq R (PySem.W.view R.prog [61]) hk ob 3000 lo (w.withFollow "special-get-raises" true) := by
  intro os
  kernel_rfl
theorem run (w : World) : HandSHeadRun.RunEq R (PySem.W.view R.prog [61]) hk ob 3000 lo w := PySem.W.byRow2 "special-get-raises" (P := fun w => HandSHeadRun.RunEq R (PySem.W.view R.prog [61]) hk ob 3000 lo w) run0 run1 w
end Kq
set_option Elab.async false
set_option linter.all false
set_option maxRecDepth 100000
set_option maxHeartbeats 0
namespace Kq
open PySem PySem.Spec PyProof.Rows L2 Fw TL
theorem facts {P : Program} {w : World} {K : PySem.W.Frag} {h : Heap} {mg : Str → Option Value} {fa0 : Addr} (X : K.In h) (G : h.Ns mainGlobals mg) (hfa : mg ("law" : Str) = some (.ref fa0)) (cc : He.SaysX fa fn tabs [] exB w h K) :
    ∃ fd : FuncData, (∀ (s : Shared) (v : Value), BindsTo s fd ⟨[v], []⟩ [("_law_script", v)]) ∧ ∀ base : Heap, K.In base → base.Ns mainGlobals mg → AtA callerA P w K mg base fa0 fd ["_law_script"] (spLaw K) := by
  have c : He.SaysD fa fn K := cc.t.d
  have g_HouseError := He.glo_ok X G (c.fact 46 (f := .glo "HouseError") rfl)
  have g_NoText := He.glo_ok X G (c.fact 47 (f := .glo "NoText") rfl)
  have g_FORMS := He.glo_ok X G (c.fact 48 (f := .glo "FORMS") rfl)
  have g_PUTS := He.glo_ok X G (c.fact 49 (f := .glo "PUTS") rfl)
  have g_PUTS_EACH := He.glo_ok X G (c.fact 50 (f := .glo "PUTS_EACH") rfl)
  have g_GETS := He.glo_ok X G (c.fact 51 (f := .glo "GETS") rfl)
  have g_GETS_EACH := He.glo_ok X G (c.fact 52 (f := .glo "GETS_EACH") rfl)
  have g_Desk := He.glo_ok X G (c.fact 53 (f := .glo "Desk") rfl)
  obtain ⟨hkB, hex2⟩ := He.ba (show (kB K && (kB2 K && formsB K)) = true from cc.more)
  obtain ⟨hkB2, hfB⟩ := He.ba hex2
  obtain ⟨x1, x2, x3, x4⟩ := He.exc_ok (c.fact 74 (f := .exc "NoText") rfl)
  have xNN := He.exm_ok (c.fact 75 (f := .exm "NoText" "NoText" true) rfl)
  have T : Txt K w mg (He.ga K "NoText") 0 (He.ga K "HouseError") := ⟨He.free_ok X G (c.fact 54 (f := .free "len") rfl), He.free_ok X G (c.fact 55 (f := .free "isinstance") rfl), He.free_ok X G (c.fact 56 (f := .free "all") rfl), He.free_ok X G (c.fact 57 (f := .free "max") rfl), He.free_ok X G (c.fact 58 (f := .free "str") rfl), He.free_ok X G (c.fact 59 (f := .free "int") rfl), He.free_ok X G (c.fact 60 (f := .free "bool") rfl), He.free_ok X G (c.fact 61 (f := .free "tuple") rfl), He.free_ok X G (c.fact 62 (f := .free "list") rfl), He.free_ok X G (c.fact 63 (f := .free "range") rfl), He.free_ok X G (c.fact 64 (f := .free "zip") rfl), He.free_ok X G (c.fact 65 (f := .free "sorted") rfl), He.free_ok X G (c.fact 66 (f := .free "set") rfl), He.free_ok X G (c.fact 67 (f := .free "ord") rfl), He.free_ok X G (c.fact 68 (f := .free "ValueError") rfl), He.int_ok X G (c.fact 70 (f := .int "GREATEST" (10 ^ 18)) rfl), He.int_ok X G (c.fact 71 (f := .int "MANY" 400) rfl), He.int_ok X G (c.fact 72 (f := .int "ROWS" 40) rfl), He.str_ok X G (c.fact 73 (f := .str "LETTERS" sNum) rfl), ⟨g_NoText, x1, x2, x3, x4⟩, g_NoText, g_HouseError⟩
  have TR : TxtR mg := ⟨He.free_ok X G (c.fact 69 (f := .free "repr") rfl)⟩
  have TF : TxtF mg := ⟨He.str_ok X G (c.fact 76 (f := .str "FIGURES" "0123456789") rfl)⟩
  have cD := He.cls_ok (c.fact 77 (f := .cls "Desk") rfl)
  have mD := He.mkr_ok (c.fact 78 (f := .mkr "Desk") rfl)
  have TD : TxtD K (He.ga K "Desk") := ⟨cD, He.noat_ok (c.fact 79 (f := .noat "Desk" "words") rfl), He.noat_ok (c.fact 80 (f := .noat "Desk" "lines") rfl), He.noat_ok (c.fact 81 (f := .noat "Desk" "word_place") rfl), He.noat_ok (c.fact 82 (f := .noat "Desk" "line_place") rfl)⟩
  obtain ⟨esE, nE, hE⟩ := cc.t.tab 0 (t := ((fun K => He.ga K "PUTS_EACH"), ["ints", "truths", "labels", "marks"])) rfl
  obtain ⟨esP, nP, hP⟩ := cc.t.tab 1 (t := ((fun K => He.ga K "PUTS"), ["int", "truth", "pack row"])) rfl
  obtain ⟨esE2, nE2, hE2⟩ := cc.t.tab 2 (t := ((fun K => He.ga K "GETS_EACH"), ["ints", "truths", "labels", "marks"])) rfl
  obtain ⟨esP2, nP2, hP2⟩ := cc.t.tab 3 (t := ((fun K => He.ga K "GETS"), ["int", "truth", "pack row"])) rfl
  obtain ⟨fd_need, F_need⟩ := c.def_ 0 (d := d_need) rfl
  have g_need := He.glo_ok X G (c.fact 0 (f := .glo "need") rfl)
  have A_need : At K mg "need" s_need ["good"] := ⟨_, _, F_need, g_need, F_need.bindsN (ps := ["good"]) fun _ _ _ _ _ _ us hl => match us, hl with | [_], _ => rfl⟩
  obtain ⟨fd_is_int, F_is_int⟩ := c.def_ 1 (d := d_is_int) rfl
  have g_is_int := He.glo_ok X G (c.fact 1 (f := .glo "is_int") rfl)
  have A_is_int : At K mg "is_int" s_is_int ["thing"] := ⟨_, _, F_is_int, g_is_int, F_is_int.bindsN (ps := ["thing"]) fun _ _ _ _ _ _ us hl => match us, hl with | [_], _ => rfl⟩
  obtain ⟨fd_is_label, F_is_label⟩ := c.def_ 2 (d := d_is_label) rfl
  have g_is_label := He.glo_ok X G (c.fact 2 (f := .glo "is_label") rfl)
  have A_is_label : At K mg "is_label" s_is_label ["thing"] := ⟨_, _, F_is_label, g_is_label, F_is_label.bindsN (ps := ["thing"]) fun _ _ _ _ _ _ us hl => match us, hl with | [_], _ => rfl⟩
  obtain ⟨fd_is_row, F_is_row⟩ := c.def_ 3 (d := d_is_row) rfl
  have g_is_row := He.glo_ok X G (c.fact 3 (f := .glo "is_row") rfl)
  have A_is_row : At K mg "is_row" s_is_row ["thing"] := ⟨_, _, F_is_row, g_is_row, F_is_row.bindsN (ps := ["thing"]) fun _ _ _ _ _ _ us hl => match us, hl with | [_], _ => rfl⟩
  obtain ⟨fd_are_rows, F_are_rows⟩ := c.def_ 4 (d := d_are_rows) rfl
  have g_are_rows := He.glo_ok X G (c.fact 4 (f := .glo "are_rows") rfl)
  have A_are_rows : At K mg "are_rows" s_are_rows ["thing"] := ⟨_, _, F_are_rows, g_are_rows, F_are_rows.bindsN (ps := ["thing"]) fun _ _ _ _ _ _ us hl => match us, hl with | [_], _ => rfl⟩
  obtain ⟨fd_is_list, F_is_list⟩ := c.def_ 5 (d := d_is_list) rfl
  have g_is_list := He.glo_ok X G (c.fact 5 (f := .glo "is_list") rfl)
  have A_is_list : At K mg "is_list" s_is_list ["thing", "most"] := ⟨_, _, F_is_list, g_is_list, F_is_list.bindsN (ps := ["thing", "most"]) fun _ _ _ _ _ _ us hl => match us, hl with | [_, _], _ => rfl⟩
  obtain ⟨fd_is_pair, F_is_pair⟩ := c.def_ 6 (d := d_is_pair) rfl
  have g_is_pair := He.glo_ok X G (c.fact 6 (f := .glo "is_pair") rfl)
  have A_is_pair : At K mg "is_pair" s_is_pair ["thing"] := ⟨_, _, F_is_pair, g_is_pair, F_is_pair.bindsN (ps := ["thing"]) fun _ _ _ _ _ _ us hl => match us, hl with | [_], _ => rfl⟩
  obtain ⟨fd_rises, F_rises⟩ := c.def_ 7 (d := d_rises) rfl
  have g_rises := He.glo_ok X G (c.fact 7 (f := .glo "rises") rfl)
  have A_rises : At K mg "rises" s_rises ["things"] := ⟨_, _, F_rises, g_rises, F_rises.bindsN (ps := ["things"]) fun _ _ _ _ _ _ us hl => match us, hl with | [_], _ => rfl⟩
  obtain ⟨fd_put_int, F_put_int⟩ := c.def_ 8 (d := d_put_int) rfl
  have g_put_int := He.glo_ok X G (c.fact 8 (f := .glo "put_int") rfl)
  have A_put_int : At K mg "put_int" s_put_int ["thing", "words", "lines"] := ⟨_, _, F_put_int, g_put_int, F_put_int.bindsN (ps := ["thing", "words", "lines"]) fun _ _ _ _ _ _ us hl => match us, hl with | [_, _, _], _ => rfl⟩
  obtain ⟨fd_put_truth, F_put_truth⟩ := c.def_ 9 (d := d_put_truth) rfl
  have g_put_truth := He.glo_ok X G (c.fact 9 (f := .glo "put_truth") rfl)
  have A_put_truth : At K mg "put_truth" s_put_truth ["thing", "words", "lines"] := ⟨_, _, F_put_truth, g_put_truth, F_put_truth.bindsN (ps := ["thing", "words", "lines"]) fun _ _ _ _ _ _ us hl => match us, hl with | [_, _, _], _ => rfl⟩
  obtain ⟨fd_put_label, F_put_label⟩ := c.def_ 10 (d := d_put_label) rfl
  have g_put_label := He.glo_ok X G (c.fact 10 (f := .glo "put_label") rfl)
  have A_put_label : At K mg "put_label" s_put_label ["thing", "words", "lines"] := ⟨_, _, F_put_label, g_put_label, F_put_label.bindsN (ps := ["thing", "words", "lines"]) fun _ _ _ _ _ _ us hl => match us, hl with | [_, _, _], _ => rfl⟩
  obtain ⟨fd_put_pair, F_put_pair⟩ := c.def_ 11 (d := d_put_pair) rfl
  have g_put_pair := He.glo_ok X G (c.fact 11 (f := .glo "put_pair") rfl)
  have A_put_pair : At K mg "put_pair" s_put_pair ["thing", "words", "lines"] := ⟨_, _, F_put_pair, g_put_pair, F_put_pair.bindsN (ps := ["thing", "words", "lines"]) fun _ _ _ _ _ _ us hl => match us, hl with | [_, _, _], _ => rfl⟩
  obtain ⟨fd_put_piece, F_put_piece⟩ := c.def_ 12 (d := d_put_piece) rfl
  have g_put_piece := He.glo_ok X G (c.fact 12 (f := .glo "put_piece") rfl)
  have A_put_piece : At K mg "put_piece" s_put_piece ["thing", "words", "lines"] := ⟨_, _, F_put_piece, g_put_piece, F_put_piece.bindsN (ps := ["thing", "words", "lines"]) fun _ _ _ _ _ _ us hl => match us, hl with | [_, _, _], _ => rfl⟩
  obtain ⟨fd_put_list, F_put_list⟩ := c.def_ 13 (d := d_put_list) rfl
  have g_put_list := He.glo_ok X G (c.fact 13 (f := .glo "put_list") rfl)
  have A_put_list : At K mg "put_list" s_put_list ["thing", "most", "each", "words", "lines"] := ⟨_, _, F_put_list, g_put_list, F_put_list.bindsN (ps := ["thing", "most", "each", "words", "lines"]) fun _ _ _ _ _ _ us hl => match us, hl with | [_, _, _, _, _], _ => rfl⟩
  obtain ⟨fd_put_content, F_put_content⟩ := c.def_ 14 (d := d_put_content) rfl
  have g_put_content := He.glo_ok X G (c.fact 14 (f := .glo "put_content") rfl)
  have A_put_content : At K mg "put_content" s_put_content ["thing", "words", "lines"] := ⟨_, _, F_put_content, g_put_content, F_put_content.bindsN (ps := ["thing", "words", "lines"]) fun _ _ _ _ _ _ us hl => match us, hl with | [_, _, _], _ => rfl⟩
  obtain ⟨fd_put_pack, F_put_pack⟩ := c.def_ 15 (d := d_put_pack) rfl
  have g_put_pack := He.glo_ok X G (c.fact 15 (f := .glo "put_pack") rfl)
  have A_put_pack : At K mg "put_pack" s_put_pack ["thing", "words", "lines"] := ⟨_, _, F_put_pack, g_put_pack, F_put_pack.bindsN (ps := ["thing", "words", "lines"]) fun _ _ _ _ _ _ us hl => match us, hl with | [_, _, _], _ => rfl⟩
  obtain ⟨fd_get_int, F_get_int⟩ := c.def_ 16 (d := d_get_int) rfl
  have g_get_int := He.glo_ok X G (c.fact 16 (f := .glo "get_int") rfl)
  have A_get_int : At K mg "get_int" s_get_int ["desk"] := ⟨_, _, F_get_int, g_get_int, F_get_int.bindsN (ps := ["desk"]) fun _ _ _ _ _ _ us hl => match us, hl with | [_], _ => rfl⟩
  obtain ⟨fd_get_truth, F_get_truth⟩ := c.def_ 17 (d := d_get_truth) rfl
  have g_get_truth := He.glo_ok X G (c.fact 17 (f := .glo "get_truth") rfl)
  have A_get_truth : At K mg "get_truth" s_get_truth ["desk"] := ⟨_, _, F_get_truth, g_get_truth, F_get_truth.bindsN (ps := ["desk"]) fun _ _ _ _ _ _ us hl => match us, hl with | [_], _ => rfl⟩
  obtain ⟨fd_get_label, F_get_label⟩ := c.def_ 18 (d := d_get_label) rfl
  have g_get_label := He.glo_ok X G (c.fact 18 (f := .glo "get_label") rfl)
  have A_get_label : At K mg "get_label" s_get_label ["desk"] := ⟨_, _, F_get_label, g_get_label, F_get_label.bindsN (ps := ["desk"]) fun _ _ _ _ _ _ us hl => match us, hl with | [_], _ => rfl⟩
  obtain ⟨fd_get_pair, F_get_pair⟩ := c.def_ 19 (d := d_get_pair) rfl
  have g_get_pair := He.glo_ok X G (c.fact 19 (f := .glo "get_pair") rfl)
  have A_get_pair : At K mg "get_pair" s_get_pair ["desk"] := ⟨_, _, F_get_pair, g_get_pair, F_get_pair.bindsN (ps := ["desk"]) fun _ _ _ _ _ _ us hl => match us, hl with | [_], _ => rfl⟩
  obtain ⟨fd_get_piece, F_get_piece⟩ := c.def_ 20 (d := d_get_piece) rfl
  have g_get_piece := He.glo_ok X G (c.fact 20 (f := .glo "get_piece") rfl)
  have A_get_piece : At K mg "get_piece" s_get_piece ["desk"] := ⟨_, _, F_get_piece, g_get_piece, F_get_piece.bindsN (ps := ["desk"]) fun _ _ _ _ _ _ us hl => match us, hl with | [_], _ => rfl⟩
  obtain ⟨fd_get_list, F_get_list⟩ := c.def_ 21 (d := d_get_list) rfl
  have g_get_list := He.glo_ok X G (c.fact 21 (f := .glo "get_list") rfl)
  have A_get_list : At K mg "get_list" s_get_list ["desk", "most", "each"] := ⟨_, _, F_get_list, g_get_list, F_get_list.bindsN (ps := ["desk", "most", "each"]) fun _ _ _ _ _ _ us hl => match us, hl with | [_, _, _], _ => rfl⟩
  obtain ⟨fd_get_content, F_get_content⟩ := c.def_ 22 (d := d_get_content) rfl
  have g_get_content := He.glo_ok X G (c.fact 22 (f := .glo "get_content") rfl)
  have A_get_content : At K mg "get_content" s_get_content ["desk"] := ⟨_, _, F_get_content, g_get_content, F_get_content.bindsN (ps := ["desk"]) fun _ _ _ _ _ _ us hl => match us, hl with | [_], _ => rfl⟩
  obtain ⟨fd_get_pack, F_get_pack⟩ := c.def_ 23 (d := d_get_pack) rfl
  have g_get_pack := He.glo_ok X G (c.fact 23 (f := .glo "get_pack") rfl)
  have A_get_pack : At K mg "get_pack" s_get_pack ["desk"] := ⟨_, _, F_get_pack, g_get_pack, F_get_pack.bindsN (ps := ["desk"]) fun _ _ _ _ _ _ us hl => match us, hl with | [_], _ => rfl⟩
  obtain ⟨fd_text_by, F_text_by⟩ := c.def_ 24 (d := d_text_by) rfl
  have g_text_by := He.glo_ok X G (c.fact 24 (f := .glo "text_by") rfl)
  have A_text_by : At K mg "text_by" s_text_by ["row", "word", "kinds"] := ⟨_, _, F_text_by, g_text_by, F_text_by.bindsN (ps := ["row", "word", "kinds"]) fun _ _ _ _ _ _ us hl => match us, hl with | [_, _, _], _ => rfl⟩
  obtain ⟨fd_text_of, F_text_of⟩ := c.def_ 25 (d := d_text_of) rfl
  have g_text_of := He.glo_ok X G (c.fact 25 (f := .glo "text_of") rfl)
  have A_text_of : At K mg "text_of" s_text_of ["row"] := ⟨_, _, F_text_of, g_text_of, F_text_of.bindsN (ps := ["row"]) fun _ _ _ _ _ _ us hl => match us, hl with | [_], _ => rfl⟩
  obtain ⟨fd_row_by, F_row_by⟩ := c.def_ 26 (d := d_row_by) rfl
  have g_row_by := He.glo_ok X G (c.fact 26 (f := .glo "row_by") rfl)
  have A_row_by : At K mg "row_by" s_row_by ["text", "word", "kinds"] := ⟨_, _, F_row_by, g_row_by, F_row_by.bindsN (ps := ["text", "word", "kinds"]) fun _ _ _ _ _ _ us hl => match us, hl with | [_, _, _], _ => rfl⟩
  obtain ⟨fd_row_of, F_row_of⟩ := c.def_ 27 (d := d_row_of) rfl
  have g_row_of := He.glo_ok X G (c.fact 27 (f := .glo "row_of") rfl)
  have A_row_of : At K mg "row_of" s_row_of ["text"] := ⟨_, _, F_row_of, g_row_of, F_row_of.bindsN (ps := ["text"]) fun _ _ _ _ _ _ us hl => match us, hl with | [_], _ => rfl⟩
  obtain ⟨fd_l_deck, F_l_deck⟩ := c.def_ 28 (d := d_l_deck) rfl
  have g_l_deck := He.glo_ok X G (c.fact 28 (f := .glo "_law_deck") rfl)
  have A_l_deck : At K mg "_law_deck" s_l_deck ["_law_script"] := ⟨_, _, F_l_deck, g_l_deck, F_l_deck.bindsN (ps := ["_law_script"]) fun _ _ _ _ _ _ us hl => match us, hl with | [_], _ => rfl⟩
  obtain ⟨fd_l_mixed, F_l_mixed⟩ := c.def_ 29 (d := d_l_mixed) rfl
  have g_l_mixed := He.glo_ok X G (c.fact 29 (f := .glo "_law_mixed") rfl)
  have A_l_mixed : At K mg "_law_mixed" s_l_mixed ["_law_cell", "_law_turn"] := ⟨_, _, F_l_mixed, g_l_mixed, F_l_mixed.bindsN (ps := ["_law_cell", "_law_turn"]) fun _ _ _ _ _ _ us hl => match us, hl with | [_, _], _ => rfl⟩
  obtain ⟨fd_l_draw, F_l_draw⟩ := c.def_ 30 (d := d_l_draw) rfl
  have g_l_draw := He.glo_ok X G (c.fact 30 (f := .glo "_law_draw") rfl)
  have A_l_draw : At K mg "_law_draw" s_l_draw ["_law_deck_here", "_law_many"] := ⟨_, _, F_l_draw, g_l_draw, F_l_draw.bindsN (ps := ["_law_deck_here", "_law_many"]) fun _ _ _ _ _ _ us hl => match us, hl with | [_, _], _ => rfl⟩
  obtain ⟨fd_l_text, F_l_text⟩ := c.def_ 31 (d := d_l_text) rfl
  have g_l_text := He.glo_ok X G (c.fact 31 (f := .glo "_law_text") rfl)
  have A_l_text : At K mg "_law_text" s_l_text ["_law_deck_here", "_law_size"] := ⟨_, _, F_l_text, g_l_text, F_l_text.bindsN (ps := ["_law_deck_here", "_law_size"]) fun _ _ _ _ _ _ us hl => match us, hl with | [_, _], _ => rfl⟩
  obtain ⟨fd_l_label, F_l_label⟩ := c.def_ 32 (d := d_l_label) rfl
  have g_l_label := He.glo_ok X G (c.fact 32 (f := .glo "_law_label") rfl)
  have A_l_label : At K mg "_law_label" s_l_label ["_law_deck_here"] := ⟨_, _, F_l_label, g_l_label, F_l_label.bindsN (ps := ["_law_deck_here"]) fun _ _ _ _ _ _ us hl => match us, hl with | [_], _ => rfl⟩
  obtain ⟨fd_l_int, F_l_int⟩ := c.def_ 33 (d := d_l_int) rfl
  have g_l_int := He.glo_ok X G (c.fact 33 (f := .glo "_law_int") rfl)
  have A_l_int : At K mg "_law_int" s_l_int ["_law_deck_here"] := ⟨_, _, F_l_int, g_l_int, F_l_int.bindsN (ps := ["_law_deck_here"]) fun _ _ _ _ _ _ us hl => match us, hl with | [_], _ => rfl⟩
  obtain ⟨fd_l_ints, F_l_ints⟩ := c.def_ 34 (d := d_l_ints) rfl
  have g_l_ints := He.glo_ok X G (c.fact 34 (f := .glo "_law_ints") rfl)
  have A_l_ints : At K mg "_law_ints" s_l_ints ["_law_deck_here"] := ⟨_, _, F_l_ints, g_l_ints, F_l_ints.bindsN (ps := ["_law_deck_here"]) fun _ _ _ _ _ _ us hl => match us, hl with | [_], _ => rfl⟩
  obtain ⟨fd_l_leaf_rows, F_l_leaf_rows⟩ := c.def_ 35 (d := d_l_leaf_rows) rfl
  have g_l_leaf_rows := He.glo_ok X G (c.fact 35 (f := .glo "_law_leaf_rows") rfl)
  have A_l_leaf_rows : At K mg "_law_leaf_rows" s_l_leaf_rows ["_law_deck_here", "_law_low"] := ⟨_, _, F_l_leaf_rows, g_l_leaf_rows, F_l_leaf_rows.bindsN (ps := ["_law_deck_here", "_law_low"]) fun _ _ _ _ _ _ us hl => match us, hl with | [_, _], _ => rfl⟩
  obtain ⟨fd_l_pairs, F_l_pairs⟩ := c.def_ 36 (d := d_l_pairs) rfl
  have g_l_pairs := He.glo_ok X G (c.fact 36 (f := .glo "_law_pairs") rfl)
  have A_l_pairs : At K mg "_law_pairs" s_l_pairs ["_law_deck_here"] := ⟨_, _, F_l_pairs, g_l_pairs, F_l_pairs.bindsN (ps := ["_law_deck_here"]) fun _ _ _ _ _ _ us hl => match us, hl with | [_], _ => rfl⟩
  obtain ⟨fd_l_marks, F_l_marks⟩ := c.def_ 37 (d := d_l_marks) rfl
  have g_l_marks := He.glo_ok X G (c.fact 37 (f := .glo "_law_marks") rfl)
  have A_l_marks : At K mg "_law_marks" s_l_marks ["_law_deck_here"] := ⟨_, _, F_l_marks, g_l_marks, F_l_marks.bindsN (ps := ["_law_deck_here"]) fun _ _ _ _ _ _ us hl => match us, hl with | [_], _ => rfl⟩
  obtain ⟨fd_l_pieces, F_l_pieces⟩ := c.def_ 38 (d := d_l_pieces) rfl
  have g_l_pieces := He.glo_ok X G (c.fact 38 (f := .glo "_law_pieces") rfl)
  have A_l_pieces : At K mg "_law_pieces" s_l_pieces ["_law_deck_here"] := ⟨_, _, F_l_pieces, g_l_pieces, F_l_pieces.bindsN (ps := ["_law_deck_here"]) fun _ _ _ _ _ _ us hl => match us, hl with | [_], _ => rfl⟩
  obtain ⟨fd_l_pack, F_l_pack⟩ := c.def_ 39 (d := d_l_pack) rfl
  have g_l_pack := He.glo_ok X G (c.fact 39 (f := .glo "_law_pack") rfl)
  have A_l_pack : At K mg "_law_pack" s_l_pack ["_law_deck_here", "_law_turn"] := ⟨_, _, F_l_pack, g_l_pack, F_l_pack.bindsN (ps := ["_law_deck_here", "_law_turn"]) fun _ _ _ _ _ _ us hl => match us, hl with | [_, _], _ => rfl⟩
  obtain ⟨fd_l_row, F_l_row⟩ := c.def_ 40 (d := d_l_row) rfl
  have g_l_row := He.glo_ok X G (c.fact 40 (f := .glo "_law_row") rfl)
  have A_l_row : At K mg "_law_row" s_l_row ["_law_deck_here", "_law_turn"] := ⟨_, _, F_l_row, g_l_row, F_l_row.bindsN (ps := ["_law_deck_here", "_law_turn"]) fun _ _ _ _ _ _ us hl => match us, hl with | [_, _], _ => rfl⟩
  obtain ⟨fd_l_words, F_l_words⟩ := c.def_ 41 (d := d_l_words) rfl
  have g_l_words := He.glo_ok X G (c.fact 41 (f := .glo "_law_words") rfl)
  have A_l_words : At K mg "_law_words" s_l_words ["_law_thing"] := ⟨_, _, F_l_words, g_l_words, F_l_words.bindsN (ps := ["_law_thing"]) fun _ _ _ _ _ _ us hl => match us, hl with | [_], _ => rfl⟩
  obtain ⟨fd_l_pack_words, F_l_pack_words⟩ := c.def_ 42 (d := d_l_pack_words) rfl
  have g_l_pack_words := He.glo_ok X G (c.fact 42 (f := .glo "_law_pack_words") rfl)
  have A_l_pack_words : At K mg "_law_pack_words" s_l_pack_words ["_law_row_here", "_law_lines"] := ⟨_, _, F_l_pack_words, g_l_pack_words, F_l_pack_words.bindsN (ps := ["_law_row_here", "_law_lines"]) fun _ _ _ _ _ _ us hl => match us, hl with | [_, _], _ => rfl⟩
  obtain ⟨fd_l_written, F_l_written⟩ := c.def_ 43 (d := d_l_written) rfl
  have g_l_written := He.glo_ok X G (c.fact 43 (f := .glo "_law_written") rfl)
  have A_l_written : At K mg "_law_written" s_l_written ["_law_row_here"] := ⟨_, _, F_l_written, g_l_written, F_l_written.bindsN (ps := ["_law_row_here"]) fun _ _ _ _ _ _ us hl => match us, hl with | [_], _ => rfl⟩
  obtain ⟨fd_l_refused, F_l_refused⟩ := c.def_ 44 (d := d_l_refused) rfl
  have g_l_refused := He.glo_ok X G (c.fact 44 (f := .glo "_law_refused") rfl)
  have A_l_refused : At K mg "_law_refused" s_l_refused ["_law_text_here"] := ⟨_, _, F_l_refused, g_l_refused, F_l_refused.bindsN (ps := ["_law_text_here"]) fun _ _ _ _ _ _ us hl => match us, hl with | [_], _ => rfl⟩
  obtain ⟨fd_law, F_law⟩ := c.def_ 45 (d := d_law) rfl
  have g_law := He.glo_ok X G (c.fact 45 (f := .glo "law") rfl)
  have A_law : At K mg "law" s_law ["_law_script"] := ⟨_, _, F_law, g_law, F_law.bindsN (ps := ["_law_script"]) fun _ _ _ _ _ _ us hl => match us, hl with | [_], _ => rfl⟩
  obtain ⟨fm___init__, FM___init__⟩ := c.def_ 46 (d := m___init__) rfl
  have AM___init__ : AtM K (He.ga K "Desk") "__init__" "Desk.__init__" s_Desk___init__ ["self", "text"] := ⟨_, _, FM___init__, cD, He.meth_ok (c.fact 83 (f := .meth "Desk" "__init__") rfl), FM___init__.bindsN (ps := ["self", "text"]) fun _ _ _ _ _ _ us hl => match us, hl with | [_, _], _ => rfl⟩
  obtain ⟨fm_next_word, FM_next_word⟩ := c.def_ 47 (d := m_next_word) rfl
  have AM_next_word : AtM K (He.ga K "Desk") "next_word" "Desk.next_word" s_Desk_next_word ["self"] := ⟨_, _, FM_next_word, cD, He.meth_ok (c.fact 84 (f := .meth "Desk" "next_word") rfl), FM_next_word.bindsN (ps := ["self"]) fun _ _ _ _ _ _ us hl => match us, hl with | [_], _ => rfl⟩
  obtain ⟨fm_need, FM_need⟩ := c.def_ 48 (d := m_need) rfl
  have AM_need : AtM K (He.ga K "Desk") "need" "Desk.need" s_Desk_need ["self", "word"] := ⟨_, _, FM_need, cD, He.meth_ok (c.fact 85 (f := .meth "Desk" "need") rfl), FM_need.bindsN (ps := ["self", "word"]) fun _ _ _ _ _ _ us hl => match us, hl with | [_, _], _ => rfl⟩
  obtain ⟨fm_is_next, FM_is_next⟩ := c.def_ 49 (d := m_is_next) rfl
  have AM_is_next : AtM K (He.ga K "Desk") "is_next" "Desk.is_next" s_Desk_is_next ["self", "word"] := ⟨_, _, FM_is_next, cD, He.meth_ok (c.fact 86 (f := .meth "Desk" "is_next") rfl), FM_is_next.bindsN (ps := ["self", "word"]) fun _ _ _ _ _ _ us hl => match us, hl with | [_, _], _ => rfl⟩
  obtain ⟨fm_next_lines, FM_next_lines⟩ := c.def_ 50 (d := m_next_lines) rfl
  have AM_next_lines : AtM K (He.ga K "Desk") "next_lines" "Desk.next_lines" s_Desk_next_lines ["self", "many"] := ⟨_, _, FM_next_lines, cD, He.meth_ok (c.fact 87 (f := .meth "Desk" "next_lines") rfl), FM_next_lines.bindsN (ps := ["self", "many"]) fun _ _ _ _ _ _ us hl => match us, hl with | [_, _], _ => rfl⟩
  obtain ⟨fm_is_done, FM_is_done⟩ := c.def_ 51 (d := m_is_done) rfl
  have AM_is_done : AtM K (He.ga K "Desk") "is_done" "Desk.is_done" s_Desk_is_done ["self"] := ⟨_, _, FM_is_done, cD, He.meth_ok (c.fact 88 (f := .meth "Desk" "is_done") rfl), FM_is_done.bindsN (ps := ["self"]) fun _ _ _ _ _ _ us hl => match us, hl with | [_], _ => rfl⟩
  have hat : ∀ k, mg (nmK k) = some (.ref (He.ga K (nmK k))) := fun k => by
    cases k with
    | nInts => exact g_put_int
    | nInt => exact g_put_int
    | nLabels => exact g_put_label
    | nTruth => exact g_put_truth
    | nTruths => exact g_put_truth
    | nMarks => exact g_put_pair
    | nPack => exact g_put_pack
  have T2 : Txt2 K w mg (He.ga K "PUTS_EACH") (He.ga K "PUTS") esE esP nE nP (fun k => He.ga K (nmK k)) := by
    refine ⟨g_PUTS_EACH, g_PUTS, hE, hP, hat, fun k e => ?_, fun k e => ?_, fun k e => ?_⟩
    · have h1 := kB_ok hkB k
      rw [if_pos e] at h1
      exact He.eqO_ok h1
    · have h1 := kB_ok hkB k
      rw [if_neg (by rw [e]; decide)] at h1
      exact He.eqO_ok (He.ba h1).1
    · have h1 := kB_ok hkB k
      rw [if_neg (by rw [e]; decide)] at h1
      exact He.eqO_ok (He.ba h1).2
  have hatG : ∀ k, mg (nmG k) = some (.ref (He.ga K (nmG k))) := fun k => by
    cases k with
    | nInts => exact g_get_int
    | nInt => exact g_get_int
    | nLabels => exact g_get_label
    | nTruth => exact g_get_truth
    | nTruths => exact g_get_truth
    | nMarks => exact g_get_pair
    | nPack => exact g_get_pack
  have T5 : Txt5 K w mg (He.ga K "GETS_EACH") (He.ga K "GETS") esE2 esP2 nE2 nP2 (fun k => He.ga K (nmG k)) := by
    refine ⟨g_GETS_EACH, g_GETS, hE2, hP2, hatG, fun k e => ?_, fun k e => ?_, fun k e => ?_⟩
    · have h1 := kB2_ok hkB2 k
      rw [if_pos e] at h1
      exact He.eqO_ok h1
    · have h1 := kB2_ok hkB2 k
      rw [if_neg (by rw [e]; decide)] at h1
      exact He.eqO_ok (He.ba h1).1
    · have h1 := kB2_ok hkB2 k
      rw [if_neg (by rw [e]; decide)] at h1
      exact He.eqO_ok (He.ba h1).2
  obtain ⟨f1, f2⟩ := He.ba hfB
  have T3 : Txt3 K mg (He.ga K "FORMS") ((List.range 11).map (formA K)) := by
    refine ⟨g_FORMS, by simp, tupAtB_ok f1, fun i f hf => ?_⟩
    rw [List.getElem?_map, Option.map_eq_some_iff] at hf
    obtain ⟨j, hj, rfl⟩ := hf
    have hj2 := List.mem_of_getElem? hj
    obtain ⟨hi, e⟩ := List.getElem?_eq_some_iff.mp hj
    rw [List.getElem_range] at e
    subst e
    obtain ⟨q1, q2⟩ := He.ba (List.all_eq_true.mp f2 _ hj2)
    exact ⟨_, tupAtB_ok q1, tupAtB_ok q2⟩
  have e := hfa.symm.trans g_law
  cases e
  have all : ∀ base : Heap, AtA callerA P w K mg base (He.ga K "law") fd_law ["_law_script"] (spLaw K) := by
    intro base
    have G_need := ok_need (P := P) (base := base) T A_need
    have G_is_int := ok_is_int (P := P) (base := base) T A_is_int
    have G_is_label := ok_is_label (P := P) (base := base) T A_is_label
    have G_is_row := ok_is_row (P := P) (base := base) T A_is_row
    have G_are_rows := ok_are_rows T A_are_rows G_is_row
    have G_is_list := ok_is_list (P := P) (base := base) T A_is_list
    have G_is_pair := ok_is_pair T A_is_pair G_is_label G_is_int
    have G_rises := ok_rises (P := P) (base := base) T A_rises
    have G_put_int := ok_put_int T A_put_int G_need G_is_int
    have G_put_int1 : Dfn P w K mg base 3 "put_int" ["thing", "words", "lines"] (spPut IsI 1) := (G_put_int.imp fun vs H Q E h => .inl h).mono (by decide)
    have G_put_truth := ok_put_truth T A_put_truth G_need
    have G_put_label := ok_put_label T A_put_label G_need G_is_label
    have G_put_pair := ok_put_pair T A_put_pair G_need G_is_pair
    have G_put_piece := ok_put_piece T A_put_piece G_need G_is_int G_are_rows
    have L_pr := lst_of (most := 20) T A_put_list stb_Pr bnd_Pr G_need G_is_list G_put_pair g_put_pair
    have L_i := lst_of (most := 4) T A_put_list stb_I bnd_I G_need G_is_list G_put_int1 g_put_int
    have bPc : Bnd (IsPc K) 50 := fun v H nw nl d => by
      obtain ⟨b1, b2, b3⟩ := bnd_Pc v H nw nl d
      exact ⟨by omega, by omega, b3⟩
    have L_pc := lst_of (most := 40) T A_put_list stb_Pc bPc G_need G_is_list G_put_piece g_put_piece
    have M_pr := lst_of (most := 400) T A_put_list stb_Pr bnd_Pr G_need G_is_list G_put_pair g_put_pair
    have M_i := lst_of (most := 400) T A_put_list stb_I bnd_I G_need G_is_list G_put_int1 g_put_int
    have M_b := lst_of (most := 400) T A_put_list stb_B bnd_B G_need G_is_list (G_put_truth.mono (by decide)) g_put_truth
    have M_l := lst_of (most := 400) T A_put_list stb_Lb bnd_Lb G_need G_is_list (G_put_label.mono (by decide)) g_put_label
    have M_bad := lst_ofB (most := 400) T A_put_list G_need G_is_list G_put_int g_put_int
    have G_put_content := ok_put_content T A_put_content g_put_pair g_put_int G_need G_are_rows G_rises G_put_int L_pr L_i
    have G_put_pack := ok_put_pack T A_put_pack g_put_piece G_need G_put_int G_put_content L_pc
    have G_put_list : Dfn P w K mg base 7 "put_list" ["thing", "most", "each", "words", "lines"] (spPuts K (He.ga K "NoText") fun k => He.ga K (nmK k)) := by
      refine ((M_pr.or (j := 0) M_i).or (j := 0) ((M_b.or (j := 0) M_l).or (j := 0) M_bad)).imp fun vs H Q E h => ?_
      rcases h with ⟨v, wa, la, ws, ls, nw, nl, k, hk, rfl, A, hW, q⟩ | h
      · cases k with
        | nInts => exact .inl (.inr ⟨v, wa, la, ws, ls, nw, nl, rfl, A.mono (by decide), hW, q⟩)
        | nInt => cases hk
        | nLabels => exact .inr (.inl (.inr ⟨v, wa, la, ws, ls, nw, nl, rfl, A.mono (by decide), hW, q⟩))
        | nTruth => cases hk
        | nTruths => exact .inr (.inl (.inl ⟨v, wa, la, ws, ls, nw, nl, rfl, A.mono (by decide), hW, q⟩))
        | nMarks => exact .inl (.inl ⟨v, wa, la, ws, ls, nw, nl, rfl, A.mono (by decide), hW, q⟩)
        | nPack => cases hk
      · exact .inr (.inr h)
    have hDeed : ∀ f sp, SDeed K (fun k => He.ga K (nmK k)) f sp → Hd P w K mg base 9 f sp := by
      rintro f sp ⟨k, hk, rfl, rfl⟩
      have up : ∀ {D : Wr} {n : Nat} {vs : List V} {H : Hp} {Q : VK} {E : XK}, n ≤ 2100 → spPut D 2100 vs H Q E → spPut D n vs H Q E := fun hn ⟨v, wa, la, ws, ls, nw, nl, e, A, r⟩ => ⟨v, wa, la, ws, ls, nw, nl, e, A.mono hn, r⟩
      cases k with
      | nInts => cases hk
      | nInt => exact ((G_put_int1.imp fun vs H Q E h => up (by decide) h).mono (by decide)).hd g_put_int
      | nLabels => cases hk
      | nTruth => exact ((G_put_truth.imp fun vs H Q E h => up (by decide) h).mono (by decide)).hd g_put_truth
      | nTruths => cases hk
      | nMarks => cases hk
      | nPack => exact G_put_pack.hd g_put_pack
    have G_text_by := ok_text_by T T2 A_text_by xNN G_put_list hDeed
    have G_text_of := ok_text_of T T3 A_text_of G_text_by
    have G_deck := ok_deck (P := P) (base := base) T A_l_deck
    have G_mixed := ok_mixed (P := P) (base := base) T A_l_mixed
    have G_draw := ok_draw T A_l_draw G_mixed
    have G_text := ok_text T A_l_text G_draw
    have G_label := ok_label T A_l_label G_draw
    have G_int := ok_int T A_l_int G_draw
    have G_ints := ok_ints T A_l_ints G_draw G_int
    have G_leaf := ok_leaf T A_l_leaf_rows G_draw G_text
    have G_pairs := ok_pairs T A_l_pairs G_draw G_label G_int
    have G_marks := ok_marks T A_l_marks G_draw G_label G_int
    have G_pieces := ok_pieces T A_l_pieces G_draw G_leaf G_int
    have G_pack := ok_pack T A_l_pack G_leaf G_int G_ints G_pairs G_pieces
    have G_row := ok_row T A_l_row G_draw G_label G_int G_ints G_marks G_pack
    have G_words0 := ok_words (lists := false) T A_l_words (no_of (P := P) (w := w) (base := base) A_l_words) (fun z => by cases z)
    have G_words := ok_words (lists := true) T A_l_words G_words0 (fun _ => rfl)
    have G_pack_words := ok_pack_words T A_l_pack_words G_words
    have G_written := ok_written T A_l_written G_words G_pack_words
    have M_next_word := ok_next_word (P := P) (base := base) T TD AM_next_word
    have M_need := ok_needM T TD AM_need M_next_word
    have M_is_next := ok_is_next (P := P) (base := base) T TD AM_is_next
    have M_next_lines := ok_next_lines T TD AM_next_lines G_are_rows
    have M_is_done := ok_is_done (P := P) (base := base) T TD AM_is_done
    have M_init := ok_desk_init (P := P) (base := base) T TD AM___init__
    have C_Desk : Dfc P w K mg base 1 "Desk" (He.ga K "Desk") ["self", "text"] (spDeskI (He.ga K "Desk")) := Dfm.made M_init mD g_Desk
    have G_get_int := ok_get_int T TF A_get_int G_need M_next_word
    have G_get_truth := ok_get_truth T A_get_truth G_need M_next_word
    have G_get_label := ok_get_label T A_get_label G_need G_is_label M_next_word
    have G_get_pair := ok_get_pair T A_get_pair G_get_label G_get_int
    have G_get_piece := ok_get_piece T A_get_piece G_need M_next_word M_next_lines G_get_int
    have GI1 : Dfn P w K mg base 6 "get_int" ["desk"] (spGet K (He.ga K "Desk") IsI 0 40) := (G_get_int.imp fun vs H Q E h => .inl h).mono (by decide)
    have GI2 : Dfn P w K mg base 6 "get_int" ["desk"] (spBad (He.ga K "Desk") (He.ga K "NoText") BadI) := (G_get_int.imp fun vs H Q E h => .inr h).mono (by decide)
    have GB1 : Dfn P w K mg base 6 "get_truth" ["desk"] (spGet K (He.ga K "Desk") IsB 0 40) := (G_get_truth.imp fun vs H Q E h => .inl h).mono (by decide)
    have GB2 : Dfn P w K mg base 6 "get_truth" ["desk"] (spBad (He.ga K "Desk") (He.ga K "NoText") BadB) := (G_get_truth.imp fun vs H Q E h => .inr h).mono (by decide)
    have N_pr := gl_of (most := 20) T A_get_list stb_Pr hd_Pr G_need M_need M_is_next (G_get_pair.mono (by decide)) g_get_pair (by decide)
    have N_i := gl_of (most := 4) T A_get_list stb_I hd_I G_need M_need M_is_next GI1 g_get_int (by decide)
    have N_pc := gl_of (most := 40) T A_get_list stb_Pc hd_Pc G_need M_need M_is_next (G_get_piece.mono (by decide)) g_get_piece (by decide)
    have O_pr := gl_of (most := 400) T A_get_list stb_Pr hd_Pr G_need M_need M_is_next (G_get_pair.mono (by decide)) g_get_pair (by decide)
    have O_i := gl_of (most := 400) T A_get_list stb_I hd_I G_need M_need M_is_next GI1 g_get_int (by decide)
    have O_b := gl_of (most := 400) T A_get_list stb_B hd_B G_need M_need M_is_next GB1 g_get_truth (by decide)
    have O_l := gl_of (most := 400) T A_get_list stb_Lb hd_Lb G_need M_need M_is_next (G_get_label.mono (by decide)) g_get_label (by decide)
    have O_bi := gl_ofB (most := 400) T A_get_list G_need M_need M_is_next GI2 g_get_int (by decide)
    have O_bb := gl_ofB (most := 400) T A_get_list G_need M_need M_is_next GB2 g_get_truth (by decide)
    have G_get_content := ok_get_content T A_get_content g_get_pair g_get_int G_need G_rises M_next_word M_next_lines G_get_int N_pr N_i
    have G_get_pack := ok_get_pack T A_get_pack g_get_piece G_need M_next_word G_get_int G_get_content N_pc
    have G_get_list : Dfn P w K mg base 7 "get_list" ["desk", "most", "each"] (spGets K (He.ga K "Desk") (He.ga K "NoText") fun k => He.ga K (nmG k)) := by
      refine (((O_pr.or (j := 0) O_i).or (j := 0) (O_b.or (j := 0) O_l)).or (j := 0) (O_bi.or (j := 0) O_bb)).imp fun vs H Q E h => ?_
      obtain ⟨a, k, hk, rfl, h | h⟩ := h
      · cases k with
        | nInts => exact .inl (.inl (.inr ⟨a, rfl, h.mono (by decide) (by decide)⟩))
        | nInt => cases hk
        | nLabels => exact .inl (.inr (.inr ⟨a, rfl, h.mono (by decide) (by decide)⟩))
        | nTruth => cases hk
        | nTruths => exact .inl (.inr (.inl ⟨a, rfl, h.mono (by decide) (by decide)⟩))
        | nMarks => exact .inl (.inl (.inl ⟨a, rfl, h.mono (by decide) (by decide)⟩))
        | nPack => cases hk
      · cases k with
        | nInts => exact .inr (.inl ⟨a, rfl, h⟩)
        | nInt => cases hk
        | nLabels =>
          obtain ⟨_, _, _, _, _, _, _, _, _, z, _⟩ := h
          exact z.elim
        | nTruth => cases hk
        | nTruths => exact .inr (.inr ⟨a, rfl, h⟩)
        | nMarks =>
          obtain ⟨_, _, _, _, _, _, _, _, _, z, _⟩ := h
          exact z.elim
        | nPack => cases hk
    have hDeedG : ∀ f sp, SGet K (He.ga K "Desk") (He.ga K "NoText") (fun k => He.ga K (nmG k)) f sp → Hd P w K mg base 9 f sp := by
      rintro f sp ⟨k, hk, rfl, rfl⟩
      cases k with
      | nInts => cases hk
      | nInt => exact ((G_get_int.imp fun vs H Q E h => h.elim (fun h => .inl (h.mono (by decide) (by decide))) .inr).mono (by decide)).hd g_get_int
      | nLabels => cases hk
      | nTruth => exact ((G_get_truth.imp fun vs H Q E h => h.elim (fun h => .inl (h.mono (by decide) (by decide))) .inr).mono (by decide)).hd g_get_truth
      | nTruths => cases hk
      | nMarks => cases hk
      | nPack => exact (G_get_pack.imp fun vs H Q E h => h).hd g_get_pack
    have G_row_by := ok_row_by T T5 A_row_by xNN C_Desk M_need M_is_done G_get_list hDeedG
    have G_row_of := ok_row_of T T3 A_row_of G_row_by
    have G_refused := ok_ref T xNN A_l_refused G_row_of
    exact ok_law T TR F_law ⟨rfl, by decide +kernel, by decide +kernel⟩ G_deck G_draw G_row G_text_of G_row_of G_written G_refused
  have b := FunD.bindsA (ps := ["_law_script"]) F_law fun _ _ _ _ _ _ us hl => match us, hl with | [_], _ => rfl
  exact ⟨fd_law, fun s v => b s [v] rfl, fun base _ _ => all base⟩
end Kq
open PySem PySem.W PySem.Calls PyProof.Rows
theorem PySem.Challenge.cw_fewasks_k76_texts_read_holds : PySem.Challenge.rw_fewasks_k76_texts_read.Holds := by
  w_on; o_law
  refine HandSHeadRun.head_any (r := OpenLaw.row PySem.Challenge.rw_fewasks_k76_texts_read) (q := view (OpenLaw.row PySem.Challenge.rw_fewasks_k76_texts_read).prog [61]) (H := Kq.hk) (ob := Kq.ob) (M := 3000) (loose := Kq.lo) (d := HandSHeadRun.topDef (OpenLaw.row PySem.Challenge.rw_fewasks_k76_texts_read).prog 61) (kwd := []) Kq.ob_eq
    (by kernel_rfl) (fun s => by kernel_rfl) Kq.run (by kernel_rfl) (by kernel_rfl) (by kernel_rfl) (by rfl) (by first | assumption | decide +kernel) (by decide +kernel) ⟨rfl, rfl, rfl, rfl, rfl, by decide +kernel⟩ ?hw ?hc
  case hw => w_witness2
  case hc =>
    refine Fw.walk_G (l := PySem.Challenge.rw_fewasks_k76_texts_read) (n := 63) (x := "_law_script") rfl (by decide) (by kernel_rfl) ?F
    intro w mg fa h Y G hmg0
    obtain ⟨K, KX, c⟩ := Y
    have hmg : mg ("law" : PySem.Str) = some (.ref fa) := by
      have e : (HandSHeadRun.topDef (OpenLaw.row PySem.Challenge.rw_fewasks_k76_texts_read).prog 61).name = ("law" : PySem.Str) := by kernel_rfl
      rw [← e]
      exact hmg0
    obtain ⟨fd, hb, hF⟩ := Kq.facts (P := (PySem.Challenge.rw_fewasks_k76_texts_read).prog) (w := w) KX G hmg c
    exact ⟨K, fd, Kq.spLaw K, KX, hb, fun H a ns hl _ hS => ⟨a, ns, rfl, hS, by omega, fun _ => rfl⟩, hF⟩
