import PyProof.Rows.All
import Wide.All
import OpenK.AllK
import Wide.FinOn
import HandS.ForMost
import HandS.ForExc
import HandS.TryOnly
import HandS.Defaults
import HandS.Wide
import HandS.IsInst
import HandS.CallLocal
import HandS.Zip
import HandS.WrittenGet
import HandS.More
import HandS.Strs
import HandS.ExcIs
import HandS.HeadHook3
import HandS.Lambda
import HandS.Walk
import HandS.DictTup
import HandS.SetFor
import HandS.SetKeys
import KE.SortData
import KE.KDictKeyed
import KE.KeyNested
import HandS.ExcField
import HandS.ExcInit
import HandS.Codes
import KE.KExcIs
import PyProof.InstNe
import HandS.ClsMeth
import PySem.Challenge.RW_fewasks_k80_houses_of_a_town
import KE.KSort
import HandS.Head2
import HandS.HeadEnd
import HandS.HeadWalk
import HandS.HeadHook4
set_option Elab.async false
set_option linter.all false
set_option maxRecDepth 100000
set_option maxHeartbeats 4000000
namespace Fw
open PySem PySem.Spec PyProof.Rows L2

/-! ### what stays of a heap where only the objects of M change -/
/-- no table of code objects -/
def NT : HO → Prop
  | .tbl _ => False
  | _ => True
structure Kp (M : List Addr) (H H' : Hp) : Prop where
  keep : ∀ b o, b ∉ M → H b = some o → H' b = some o
  tups : ∀ b xs, H b = some (.tup xs) → H' b = some (.tup xs)
  frzs : ∀ b o u, H b = some (.frz o u) → H' b = some (.frz o u)
  there : ∀ b o, H b = some o → ∃ o', H' b = some o'
  nt : ∀ b o, NT o → H b = some o → ∃ o', NT o' ∧ H' b = some o'
  tb : ∀ p q, LamX.TabS H p q → LamX.TabS H' p q
/-- nothing there -/
def Fr (H : Hp) (p : Addr) : Prop := H p = none
/-- things at p that may be written -/
def Mu (p : Addr) (u : HO) : Prop := (∀ xs, u ≠ .tup xs) ∧ (∀ o v, u ≠ .frz o v) ∧ (∀ ps, u ≠ .tbl ps) ∧ ∀ q, u ≠ LamX.CodeO p q
theorem code_ext {p : Addr} {q : Str} : ∃ φ, LamX.CodeO p q = .ext φ := ⟨_, rfl⟩
theorem mu_of {p : Addr} {u : HO} (h : match u with | .tup _ => False | .frz _ _ => False | .tbl _ => False | .ext _ => False | _ => True) : Mu p u := by
  refine ⟨fun xs e => ?_, fun o v e => ?_, fun ps e => ?_, fun q e => ?_⟩
  · subst e
    exact h
  · subst e
    exact h
  · subst e
    exact h
  · obtain ⟨φ, e2⟩ := code_ext (p := p) (q := q)
    rw [e2] at e
    subst e
    exact h
theorem tab_put {H : Hp} {p P : Addr} {u o : HO} {q : Str} (e : H p = some u) (m : Mu p u) (h : LamX.TabS H P q) : LamX.TabS (upd H p o) P q := by
  obtain ⟨ps, h1, h2, h3⟩ := h
  have n1 : P ≠ p := fun z => m.2.2.1 ps (Option.some.inj (e.symm.trans (z ▸ h1)))
  refine ⟨ps, by rw [upd_ne n1]; exact h1, h2, fun pos cv hc => ?_⟩
  obtain ⟨c, e1, e2⟩ := h3 pos cv hc
  have n2 : c ≠ p := fun z => by
    subst z
    exact m.2.2.2 q (Option.some.inj (e.symm.trans e2))
  exact ⟨c, e1, by rw [upd_ne n2]; exact e2⟩
section
variable {M M' : List Addr} {H H1 H2 H' : Hp} {p a : Addr} {o u : HO} {K : PySem.W.Frag}
theorem Fr.of (h : H p = none) : Fr H p := h
theorem Fr.ne {b : Addr} (h : Fr H p) (n : NT o) (e : H b = some o) : b ≠ p := ne_of_none e h
theorem Kp.refl : Kp M H H := ⟨fun _ _ _ h => h, fun _ _ h => h, fun _ _ _ h => h, fun _ o h => ⟨o, h⟩, fun _ o n h => ⟨o, n, h⟩, fun _ _ h => h⟩
theorem Kp.trans (x : Kp M H H1) (y : Kp M H1 H2) : Kp M H H2 :=
  ⟨fun b o n h => y.keep b o n (x.keep b o n h), fun b xs h => y.tups b xs (x.tups b xs h), fun b o u h => y.frzs b o u (x.frzs b o u h), fun b o h => by
    obtain ⟨o1, h1⟩ := x.there b o h
    exact y.there b o1 h1, fun b o t h => by
    obtain ⟨o1, t1, h1⟩ := x.nt b o t h
    exact y.nt b o1 t1 h1, fun P q h => y.tb P q (x.tb P q h)⟩
theorem Kp.mono (x : Kp M H H') (s : ∀ b, b ∈ M → b ∈ M') : Kp M' H H' := ⟨fun b o n h => x.keep b o (fun z => n (s b z)) h, x.tups, x.frzs, x.there, x.nt, x.tb⟩
theorem Kp.nil (x : Kp [] H H') : Kp M H H' := x.mono fun _ z => nomatch z
theorem Kp.all (x : ∀ b o, H b = some o → H' b = some o) : Kp M H H' := ⟨fun b o _ h => x b o h, fun b xs h => x b _ h, fun b o u h => x b _ h, fun b o h => ⟨o, x b o h⟩, fun b o t h => ⟨o, t, x b o h⟩, fun P q h => h.ext x⟩
theorem Kp.new (x : Kp M H H') (h : H' p = none) : Kp M H (upd H' p o) := x.trans (Kp.all fun b v e => by rw [upd_ne (ne_of_none e h)]; exact e)
theorem Kp.put (x : Kp M H H') (h : H' p = some u) (m : Mu p u) (i : p ∈ M) (t : NT o := by exact trivial) : Kp M H (upd H' p o) := by
  refine x.trans ⟨fun b v n e => ?_, fun b v e => ?_, fun b v w e => ?_, fun b v e => ?_, fun b v z e => ?_, fun P q e => tab_put h m e⟩
  · rw [upd_ne (fun z => n (by rw [z]; exact i))]; exact e
  · rw [upd_ne (ne_of e h (by rintro rfl; exact m.1 _ rfl))]; exact e
  · rw [upd_ne (ne_of e h (by rintro rfl; exact m.2.1 _ _ rfl))]; exact e
  · by_cases q : b = p
    · subst q; exact ⟨_, upd_same⟩
    · exact ⟨v, by rw [upd_ne q]; exact e⟩
  · by_cases q : b = p
    · subst q; exact ⟨_, t, upd_same⟩
    · exact ⟨v, z, by rw [upd_ne q]; exact e⟩
/-- a thing that came later is written -/
theorem Kp.late (x : Kp M H H') (h : Fr H p) (g : ∀ u, H' p = some u → Mu p u) : Kp M H (upd H' p o) := by
  cases e : H' p with
  | none => exact x.new e
  | some u =>
    have m := g u e
    refine ⟨fun b v n t => ?_, fun b v t => ?_, fun b v y t => ?_, fun b v t => ?_, fun b v n t => ?_, fun P q t => tab_put e m (x.tb P q t)⟩
    · rw [upd_ne (ne_of_none t h)]; exact x.keep b v n t
    · rw [upd_ne (ne_of_none t h)]; exact x.tups b v t
    · rw [upd_ne (ne_of_none t h)]; exact x.frzs b v y t
    · rw [upd_ne (ne_of_none t h)]; exact x.there b v t
    · rw [upd_ne (ne_of_none t h)]; exact x.nt b v n t
/-- what came later may change freely -/
theorem Kp.hide {M' : List Addr} (x : Kp M' H H1) (y : Kp M H1 H2) (h : ∀ m ∈ M, m ∈ M' ∨ Fr H m) : Kp M' H H2 := by
  refine ⟨fun b o n e => y.keep b o (fun z => ?_) (x.keep b o n e), fun b xs e => y.tups b xs (x.tups b xs e), fun b o u e => y.frzs b o u (x.frzs b o u e), fun b o e => ?_, fun b o t e => ?_, fun P q t => y.tb P q (x.tb P q t)⟩
  · rcases h b z with q | q
    · exact n q
    · exact ne_of_none e q rfl
  · obtain ⟨o1, h1⟩ := x.there b o e
    exact y.there b o1 h1
  · obtain ⟨o1, t1, h1⟩ := x.nt b o t e
    exact y.nt b o1 t1 h1
theorem Kp.free (x : Kp M H H') (h : Fr H' p) : Fr H p := by
  cases q : H p with
  | none => exact q
  | some o =>
    obtain ⟨o', e⟩ := x.there p o q
    exact absurd e (by rw [show H' p = none from h]; simp)
theorem Kp.at (x : Kp M H H') (h : H a = some o) (n : a ∉ M) : H' a = some o := x.keep a o n h
theorem Kp.tup (x : Kp M H H') {xs : List V} (h : SqT K H a xs) : SqT K H' a xs := by
  rcases h with (h | ⟨o, h⟩) | h
  · exact .inl (.inl (x.tups _ _ h))
  · exact .inl (.inr ⟨o, x.frzs _ _ _ h⟩)
  · exact .inr h
theorem Kp.lst (x : Kp M H H') {xs : List V} (h : SqL K H a xs) (n : a ∉ M) : SqL K H' a xs := by
  rcases h with (h | ⟨o, h⟩) | h
  · exact .inl (.inl (x.at h n))
  · exact .inl (.inr ⟨o, x.frzs _ _ _ h⟩)
  · exact .inr h
theorem Kp.tabs {T : List (Addr × Str)} (x : Kp M H H') (h : LamX.Tabs T H) : LamX.Tabs T H' := fun p hp => x.tb _ _ (h p hp)
end
/-! ### the same but for tables of code objects: what a lambda leaves -/
structure Kw (M : List Addr) (H H' : Hp) : Prop where
  keep : ∀ b o, b ∉ M → NT o → H b = some o → H' b = some o
  tups : ∀ b xs, H b = some (.tup xs) → H' b = some (.tup xs)
  frzs : ∀ b o u, H b = some (.frz o u) → H' b = some (.frz o u)
  nt : ∀ b o, NT o → H b = some o → ∃ o', NT o' ∧ H' b = some o'
/-- nothing there, but perhaps a table -/
def Wr (H : Hp) (p : Addr) : Prop := ∀ o, NT o → H p ≠ some o
section
variable {M M' : List Addr} {H H1 H2 H' : Hp} {p a : Addr} {o u : HO} {K : PySem.W.Frag}
theorem Kp.w (x : Kp M H H') : Kw M H H' := ⟨fun b o n _ h => x.keep b o n h, x.tups, x.frzs, x.nt⟩
theorem Wr.of (h : H p = none) : Wr H p := fun o _ e => by rw [h] at e; cases e
theorem Kw.refl : Kw M H H := Kp.refl.w
theorem Kw.trans (x : Kw M H H1) (y : Kw M H1 H2) : Kw M H H2 :=
  ⟨fun b o n t h => y.keep b o n t (x.keep b o n t h), fun b xs h => y.tups b xs (x.tups b xs h), fun b o u h => y.frzs b o u (x.frzs b o u h), fun b o t h => by
    obtain ⟨o1, t1, h1⟩ := x.nt b o t h
    exact y.nt b o1 t1 h1⟩
theorem Kw.mono (x : Kw M H H') (s : ∀ b, b ∈ M → b ∈ M') : Kw M' H H' := ⟨fun b o n t h => x.keep b o (fun z => n (s b z)) t h, x.tups, x.frzs, x.nt⟩
theorem Kw.nil (x : Kw [] H H') : Kw M H H' := x.mono fun _ z => nomatch z
theorem Kw.ofExt (x : LamX.ExtN H H') : Kw M H H' := by
  have nt : ∀ {o : HO}, NT o → ∀ ps, o ≠ .tbl ps := fun n ps e => by
    subst e
    exact n
  exact ⟨fun b o _ t h => x b o h (nt t), fun b xs h => x b _ h (nt (o := .tup xs) trivial), fun b o u h => x b _ h (nt (o := .frz o u) trivial), fun b o t h => ⟨o, t, x b o h (nt t)⟩⟩
theorem Kw.free (x : Kw M H H') (h : Wr H' p) : Wr H p := fun o t q => by
  obtain ⟨o', t', e⟩ := x.nt p o t q
  exact h o' t' e
theorem Kw.at (x : Kw M H H') (h : H a = some o) (n : a ∉ M) (t : NT o := by exact trivial) : H' a = some o := x.keep a o n t h
theorem Kw.tup (x : Kw M H H') {xs : List V} (h : SqT K H a xs) : SqT K H' a xs := by
  rcases h with (h | ⟨o, h⟩) | h
  · exact .inl (.inl (x.tups _ _ h))
  · exact .inl (.inr ⟨o, x.frzs _ _ _ h⟩)
  · exact .inr h
theorem Kw.lst (x : Kw M H H') {xs : List V} (h : SqL K H a xs) (n : a ∉ M) : SqL K H' a xs := by
  rcases h with (h | ⟨o, h⟩) | h
  · exact .inl (.inl (x.at h n))
  · exact .inl (.inr ⟨o, x.frzs _ _ _ h⟩)
  · exact .inr h
end

/-! ### a def of the text, as its callers see it -/
structure Dfn (P : Program) (w : World) (K : PySem.W.Frag) (mg : Str → Option Value) (base : Heap) (k : Nat) (x : Str) (ps : List Str) (sp : Sp) : Prop where
  ex : ∃ (f : Addr) (fd : FuncData), FnOk P w K mg base (L2.CX P w) k f fd ps sp ∧ mg x = some (.ref f) ∧ PySem.W.keepIn K (.ref f) = true ∧ Binds K fd ps [] ∧
    ∃ (oc : Value) (od : Option Addr) (osl : Array (Option Value)), K.lookup f = some ⟨oc, od, .func fd, osl⟩
/-- two promises of one def -/
theorem Dfn.or {P : Program} {w : World} {K : PySem.W.Frag} {mg : Str → Option Value} {base : Heap} {k j : Nat} {x : Str} {ps : List Str} {sp sp' : Sp} (G : Dfn P w K mg base k x ps sp) (G' : Dfn P w K mg base k x ps sp') :
    Dfn P w K mg base k x ps (fun vs H Q E => sp vs H Q E ∨ sp' vs H Q E) := by
  obtain ⟨f, fd, F, hm, hk, hb, oc, od, osl, hl⟩ := G.ex
  obtain ⟨f', fd', F', hm', _, _, oc', od', osl', hl'⟩ := G'.ex
  have e : f' = f := by
    rw [hm] at hm'
    cases hm'
    rfl
  subst e
  have e2 : fd' = fd := by
    rw [hl] at hl'
    cases hl'
    rfl
  subst e2
  exact ⟨f', fd', ⟨fun vs H Q E h => h.elim (F.len vs H Q E) (F'.len vs H Q E), fun A outer s H args us vs Q E hr he hb hv hs => hs.elim (F.run A outer s H args us vs Q E hr he hb hv) (F'.run A outer s H args us vs Q E hr he hb hv)⟩, hm, hk, hb, oc, od, osl, hl⟩
theorem Dfn.mono {P : Program} {w : World} {K : PySem.W.Frag} {mg : Str → Option Value} {base : Heap} {k j : Nat} {x : Str} {ps : List Str} {sp : Sp} (G : Dfn P w K mg base k x ps sp) (h : k ≤ j) : Dfn P w K mg base j x ps sp := by
  obtain ⟨f, fd, F, r⟩ := G.ex
  exact ⟨f, fd, F.mono h, r⟩
section
variable {X : Cx} {k j : Nat} {x : Str} {ps : List Str} {sp : Sp} {E : XK} {p pos : Pos} {e : Expr} {es : List Expr} {t : TA}
theorem pe_fnE (G : Dfn X.prog X.w X.K X.mg X.base k x ps sp) (hr : Room j X.A) (hx : Passes (L2.CX X.prog X.w) X E) (ha : PA X (e :: es) t) (hk : k ≤ j := by decide) (hg : Gl X x := by rfl)
    (hdb : (x == ("__debug__" : Str)) = false := by decide) (he : starEach (e :: es) X.env = (false, eval e X.env) :: starEach es X.env := by rfl) (hpl : (backTo pos (starEach es X.env)).any (·.1) = false := by rfl) :
    PE X (.Call (.Name x p) (e :: es) [] pos) (tCall sp [] E t) := by
  obtain ⟨f, fd, F, hm, hkp, hb, hlk⟩ := G.ex
  exact pe_call F (hr.mono hk) hg hm hkp hb .nil hx ha hdb he hpl
/-- nothing is let out -/
theorem pe_fn (G : Dfn X.prog X.w X.K X.mg X.base k x ps sp) (hr : Room j X.A) (ha : PA X (e :: es) t) (hk : k ≤ j := by decide) (hg : Gl X x := by rfl)
    (hdb : (x == ("__debug__" : Str)) = false := by decide) (he : starEach (e :: es) X.env = (false, eval e X.env) :: starEach es X.env := by rfl) (hpl : (backTo pos (starEach es X.env)).any (·.1) = false := by rfl) :
    PE X (.Call (.Name x p) (e :: es) [] pos) (tCall sp [] E0 t) := pe_fnE G hr passL ha hk hg hdb he hpl
/-- within a try's body -/
theorem pe_fnT {W : WX} (G : Dfn X.prog X.w X.K X.mg X.base k x ps sp) (hr : Room j X.A) (tk : Takes X W) (ha : PA X (e :: es) t) (hk : k ≤ j := by decide) (hg : Gl X x := by rfl)
    (hdb : (x == ("__debug__" : Str)) = false := by decide) (he : starEach (e :: es) X.env = (false, eval e X.env) :: starEach es X.env := by rfl) (hpl : (backTo pos (starEach es X.env)).any (·.1) = false := by rfl) :
    PE X (.Call (.Name x p) (e :: es) [] pos) (tCallS sp (WE W) t) := by
  obtain ⟨f, fd, F, hm, hkp, hb, hlk⟩ := G.ex
  exact pe_callS F (hr.mono hk) hg hm hkp hb (fun σ => passAt tk σ) ha hdb he hpl
end
/-- a call of a local name that holds one of several defs; nothing is let out -/
def tCallV (i : Nat) (S : Addr → Sp → Prop) (t : TA) : TE := fun σ H Q => ∃ f sp, σ[i]? = some (some (.ref f)) ∧ S f sp ∧ t σ H fun vs H1 => sp vs H1 Q E0
structure Hd (P : Program) (w : World) (K : PySem.W.Frag) (mg : Str → Option Value) (base : Heap) (k : Nat) (f : Addr) (sp : Sp) : Prop where
  ex : ∃ (fd : FuncData) (ps : List Str), FnOk P w K mg base (L2.CX P w) k f fd ps sp ∧ PySem.W.keepIn K (.ref f) = true ∧ Binds K fd ps []
theorem Dfn.hd {P : Program} {w : World} {K : PySem.W.Frag} {mg : Str → Option Value} {base : Heap} {k : Nat} {x : Str} {ps : List Str} {sp : Sp} {f : Addr} (G : Dfn P w K mg base k x ps sp) (h : mg x = some (.ref f)) : Hd P w K mg base k f sp := by
  obtain ⟨f', fd, F, hm, hkp, hb, hlk⟩ := G.ex
  rw [h] at hm
  cases hm
  exact ⟨fd, ps, F, hkp, hb⟩
theorem pe_callV {X : Cx} {k j i : Nat} {S : Addr → Sp → Prop} {x : Str} {p pos : Pos} {e : Expr} {es : List Expr} {t : TA} (A : ∀ f sp, S f sp → Hd X.prog X.w X.K X.mg X.base k f sp) (hr : Room j X.A) (hN : X.N[i]? = some x) (hv : Vis X.env.scope x) (ha : PA X (e :: es) t) (hk : k ≤ j := by decide)
    (hdb : (x == ("__debug__" : Str)) = false := by decide) (hcd : (x == ("__classdict__" : Str)) = false := by decide)
    (he : starEach (e :: es) X.env = (false, eval e X.env) :: starEach es X.env := by rfl) (hpl : (backTo pos (starEach es X.env)).any (·.1) = false := by rfl) : PE X (.Call (.Name x p) (e :: es) [] pos) (tCallV i S t) := by
  refine ⟨fun pins s σ H Q I h => ?_⟩
  obtain ⟨f, sp, hs, hS, ht⟩ := h
  obtain ⟨fd, ps, F, hkp, hb⟩ := (A f sp hS).ex
  refine (pe_callL (i := i) (f := f) (sp := sp) (dvs := []) (E := E0) F (hr.mono hk) hN hv hkp hb .nil passL ha hdb hcd he hpl).run pins s σ H Q I ⟨hs, ?_⟩
  have e0 : (fun (vs : List V) (H1 : Hp) => sp (vs ++ []) H1 Q E0) = fun vs H1 => sp vs H1 Q E0 := by
    funext vs H1
    rw [List.append_nil]
  rw [e0]
  exact ht
/-- a def of the text as the head's facts tell it, under its module name -/
structure At (K : PySem.W.Frag) (mg : Str → Option Value) (x : Str) (st : Stmt) (ps : List Str) : Prop where
  ex : ∃ (f : Addr) (fd : FuncData), FunD K x x (defArgs st) (defBody st) (defScope st) [] [] f fd ∧ mg x = some (.ref f) ∧ Binds K fd ps []
/-- the rule for a def: its body's term, the reading -/
theorem At.ok {P : Program} {w : World} {K : PySem.W.Frag} {mg : Str → Option Value} {base : Heap} {x : Str} {st : Stmt} {N ps : List Str} {k : Nat} {sp : Sp} (F : At K mg x st ps) (S : FnScope N ps (defScope st)) (len : ∀ vs H Q E, sp vs H Q E → vs.length = ps.length)
    (hbody : ∀ (qual : Str) (f : Addr) (cdv : Value) (A : Around) (outer : List Env) (s : Shared) (H : Hp) (vs : List V) (Q : VK) (E : XK), Room k (A.deeper (envOfC qual (defScope st) s.heap.objs.size f cdv)) → sp vs H Q E →
      ∃ t, PSs (cxOf (L2.CX P w) P w K mg base N qual (defScope st) f cdv A outer s H E) (defBody st) t ∧ t { nx := fun _ H' => Q .non H', rt := Q } (start N vs) H) : Dfn P w K mg base (k + 1) x ps sp := by
  obtain ⟨f, fd, FD, hm, hb⟩ := F.ex
  exact ⟨f, fd, FD.ok S len fun cdv A outer s H vs Q E hr hsp => hbody x f cdv A outer s H vs Q E hr hsp, hm, FD.kp, hb, by
    obtain ⟨oc, od, dV, kV, doc, pm, an, cdv, ct, osl, e1, lk, _⟩ := FD.ex
    exact ⟨oc, od, osl, lk⟩⟩
theorem Dfn.imp {P : Program} {w : World} {K : PySem.W.Frag} {mg : Str → Option Value} {base : Heap} {k : Nat} {x : Str} {ps : List Str} {sp sp' : Sp} (G : Dfn P w K mg base k x ps sp) (h : ∀ vs H Q E, sp' vs H Q E → sp vs H Q E) : Dfn P w K mg base k x ps sp' := by
  obtain ⟨f, fd, F, hm, hkp, hb, hlk⟩ := G.ex
  exact ⟨f, fd, F.imp h, hm, hkp, hb, hlk⟩
end Fw
set_option Elab.async false
set_option linter.all false
set_option maxRecDepth 100000
set_option maxHeartbeats 4000000
namespace Fw
open PySem PySem.Spec PyProof.Rows L2

/-! ### exceptions of own classes over ValueError without __init__ -/
structure ExcC (K : PySem.W.Frag) (mg : Str → Option Value) (x : Str) (C : Addr) : Prop where
  g : mg x = some (.ref C)
  q : PySem.W.excIn K C He.veBase "ValueError.__new__" = true
  k : PySem.W.keepIn K (.ref C) = true
  b : PySem.W.subIn K (.ref C) (.type "BaseException") = some true
  t : PySem.W.typeIn K (.ref C) = some (.type "type")
section
variable {X : Cx} {C : Addr} {x m : Str} {j : Nat} {p p2 pos : Pos}
theorem pmk_own0 (T : ExcC X.K X.mg x C) (hg : Gl X x) (hdb : (x == ("__debug__" : Str)) = false := by decide) : PMk X (.Call (.Name x p) [] [] pos) (fun _ H Q => Q (.ref C) none H) := by
  intro pins s σ H Q I h
  refine wpAny_Call_Name_kw (ld_glob I hg T.g ?_ hdb)
  refine PySem.W.callWith_K0 I.kIn T.k ?_
  show wpAny _ _ (call (.ref C) []) _ _ _
  obtain ⟨bm, N, nm, qn, bs, hdct, sn, sub, ab, col, dd, k0, k1, k2, k3, k5, mN, hC, hN, hni, OT⟩ := exc_obj I.kIn T.q
  refine wpAny_call_exc_subT PySem.F.excBase_ValueError OT hC hN hni (fun h' e hm => ?_) (by show 0 ≤ sizeLine; exact Nat.zero_le _)
  exact mk_of I hm (raises_own T.b T.t) h (I.hok.gone hm.new)
theorem pmk_own1 (T : ExcC X.K X.mg x C) (hg : Gl X x) (hdb : (x == ("__debug__" : Str)) = false := by decide) : PMk X (.Call (.Name x p) [.Constant (.str m) j p2] [] pos) (fun _ H Q => Q (.ref C) none H) :=
  pmk_own PySem.F.excBase_ValueError T.q T.g T.k (raises_own T.b T.t) hg hdb
end

/-! ### a rule's reading, by the rule -/
abbrev relO {X : Cx} {f : Value → Value → Sem Value} {r : R2} (_ : OpR X f r) : R2 := r
abbrev relC {X : Cx} {f : Value} {r : List V → Hp → VK → Prop} (_ : CallR X f r) : List V → Hp → VK → Prop := r
abbrev relM {X : Cx} {id : String} {r : V → List V → Hp → VK → Prop} (_ : MtR X id r) : V → List V → Hp → VK → Prop := r
abbrev relI {X : Cx} {r : R2} (_ : IxR X r) : R2 := r
abbrev relSl {X : Cx} {r : V → Option Int → Option Int → Hp → VK → Prop} (_ : SlR X r) : V → Option Int → Option Int → Hp → VK → Prop := r
abbrev spOf {P : Program} {w : World} {K : PySem.W.Frag} {mg : Str → Option Value} {base : Heap} {k : Nat} {x : Str} {ps : List Str} {sp : Sp} (_ : Dfn P w K mg base k x ps sp) : Sp := sp
abbrev ciOf {mg : Str → Option Value} {x : Str} {i : Int} (_ : ∃ t, mg x = some (.int i t)) : V := .int i
abbrev csOf {mg : Str → Option Value} {x z : Str} (_ : ∃ t, mg x = some (.str z t)) : V := .str z
abbrev crOf {mg : Str → Option Value} {x : Str} {a : Addr} (_ : mg x = some (.ref a)) : V := .ref a
/-! ### try: the body's term is told where the reading comes to it -/
def tTryR (X : Cx) (body : List Stmt) (W : Ends → WX) : TS := fun D σ H => ∀ WW : WX, WW = W D → ∃ t : TS, (∀ (pn : List (Addr × Obj)) (xe : Value → Shared → Prop), Takes (X.tr pn xe) WW → PassesOwn (model X.prog X.w) X.A X.env xe → PSs (X.tr pn xe) body t) ∧ t D σ H
theorem ps_tryR {X : Cx} {x : Str} {c : Value} {body suite : List Stmt} {b₀ : Stmt} {np pos pos' : Pos} {ts : Addr → Value → Option Addr → TS} {Wout : WX} (hs : X.stack = X.env :: X.outer) (hf : X.env.frame = some X.env.locals) (hc : Names X x c) (tk : Takes X Wout)
    (hsu : ∀ (a : Addr) (oe : Obj) (cls : Value) (d : Option Addr) (pn : List (Addr × Obj)), Zc cls d oe → (∃ vs, oe.data = .fields vs) → PSs (X.suite a ((a, oe) :: pn)) (b₀ :: suite) (ts a cls d)) :
    PS X (.Try body [.ExceptHandler (some (.Name x np)) none (b₀ :: suite) pos'] [] [] pos) (tTryR X body (wOnly X.K c ts Wout)) :=
  ⟨fun pins s σ H D I h => by
    obtain ⟨t, hb, ht⟩ := h _ rfl
    exact (ps_try_only (tb := fun W => fun D' σ' H' => W = wOnly X.K c ts Wout D ∧ t D' σ' H') hs hf hc tk (fun W pn xe tk' hp => ⟨fun pins' s' σ' H' D' I' ⟨e, h'⟩ => by
      subst e
      exact (hb pn xe tk' hp).run pins' s' σ' H' D' I' h'⟩) hsu).run pins s σ H D I ⟨rfl, ht⟩⟩
/-- except x as n -/
theorem ps_tryRas {X : Cx} {i : Nat} {n x : Str} {c : Value} {body suite : List Stmt} {b₀ : Stmt} {np pos pos' : Pos} {ts : Addr → Value → Option Addr → TS} {Wout : WX} (hs : X.stack = X.env :: X.outer) (hf : X.env.frame = some X.env.locals) (hN : X.N.Nodup) (hi : X.N[i]? = some n) (hln : X.env.kindOf n = some .local) (hc : Names X x c) (tk : Takes X Wout)
    (hsu : ∀ (a : Addr) (oe : Obj) (cls : Value) (d : Option Addr) (pn : List (Addr × Obj)), Zc cls d oe → (∃ vs, oe.data = .fields vs) → PSs (X.suite a ((a, oe) :: pn)) (b₀ :: suite) (ts a cls d)) :
    PS X (.Try body [.ExceptHandler (some (.Name x np)) (some n) (b₀ :: suite) pos'] [] [] pos) (tTryR X body (wAs X.K c i ts Wout)) :=
  ⟨fun pins s σ H D I h => by
    obtain ⟨t, hb, ht⟩ := h _ rfl
    exact (ps_try_as (tb := fun W => fun D' σ' H' => W = wAs X.K c i ts Wout D ∧ t D' σ' H') hs hf hN hi hln hc tk (fun W pn xe tk' hp => ⟨fun pins' s' σ' H' D' I' ⟨e, h'⟩ => by
      subst e
      exact (hb pn xe tk' hp).run pins' s' σ' H' D' I' h'⟩) hsu).run pins s σ H D I ⟨rfl, ht⟩⟩

/-! ### xs.extend(t), t a tuple -/
section
open PySem.SeqAt
open PySem.AutoSeq1 (wpAny_loadPart')
theorem extend_tup (l : Addr) (items : Array Value) (n : Nat) (b : Addr) (items2 : Array Value) (n2 : Nat) (dd : Option Addr) (sl : Array (Option Value)) (hs0 : ¬(!items.isEmpty && Builtin.List.listTooLong (items.size + items2.size)) = true) (hs1 : items.size ≤ sizeLine) (hs2 : items.size + items2.size ≤ sizeLine + 1) :
    Meets (Builtin.«list.extend» ⟨[.ref l, .ref b], []⟩) (fun _ R s => s.heap.get? l = some { cls := .type "list", dict := none, data := .seq items n, slots := #[] } ∧ s.heap.get? b = some { cls := .type "tuple", dict := dd, data := .seq items2 n2, slots := sl } ∧
      R (.ok (.ret Value.none)) { s with heap := s.heap.update l (Obj.mapSeq fun x => x ++ items2), toks := s.toks }) :=
  .of_wp fun prog w A R s h => by
    obtain ⟨hp, g, d, tk, os⟩ := s
    obtain ⟨hl, hb, h⟩ := h
    have f1 := AutoSeq1.idx_int
    have f2 := AutoSeq1.sub_tuple_tuple
    have f3 := AutoSeq1.sub_list_list
    have f4 := AutoSeq1.sub_tuple_list
    have f5 := AutoSeq1.sub_list_tuple
    have hz' : (items ++ items2).size ≤ sizeLine + 1 := by rw [Array.size_append]; exact hs2
    wp_walk using (wpAny_updateSeq hl rfl (hz := hs1) (_hz' := hz')), wpAny_loadPart' hl, wpAny_loadPart' hb
    exact ⟨_, rfl, h⟩
end
def rExtendT (K : PySem.W.Frag) : V → List V → Hp → VK → Prop := fun x vs H Q => ∃ l b xs zs, x = .ref l ∧ vs = [.ref b] ∧ H l = some (.lst xs) ∧ SqT K H b zs ∧ xs.length + zs.length ≤ sizeLine ∧ Q .non (upd H l (.lst (xs ++ zs)))
theorem mt_extendT {X : Cx} : MtM X "list.extend" (rExtendT X.K) := by
  intro pins s σ H x vs v us Q I rx rv h
  obtain ⟨l, b, xs, zs, rfl, rfl, hH, hB, hz, q⟩ := h
  cases rx
  obtain ⟨u, rfl, ru⟩ := rv.one
  cases ru
  obtain ⟨z, its, n, r, hl, e⟩ := I.lstM hH
  obtain ⟨its2, r2, ⟨⟨oc, od, dt, sl⟩, e2, hc, n2, hd⟩, z2⟩ := I.tuple hB
  have hl2 := r2.length
  simp only at hc hd
  subst hc hd
  have hsz : its.toArray.size + its2.toArray.size ≤ sizeLine := by rw [List.size_toArray, List.size_toArray]; omega
  have hlong : ¬ (!its.toArray.isEmpty && Builtin.List.listTooLong (its.toArray.size + its2.toArray.size)) = true := by
    rw [notLongL hsz, Bool.and_false]
    exact Bool.false_ne_true
  refine call_meets PySem.F.slot_list_extend ⟨_, e, rfl⟩ PySem.F.entry_list_extend (PySem.F.args_list_extend_2 _ _)
    (extend_tup l its.toArray n b its2.toArray n2 od sl hlong (by rw [List.size_toArray]; omega) (by omega)) ⟨e, e2, ?_⟩
  refine ⟨.non, _, I.lset (its' := its ++ its2) hH e (by simp) (r.append r2) ?_, rfl, q⟩
  rw [List.length_append]
  omega

/-! ### names of the module -/
section
variable {X : Cx} {x z : Str} {i : Int} {a : Addr} {pos : Pos}
theorem pe_ty (n : String) (hg : Gl X x) (hm : X.mg x = none) (hv : bootBuiltins x = some (.type n)) (hn : x ≠ "__name__" := by decide) (hd : (x == ("__debug__" : Str)) = false := by decide) : PE X (.Name x pos) (tC (.ty n)) := pe_bltn hg hm hv rfl hn hd
theorem pe_ci (hg : Gl X x) (hm : ∃ t, X.mg x = some (.int i t)) (hd : (x == ("__debug__" : Str)) = false := by decide) : PE X (.Name x pos) (tC (.int i)) := by
  obtain ⟨t, h⟩ := hm
  exact pe_glob hg h ⟨t, rfl⟩ hd
theorem pe_cs (hg : Gl X x) (hm : ∃ t, X.mg x = some (.str z t)) (hd : (x == ("__debug__" : Str)) = false := by decide) : PE X (.Name x pos) (tC (.str z)) := by
  obtain ⟨t, h⟩ := hm
  exact pe_glob hg h ⟨t, rfl⟩ hd
theorem pe_cr (hg : Gl X x) (hm : X.mg x = some (.ref a)) (hd : (x == ("__debug__" : Str)) = false := by decide) : PE X (.Name x pos) (tC (.ref a)) := pe_glob hg hm rfl hd
end

/-! ### isinstance -/
/-- x's answer to isinstance(x, T), T a built-in class -/
def Isi (K : PySem.W.Frag) (H : Hp) (x : V) (n : String) (b : Bool) : Prop := ∃ t, TyX K H x (.type t) ∧ kitB t n = some b
theorem kitB_same {a : String} : kitB a a = some true := by
  unfold kitB
  rw [if_pos (by simp)]
theorem isi_int_ {K : PySem.W.Frag} {H : Hp} {i : Int} {n : String} {b : Bool} : Isi K H (V.int i) n b ↔ kitB "int" n = some b :=
  ⟨fun ⟨t, ty, e⟩ => by
    cases ty with
    | base h => cases h; exact e, fun e => ⟨_, .base (.int i), e⟩⟩
theorem isi_int_int {K : PySem.W.Frag} {H : Hp} {i : Int} {b : Bool} : Isi K H (V.int i) "int" b ↔ b = true := by
  rw [isi_int_, (by decide +kernel : kitB "int" "int" = some true)]
  exact ⟨fun e => (Option.some.inj e).symm, fun e => by rw [e]⟩
theorem isi_int_bool {K : PySem.W.Frag} {H : Hp} {i : Int} {b : Bool} : Isi K H (V.int i) "bool" b ↔ b = false := by
  rw [isi_int_, (by decide +kernel : kitB "int" "bool" = some false)]
  exact ⟨fun e => (Option.some.inj e).symm, fun e => by rw [e]⟩
theorem isi_int_str {K : PySem.W.Frag} {H : Hp} {i : Int} {b : Bool} : Isi K H (V.int i) "str" b ↔ b = false := by
  rw [isi_int_, (by decide +kernel : kitB "int" "str" = some false)]
  exact ⟨fun e => (Option.some.inj e).symm, fun e => by rw [e]⟩
theorem isi_int_tuple {K : PySem.W.Frag} {H : Hp} {i : Int} {b : Bool} : Isi K H (V.int i) "tuple" b ↔ b = false := by
  rw [isi_int_, (by decide +kernel : kitB "int" "tuple" = some false)]
  exact ⟨fun e => (Option.some.inj e).symm, fun e => by rw [e]⟩
theorem isi_int_list {K : PySem.W.Frag} {H : Hp} {i : Int} {b : Bool} : Isi K H (V.int i) "list" b ↔ b = false := by
  rw [isi_int_, (by decide +kernel : kitB "int" "list" = some false)]
  exact ⟨fun e => (Option.some.inj e).symm, fun e => by rw [e]⟩
theorem isi_int_dict {K : PySem.W.Frag} {H : Hp} {i : Int} {b : Bool} : Isi K H (V.int i) "dict" b ↔ b = false := by
  rw [isi_int_, (by decide +kernel : kitB "int" "dict" = some false)]
  exact ⟨fun e => (Option.some.inj e).symm, fun e => by rw [e]⟩
theorem isi_bool_ {K : PySem.W.Frag} {H : Hp} {c : Bool} {n : String} {b : Bool} : Isi K H (V.bl c) n b ↔ kitB "bool" n = some b :=
  ⟨fun ⟨t, ty, e⟩ => by
    cases ty with
    | base h => cases h; exact e, fun e => ⟨_, .base (.bl c), e⟩⟩
theorem isi_bool_int {K : PySem.W.Frag} {H : Hp} {c : Bool} {b : Bool} : Isi K H (V.bl c) "int" b ↔ b = true := by
  rw [isi_bool_, (by decide +kernel : kitB "bool" "int" = some true)]
  exact ⟨fun e => (Option.some.inj e).symm, fun e => by rw [e]⟩
theorem isi_bool_bool {K : PySem.W.Frag} {H : Hp} {c : Bool} {b : Bool} : Isi K H (V.bl c) "bool" b ↔ b = true := by
  rw [isi_bool_, (by decide +kernel : kitB "bool" "bool" = some true)]
  exact ⟨fun e => (Option.some.inj e).symm, fun e => by rw [e]⟩
theorem isi_bool_str {K : PySem.W.Frag} {H : Hp} {c : Bool} {b : Bool} : Isi K H (V.bl c) "str" b ↔ b = false := by
  rw [isi_bool_, (by decide +kernel : kitB "bool" "str" = some false)]
  exact ⟨fun e => (Option.some.inj e).symm, fun e => by rw [e]⟩
theorem isi_bool_tuple {K : PySem.W.Frag} {H : Hp} {c : Bool} {b : Bool} : Isi K H (V.bl c) "tuple" b ↔ b = false := by
  rw [isi_bool_, (by decide +kernel : kitB "bool" "tuple" = some false)]
  exact ⟨fun e => (Option.some.inj e).symm, fun e => by rw [e]⟩
theorem isi_bool_list {K : PySem.W.Frag} {H : Hp} {c : Bool} {b : Bool} : Isi K H (V.bl c) "list" b ↔ b = false := by
  rw [isi_bool_, (by decide +kernel : kitB "bool" "list" = some false)]
  exact ⟨fun e => (Option.some.inj e).symm, fun e => by rw [e]⟩
theorem isi_bool_dict {K : PySem.W.Frag} {H : Hp} {c : Bool} {b : Bool} : Isi K H (V.bl c) "dict" b ↔ b = false := by
  rw [isi_bool_, (by decide +kernel : kitB "bool" "dict" = some false)]
  exact ⟨fun e => (Option.some.inj e).symm, fun e => by rw [e]⟩
theorem isi_str_ {K : PySem.W.Frag} {H : Hp} {z : Str} {n : String} {b : Bool} : Isi K H (V.str z) n b ↔ kitB "str" n = some b :=
  ⟨fun ⟨t, ty, e⟩ => by
    cases ty with
    | base h => cases h; exact e, fun e => ⟨_, .base (.str z), e⟩⟩
theorem isi_str_int {K : PySem.W.Frag} {H : Hp} {z : Str} {b : Bool} : Isi K H (V.str z) "int" b ↔ b = false := by
  rw [isi_str_, (by decide +kernel : kitB "str" "int" = some false)]
  exact ⟨fun e => (Option.some.inj e).symm, fun e => by rw [e]⟩
theorem isi_str_bool {K : PySem.W.Frag} {H : Hp} {z : Str} {b : Bool} : Isi K H (V.str z) "bool" b ↔ b = false := by
  rw [isi_str_, (by decide +kernel : kitB "str" "bool" = some false)]
  exact ⟨fun e => (Option.some.inj e).symm, fun e => by rw [e]⟩
theorem isi_str_str {K : PySem.W.Frag} {H : Hp} {z : Str} {b : Bool} : Isi K H (V.str z) "str" b ↔ b = true := by
  rw [isi_str_, (by decide +kernel : kitB "str" "str" = some true)]
  exact ⟨fun e => (Option.some.inj e).symm, fun e => by rw [e]⟩
theorem isi_str_tuple {K : PySem.W.Frag} {H : Hp} {z : Str} {b : Bool} : Isi K H (V.str z) "tuple" b ↔ b = false := by
  rw [isi_str_, (by decide +kernel : kitB "str" "tuple" = some false)]
  exact ⟨fun e => (Option.some.inj e).symm, fun e => by rw [e]⟩
theorem isi_str_list {K : PySem.W.Frag} {H : Hp} {z : Str} {b : Bool} : Isi K H (V.str z) "list" b ↔ b = false := by
  rw [isi_str_, (by decide +kernel : kitB "str" "list" = some false)]
  exact ⟨fun e => (Option.some.inj e).symm, fun e => by rw [e]⟩
theorem isi_str_dict {K : PySem.W.Frag} {H : Hp} {z : Str} {b : Bool} : Isi K H (V.str z) "dict" b ↔ b = false := by
  rw [isi_str_, (by decide +kernel : kitB "str" "dict" = some false)]
  exact ⟨fun e => (Option.some.inj e).symm, fun e => by rw [e]⟩
theorem isi_non_ {K : PySem.W.Frag} {H : Hp} {n : String} {b : Bool} : Isi K H (V.non) n b ↔ kitB "NoneType" n = some b :=
  ⟨fun ⟨t, ty, e⟩ => by
    cases ty with
    | base h => cases h; exact e, fun e => ⟨_, .base .non, e⟩⟩
theorem isi_non_int {K : PySem.W.Frag} {H : Hp} {b : Bool} : Isi K H (V.non) "int" b ↔ b = false := by
  rw [isi_non_, (by decide +kernel : kitB "NoneType" "int" = some false)]
  exact ⟨fun e => (Option.some.inj e).symm, fun e => by rw [e]⟩
theorem isi_non_bool {K : PySem.W.Frag} {H : Hp} {b : Bool} : Isi K H (V.non) "bool" b ↔ b = false := by
  rw [isi_non_, (by decide +kernel : kitB "NoneType" "bool" = some false)]
  exact ⟨fun e => (Option.some.inj e).symm, fun e => by rw [e]⟩
theorem isi_non_str {K : PySem.W.Frag} {H : Hp} {b : Bool} : Isi K H (V.non) "str" b ↔ b = false := by
  rw [isi_non_, (by decide +kernel : kitB "NoneType" "str" = some false)]
  exact ⟨fun e => (Option.some.inj e).symm, fun e => by rw [e]⟩
theorem isi_non_tuple {K : PySem.W.Frag} {H : Hp} {b : Bool} : Isi K H (V.non) "tuple" b ↔ b = false := by
  rw [isi_non_, (by decide +kernel : kitB "NoneType" "tuple" = some false)]
  exact ⟨fun e => (Option.some.inj e).symm, fun e => by rw [e]⟩
theorem isi_non_list {K : PySem.W.Frag} {H : Hp} {b : Bool} : Isi K H (V.non) "list" b ↔ b = false := by
  rw [isi_non_, (by decide +kernel : kitB "NoneType" "list" = some false)]
  exact ⟨fun e => (Option.some.inj e).symm, fun e => by rw [e]⟩
theorem isi_non_dict {K : PySem.W.Frag} {H : Hp} {b : Bool} : Isi K H (V.non) "dict" b ↔ b = false := by
  rw [isi_non_, (by decide +kernel : kitB "NoneType" "dict" = some false)]
  exact ⟨fun e => (Option.some.inj e).symm, fun e => by rw [e]⟩

/-- isinstance(x, T) -/
def rIsiC (K : PySem.W.Frag) : List V → Hp → VK → Prop := fun xs H Q => ∃ x n, xs = [x, .ty n] ∧ ∃ b, Isi K H x n b ∧ Q (.bl b) H
theorem call_isiC {X : Cx} : CallR X (.builtin "isinstance") (rIsiC X.K) := by
  intro pins s σ H xs us Q I r h
  obtain ⟨x, n, rfl, b, ⟨t, ty, e⟩, q⟩ := h
  exact call_isi pins s σ H _ us Q I r ⟨_, _, _, _, b, rfl, .ty n, ty, kit_ty e, q⟩
section
variable {K : PySem.W.Frag} {H : Hp} {x : V} {a b : String} {r : Bool} {Q : VK} {p C : Addr} {xs : List V}
theorem tyT (h : SqT K H p xs) : TyX K H (.ref p) (.type "tuple") := by
  rcases h with (h | ⟨o, h⟩) | ⟨o, _, _, h, c, _⟩
  · exact .base (.tup h)
  · exact .fTuple h
  · exact .kTuple h c
theorem tyL (h : SqL K H p xs) : TyX K H (.ref p) (.type "list") := by
  rcases h with (h | ⟨o, h⟩) | ⟨o, _, _, h, c, _⟩
  · exact .base (.lst h)
  · exact .base (.frz h)
  · exact .kList h c
theorem isiT (h : SqT K H p xs) : Isi K H (.ref p) "tuple" true := ⟨_, tyT h, kitB_same⟩
theorem isiT_ {n : String} (h : SqT K H p xs) (e : kitB "tuple" n = some r) : Isi K H (.ref p) n r := ⟨_, tyT h, e⟩
theorem isiL (h : SqL K H p xs) : Isi K H (.ref p) "list" true := ⟨_, tyL h, kitB_same⟩
theorem isiL_ {n : String} (h : SqL K H p xs) (e : kitB "list" n = some r) : Isi K H (.ref p) n r := ⟨_, tyL h, e⟩
end

/-! ### comprehensions -/
abbrev LcGoal (J : It) (g : TG) (te : TE) (vs : List Nat) (σ : L2.St) (H1 : Hp) (D : Addr) (Qd : Hp → Prop) : Prop :=
    ∃ W : Nat → Nat → Hp → Prop, (∃ m, W 0 m (upd H1 D (.lst []))) ∧ ∀ i m H, W i m H →
      (J.stop i H ∧ Qd H) ∨ (J.go i H ∧ ∃ Nx : Hp → Prop, (∀ H', Nx H' → ∃ m', m' < m ∧ W (i + 1) m' H') ∧ ∀ x H', J.yld i H x H' → g x (wipe σ vs) H' fun σ2 H2 => wipe σ2 vs = wipe σ vs ∧ tYes σ2 H2 fun b H3 =>
        if b = true then te σ2 H3 fun y H4 => ∃ acc, H4 D = some (.lst acc) ∧ acc.length < sizeLine ∧ Nx (upd H4 D (.lst (acc ++ [y]))) else Nx H3)
section
variable {K : PySem.W.Frag} {J : It} {n j : Nat} {G : Hp → Prop} {Y : Nat → Hp → V → Hp → Prop} {g : TG} {te : TE} {vs : List Nat} {σ : L2.St} {H1 : Hp} {D : Addr} {Qd : Hp → Prop} {M : List Addr}
/-- S: what runs along (by the turn); R tells the i-th value -/
theorem lcS (w : Walk J n G Y) (hD : H1 D = none) (hM : D ∉ M) (hn : n ≤ 100000) (S : Nat → Hp → Prop) (R : Nat → V → Hp → Prop)
    (hR : ∀ i v H H', R i v H → Kp (D :: M) H H' → R i v H') (hS : ∀ i H xs ys, H D = some (.lst xs) → S i H → S i (upd H D (.lst ys))) (h0 : S 0 (upd H1 D (.lst []))) (hG : ∀ i H, Kp M H1 H → S i H → G H)
    (he : ∀ i x H H' (Q : VK), i < n → Kp M H1 H → S i H → Y i H x H' → (∀ y H2, Kp M H H2 → S (i + 1) H2 → R i y H2 → Q y H2) → g x (wipe σ vs) H' fun σ2 H2 => wipe σ2 vs = wipe σ vs ∧ te σ2 H2 Q)
    (hg : ∀ i x H H' (A B : L2.St → Hp → Prop), Y i H x H' → (∀ σ H, A σ H → B σ H) → g x (wipe σ vs) H' A → g x (wipe σ vs) H' B)
    (hd : ∀ H' ys, Kp M H1 H' → S n H' → H' D = some (.lst ys) → ys.length = n → (∀ i y, ys[i]? = some y → R i y H') → Qd H') : LcGoal J g te vs σ H1 D Qd := by
  refine lc_it w (fun i H => Kp M H1 H ∧ S i H ∧ ∃ ys, H D = some (.lst ys) ∧ ys.length = i ∧ ∀ k y, ys[k]? = some y → R k y H) ⟨Kp.refl.new hD, h0, [], upd_same, rfl, fun k y h => by simp at h⟩ (fun i H _ p => hG i H p.1 p.2.1) ?_ ?_
  · rintro i x H H' hi ⟨k1, s1, ys, e1, e2, e3⟩ y
    refine hg i x H H' _ _ y ?_ (he i x H H' (fun y' H4 => ∃ acc, H4 D = some (.lst acc) ∧ acc.length < sizeLine ∧ Kp M H1 (upd H4 D (.lst (acc ++ [y']))) ∧ S (i + 1) (upd H4 D (.lst (acc ++ [y']))) ∧
      ∃ ys, (upd H4 D (.lst (acc ++ [y']))) D = some (.lst ys) ∧ ys.length = i + 1 ∧ ∀ k z, ys[k]? = some z → R k z (upd H4 D (.lst (acc ++ [y'])))) hi k1 s1 y fun y' H4 k4 s4 r4 => ?_)
    · rintro σ2 H2 ⟨a, b⟩
      exact ⟨a, b⟩
    have e4 : H4 D = some (.lst ys) := k4.at e1 hM
    refine ⟨ys, e4, by rw [e2]; exact Nat.lt_of_lt_of_le (Nat.lt_of_lt_of_le hi hn) (by decide), (k1.trans k4).late (.of hD) (fun u hu => by rw [e4] at hu; cases hu; exact mu_of trivial), hS _ _ _ _ e4 s4, ys ++ [y'], upd_same, by simp [e2], fun k z h => ?_⟩
    have up : Kp (D :: M) H4 (upd H4 D (.lst (ys ++ [y']))) := Kp.refl.put e4 (mu_of trivial) (by simp)
    by_cases hk : k < ys.length
    · rw [List.getElem?_append_left hk] at h
      exact hR _ _ _ _ (hR _ _ _ _ (e3 k z h) (k4.mono fun _ z => List.mem_cons_of_mem _ z)) up
    · have hk2 : k = ys.length := by
        have := (List.getElem?_eq_some_iff.mp h).1
        simp at this
        omega
      subst hk2
      have ez : z = y' := by simpa using h.symm
      subst ez
      rw [e2]
      exact hR _ _ _ _ r4 up
  · rintro H ⟨k1, s1, ys, e1, e2, e3⟩
    exact hd H ys k1 s1 e1 e2 e3
theorem gName_mono {x : V} {σ : L2.St} {H : Hp} {A B : L2.St → Hp → Prop} (h : ∀ σ H, A σ H → B σ H) (a : gName j x σ H A) : gName j x σ H B := h _ _ a
/-- each item pure: R tells the i-th value; the target a name -/
theorem lc_pure (w : Walk J n G Y) (hY : ∀ i H x H', Y i H x H' → H' = H) (hD : H1 D = none) (hn : n ≤ 100000) (hw : ∀ x, wipe ((wipe σ vs).set j (some x)) vs = wipe σ vs) (R : Nat → V → Hp → Prop)
    (hR : ∀ i v H H', R i v H → Kp [D] H H' → R i v H') (hG : ∀ H, Kp [] H1 H → G H)
    (he : ∀ i x H (Q : VK), i < n → Kp [] H1 H → Y i H x H → (∀ y H', Kp [] H H' → R i y H' → Q y H') → te ((wipe σ vs).set j (some x)) H Q)
    (hd : ∀ H' ys, Kp [] H1 H' → H' D = some (.lst ys) → ys.length = n → (∀ i y, ys[i]? = some y → R i y H') → Qd H') : LcGoal J (gName j) te vs σ H1 D Qd :=
  lcS (M := []) w hD (by simp) hn (fun _ _ => True) R hR (fun _ _ _ _ _ _ => trivial) trivial (fun _ H k _ => hG H k) (fun i x H H' Q hi k _ y q => ⟨hw x, by
    obtain rfl := hY _ _ _ _ y
    exact he i x H' Q hi k y fun y2 H2 k2 r2 => q y2 H2 k2 trivial r2⟩) (fun _ _ _ _ _ _ _ h a => gName_mono h a) fun H' ys k _ e l r => hd H' ys k e l r
end
/-- a comprehension over a range, behind the range's bounds -/
def RngGoal (lo : Int) (n : Nat) (g : TG) (te : TE) (vs : List Nat) (σ : L2.St) (Q : VK) (H1 : Hp) : Prop := ∀ D, H1 D = none → LcGoal (Itr lo n) g te vs σ H1 D fun H => Q (.ref D) H
theorem tLc_rng1 {ta : TA} {g : TG} {te : TE} {vs : List Nat} {σ : L2.St} {H : Hp} {Q : VK} : tLc (iRng1 ta) g tYes te vs σ H Q = (ta σ H fun us H1 => ∃ j, us = [V.int j] ∧ -2 ^ 62 ≤ j ∧ j < 2 ^ 62 ∧ RngGoal 0 j.toNat g te vs σ Q H1) := rfl
theorem tLc_rng2 {ta : TA} {g : TG} {te : TE} {vs : List Nat} {σ : L2.St} {H : Hp} {Q : VK} : tLc (iRng2 ta) g tYes te vs σ H Q = (ta σ H fun us H1 => ∃ i j, us = [V.int i, V.int j] ∧ (-2 ^ 62 ≤ i ∧ i < 2 ^ 62 ∧ -2 ^ 62 ≤ j ∧ j < 2 ^ 62) ∧ RngGoal i (j - i).toNat g te vs σ Q H1) := rfl
/-- a for over a range, behind the range's bounds -/
def ForGoal (lo : Int) (n : Nat) (g : TG) (tb : TS) (D : Ends) (σ : L2.St) (H : Hp) : Prop := ∃ W : Nat → Nat → L2.St → Hp → Prop, (∃ m, W 0 m σ H) ∧ ∀ i m σ H, W i m σ H →
      ((Itr lo n).stop i H ∧ D.nx σ H) ∨ ((Itr lo n).go i H ∧ ∃ N : L2.St → Hp → Prop, (∀ σ' H', N σ' H' → ∃ m', m' < m ∧ W (i + 1) m' σ' H') ∧ ∀ x H', (Itr lo n).yld i H x H' → g x σ H' fun σ2 H2 => tb { D with nx := N, ct := N, bk := D.nx } σ2 H2)
theorem tFor_rng1 {ta : TA} {g : TG} {tb : TS} {D : Ends} {σ : L2.St} {H : Hp} : tFor (iRng1 ta) g tb D σ H = (ta σ H fun us H1 => ∃ j, us = [V.int j] ∧ -2 ^ 62 ≤ j ∧ j < 2 ^ 62 ∧ ForGoal 0 j.toNat g tb D σ H1) := rfl
theorem tFor_rng2 {ta : TA} {g : TG} {tb : TS} {D : Ends} {σ : L2.St} {H : Hp} : tFor (iRng2 ta) g tb D σ H = (ta σ H fun us H1 => ∃ i j, us = [V.int i, V.int j] ∧ (-2 ^ 62 ≤ i ∧ i < 2 ^ 62 ∧ -2 ^ 62 ≤ j ∧ j < 2 ^ 62) ∧ ForGoal i (j - i).toNat g tb D σ H1) := rfl
theorem for_rng {lo : Int} {n : Nat} {g : TG} {tb : TS} {D : Ends} {σ : L2.St} {H : Hp} (Pv : Nat → L2.St → Hp → Prop) (h0 : Pv 0 σ H)
    (hs : ∀ i σ H, i < n → Pv i σ H → g (.int (lo + (i : Nat))) σ H fun σ2 H2 => tb { D with nx := Pv (i + 1), ct := Pv (i + 1), bk := D.nx } σ2 H2) (hd : ∀ σ H, Pv n σ H → D.nx σ H) : ForGoal lo n g tb D σ H :=
  for_it walk_range Pv h0 (fun _ _ _ _ _ => trivial) (fun i x σ H H' hi p y => by
    obtain ⟨rfl, rfl⟩ := y
    exact hs i σ H' hi p) hd
theorem ofS_inj {a b : String} : Str.ofString a = Str.ofString b ↔ a = b := by
  refine ⟨fun h => ?_, fun h => by rw [h]⟩
  rw [Str.ofString_eq_toList, Str.ofString_eq_toList] at h
  have e : a.toList.map Char.toNat = b.toList.map Char.toNat := by simpa using congrArg (fun z : Str => z.cps.toList) h
  have e2 : a.toList = b.toList := (List.map_inj_right fun x y q => Char.ext (UInt32.toNat_inj.mp q)).mp e
  exact String.toList_inj.mp e2
theorem sg_inj {a b : Nat} : ((⟨#[a]⟩ : Str) = ⟨#[b]⟩) ↔ a = b := ⟨fun h => by simpa using congrArg (fun z : Str => z.cps.toList) h, fun h => by rw [h]⟩
theorem sg_len {a : Nat} : (⟨#[a]⟩ : Str).length = 1 := rfl
theorem sg_lt {a b : Nat} : (([a] : List Nat) < [b]) ↔ a < b := by
  rw [List.cons_lt_cons_iff]
  simp
theorem cx_K {CX : CXT} {P : Program} {w : World} {K : PySem.W.Frag} {mg : Str → Option Value} {base : Heap} {N : List Str} {qual : Str} {scope : Scope} {f : Addr} {cd : Value} {A : Around} {outer : List Env} {s : Shared} {H : Hp} {E : XK} :
    (cxOf CX P w K mg base N qual scope f cd A outer s H E).K = K := rfl
theorem cx_w {CX : CXT} {P : Program} {w : World} {K : PySem.W.Frag} {mg : Str → Option Value} {base : Heap} {N : List Str} {qual : Str} {scope : Scope} {f : Addr} {cd : Value} {A : Around} {outer : List Env} {s : Shared} {H : Hp} {E : XK} :
    (cxOf CX P w K mg base N qual scope f cd A outer s H E).w = w := rfl
section
variable {K : PySem.W.Frag} {H : Hp} {Q : VK} {a : Addr} {xs : List V} {i : Int} {v : V} {z : Str} {c : Nat}
theorem ixT (h : SqT K H a xs) (e : atI xs i = some v) (q : Q v H) : rIxT K (.ref a) (.int i) H Q := ⟨a, xs, i, v, rfl, rfl, h, e, q⟩
theorem ixL (h : SqL K H a xs) (e : atI xs i = some v) (q : Q v H) : rIxL K (.ref a) (.int i) H Q := ⟨a, xs, i, v, rfl, rfl, h, e, q⟩
theorem ixS (h : z.length ≤ sizeLine) (e : atI z.cps.toList i = some c) (q : Q (.str ⟨#[c]⟩) H) : rIxS (.str z) (.int i) H Q := ⟨z, i, c, rfl, rfl, h, e, q⟩
end
theorem at0 {α : Type} {v : α} {xs : List α} : atI (v :: xs) 0 = some v := atI_nat (j := 0) rfl
theorem nc0 : ((0 : Nat) : Int) = 0 := rfl
theorem nc1 : ((1 : Nat) : Int) = 1 := rfl
theorem nc2 : ((2 : Nat) : Int) = 2 := rfl
theorem nc3 : ((3 : Nat) : Int) = 3 := rfl
theorem nc4 : ((4 : Nat) : Int) = 4 := rfl
theorem nc5 : ((5 : Nat) : Int) = 5 := rfl
theorem nc6 : ((6 : Nat) : Int) = 6 := rfl
theorem nc7 : ((7 : Nat) : Int) = 7 := rfl
theorem nc8 : ((8 : Nat) : Int) = 8 := rfl
theorem nc9 : ((9 : Nat) : Int) = 9 := rfl
theorem nc10 : ((10 : Nat) : Int) = 10 := rfl
theorem nc11 : ((11 : Nat) : Int) = 11 := rfl
theorem nc12 : ((12 : Nat) : Int) = 12 := rfl
theorem sc_nn : scal (.non) (.non) = true := rfl
theorem sc_ni {b : Int} : scal (.non) (.int b) = true := rfl
theorem sc_in {a : Int} : scal (.int a) (.non) = true := rfl
theorem sc_nb {b : Bool} : scal (.non) (.bl b) = true := rfl
theorem sc_bn {a : Bool} : scal (.bl a) (.non) = true := rfl
theorem sc_ns {b : Str} : scal (.non) (.str b) = true := rfl
theorem sc_sn {a : Str} : scal (.str a) (.non) = true := rfl
theorem sc_ii {a : Int} {b : Int} : scal (.int a) (.int b) = true := rfl
theorem sc_bb {a : Bool} {b : Bool} : scal (.bl a) (.bl b) = true := rfl
theorem sc_ss {a : Str} {b : Str} : scal (.str a) (.str b) = true := rfl
theorem sc_is {a : Int} {b : Str} : scal (.int a) (.str b) = true := rfl
theorem sc_si {a : Str} {b : Int} : scal (.str a) (.int b) = true := rfl
theorem sc_bs {a : Bool} {b : Str} : scal (.bl a) (.str b) = true := rfl
theorem sc_sb {a : Str} {b : Bool} : scal (.str a) (.bl b) = true := rfl
/-! ### all([..]) -/
theorem lenV_str {K : PySem.W.Frag} {H : Hp} {z : Str} {n : Nat} : LenV K (.str z) H n ↔ z.length ≤ sizeLine ∧ n = z.length := Iff.rfl
theorem lenV_T {K : PySem.W.Frag} {H : Hp} {a : Addr} {xs : List V} (h : SqT K H a xs) : LenV K (.ref a) H xs.length := .inr ⟨xs, h, rfl⟩
theorem lenV_L {K : PySem.W.Frag} {H : Hp} {a : Addr} {xs : List V} (h : SqL K H a xs) : LenV K (.ref a) H xs.length := .inl ⟨xs, h, rfl⟩
section
variable {K : PySem.W.Frag} {n j i1 i2 : Nat} {J : It} {G : Hp → Prop} {te ts : TE} {vs : List Nat} {σ : L2.St} {H H1 : Hp} {D : Addr} {Qd : Hp → Prop} {Q : VK}
theorem bls_of {ys : List V} {bs : List Bool} (h1 : ys.length = bs.length) (h2 : ∀ (i : Nat) (y : V), ys[i]? = some y → ∃ b, bs[i]? = some b ∧ y = V.bl b) : ys = bs.map V.bl := by
  apply List.ext_getElem?
  intro i
  cases h : ys[i]? with
  | some y =>
    obtain ⟨b, hb, rfl⟩ := h2 i y h
    simp [hb]
  | none =>
    have h3 := List.getElem?_eq_none_iff.mp h
    rw [List.getElem?_eq_none (by simp; omega)]
/-- all([c for x in t]), t a text -/
theorem all_str {z : Str} (f : Nat → Bool) (hs : ∀ Q : VK, Q (.str z) H → ts σ H Q) (hz : z.length ≤ 100000) (hw : ∀ x, wipe ((wipe σ vs).set j (some x)) vs = wipe σ vs)
    (he : ∀ c H (Q : VK), c ∈ z.cps.toList → Q (.bl (f c)) H → te ((wipe σ vs).set j (some (.str ⟨#[c]⟩))) H Q)
    (k : ∀ H', Kp [] H H' → Q (.bl (z.cps.toList.all f)) H') : tLc (iStr ts) (gName j) tYes te vs σ H (fun x H1 => rAll K [x] H1 Q) := by
  refine hs _ ⟨z, rfl, fun D hD => ?_⟩
  refine lc_pure (n := z.cps.size) walk_str (fun _ _ _ _ y => y.1) hD hz hw (fun i v _ => ∃ b, (z.cps.toList.map f)[i]? = some b ∧ v = .bl b) (fun _ _ _ _ r _ => r) (fun _ _ => trivial) (fun i x H2 Q2 hi _ y q => ?_) (fun H' ys k1 e1 e2 e3 => ?_)
  · obtain ⟨_, c, hc, rfl⟩ := y
    rw [← Array.getElem?_toList] at hc
    exact he c H2 _ (List.mem_of_getElem? hc) (q _ H2 Kp.refl ⟨f c, by simp only [List.getElem?_map, hc, Option.map_some], rfl⟩)
  · have em : ys = (z.cps.toList.map f).map V.bl := bls_of (by simp [e2]) e3
    refine ⟨D, z.cps.toList.map f, rfl, .inl (.inl (by rw [← em]; exact e1)), ?_⟩
    have ea : (z.cps.toList.map f).all id = z.cps.toList.all f := by rw [List.all_map]; rfl
    rw [ea]
    exact k H' k1
/-- all([c for x in t]), t a tuple -/
theorem all_tup {a : Addr} {xs : List V} {bs : List Bool} (hs : ∀ Q : VK, Q (.ref a) H → ts σ H Q) (hx : SqT K H a xs) (hn : xs.length ≤ 100000) (hb : bs.length = xs.length) (hw : ∀ x, wipe ((wipe σ vs).set j (some x)) vs = wipe σ vs)
    (he : ∀ (i : Nat) (x : V) (b : Bool) (H' : Hp) (Q : VK), xs[i]? = some x → bs[i]? = some b → Kp [] H H' → (∀ H2, Kp [] H' H2 → Q (.bl b) H2) → te ((wipe σ vs).set j (some x)) H' Q)
    (k : ∀ H', Kp [] H H' → Q (.bl (bs.all id)) H') : tLc (iTup K ts) (gName j) tYes te vs σ H (fun x H1 => rAll K [x] H1 Q) := by
  refine hs _ ⟨a, rfl, ⟨xs, hx⟩, fun D hD => ?_⟩
  refine lc_pure (n := xs.length) walk_tup (fun _ _ _ _ y => y.1) hD hn hw (fun i v _ => ∃ b, bs[i]? = some b ∧ v = .bl b) (fun _ _ _ _ r _ => r) (fun _ k => k.tup hx) (fun i x H2 Q2 hi k2 y q => ?_) (fun H' ys k1 e1 e2 e3 => ?_)
  · have hb2 : bs[i]? = some bs[i] := List.getElem?_eq_getElem (by omega)
    exact he i x _ H2 Q2 y.2 hb2 k2 fun H3 k3 => q _ H3 k3 ⟨_, hb2, rfl⟩
  · have em : ys = bs.map V.bl := bls_of (by omega) e3
    exact ⟨D, bs, rfl, .inl (.inl (by rw [← em]; exact e1)), k H' k1⟩
theorem walk_zipT {a b : Addr} {xs ys : List V} (hn : n = min xs.length ys.length) : Walk (RZ.ItzT K a b) n (fun H => SqT K H a xs ∧ SqT K H b ys) (YPair (fun i => xs[i]?) (fun i => ys[i]?)) := by
  subst hn
  refine ⟨fun i _ hi q => ?_, fun _ q => ⟨xs, ys, q.1, q.2, by omega⟩, fun i H v H' _ q y => ?_⟩
  · have h1 : i < xs.length := by omega
    have h2 : i < ys.length := by omega
    exact ⟨xs, ys, xs[i], ys[i], q.1, q.2, by simp [h1], by simp [h2]⟩
  · obtain ⟨T, x, z, h1, h2, h3, h4, h5⟩ := y
    exact ⟨T, x, z, h1, h2, h3, h4 xs q.1, h5 ys q.2⟩
theorem gPair_mono {x : V} {A B : L2.St → Hp → Prop} (h : ∀ σ H, A σ H → B σ H) (a : gTup K 2 (gCons (gName i1) (gCons (gName i2) gNil)) x σ H A) : gTup K 2 (gCons (gName i1) (gCons (gName i2) gNil)) x σ H B := by
  obtain ⟨a, xs, e1, e2, e3, v, r, e4, v2, r2, e5, e6, q⟩ := a
  exact ⟨a, xs, e1, e2, e3, v, r, e4, v2, r2, e5, e6, h _ _ q⟩
/-- a comprehension over pairs that are unpacked -/
theorem lc_pairG {fx fy : Nat → Option V} (w : Walk J n G Y) (hY : ∀ i v H H', Kp [] H1 H → Y i H v H' → Kp [] H H' ∧ ∃ T x y, v = .ref T ∧ SqT K H' T [x, y] ∧ fx i = some x ∧ fy i = some y)
    (hD : H1 D = none) (hn : n ≤ 100000) (hw : ∀ x y, wipe (((wipe σ vs).set i1 (some x)).set i2 (some y)) vs = wipe σ vs) (R : Nat → V → Hp → Prop)
    (hR : ∀ i v H H', R i v H → Kp [D] H H' → R i v H') (hG : ∀ H, Kp [] H1 H → G H)
    (he : ∀ i x y H (Q : VK), i < n → Kp [] H1 H → fx i = some x → fy i = some y → (∀ z H', Kp [] H H' → R i z H' → Q z H') → te (((wipe σ vs).set i1 (some x)).set i2 (some y)) H Q)
    (hd : ∀ H' ys, Kp [] H1 H' → H' D = some (.lst ys) → ys.length = n → (∀ i y, ys[i]? = some y → R i y H') → Qd H') : LcGoal J (gTup K 2 (gCons (gName i1) (gCons (gName i2) gNil))) te vs σ H1 D Qd :=
  lcS (M := []) w hD (by simp) hn (fun _ _ => True) R hR (fun _ _ _ _ _ _ => trivial) trivial (fun _ H k _ => hG H k) (fun i v H H' Q hi k _ y q => by
    obtain ⟨kk, T, x, z, rfl, hT, h1, h2⟩ := hY i v H H' k y
    refine ⟨T, [x, z], rfl, hT, rfl, x, [z], rfl, z, [], rfl, rfl, hw x z, ?_⟩
    exact he i x z _ Q hi (k.trans kk) h1 h2 fun y2 H2 k2 r2 => q y2 H2 (kk.trans k2) trivial r2) (fun _ _ _ _ _ _ _ h a => gPair_mono h a) fun H' ys k _ e l r => hd H' ys k e l r
/-- a comprehension over pairs that are made on the way -/
theorem lc_pair {fx fy : Nat → Option V} (w : Walk J n G (YPair fx fy)) (hD : H1 D = none) (hn : n ≤ 100000) (hw : ∀ x y, wipe (((wipe σ vs).set i1 (some x)).set i2 (some y)) vs = wipe σ vs) (R : Nat → V → Hp → Prop)
    (hR : ∀ i v H H', R i v H → Kp [D] H H' → R i v H') (hG : ∀ H, Kp [] H1 H → G H)
    (he : ∀ i x y H (Q : VK), i < n → Kp [] H1 H → fx i = some x → fy i = some y → (∀ z H', Kp [] H H' → R i z H' → Q z H') → te (((wipe σ vs).set i1 (some x)).set i2 (some y)) H Q)
    (hd : ∀ H' ys, Kp [] H1 H' → H' D = some (.lst ys) → ys.length = n → (∀ i y, ys[i]? = some y → R i y H') → Qd H') : LcGoal J (gTup K 2 (gCons (gName i1) (gCons (gName i2) gNil))) te vs σ H1 D Qd :=
  lc_pairG w (fun i v H H' k y => by
    obtain ⟨T, x, z, rfl, hT, rfl, h1, h2⟩ := y
    exact ⟨Kp.refl.new hT, T, x, z, rfl, .inl (.inl upd_same), h1, h2⟩) hD hn hw R hR hG he hd
theorem all_pair {fx fy : Nat → Option V} {bs : List Bool} (w : Walk J n G (YPair fx fy)) (hD : H1 D = none) (hn : n ≤ 100000) (hb : bs.length = n) (hw : ∀ x y, wipe (((wipe σ vs).set i1 (some x)).set i2 (some y)) vs = wipe σ vs) (hG : ∀ H, Kp [] H1 H → G H)
    (he : ∀ (i : Nat) (x y : V) (b : Bool) (H : Hp) (Q : VK), fx i = some x → fy i = some y → bs[i]? = some b → Kp [] H1 H → (∀ H', Kp [] H H' → Q (.bl b) H') → te (((wipe σ vs).set i1 (some x)).set i2 (some y)) H Q)
    (k : ∀ H', Kp [] H1 H' → Q (.bl (bs.all id)) H') : LcGoal J (gTup K 2 (gCons (gName i1) (gCons (gName i2) gNil))) te vs σ H1 D (fun H1 => rAll K [.ref D] H1 Q) := by
  refine lc_pair w hD hn hw (fun i v _ => ∃ b, bs[i]? = some b ∧ v = .bl b) (fun _ _ _ _ r _ => r) hG (fun i x y H2 Q2 hi k2 h1 h2 q => ?_) (fun H' ys k1 e1 e2 e3 => ?_)
  · have hb2 : bs[i]? = some bs[i] := List.getElem?_eq_getElem (by omega)
    exact he i x y _ H2 Q2 h1 h2 hb2 k2 fun H3 k3 => q _ H3 k3 ⟨_, hb2, rfl⟩
  · have em : ys = bs.map V.bl := bls_of (by omega) e3
    exact ⟨D, bs, rfl, .inl (.inl (by rw [← em]; exact e1)), k H' k1⟩
end
end Fw
set_option Elab.async false
set_option linter.all false
set_option maxRecDepth 100000
set_option maxHeartbeats 4000000
namespace Fw
open PySem PySem.Spec PyProof.Rows L2 PySem.Calls
/-! ### sorted(d.items()), texts to ints -/
abbrev entK (e : Str × Int) : Key × V := (Sum.inr e.1, V.int e.2)
abbrev pairD (e : Str × Int) : PyData := .tuple [.str e.1, .int e.2]
theorem Kp.ext {M : List Addr} {H H' : Hp} (h : ∀ b o, H b = some o → H' b = some o) : Kp M H H' := Kp.all h
def rItemsK : V → List V → Hp → VK → Prop := fun x xs H Q => ∃ (a : Addr) (kvs : List (Key × V)), x = .ref a ∧ xs = [] ∧ H a = some (.dK kvs) ∧ ∀ p, H p = none → Q (.ref p) (upd H p (L2.DX.itemsO p a))
section
variable {X : Cx}
theorem mt_itemsK : MtR X "dict.items" rItemsK := by
  intro pins s σ H x xs v us Q I rx rxs h
  obtain ⟨a, kvs, rfl, rfl, ha, q⟩ := h
  cases rx
  cases rxs
  obtain ⟨z, hd, vs, rel, dd⟩ := dk_of I.hok ha
  obtain ⟨ep, hat⟩ := dd.dictAt
  obtain ⟨o, es, ho, hx, hdat, _⟩ := id hat
  refine DT.callItems (es := es) (ep := ep) hd ⟨o, ho, hx, hdat⟩ ?_
  have hf : H s.heap.objs.size = none := I.hok.fresh (Nat.le_refl _)
  exact ⟨.ref s.heap.objs.size, upd H s.heap.objs.size (L2.DX.itemsO s.heap.objs.size a), I.laid (t' := s.toks) (fun b u e => Heap.get?_push_of_some _ e) (Nat.le_refl _) (L2.DX.itemsO_ok (Heap.get?_push_size _ rfl)), rfl, q _ hf⟩
theorem pair_alike (e f : Str × Int) : PySem.W.alike (pairD e) (pairD f) = true := by simp [PySem.W.alike, PySem.W.alikeAll]
theorem pair_le {e f : Str × Int} (hn : e.1 ≠ f.1) (h : PySem.W.dataLe false pairD e f = true) : e.1.cps.toList < f.1.cps.toList := by
  have h2 : (!PySem.W.dataLt (pairD f) (pairD e)) = true := h
  rw [PySem.W.dataLt_pair (by simp [PySem.W.alike]) (by simp [PySem.W.alike]), PySem.W.dataLt_str] at h2
  have hne : PyData.eqv (.str f.1) (.str e.1) = false := by
    simp only [PyData.eqv]
    simpa using fun z => hn z.symm
  rw [hne] at h2
  simp only [Bool.false_eq_true, if_false, Bool.not_eq_true', decide_eq_false_iff_not] at h2
  have h3 : e.1.cps.toList ≤ f.1.cps.toList := List.not_lt.mp h2
  by_cases hq : e.1.cps.toList < f.1.cps.toList
  · exact hq
  · have h4 : e.1.cps.toList = f.1.cps.toList := List.le_antisymm h3 (List.not_lt.mp hq)
    refine absurd ?_ hn
    have h5 : e.1.cps = f.1.cps := Array.toList_inj.mp h4
    cases h6 : e.1
    cases h7 : f.1
    rw [h6, h7] at h5
    exact congrArg (fun a => (⟨a⟩ : Str)) h5
theorem each_at {α β : Type} {R : Value → β → Prop} (f : α → Value) : ∀ (as : List α) (ks : List β), as.length = ks.length → (∀ (j : Nat) (a : α) (e : β), as[j]? = some a → ks[j]? = some e → R (f a) e) → PySem.W.EachIs R (as.map f) ks
  | [], [], _, _ => .nil
  | [], _ :: _, h, _ => by simp at h
  | _ :: _, [], h, _ => by simp at h
  | a :: as, e :: ks, h, q => .cons (q 0 a e rfl rfl) (each_at f as ks (by simpa using h) fun j b e2 h1 h2 => q (j + 1) b e2 (by simpa using h1) (by simpa using h2))
theorem each_back {β : Type} {S : Addr → β → Prop} : ∀ {out : List Value} {ms : List β}, PySem.W.EachIs (fun v e => ∃ b, v = .ref b ∧ S b e) out ms → ∃ bs : List Addr, out = bs.map Value.ref ∧ bs.length = ms.length ∧ ∀ (j : Nat) (b : Addr) (e : β), bs[j]? = some b → ms[j]? = some e → S b e
  | _, _, .nil => ⟨[], rfl, rfl, fun j b e h => by simp at h⟩
  | _, _, .cons ⟨b0, h0, hS⟩ t => by
    obtain ⟨bs, h1, h2, h3⟩ := each_back t
    refine ⟨b0 :: bs, by rw [h0, h1]; rfl, by simp [h2], fun j b e g1 g2 => ?_⟩
    cases j with
    | zero =>
      cases g1
      cases g2
      exact hS
    | succ j => exact h3 j b e (by simpa using g1) (by simpa using g2)
def rSortKI : List V → Hp → VK → Prop := fun vs H Q => ∃ (p a : Addr) (ks : List (Str × Int)), vs = [.ref p] ∧ H p = some (L2.DX.itemsO p a) ∧ H a = some (.dK (ks.map entK)) ∧ ks.length < 64 ∧
  ∀ (H' : Hp) (l : Addr) (ms : List (Str × Int)) (bs : List Addr), (∀ b o, H b = some o → H' b = some o) → H l = none → ms.Perm ks → ms.Pairwise (fun e f => e.1.cps.toList < f.1.cps.toList) → bs.length = ms.length → H' l = some (.lst (bs.map V.ref)) →
    (∀ (j : Nat) (b : Addr) (e : Str × Int), bs[j]? = some b → ms[j]? = some e → H' b = some (.tup [.str e.1, .int e.2])) → Q (.ref l) H'
theorem cr_sortedKI (hc : X.calm = true) (hu : X.A.units + 64 < cLine) : CallR X (.builtin "sorted") rSortKI := by
  intro pins s σ H xs us Q I r h
  obtain ⟨p, a, ks, rfl, hp, ha, h64, q⟩ := h
  obtain rfl := Vals.ref1 r
  have view : s.heap.IsItemsView p a := (show ObjOk X.prog X.w H s.heap p (L2.DX.itemsO p a) from I.hok p _ hp).1
  obtain ⟨z, hd, vs, rel, dd⟩ := dk_of I.hok ha
  obtain ⟨ep, hat⟩ := dd.dictAt
  obtain ⟨o, es, ho, hx, hdat, hkk, hpr, hnd⟩ := id hat
  have l1 : (ks.map entK).length = vs.length := Paired.length rel
  rw [List.length_map] at l1
  have l2 : es.size = vs.length := by rw [← hpr.length]; simp
  have hh : X.A.handled = none := I.ok.hd hc
  have hdist : (ks.map (·.1)).Nodup := by
    have e : vs.map (·.1) = ks.map fun e => (Sum.inr e.1 : Key) := by
      have e2 := rel.keys
      rw [List.map_map] at e2
      exact e2.symm
    rw [e] at hnd
    rw [List.nodup_iff_pairwise_ne, List.pairwise_map] at hnd ⊢
    exact hnd.imp fun h z => h (by rw [z])
  refine DT.sortedI (es := es) (ep := ep) hh view ⟨o, ho, hx, hdat⟩ (by rw [sizeLine_eq]; omega) fun h' tk as hk hlt hl hG => ?_
  have lak : as.length = ks.length := by omega
  have nd : as.Nodup := List.Pairwise.imp (fun h => Nat.ne_of_lt h) hG.rise
  have pr : ∀ (j : Nat) (b : Addr), as[j]? = some b → ∃ (e : Str × Int) (t u : Tok), ks[j]? = some e ∧ h'.get? b = some { cls := .type "tuple", data := .seq #[Value.str e.1 t, Value.int e.2 u] } := by
    intro j b hj
    obtain ⟨en, he, hg⟩ := hG.pairs j b hj
    have hj2 : j < vs.length := by
      have := (Array.getElem?_eq_some_iff.mp he).1
      omega
    have hv : vs[j]? = some vs[j] := List.getElem?_eq_getElem hj2
    obtain ⟨hkey, hval⟩ := hpr.get? (e := en) (by rw [← he]; simp) hv
    obtain ⟨e0, he0, r1, r2⟩ := L2.DX.pget rel hv
    rw [List.getElem?_map, Option.map_eq_some_iff] at he0
    obtain ⟨e, hke, rfl⟩ := he0
    have hkey2 : (mixKind X.prog X.w).is (Sum.inr e.1) en.key = true := by
      have r1' : (Sum.inr e.1 : Key) = (vs.get ⟨j, hj2⟩).1 := r1
      rw [r1']
      exact hkey
    have hval2 : L2.RelV (V.int e.2) en.val := by
      rw [hval]
      exact r2
    obtain ⟨u, hu2⟩ := hval2
    rcases keyIs_shape (show keyIs (Sum.inr e.1) en.key = true from hkey2) with ⟨i, t, ek, ev⟩ | ⟨z2, t, ek, ev⟩
    · cases ek
    · cases ek
      refine ⟨e, t, u, hke, ?_⟩
      rw [hg, ev, hu2]
  have hob : (h'.push { cls := .type "list", data := .seq (as.map Value.ref).toArray }).get? h'.objs.size = some (seqObj "list" (as.map Value.ref).toArray 0) := Heap.get?_push_size _ rfl
  have kb : ∀ b o, s.heap.get? b = some o → (h'.push { cls := .type "list", data := .seq (as.map Value.ref).toArray }).get? b = some o := fun b o e => Heap.get?_push_of_some _ (hk b o e)
  have ne0 : ∀ b o, h'.get? b = some o → b ≠ h'.objs.size := fun b o e => Nat.ne_of_lt (Heap.lt_size e)
  generalize hh2 : h'.push { cls := .type "list", data := .seq (as.map Value.ref).toArray } = h2 at hob kb ⊢
  have ka : ∀ b o, h'.get? b = some o → h2.get? b = some o := fun b o e => by rw [← hh2]; exact Heap.get?_push_of_some _ e
  have eR : PySem.W.EachIs (fun v e => ∃ b, v = .ref b ∧ ∃ j, as[j]? = some b ∧ ks[j]? = some e) (as.map Value.ref) ks := each_at Value.ref as ks lak fun j b e h1 h2 => ⟨b, rfl, j, h1, h2⟩
  have er : PySem.W.EachIs (fun v e => ∃ as', Reads h2 v (pairD e) as' ∧ h'.objs.size ∉ as') (as.map Value.ref) ks := each_at Value.ref as ks lak fun j b e g1 g2 => by
    obtain ⟨e', t, u, he, hg⟩ := pr j b g1
    rw [g2] at he
    cases he
    exact ⟨[], Reads.tuple (ka _ _ hg) rfl rfl (.cons (.str _ _) (.cons (.int _ _) .nil)), by simp⟩
  have hdep : ∀ e : Str × Int, (pairD e).depth ≤ 3 := fun e => by simp [PyData.depth, PyData.depthAll]
  refine PySem.W.list_sort_data (s := { s with heap := h2, toks := tk }) (enc := pairD) (bs := ks) hob eR er (PySem.W.AllAlike.of pair_alike) (PySem.W.Sortable.tuples fun e => ⟨_, _, rfl⟩) (by rw [sizeLine_eq]; omega) (fun e _ => ?_) fun out ho2 eo => ?_
  · have := hdep e
    show X.A.units + 1 + 1 + _ < cLine
    omega
  · show EP X pins σ Q (.ref h'.objs.size) { s with heap := sortedHeap h2 h'.objs.size (as.map Value.ref) out.toArray, toks := tk }
    obtain ⟨bs, rfl, hbl, hbs⟩ := each_back eo
    have hperm : (ks.mergeSort (PySem.W.dataLe false pairD)).Perm ks := List.mergeSort_perm _ _
    have hsort : (ks.mergeSort (PySem.W.dataLe false pairD)).Pairwise (fun e f => e.1.cps.toList < f.1.cps.toList) := by
      have h1 := PySem.W.sort_pairwise (le := PySem.W.dataLe false pairD) (PySem.W.sortLe_total _ _ _) ks
      have h2 : (ks.mergeSort (PySem.W.dataLe false pairD)).Pairwise (fun e f => e.1 ≠ f.1) := by
        have h3 : ((ks.mergeSort (PySem.W.dataLe false pairD)).map (·.1)).Nodup := (hperm.map (·.1)).nodup_iff.mpr hdist
        rw [List.nodup_iff_pairwise_ne, List.pairwise_map] at h3
        exact h3
      exact (h1.and h2).imp fun ⟨g1, g2⟩ => pair_le g2 g1
    have kF : ∀ b o, b ≠ h'.objs.size → h2.get? b = some o → (sortedHeap h2 h'.objs.size (as.map Value.ref) (bs.map Value.ref).toArray).get? b = some o := fun b o hb e => (PyProof.Rows.sortedHeap_old hb (Heap.lt_size e)).trans e
    have kS : ∀ b o, s.heap.get? b = some o → (sortedHeap h2 h'.objs.size (as.map Value.ref) (bs.map Value.ref).toArray).get? b = some o := fun b o e => kF b o (ne0 _ _ (hk b o e)) (kb b o e)
    obtain ⟨eF, heF⟩ := PyProof.Rows.sortedHeap_at (vs := as.map Value.ref) (out := (bs.map Value.ref).toArray) hob
    have I1 : Inv X pins σ H { s with heap := sortedHeap h2 h'.objs.size (as.map Value.ref) (bs.map Value.ref).toArray, toks := tk } := I.kept (t' := tk) kS
    have hn0 : H h'.objs.size = none := I.hok.fresh (Nat.le_of_lt hlt)
    have hbk : bs.length = ks.length := hbl.trans hperm.length_eq
    have hlen : (bs.map V.ref).length ≤ sizeLine := by
      rw [List.length_map, sizeLine_eq]
      omega
    have rv : Vals (bs.map V.ref) (bs.map Value.ref) := vals_maps (fun b : Addr => V.ref b) Value.ref bs fun _ _ => rfl
    have I2 : Inv X pins σ (upd H h'.objs.size (.lst (bs.map V.ref))) { s with heap := sortedHeap h2 h'.objs.size (as.map Value.ref) (bs.map Value.ref).toArray, toks := tk } :=
      I1.take (h' := sortedHeap h2 h'.objs.size (as.map Value.ref) (bs.map Value.ref).toArray) (t' := tk) (fun b ob _ e => e) (I.fpOk (Nat.le_of_lt hlt) hn0) ⟨hlen, bs.map Value.ref, eF, rv, by simpa using heF⟩
    obtain ⟨H2, I3, g, qt⟩ := L2.DX.takeT (P := fun b vs => ∃ (j : Nat) (e : Str × Int), as[j]? = some b ∧ ks[j]? = some e ∧ vs = [.str e.1, .int e.2]) I as _ I2 nd fun b hb => by
      obtain ⟨j, hj⟩ := List.mem_iff_getElem?.mp hb
      obtain ⟨e, t, u, he, hg⟩ := pr j b hj
      have hbl2 : s.heap.objs.size ≤ b := Nat.le_of_lt (hG.above b hb)
      refine ⟨hbl2, ?_, [.str e.1, .int e.2], ⟨j, e, hj, he, rfl⟩, fun H3 => ⟨(by rw [sizeLine_eq]; show 2 ≤ 16777216; omega), [Value.str e.1 t, Value.int e.2 u], .cons ⟨t, rfl⟩ (.cons ⟨u, rfl⟩ .nil), ⟨_, kF _ _ (ne0 _ _ hg) (ka _ _ hg), rfl, 0, rfl⟩⟩⟩
      rw [upd_ne (ne0 _ _ hg)]
      exact I.hok.fresh hbl2
    refine ⟨.ref h'.objs.size, H2, I3, rfl, q H2 h'.objs.size _ bs (fun b o e => g b o (by rw [upd_ne (ne_of_none e hn0)]; exact e)) hn0 hperm hsort hbl (g _ _ upd_same) fun j b e h1 h2 => ?_⟩
    obtain ⟨i, i1, i2⟩ := hbs j b e h1 h2
    obtain ⟨vs2, ⟨i', e', j1, j2, rfl⟩, hH⟩ := qt b (List.mem_of_getElem? i1)
    have eij : i = i' := (List.getElem?_inj (List.getElem?_eq_some_iff.mp i1).1 nd).mp (i1.trans j1.symm)
    subst eij
    rw [i2] at j2
    cases j2
    exact hH
/-! ### set(t), t a tuple of ints -/
theorem ints_are : ∀ {is : List Int} {us : List Value}, Vals (is.map V.int) us → IntsAre us is
  | [], _, .nil => .nil
  | i :: is, _, .cons r t => by
    obtain ⟨u, rfl⟩ := r
    exact .cons i u (ints_are t)
def rSetT (K : PySem.W.Frag) (w : World) : List V → Hp → VK → Prop := fun vs H Q => ∃ (p : Addr) (is : List Int), vs = [.ref p] ∧ SqT K H p (is.map V.int) ∧ is.length < 64 ∧
  ∀ (a : Addr) (c : Nat), H a = none → c ≤ is.length → Q (.ref a) (upd H a (SetO w a (fun j => decide (j ∈ is)) c))
theorem cr_setT (hc : X.calm = true) : CallR X (.type "set") (rSetT X.K X.w) := by
  intro pins s σ H xs us Q I r h
  obtain ⟨p, is, rfl, hp, h64, q⟩ := h
  obtain rfl := Vals.ref1 r
  obtain ⟨its, rv, ⟨o, ho, hc2, n, hd⟩, hz⟩ := I.tuple hp
  refine call_set_tupI is (I.ok.hd hc) ⟨o, ho, hc2, n, hd⟩ (by simpa using ints_are rv) (by unfold scanBound; omega) fun h' tk c R hcl k => ?_
  exact ⟨.ref s.heap.objs.size, upd H s.heap.objs.size (SetO X.w s.heap.objs.size (fun j => decide (j ∈ is)) c), I.laid (t' := tk) k (Nat.le_refl _) (setO_new R), rfl, q _ c (I.hok.fresh (Nat.le_refl _)) hcl⟩
end
end Fw
set_option Elab.async false
set_option linter.all false
set_option maxRecDepth 100000
set_option maxHeartbeats 4000000
namespace Fw
open PySem PySem.Spec PyProof.Rows L2 PySem.Calls
/-! ### dicts whose keys are nested tuples -/
mutual
inductive NkV (K : PySem.W.Frag) (H : Hp) : V → NestedKey → Prop
  | non : NkV K H .non .none
  | int (i : Int) : NkV K H (.int i) (.num i)
  | str (x : Str) : NkV K H (.str x) (.text x)
  | tup {a : Addr} {xs : List V} {ks : List NestedKey} : SqT K H a xs → NkAll K H xs ks → NkV K H (.ref a) (.tup ks)
inductive NkAll (K : PySem.W.Frag) (H : Hp) : List V → List NestedKey → Prop
  | nil : NkAll K H [] []
  | cons {v : V} {vs : List V} {k : NestedKey} {ks : List NestedKey} : NkV K H v k → NkAll K H vs ks → NkAll K H (v :: vs) (k :: ks)
end
section
variable {X : Cx} {pins : List (Addr × Obj)} {σ : L2.St} {H : Hp} {s : Shared}
mutual
theorem NkV.is (I : Inv X pins σ H s) : ∀ (k : NestedKey) (v : V) (u : Value), NkV X.K H v k → RelV v u → NestedIs s.heap k u
  | .none, _, _, h, r => by
    cases h
    cases r
    exact .none
  | .num i, _, _, h, r => by
    cases h
    obtain ⟨t, rfl⟩ := r
    exact .int i t
  | .text x, _, _, h, r => by
    cases h
    obtain ⟨t, rfl⟩ := r
    exact .text x t
  | .tup ks, _, _, h, r => by
    cases h with
    | tup hs ha =>
      cases r
      obtain ⟨its, rv, ⟨o, ho, hc, n, hd⟩, _⟩ := I.tuple hs
      exact .tup ho hc hd (by simpa using NkV.isAll I ks _ its ha rv)
theorem NkV.isAll (I : Inv X pins σ H s) : ∀ (ks : List NestedKey) (vs : List V) (us : List Value), NkAll X.K H vs ks → Vals vs us → NestedAll s.heap ks us
  | [], _, _, h, r => by
    cases h
    cases r
    exact .nil
  | k :: ks, _, _, h, r => by
    cases h with
    | cons h1 h2 =>
      cases r with
      | cons r1 r2 => exact .cons (NkV.is I k _ _ h1 r1) (NkV.isAll I ks _ _ h2 r2)
end
end
section
variable {K : PySem.W.Frag} {H H' : Hp} {M : List Addr}
mutual
theorem NkV.kp (kk : Kp M H H') : ∀ (k : NestedKey) (v : V), NkV K H v k → NkV K H' v k
  | .none, _, h => by
    cases h
    exact .non
  | .num i, _, h => by
    cases h
    exact .int i
  | .text x, _, h => by
    cases h
    exact .str x
  | .tup ks, _, h => by
    cases h with
    | tup hs ha => exact .tup (kk.tup hs) (NkV.kpAll kk ks _ ha)
theorem NkV.kpAll (kk : Kp M H H') : ∀ (ks : List NestedKey) (vs : List V), NkAll K H vs ks → NkAll K H' vs ks
  | [], _, h => by
    cases h
    exact .nil
  | k :: ks, _, h => by
    cases h with
    | cons h1 h2 => exact .cons (NkV.kp kk k _ h1) (NkV.kpAll kk ks _ h2)
end
end
abbrev NEnt : Type := NestedKey × Addr × V
abbrev NRel : NEnt → NestedKey × Addr × Value → Prop := fun x y => x.1 = y.1 ∧ x.2.1 = y.2.1 ∧ RelV x.2.2 y.2.2
/-- at d: a dict, its keys at the addresses told -/
def NDO (P : Program) (w : World) (d : Addr) (xs : List NEnt) : HO := .ext fun h => (d == sysModules) = false ∧ xs.length ≤ sizeLine ∧ ∃ ys : List (NestedKey × Addr × Value), Paired NRel xs ys ∧ (ys.map (·.1)).Nodup ∧
  ∃ o es ep, h.get? d = some o ∧ o.ExactDict ∧ o.data = .dict es ep ∧ es.toList = ys.map (entryOfKey (nestedKind P w))
structure NDk (P : Program) (w : World) (K : PySem.W.Frag) (H : Hp) (d : Addr) (xs : List NEnt) : Prop where
  at_ : H d = some (NDO P w d xs)
  ks : ∀ x ∈ xs, NkV K H (.ref x.2.1) x.1 ∧ x.1.depth ≤ 8
def valN (xs : List NEnt) (k : NestedKey) : Option V := (xs.find? fun x => decide (x.1 = k)).map (·.2.2)
theorem NDk.kp {P : Program} {w : World} {K : PySem.W.Frag} {M : List Addr} {H H' : Hp} {d : Addr} {xs : List NEnt} (h : NDk P w K H d xs) (k : Kp M H H') (hd : d ∉ M) : NDk P w K H' d xs :=
  ⟨k.at h.at_ hd, fun x hx => ⟨(h.ks x hx).1.kp k _ _, (h.ks x hx).2⟩⟩
theorem ndo_ne_tup {P : Program} {w : World} {d : Addr} {xs : List NEnt} {ys : List V} : NDO P w d xs ≠ .tup ys := fun z => by
  have z' : HO.ext _ = HO.tup ys := z
  cases z'
theorem ndo_ne_lst {P : Program} {w : World} {d : Addr} {xs : List NEnt} {ys : List V} : NDO P w d xs ≠ .lst ys := fun z => by
  have z' : HO.ext _ = HO.lst ys := z
  cases z'
theorem ndo_ne_ins {P : Program} {w : World} {d : Addr} {xs : List NEnt} {C dx : Addr} {fs : List (Str × V)} : NDO P w d xs ≠ .ins C dx fs := fun z => by
  have z' : HO.ext _ = HO.ins C dx fs := z
  cases z'
theorem ndo_ne_dk {P : Program} {w : World} {d : Addr} {xs : List NEnt} {ys : List (Key × V)} : NDO P w d xs ≠ .dK ys := fun z => by
  have z' : HO.ext _ = HO.dK ys := z
  cases z'
/-- a heap with one kind of object -/
theorem heap_all (d : Addr) (vs : Array Value) : ∃ h : Heap, h.get? d = some { cls := .none, data := .fields vs } := by
  refine ⟨{ objs := Array.replicate (d + 1) { cls := .none, data := .fields vs } }, ?_⟩
  simp [Heap.get?]
theorem ndo_ne_code {P : Program} {w : World} {d : Addr} {xs : List NEnt} {q : Str} : NDO P w d xs ≠ LamX.CodeO d q := fun z => by
  have z' : HO.ext _ = HO.ext _ := z
  injection z' with z2
  obtain ⟨h, hh⟩ := heap_all d #[.none, .str q 0]
  have c := congrFun z2 h
  obtain ⟨_, _, ys, _, _, o, es, ep, h5, _, h7, _⟩ := (iff_of_eq c).mpr ⟨_, _, 0, hh, rfl, rfl⟩
  rw [hh] at h5
  cases h5
  cases h7
theorem ndo_mu {P : Program} {w : World} {d : Addr} {xs : List NEnt} : Mu d (NDO P w d xs) := by
  refine ⟨fun ys e => ndo_ne_tup e, fun o v e => ?_, fun ps e => ?_, fun q e => ndo_ne_code e⟩
  · have e' : HO.ext _ = HO.frz o v := e
    cases e'
  · have e' : HO.ext _ = HO.tbl ps := e
    cases e'
section
variable {X : Cx} {pins : List (Addr × Obj)} {σ : L2.St} {H : Hp} {s : Shared}
theorem nrel_val {k : NestedKey} : ∀ {xs : List NEnt} {ys : List (NestedKey × Addr × Value)}, Paired NRel xs ys → RelO (valN xs k) ((atKey ys k).map (·.2))
  | _, _, .nil => True.intro
  | x :: xs, y :: ys, .cons ⟨h1, h2, h3⟩ t => by
    by_cases e : x.1 = k
    · have e' : y.1 = k := h1.symm.trans e
      have a : valN (x :: xs) k = some x.2.2 := by simp [valN, List.find?_cons, e]
      have b : atKey (y :: ys) k = some y.2 := by simp [atKey, List.find?_cons, e']
      rw [a, b]
      exact h3
    · have e' : ¬ y.1 = k := fun z => e (h1.trans z)
      have a : valN (x :: xs) k = valN xs k := by simp [valN, List.find?_cons, e]
      have b : atKey (y :: ys) k = atKey ys k := by simp [atKey, List.find?_cons, e']
      rw [a, b]
      exact nrel_val t
theorem NDk.open (I : Inv X pins σ H s) {d : Addr} {xs : List NEnt} (h : NDk X.prog X.w X.K H d xs) : (d == sysModules) = false ∧ xs.length ≤ sizeLine ∧ ∃ ys, Paired NRel xs ys ∧ s.heap.DictOfH (nestedKind X.prog X.w) d ys := by
  have x : ObjOk X.prog X.w H s.heap d (NDO X.prog X.w d xs) := I.hok d _ h.at_
  obtain ⟨⟨h1, h2, ys, h3, h4, o, es, ep, h5, h6, h7, h8⟩, _, _⟩ := x
  refine ⟨h1, h2, ys, h3, o, es, ep, h5, h6, h7, h8, fun y hy => ?_, h4⟩
  obtain ⟨i, hi⟩ := List.mem_iff_getElem?.mp hy
  have hl := Paired.length h3
  have hlt : i < xs.length := by
    rw [hl]
    exact (List.getElem?_eq_some_iff.mp hi).1
  obtain ⟨e0, he0, r1, r2, _⟩ := L2.DX.pget h3 hi
  obtain ⟨g1, g2⟩ := h.ks e0 (List.mem_of_getElem? he0)
  have r1' : e0.1 = y.1 := r1
  have r2' : e0.2.1 = y.2.1 := r2
  rw [r1', r2'] at g1
  rw [r1'] at g2
  exact ⟨NkV.is I _ _ _ g1 rfl, g2⟩
theorem ndo_ok {P : Program} {w : World} {h : Heap} {d : Addr} {xs : List NEnt} {ys : List (NestedKey × Addr × Value)} (hd : (d == sysModules) = false) (hz : xs.length ≤ sizeLine) (r : Paired NRel xs ys) (D : h.DictOfH (nestedKind P w) d ys) : ObjOk P w H h d (NDO P w d xs) := by
  obtain ⟨o, es, ep, h5, h6, h7, h8, _, h4⟩ := D
  refine ⟨⟨hd, hz, ys, r, h4, o, es, ep, h5, h6, h7, h8⟩, ⟨o, h5⟩, fun h1 h2 z k => ?_⟩
  obtain ⟨a1, a2, ys, a3, a4, o, es, ep, a5, a6⟩ := z
  exact ⟨a1, a2, ys, a3, a4, o, es, ep, k _ a5, a6⟩
end
section
variable {X : Cx}
/-- {} as such a dict -/
def tDNewN (P : Program) (w : World) : TE := fun _ H Q => ∀ d, H d = none → Q (.ref d) (upd H d (NDO P w d []))
theorem pe_dnewN {pos : Pos} : PE X (.Dict [] [] pos) (tDNewN X.prog X.w) := ⟨fun pins s σ H Q I h =>
  wpAny_Dict_empty ⟨.ref s.heap.objs.size, _, I.laid (a := s.heap.objs.size) (o := NDO X.prog X.w s.heap.objs.size []) (t' := s.toks) (fun _ _ q => Heap.get?_push_of_some _ q) (Nat.le_refl _)
    (ndo_ok (dk_empty (P := X.prog) (w := X.w) (H := H) s.heap I.big).2.1 (Nat.zero_le _) .nil (Heap.DictOfH.new s.heap)), rfl, h _ (I.hok.fresh (Nat.le_refl _))⟩⟩
/-- k in d -/
def rInN (P : Program) (w : World) (K : PySem.W.Frag) : R2 := fun x y H Q => ∃ (b d : Addr) (k : NestedKey) (xs : List NEnt), x = .ref b ∧ y = .ref d ∧ NkV K H (.ref b) k ∧ k.depth ≤ 8 ∧ NDk P w K H d xs ∧ Q (.bl (valN xs k).isSome) H
theorem op_in_nd (hu : X.A.units + 64 < cLine) : OpR X (compareOp .In) (rInN X.prog X.w X.K) := by
  intro pins s σ H x y v u Q I rx ry h
  obtain ⟨b, d, k, xs, rfl, rfl, hk, h8, hD, q⟩ := h
  cases rx
  cases ry
  obtain ⟨hd, _, ys, r, D⟩ := hD.open I
  refine wpAny_in_heap (knd := nestedKind X.prog X.w) (by show X.A.units + 1 + 8 < cLine; omega) ⟨NkV.is I _ _ _ hk rfl, h8⟩ hd D ?_
  have e := (nrel_val (k := k) r).isSome_eq
  rw [Option.isSome_map] at e
  exact ⟨.bl (valN xs k).isSome, H, I.tok _, by rw [e]; rfl, q⟩
/-- d[k] -/
def rIxN (P : Program) (w : World) (K : PySem.W.Frag) : R2 := fun x y H Q => ∃ (b d : Addr) (k : NestedKey) (xs : List NEnt) (v : V), x = .ref d ∧ y = .ref b ∧ NkV K H (.ref b) k ∧ k.depth ≤ 8 ∧ NDk P w K H d xs ∧ valN xs k = some v ∧ Q v H
theorem ix_nd (hu : X.A.units + 64 < cLine) : IxR X (rIxN X.prog X.w X.K) := by
  intro value slice pins s σ H x y v u Q I rx ry h hs
  obtain ⟨b, d, k, xs, z, rfl, rfl, hk, h8, hD, hv, q⟩ := h
  cases rx
  cases ry
  obtain ⟨hd, _, ys, r, D⟩ := hD.open I
  have e := nrel_val (k := k) r
  rw [hv] at e
  cases ha : atKey ys k with
  | none =>
    rw [ha] at e
    exact e.elim
  | some p =>
    rw [ha] at e
    exact tail_any D.typeIs PySem.F.slot_dict_getitem.lookup (wpAny_getItem_heap (knd := nestedKind X.prog X.w) (by show X.A.units + 1 + 8 < cLine; omega) ⟨NkV.is I _ _ _ hk rfl, h8⟩ D ha ⟨z, H, I.tok _, e, q⟩) hs
/-- d[k] = v, a new key -/
def rSetN (P : Program) (w : World) (K : PySem.W.Frag) : TSet := fun o i v H Q => ∃ (b d : Addr) (k : NestedKey) (xs : List NEnt), o = .ref d ∧ i = .ref b ∧ NkV K H (.ref b) k ∧ k.depth ≤ 8 ∧ NDk P w K H d xs ∧ valN xs k = none ∧ xs.length < sizeLine ∧ Q (upd H d (NDO P w d (xs ++ [(k, b, v)])))
theorem set_nd (hu : X.A.units + 64 < cLine) : PSet X (rSetN X.prog X.w X.K) := by
  intro pins s σ H o i v ov iv u Q I ro ri rv h
  obtain ⟨b, d, k, xs, rfl, rfl, hk, h8, hD, hv, hz, q⟩ := h
  cases ro
  cases ri
  obtain ⟨hd, _, ys, r, D⟩ := hD.open I
  have e := nrel_val (k := k) r
  have hl := Paired.length r
  rw [hv] at e
  have ha : atKey ys k = none := by
    cases ha : atKey ys k with
    | none => rfl
    | some p =>
      rw [ha] at e
      exact e.elim
  refine wpAny_setItem_heap (hsz := by rw [← hl]; omega) (knd := nestedKind X.prog X.w) (by show X.A.units + 1 + 8 < cLine; omega) ⟨NkV.is I _ _ _ hk rfl, h8⟩ D fun h' D' hs => ?_
  rw [storedH_new ha] at D'
  have he : ∃ q, h'.get? d = some q := let ⟨q, _, _, hq, _⟩ := D'; ⟨q, hq⟩
  exact ⟨_, d_write I (by rw [hD.at_]; exact True.intro) hs he (ndo_ok hd (by rw [List.length_append, List.length_singleton]; omega) (Paired.snoc r ⟨rfl, rfl, rv⟩) D'), q⟩
end
end Fw
set_option Elab.async false
set_option linter.all false
set_option maxRecDepth 100000
set_option maxHeartbeats 4000000
namespace Fw
open PySem PySem.Spec PyProof.Rows L2 PySem.Calls
/-! ### methods of an own class -/
structure Dfm (P : Program) (w : World) (K : PySem.W.Frag) (mg : Str → Option Value) (base : Heap) (k : Nat) (C : Addr) (m : Str) (ps : List Str) (sp : Sp) : Prop where
  ex : ∃ (f : Addr) (fd : FuncData), FnOk P w K mg base (L2.CX P w) k f fd ps sp ∧ Cls K C ∧ Meth K C m f ∧ Binds K fd ps []
/-- a method of the text as the head's facts tell it -/
structure AtM (K : PySem.W.Frag) (C : Addr) (m q : Str) (st : Stmt) (ps : List Str) : Prop where
  ex : ∃ (f : Addr) (fd : FuncData), FunD K m q (defArgs st) (defBody st) (defScope st) [] [] f fd ∧ Cls K C ∧ Meth K C m f ∧ Binds K fd ps []
theorem AtM.ok {P : Program} {w : World} {K : PySem.W.Frag} {mg : Str → Option Value} {base : Heap} {C : Addr} {m q : Str} {st : Stmt} {N ps : List Str} {k : Nat} {sp : Sp} (F : AtM K C m q st ps) (S : FnScope N ps (defScope st)) (len : ∀ vs H Q E, sp vs H Q E → vs.length = ps.length)
    (hbody : ∀ (qual : Str) (f : Addr) (cdv : Value) (A : Around) (outer : List Env) (s : Shared) (H : Hp) (vs : List V) (Q : VK) (E : XK), Room k (A.deeper (envOfC qual (defScope st) s.heap.objs.size f cdv)) → sp vs H Q E →
      ∃ t, PSs (cxOf (L2.CX P w) P w K mg base N qual (defScope st) f cdv A outer s H E) (defBody st) t ∧ t { nx := fun _ H' => Q .non H', rt := Q } (start N vs) H) : Dfm P w K mg base (k + 1) C m ps sp := by
  obtain ⟨f, fd, FD, hc, hm, hb⟩ := F.ex
  exact ⟨f, fd, FD.ok S len fun cdv A outer s H vs Q E hr hsp => hbody q f cdv A outer s H vs Q E hr hsp, hc, hm, hb⟩
theorem Dfm.mono {P : Program} {w : World} {K : PySem.W.Frag} {mg : Str → Option Value} {base : Heap} {k j : Nat} {C : Addr} {x : Str} {ps : List Str} {sp : Sp} (G : Dfm P w K mg base k C x ps sp) (h : k ≤ j) : Dfm P w K mg base j C x ps sp := by
  obtain ⟨f, fd, F, r⟩ := G.ex
  exact ⟨f, fd, F.mono h, r⟩
theorem Dfm.imp {P : Program} {w : World} {K : PySem.W.Frag} {mg : Str → Option Value} {base : Heap} {k : Nat} {C : Addr} {x : Str} {ps : List Str} {sp sp' : Sp} (G : Dfm P w K mg base k C x ps sp) (h : ∀ vs H Q E, sp' vs H Q E → sp vs H Q E) : Dfm P w K mg base k C x ps sp' := by
  obtain ⟨f, fd, F, r⟩ := G.ex
  exact ⟨f, fd, F.imp h, r⟩
section
variable {X : Cx} {k j : Nat} {C : Addr} {m : Str} {ps : List Str} {sp : Sp} {E : XK} {apos pos : Pos} {e o : Expr} {es : List Expr} {ta : TE} {t : TA} {pl : Sem Bool}
theorem pe_m (G : Dfm X.prog X.w X.K X.mg X.base k C m ps sp) (hr : Room j X.A) (hx : Passes (L2.CX X.prog X.w) X E) (he : PE X o ta) (ha : PA X (e :: es) t) (hk : k ≤ j := by decide)
    (hst : starEach (e :: es) X.env = (false, eval e X.env) :: starEach es X.env := by rfl) (hpl : (backTo pos (starEach es X.env)).any (·.1) = false := by rfl)
    (ht : eval (.Call (.Attribute o m apos) (e :: es) [] pos) X.env = (do
      let ov ← eval o X.env
      standAt apos.atName
      let (f, first) ← holding [ov] (getMethod ov m pl)
      callWith pos f first (backTo pos (starEach (e :: es) X.env)) (backToKw pos (keywordEach [] X.env))) := by rfl) : PE X (.Call (.Attribute o m apos) (e :: es) [] pos) (tMeth C m sp [] E ta t) := by
  obtain ⟨f, fd, F, hc, hm, hb⟩ := G.ex
  exact pe_meth he hc hm F (hr.mono hk) hb .nil hx ha hst hpl ht
theorem pe_m0 (G : Dfm X.prog X.w X.K X.mg X.base k C m ps sp) (hr : Room j X.A) (hx : Passes (L2.CX X.prog X.w) X E) (he : PE X o ta) (hk : k ≤ j := by decide)
    (ht : eval (.Call (.Attribute o m apos) [] [] pos) X.env = (do
      let ov ← eval o X.env
      standAt apos.atName
      let (f, first) ← holding [ov] (getMethod ov m pl)
      callWith pos f first (backTo pos (starEach [] X.env)) (backToKw pos (keywordEach [] X.env))) := by rfl) : PE X (.Call (.Attribute o m apos) [] [] pos) (tMeth C m sp [] E ta tNil) := by
  obtain ⟨f, fd, F, hc, hm, hb⟩ := G.ex
  exact pe_meth0 he hc hm F (hr.mono hk) hb .nil hx ht
/-- within a try's body -/
def tMethT (C : Addr) (m : Str) (sp : Sp) (E : L2.St → XK) (ta : TE) (t : TA) : TE := fun σ H Q => ta σ H fun x H1 => ∃ a dx fs, x = .ref a ∧ H1 a = some (.ins C dx fs) ∧ fs.lookup m = none ∧ t σ H1 fun vs H2 => sp (x :: vs) H2 Q (E σ)
theorem pe_mT {W : WX} (G : Dfm X.prog X.w X.K X.mg X.base k C m ps sp) (hr : Room j X.A) (tk : Takes X W) (he : PE X o ta) (ha : PA X (e :: es) t) (hk : k ≤ j := by decide)
    (hst : starEach (e :: es) X.env = (false, eval e X.env) :: starEach es X.env := by rfl) (hpl : (backTo pos (starEach es X.env)).any (·.1) = false := by rfl)
    (ht : eval (.Call (.Attribute o m apos) (e :: es) [] pos) X.env = (do
      let ov ← eval o X.env
      standAt apos.atName
      let (f, first) ← holding [ov] (getMethod ov m pl)
      callWith pos f first (backTo pos (starEach (e :: es) X.env)) (backToKw pos (keywordEach [] X.env))) := by rfl) : PE X (.Call (.Attribute o m apos) (e :: es) [] pos) (tMethT C m sp (WE W) ta t) := by
  obtain ⟨f, fd, F, hc, hm, hb⟩ := G.ex
  refine ⟨fun pins s σ H Q I h => ?_⟩
  refine PySem.W.methodCall_KW (pl := pl) (thn (he.run pins s σ H _ I h) fun u s1 ⟨x, H1, I1, rx, a, dx, fs, ex, ea, l, q⟩ => ?_) ht
  subst ex
  obtain rfl : u = Value.ref a := rx
  refine getmeth_ok I1 ea hc hm l ?_
  refine PySem.W.callWith_K (first := [.ref a]) (h₀ := X.base) I.ok.mod.kin hm.kp (thn (ha.run pos pins s1 σ H1 _ I1 q) fun us s2 ⟨vs, H2, I2, r, q2⟩ => ⟨I2.kIn, ?_⟩) hst hpl
  exact run_fnS (us := .ref a :: us) (vs := .ref a :: vs) F (hr.mono hk) hb (passAt tk σ) I2 (.cons rfl r) q2
end
/-- a local name that holds one of several defs, within a try's body -/
def tCallVT (i : Nat) (S : Addr → Sp → Prop) (E : L2.St → XK) (t : TA) : TE := fun σ H Q => ∃ f sp, σ[i]? = some (some (.ref f)) ∧ S f sp ∧ t σ H fun vs H1 => sp vs H1 Q (E σ)
/-! ### a class of the text, made -/
structure Dfc (P : Program) (w : World) (K : PySem.W.Frag) (mg : Str → Option Value) (base : Heap) (k : Nat) (x : Str) (C : Addr) (ps : List Str) (sp : Sp) : Prop where
  ex : ∃ (f : Addr) (fd : FuncData), FnOk P w K mg base (L2.CX P w) k f fd ps sp ∧ Mk K C f ∧ mg x = some (.ref C) ∧ Binds K fd ps []
theorem Dfm.made {P : Program} {w : World} {K : PySem.W.Frag} {mg : Str → Option Value} {base : Heap} {k : Nat} {C : Addr} {x : Str} {ps : List Str} {sp : Sp} {f : Addr} (G : Dfm P w K mg base k C "__init__" ps sp) (M : Mk K C f) (hm : mg x = some (.ref C)) : Dfc P w K mg base k x C ps sp := by
  obtain ⟨f', fd, F, hc, hmm, hb⟩ := G.ex
  have e : f' = f := by
    have h1 := hmm.at_
    have h2 := M.init
    rw [h1] at h2
    cases h2
    rfl
  subst e
  exact ⟨f', fd, F, M, hm, hb⟩
theorem pe_mk {X : Cx} {k j : Nat} {x : Str} {C : Addr} {ps : List Str} {sp : Sp} {p pos : Pos} {e : Expr} {es : List Expr} {t : TA} (G : Dfc X.prog X.w X.K X.mg X.base k x C ps sp) (hr : Room j X.A) (ha : PA X (e :: es) t) (hk : k + 1 ≤ j := by decide) (hg : Gl X x := by rfl)
    (hdb : (x == ("__debug__" : Str)) = false := by decide) (he : starEach (e :: es) X.env = (false, eval e X.env) :: starEach es X.env := by rfl) (hpl : (backTo pos (starEach es X.env)).any (·.1) = false := by rfl) :
    PE X (.Call (.Name x p) (e :: es) [] pos) (tMake C sp [] E0 t) := by
  obtain ⟨f, fd, F, M, hm, hb⟩ := G.ex
  exact pe_make M F (hr.mono hk) hg hm hb .nil passL ha hdb he hpl
abbrev spM {P : Program} {w : World} {K : PySem.W.Frag} {mg : Str → Option Value} {base : Heap} {k : Nat} {C : Addr} {m : Str} {ps : List Str} {sp : Sp} (_ : Dfm P w K mg base k C m ps sp) : Sp := sp
end Fw
set_option Elab.async false
set_option linter.all false
set_option maxRecDepth 100000
set_option maxHeartbeats 4000000
namespace Fw
open PySem PySem.Spec PyProof.Rows L2 PySem.Calls
/-! ### len(o) by an own __len__ -/
section
variable {prog : Program} {w : World} {A : Around} {E : Value → Shared → Prop} {s : Shared} {K : PySem.W.Frag} {x y C f : Addr} {ox oy : Obj} {od od' : Option Obj}
theorem len_K {Q : Value → Shared → Prop} (KI : K.In s.heap) (I : PySem.W.InstAt s.heap x ox C od) (hs : PySem.W.findIn K (.ref C) "__len__" = some (some (.ref f))) (hf : PySem.W.isFn K (.ref f) = true)
    (hc : wpAny (model prog w) A.in1 (call (.ref f) [.ref x]) (fun r s1 => ∃ n t, r = .int n t ∧ 0 ≤ n ∧ n < 2 ^ 63 ∧ Q (.int n s1.toks) { s1 with toks := s1.toks + 1 }) E s) : wpAny (model prog w) A (call (.builtin "len") [.ref x]) Q E s := by
  refine Calls.call_function_entry kind_len plain_len entry_len (args_len1 _) ?_
  unfold Builtin.«len»
  refine wpAny_bind (m := oneArg "len" _) (wpAny_pure (wpAny_bind (m := callSpecial? (.ref x) (Str.ofString "__len__")) ?_))
  refine PySem.W.special_fn KI I hs (beq_iff_eq.mp hf) (wpAny_mono hc (fun r s1 h => ?_) fun _ _ h => h)
  obtain ⟨n, t, rfl, h0, h1, q⟩ := h
  refine wpAny_bind (wpAny_holding (wpAny_pure (wpAny_bind (wpAny_letGo ?_))))
  show wpAny _ _ (if n < 0 then _ else if n ≥ 2 ^ 63 then _ else _) _ _ _
  rw [if_neg (by omega), if_neg (by omega)]
  exact wpAny_bind (wpAny_mkInt (wpAny_pure ⟨_, rfl, q⟩))
/-! ### == and != of instances without an own __eq__ -/
structure DefEq (K : PySem.W.Frag) (C : Addr) : Prop where
  m : PySem.W.mroIn K C (.type "object") = some true
  e : PySem.W.findIn K (.ref C) "__eq__" = some (some (.builtin "object.__eq__"))
  n : PySem.W.findIn K (.ref C) "__ne__" = some (some (.builtin "object.__ne__"))
theorem ifBoundK {M : Model} {name : Str} {id : String} {args : List Value} {Q : Option Value → Shared → Prop} (S : Slot "object" name id) (KI : K.In s.heap) (I : PySem.W.InstAt s.heap x ox C od) (hs : PySem.W.findIn K (.ref C) name = some (some (.builtin id)))
    (h : wpAny M A (call (.builtin id) (.ref x :: args)) (fun v => Q (some v)) E s) : wpAny M A (callSpecialIfBound? (.ref x) name args) Q E s := by
  simp only [callSpecialIfBound?, bindSpecialIfBound?]
  refine wpAny_holding (wpAny_bind (wpAny_bind (wpAny_bind (I.type.here ((PySem.W.looks_findIn KI hs).here (wpAny_bind (wpAny_askSetting (wpAny_ite ?_))))))))
  have fin : wpAny M A (call (.builtin id) ([.ref x] ++ args) >>= fun v => pure (some v)) Q E s := wpAny_bind (wpAny_mono h (fun v s1 q => wpAny_pure q) fun _ _ q => q)
  split
  · exact wpAny_bind (wpAny_of_eq (S.bind _) (wpAny_pure (by exact fin)))
  · exact wpAny_tryCatch (wpAny_bind (wpAny_of_eq (S.bind _) (wpAny_pure (by exact fin))))
theorem inst_noTuple (I : PySem.W.InstAt s.heap x ox C od) : ox.cls ≠ .type "tuple" := by
  obtain ⟨_, h, _⟩ := I
  rw [h]
  intro z
  cases z
theorem objEqK (D : DefEq K C) (KI : K.In s.heap) (I : PySem.W.InstAt s.heap x ox C od) (J : PySem.W.InstAt s.heap y oy C od') {Q : Value → Shared → Prop} (q : Q (if x = y then .bool true else .notImplemented) s) :
    wpAny (model prog w) A (call (.builtin "object.__eq__") [.ref x, .ref y]) Q E s := by
  refine wpAny_call (codeAny_call_builtin F.cmp_object.eq.plain F.cmpEntry_eq (PySem.W.check_slot F.cmpKind_eq F.cmpSplit_eq (I.type.andThen (PySem.W.looks_mroIn KI D.m)) (F.cmpArgs_eq _ _) ?_))
  by_cases e : x = y
  · subst e
    rw [if_pos rfl] at q
    exact objEq_entry_same q
  · rw [if_neg e] at q
    exact objEq_entry_other e I.1 J.1 (inst_noTuple I) q
theorem eqK (D : DefEq K C) (KI : K.In s.heap) (I : PySem.W.InstAt s.heap x ox C od) (J : PySem.W.InstAt s.heap y oy C od') {Q : Option Value → Shared → Prop} (q : Q (some (if x = y then .bool true else .notImplemented)) s) :
    wpAny (model prog w) A (callSpecialIfBound? (.ref x) "__eq__" [.ref y]) Q E s := ifBoundK F.cmp_object.eq KI I D.e (objEqK D KI I J q)
theorem neEntry (D : DefEq K C) (hu : A.units < cLine) (KI : K.In s.heap) (I : PySem.W.InstAt s.heap x ox C od) (J : PySem.W.InstAt s.heap y oy C od') {Q : Fin → Shared → Prop} (q : Q (.done (.ret (if x = y then .bool false else .notImplemented))) s) :
    wpAny (model prog w) A (Builtin.«object.__ne__» ⟨[.ref x, .ref y], []⟩) Q E s := by
  unfold Builtin.«object.__ne__»
  by_cases e : x = y
  · subst e
    rw [if_pos rfl] at q
    have h1 : ∀ {Q1 : Option Value → Shared → Prop}, Q1 (some (.bool true)) s → wpAny (model prog w) A (callSpecialIfBound? (.ref x) "__eq__" [.ref x]) Q1 E s := fun q1 => eqK D KI I J (by rw [if_pos rfl]; exact q1)
    repeat (first | with_reducible refine wpAny_cRoomFor hu ?_ | with_reducible refine h1 ?_ | wp_step)
    exact q
  · rw [if_neg e] at q
    have h1 : ∀ {Q1 : Option Value → Shared → Prop}, Q1 (some .notImplemented) s → wpAny (model prog w) A (callSpecialIfBound? (.ref x) "__eq__" [.ref y]) Q1 E s := fun q1 => eqK D KI I J (by rw [if_neg e]; exact q1)
    repeat (first | with_reducible refine wpAny_cRoomFor hu ?_ | with_reducible refine h1 ?_ | wp_step)
    exact q
theorem neK (D : DefEq K C) (hu : A.units + 1 < cLine) (KI : K.In s.heap) (I : PySem.W.InstAt s.heap x ox C od) (J : PySem.W.InstAt s.heap y oy C od') {Q : Option Value → Shared → Prop} (q : Q (some (if x = y then .bool false else .notImplemented)) s) :
    wpAny (model prog w) A (callSpecialIfBound? (.ref x) "__ne__" [.ref y]) Q E s :=
  ifBoundK F.cmp_object.ne KI I D.n (wpAny_call (codeAny_call_builtin F.cmp_object.ne.plain F.cmpEntry_ne (PySem.W.check_slot F.cmpKind_ne F.cmpSplit_ne (I.type.andThen (PySem.W.looks_mroIn KI D.m)) (F.cmpArgs_ne _ _) (neEntry (A := A.in1) D hu KI I J q))))
theorem rcEqK (D : DefEq K C) (hu : A.units < cLine) (KI : K.In s.heap) (I : PySem.W.InstAt s.heap x ox C od) (J : PySem.W.InstAt s.heap y oy C od') {Q : Value → Shared → Prop} (q : Q (.bool (decide (x = y))) s) :
    wpAny (model prog w) A (compareOp .Eq (.ref x) (.ref y)) Q E s := by
  show wpAny (model prog w) A (richCompare .Eq (.ref x) (.ref y)) Q E s
  simp only [richCompare, cmpInfo_Eq, oneThing_ref]
  refine wpAny_holding (wpAny_bind (wpAny_cRoomFor hu (wpAny_bind (I.type.here (wpAny_bind (J.type.here ?_))))))
  rw [show (Value.ref C != Value.ref C) = false from by simp]
  simp only [Bool.false_eq_true, if_false]
  refine wpAny_bind (wpAny_pure ?_)
  simp only [Bool.not_false, if_true]
  by_cases e : x = y
  · subst e
    rw [decide_eq_true rfl] at q
    refine wpAny_bind (m := tryCompare (.ref x) _ (.ref x)) ?_
    unfold tryCompare
    refine wpAny_bind (eqK D KI I J ?_)
    rw [if_pos rfl]
    repeat (first | exact q | wp_step)
  · rw [decide_eq_false e] at q
    have one : ∀ {Q1 : Option Value → Shared → Prop}, Q1 none s → wpAny (model prog w) A (tryCompare (.ref x) "__eq__" (.ref y)) Q1 E s := fun q1 => by
      unfold tryCompare
      refine wpAny_bind (eqK D KI I J ?_)
      rw [if_neg e]
      exact wpAny_pure q1
    have two : ∀ {Q1 : Option Value → Shared → Prop}, Q1 none s → wpAny (model prog w) A (tryCompare (.ref y) "__eq__" (.ref x)) Q1 E s := fun q1 => by
      unfold tryCompare
      refine wpAny_bind (eqK D KI J I ?_)
      rw [if_neg (Ne.symm e)]
      exact wpAny_pure q1
    repeat (first | exact q | with_reducible refine one ?_ | with_reducible refine two ?_ | with_reducible refine wpAny_isSame_ref_other e I.1 J.1 (inst_noTuple I) ?_ | wp_step)
theorem rcNeK (D : DefEq K C) (hu : A.units + 1 < cLine) (KI : K.In s.heap) (I : PySem.W.InstAt s.heap x ox C od) (J : PySem.W.InstAt s.heap y oy C od') {Q : Value → Shared → Prop} (q : Q (.bool (!decide (x = y))) s) :
    wpAny (model prog w) A (compareOp .NotEq (.ref x) (.ref y)) Q E s := by
  show wpAny (model prog w) A (richCompare .NotEq (.ref x) (.ref y)) Q E s
  simp only [richCompare, cmpInfo_NotEq, oneThing_ref]
  refine wpAny_holding (wpAny_bind (wpAny_cRoomFor (Nat.lt_of_succ_lt hu) (wpAny_bind (I.type.here (wpAny_bind (J.type.here ?_))))))
  rw [show (Value.ref C != Value.ref C) = false from by simp]
  simp only [Bool.false_eq_true, if_false]
  refine wpAny_bind (wpAny_pure ?_)
  simp only [Bool.not_false, if_true]
  by_cases e : x = y
  · subst e
    rw [decide_eq_true rfl] at q
    refine wpAny_bind (m := tryCompare (.ref x) _ (.ref x)) ?_
    unfold tryCompare
    refine wpAny_bind (neK D hu KI I J ?_)
    rw [if_pos rfl]
    repeat (first | exact q | wp_step)
  · rw [decide_eq_false e] at q
    have one : ∀ {Q1 : Option Value → Shared → Prop}, Q1 none s → wpAny (model prog w) A (tryCompare (.ref x) "__ne__" (.ref y)) Q1 E s := fun q1 => by
      unfold tryCompare
      refine wpAny_bind (neK D hu KI I J ?_)
      rw [if_neg e]
      exact wpAny_pure q1
    have two : ∀ {Q1 : Option Value → Shared → Prop}, Q1 none s → wpAny (model prog w) A (tryCompare (.ref y) "__ne__" (.ref x)) Q1 E s := fun q1 => by
      unfold tryCompare
      refine wpAny_bind (neK D hu KI J I ?_)
      rw [if_neg (Ne.symm e)]
      exact wpAny_pure q1
    repeat (first | exact q | with_reducible refine one ?_ | with_reducible refine two ?_ | with_reducible refine wpAny_isSame_ref_other e I.1 J.1 (inst_noTuple I) ?_ | wp_step)
end
section
variable {X : Cx} {k j : Nat} {C : Addr} {ps : List Str} {sp : Sp}
theorem inst_of {pins : List (Addr × Obj)} {σ : L2.St} {H : Hp} {s : Shared} {a dx : Addr} {fs : List (Str × V)} (I : Inv X pins σ H s) (e : H a = some (.ins C dx fs)) : ∃ ox od, PySem.W.InstAt s.heap a ox C od := by
  obtain ⟨mA, O, _⟩ := ins_get I.hok e
  obtain ⟨od, J, _⟩ := O.look
  exact ⟨_, _, J⟩
/-- len(o) -/
def rLenO (C : Addr) (sp : Sp) : List V → Hp → VK → Prop := fun xs H Q => ∃ a dx fs, xs = [.ref a] ∧ H a = some (.ins C dx fs) ∧ sp [.ref a] H (fun v H1 => ∃ n : Nat, v = .int n ∧ n ≤ 1000000 ∧ Q (.int n) H1) E0
theorem call_lenO (G : Dfm X.prog X.w X.K X.mg X.base k C "__len__" ps sp) (hr : Room j X.A) (hk : k + 1 ≤ j := by decide) : CallR X (.builtin "len") (rLenO C sp) := by
  intro pins s σ H xs us Q I r h
  obtain ⟨a, dx, fs, rfl, ha, q⟩ := h
  obtain rfl := Vals.ref1 r
  obtain ⟨f, fd, F, hc, hm, hb⟩ := G.ex
  obtain ⟨ox, od, J⟩ := inst_of I ha
  refine len_K I.kIn J hm.at_ hm.fn ?_
  have hl : ([Value.ref a] : List Value).length = ps.length := by rw [← F.len _ _ _ _ q]; rfl
  refine wpAny_call (codeAny_mono (F.run X.A.in1 X.stack s H ⟨[.ref a], []⟩ [.ref a] [.ref a] _ _ (hr.mono hk).in1 I.env0.in1 (by simpa using hb s [.ref a] I.kIn (by simpa using hl)) (.cons rfl .nil) q) fun r s1 hq => ?_)
  cases r with
  | error e => exact passL pins σ H s e s1 I hq
  | ok fl =>
    cases fl with
    | ret u =>
      obtain ⟨v, H2, I2, rv, n, rfl, hn, q2⟩ := I.after hq
      obtain ⟨t, rfl⟩ := rv
      exact ⟨_, _, rfl, by omega, by omega, .int n, H2, I2.tok _, ⟨_, rfl⟩, q2⟩
    | next => exact False.elim hq
    | brk => exact False.elim hq
    | cont => exact False.elim hq
/-- a == b, a != b -/
def rEqI (K : PySem.W.Frag) (neg : Bool) : R2 := fun x y H Q => ∃ (C a b dx dx' : Addr) (fs fs' : List (Str × V)), x = .ref a ∧ y = .ref b ∧ H a = some (.ins C dx fs) ∧ H b = some (.ins C dx' fs') ∧ DefEq K C ∧ Q (.bl (if neg then !decide (a = b) else decide (a = b))) H
theorem op_eqI (hu : X.A.units + 64 < cLine) : OpR X (compareOp .Eq) (rEqI X.K false) := by
  intro pins s σ H x y v u Q I rx ry h
  obtain ⟨C, a, b, dx, dx', fs, fs', rfl, rfl, ha, hb, D, q⟩ := h
  cases rx
  cases ry
  obtain ⟨ox, od, Ja⟩ := inst_of I ha
  obtain ⟨oy, od', Jb⟩ := inst_of I hb
  exact rcEqK D (by omega) I.kIn Ja Jb ⟨.bl (decide (a = b)), H, I, rfl, q⟩
theorem op_neI (hu : X.A.units + 64 < cLine) : OpR X (compareOp .NotEq) (rEqI X.K true) := by
  intro pins s σ H x y v u Q I rx ry h
  obtain ⟨C, a, b, dx, dx', fs, fs', rfl, rfl, ha, hb, D, q⟩ := h
  cases rx
  cases ry
  obtain ⟨ox, od, Ja⟩ := inst_of I ha
  obtain ⟨oy, od', Jb⟩ := inst_of I hb
  exact rcNeK D (by omega) I.kIn Ja Jb ⟨.bl (!decide (a = b)), H, I, rfl, q⟩
/-! ### isinstance of a caught error that has its dict -/
def rIsED (K : PySem.W.Frag) (D a : Addr) (d : Option Addr) : List V → Hp → VK → Prop := fun xs H Q => ∃ (c : V) (cv : Value) (b : Bool), xs = [.ref a, c] ∧ (∀ u, RelV c u → u = cv) ∧ PySem.W.kitOne K (.ref D) cv = some b ∧ (∀ dd, d = some dd → ∃ fs, H dd = some (.xd fs)) ∧ Q (.bl b) H
theorem call_isED {a D : Addr} {d : Option Addr} {oe : Obj} {pn : List (Addr × Obj)} (C : L2.ExcC X.K D) (hz : Zc (.ref D) d oe) (hf : ∃ vs, oe.data = .fields vs) : CallR (X.suite a ((a, oe) :: pn)) (.builtin "isinstance") (rIsED X.K D a d) := by
  intro pins s σ H xs us Q I r h
  obtain ⟨c, cv, b, rfl, hcv, e, hd, q⟩ := h
  obtain ⟨u1, u2, rfl, r1, r2⟩ := vals2 r
  have rt := r2
  · obtain rfl : u1 = Value.ref a := r1
    have ec := hcv _ rt
    subst ec
    obtain ⟨hget, _⟩ := I.pin (a, oe) (List.mem_append.mpr (.inl List.mem_cons_self))
    obtain ⟨vs, hv⟩ := hf
    have J : ∃ od, PySem.W.InstAt s.heap a oe D od := by
      obtain ⟨oc, odd, oda, osl⟩ := oe
      obtain ⟨h1, h2⟩ := hz
      dsimp only at h1 h2 hv
      subst h1 h2 hv
      cases odd with
      | none => exact ⟨none, hget, rfl, rfl, trivial⟩
      | some dd =>
        obtain ⟨fs, hx⟩ := hd dd rfl
        have hx2 : ObjOk X.prog X.w H s.heap dd (.xd fs) := I.hok dd _ hx
        obtain ⟨mA, hns, _⟩ := hx2
        obtain ⟨od, ho, _⟩ := lookIn_ns hns
        exact ⟨some od, hget, rfl, rfl, ho⟩
    obtain ⟨od, J⟩ := J
    obtain ⟨cd, hcd, _⟩ := PySem.W.any_some C.hd
    exact PySem.W.kia_one (PySem.W.kitx_exc (od := od) (by rw [hcd]; rfl) C.hg C.hk C.hs C.ha C.hn C.ht C.hm) I.kIn J e (fun z => nomatch z) fun tk => ⟨.bl b, H, I.kept (t' := tk) fun _ _ z => z, rfl, q⟩
/-! ### how often a flat thing is in a list -/
def rCntV (K : PySem.W.Frag) : V → List V → Hp → VK → Prop := fun x xs H Q => ∃ (a : Addr) (ys : List V) (y : V), x = .ref a ∧ xs = [y] ∧ SqL K H a ys ∧ flatV y = true ∧ ys.all flatV = true ∧ Q (.int ((ys.countP fun z => eqV z y : Nat) : Int)) H
theorem cnt_eq {y : V} : ∀ {ys : List V} {us : List Value}, Vals ys us → ys.all flatV = true → us.countP (eqU y) = ys.countP fun z => eqV z y
  | _, _, .nil, _ => rfl
  | z :: zs, u :: us, .cons r t, h => by
    rw [List.all_cons, Bool.and_eq_true] at h
    rw [List.countP_cons, List.countP_cons, cnt_eq t h.2, eqU_of r h.1]
theorem mt_lcountV : MtR X "list.count" (rCntV X.K) := by
  intro pins s σ H x xs v us Q I rx rxs h
  obtain ⟨a, ys, y, rfl, rfl, hs, fy, fys, q⟩ := h
  cases rx
  obtain ⟨uy, rfl, ry⟩ := rxs.one
  obtain ⟨its, rv, ⟨⟨cls, dd, data, sl⟩, n, ho, hc, hdn, hd⟩, hlen⟩ := I.list hs
  simp only at hc hd
  subst hc hd
  refine call_meets PySem.F.slot_list_count ⟨_, ho, rfl⟩ PySem.F.entry_list_count (PySem.F.args_list_count_2 _ _) (SeqAt.list_countAt a its.toArray n dd sl uy (eqU y)) ⟨ho, fun u' hu' => mem_eqAt ry fy rv fys u' (by simpa using hu'), ?_⟩
  have ec : its.toArray.toList.countP (eqU y) = ys.countP fun z => eqV z y := cnt_eq rv fys
  refine ⟨.int ((ys.countP fun z => eqV z y : Nat) : Int), H, I.tok _, ⟨s.toks, ?_⟩, q⟩
  rw [ec]
end
end Fw
set_option Elab.async false
set_option linter.all false
set_option maxRecDepth 100000
set_option maxHeartbeats 4000000
namespace Fw
open PySem PySem.Spec PyProof.Rows L2 PySem.Calls
/-! ### C() without a thing handed in -/
theorem pe_mk0 {X : Cx} {k j : Nat} {x : Str} {C : Addr} {ps : List Str} {sp : Sp} {p pos : Pos} (G : Dfc X.prog X.w X.K X.mg X.base k x C ps sp) (hr : Room j X.A) (hk : k + 1 ≤ j := by decide) (hg : Gl X x := by rfl)
    (hdb : (x == ("__debug__" : Str)) = false := by decide) : PE X (.Call (.Name x p) [] [] pos) (tMake C sp [] E0 tNil) := by
  obtain ⟨f, fd, F, M, hm, hb⟩ := G.ex
  exact pe_make0 M F (hr.mono hk) hg hm hb .nil passL hdb
/-! ### C.m(self, ..) -/
structure ClsA (K : PySem.W.Frag) (mg : Str → Option Value) (x : Str) (C : Addr) (m : Str) : Prop where
  g : mg x = some (.ref C)
  ex : ∃ (mc : Value) (f : Addr), ClX.CRead K C mc ∧ PySem.W.findCls K (.ref C) mc m = some (.val (.ref f)) ∧ Meth K C m f
theorem pe_cm {X : Cx} {k j : Nat} {x m : Str} {C : Addr} {ps : List Str} {sp : Sp} {p1 p2 pos : Pos} {e : Expr} {es : List Expr} {t : TA} {pl : Sem Bool} (T : ClsA X.K X.mg x C m) (G : Dfm X.prog X.w X.K X.mg X.base k C m ps sp) (hr : Room j X.A) (ha : PA X (e :: es) t) (hk : k ≤ j := by decide) (hg : Gl X x := by rfl)
    (hdb : (x == ("__debug__" : Str)) = false := by decide) (he : starEach (e :: es) X.env = (false, eval e X.env) :: starEach es X.env := by rfl) (hpl : (backTo pos (starEach es X.env)).any (·.1) = false := by rfl)
    (ht : eval (.Call (.Attribute (.Name x p1) m p2) (e :: es) [] pos) X.env = (do
      let ov ← eval (.Name x p1) X.env
      standAt p2.atName
      let (f, first) ← holding [ov] (getMethod ov m pl)
      callWith pos f first (backTo pos (starEach (e :: es) X.env)) (backToKw pos (keywordEach [] X.env))) := by rfl) :
    PE X (.Call (.Attribute (.Name x p1) m p2) (e :: es) [] pos) (tCall sp [] E0 t) := by
  obtain ⟨f, fd, F, hc, hm, hb⟩ := G.ex
  obtain ⟨mc, f', r, hv, hm'⟩ := T.ex
  have ef : f' = f := by
    have h1 := hm.at_
    rw [hm'.at_] at h1
    cases h1
    rfl
  subst ef
  refine ⟨fun pins s σ H Q I h => ?_⟩
  refine PySem.W.methodCall_KW (pl := pl) (ld_glob I hg T.g ?_ hdb) ht
  refine PySem.W.method_cls I.kIn r.ga (ClX.getcval_ok (v := .ref f') I r ⟨hv, rfl⟩ fun s1 I1 => ?_)
  refine PySem.W.callWith_K (h₀ := X.base) (first := []) I1.ok.mod.kin hm.kp (thn (ha.run pos pins s1 σ H _ I1 h) fun us s2 ⟨vs, H2, I2, rv, q⟩ => ⟨I2.kIn, ?_⟩) he hpl
  exact run_fn (vs := vs) (dvs := []) F (hr.mono hk) hb .nil passL I2 rv q
/-! ### defs with defaults -/
structure Dfd (P : Program) (w : World) (K : PySem.W.Frag) (mg : Str → Option Value) (base : Heap) (k : Nat) (x : Str) (ps : List Str) (dvs : List V) (sp : Sp) : Prop where
  ex : ∃ (f : Addr) (fd : FuncData) (ds : List Value), FnOk P w K mg base (L2.CX P w) k f fd ps sp ∧ mg x = some (.ref f) ∧ PySem.W.keepIn K (.ref f) = true ∧ Binds K fd ps ds ∧ Vals dvs ds
structure Atd (K : PySem.W.Frag) (mg : Str → Option Value) (x : Str) (st : Stmt) (ps : List Str) (dvs : List V) : Prop where
  ex : ∃ (f : Addr) (fd : FuncData) (ds : List Value), FunD K x x (defArgs st) (defBody st) (defScope st) dvs [] f fd ∧ mg x = some (.ref f) ∧ Binds K fd ps ds ∧ Vals dvs ds
theorem Atd.ok {P : Program} {w : World} {K : PySem.W.Frag} {mg : Str → Option Value} {base : Heap} {x : Str} {st : Stmt} {N ps : List Str} {dvs : List V} {k : Nat} {sp : Sp} (F : Atd K mg x st ps dvs) (S : FnScope N ps (defScope st)) (len : ∀ vs H Q E, sp vs H Q E → vs.length = ps.length)
    (hbody : ∀ (qual : Str) (f : Addr) (cdv : Value) (A : Around) (outer : List Env) (s : Shared) (H : Hp) (vs : List V) (Q : VK) (E : XK), Room k (A.deeper (envOfC qual (defScope st) s.heap.objs.size f cdv)) → sp vs H Q E →
      ∃ t, PSs (cxOf (L2.CX P w) P w K mg base N qual (defScope st) f cdv A outer s H E) (defBody st) t ∧ t { nx := fun _ H' => Q .non H', rt := Q } (start N vs) H) : Dfd P w K mg base (k + 1) x ps dvs sp := by
  obtain ⟨f, fd, ds, FD, hm, hb, hv⟩ := F.ex
  exact ⟨f, fd, ds, FD.ok S len fun cdv A outer s H vs Q E hr hsp => hbody x f cdv A outer s H vs Q E hr hsp, hm, FD.kp, hb, hv⟩
theorem pe_fd {X : Cx} {k j : Nat} {x : Str} {ps : List Str} {dvs : List V} {sp : Sp} {p pos : Pos} {e : Expr} {es : List Expr} {t : TA} (G : Dfd X.prog X.w X.K X.mg X.base k x ps dvs sp) (hr : Room j X.A) (ha : PA X (e :: es) t) (hk : k ≤ j := by decide) (hg : Gl X x := by rfl)
    (hdb : (x == ("__debug__" : Str)) = false := by decide) (he : starEach (e :: es) X.env = (false, eval e X.env) :: starEach es X.env := by rfl) (hpl : (backTo pos (starEach es X.env)).any (·.1) = false := by rfl) :
    PE X (.Call (.Name x p) (e :: es) [] pos) (tCall sp dvs E0 t) := by
  obtain ⟨f, fd, ds, F, hm, hkp, hb, hv⟩ := G.ex
  exact pe_call F (hr.mono hk) hg hm hkp hb hv passL ha hdb he hpl
/-! ### exceptions of own classes with one field -/
/-- what __init__ does: self.fl = v -/
def spExI (K : PySem.W.Frag) (C : Addr) (fl : Str) : Sp := fun vs H Q _ => ∃ (a : Addr) (v : V), vs = [.ref a, v] ∧ H a = some (exo a C none) ∧ ∀ dx, H dx = none → dx ≠ a → Q .non (upd (upd H dx (exd dx [(fl, v)])) a (exo a C (some dx)))
structure ExT (K : PySem.W.Frag) (C : Addr) (fl : Str) : Prop where
  oex : OexC K C
  no : PySem.W.findIn K (.ref C) fl = some none
structure ExF (P : Program) (w : World) (K : PySem.W.Frag) (mg : Str → Option Value) (base : Heap) (x : Str) (C : Addr) (fl : Str) : Prop where
  t : ExT K C fl
  g : mg x = some (.ref C)
  ex : ∃ (f : Addr) (fd : FuncData) (ps : List Str), FnOk P w K mg base (L2.CX P w) 1 f fd ps (spExI K C fl) ∧ PySem.W.findIn K (.ref C) "__init__" = some (some (.ref f)) ∧ PySem.W.typeIn K (.ref f) = some (.type "function") ∧ Binds K fd ps []
/-- the def of its __init__, as the head tells it -/
structure AtX (K : PySem.W.Frag) (mg : Str → Option Value) (x : Str) (C : Addr) (fl : Str) (q : Str) (st : Stmt) (ps : List Str) : Prop where
  t : ExT K C fl
  g : mg x = some (.ref C)
  ex : ∃ (f : Addr) (fd : FuncData), FunD K "__init__" q (defArgs st) (defBody st) (defScope st) [] [] f fd ∧ PySem.W.findIn K (.ref C) "__init__" = some (some (.ref f)) ∧ PySem.W.typeIn K (.ref f) = some (.type "function") ∧ Binds K fd ps []
theorem AtX.ok {P : Program} {w : World} {K : PySem.W.Frag} {mg : Str → Option Value} {base : Heap} {x : Str} {C : Addr} {fl q : Str} {st : Stmt} {pr : Str} {p1 p2 p3 p4 : Pos} (F : AtX K mg x C fl q st ["self", pr]) (S : FnScope ["self", pr] ["self", pr] (defScope st))
    (hb : defBody st = [.Assign [.Attribute (.Name "self" p1) fl p2] (.Name pr p3) p4]) (hv1 : Vis (defScope st) "self") (hv2 : Vis (defScope st) pr) (hd : (pr == ("__debug__" : Str)) = false := by decide) (hcd : (pr == ("__classdict__" : Str)) = false := by decide) : ExF P w K mg base x C fl := by
  obtain ⟨f, fd, FD, hi, ht, hbi⟩ := F.ex
  refine ⟨F.t, F.g, f, fd, _, FD.ok S (fun vs H Q E h => ?_) (fun cdv A outer s H vs Q E hr h => ?_), hi, ht, hbi⟩
  · obtain ⟨a, v, rfl, _⟩ := h
    rfl
  · obtain ⟨a, v, rfl, ha, hq⟩ := h
    rw [hb]
    refine ⟨_, pss_one (ps_ost (pe_var (i := 0) rfl hv1) (pe_var (i := 1) rfl hv2 hd hcd)), ?_⟩
    exact ⟨v, rfl, .ref a, rfl, a, C, rfl, F.t.oex, F.t.no, .inl ⟨ha, hq⟩⟩
section
variable {X : Cx} {x : Str} {C : Addr} {fl : Str} {j : Nat} {p pos : Pos} {e : Expr} {te : TE}
/-- a weaker wish -/
def tWk (te : TE) : TE := fun σ H Q => ∃ Q0 : VK, te σ H Q0 ∧ ∀ v H', Q0 v H' → Q v H'
theorem pe_wk (he : PE X e te) : PE X e (tWk te) := ⟨fun pins s σ H Q I h => by
  obtain ⟨Q0, h0, hq⟩ := h
  exact thn (he.run pins s σ H Q0 I h0) fun u s' ⟨v, H', I', r, q⟩ => ⟨v, H', I', r, hq v H' q⟩⟩
/-- raise C(e): d is the error's own dict, new -/
def tRaiseF (C : Addr) (fl : Str) (W : WX) (te : TE) : TS := fun _ σ H => te σ H fun v H1 => ∀ d H2, Kp [] H1 H2 → H1 d = none → H2 d = some (.xd [(fl, v)]) → W (.ref C) (some d) σ H2
theorem ps_raiseF {W : WX} {pos2 : Pos} (hc : X.calm = true) (T : ExF X.prog X.w X.K X.mg X.base x C fl) (hr : Room j X.A) (tk : Takes X W) (ha : PE X e te) (hk : 2 ≤ j := by decide) (hg : Gl X x := by rfl)
    (hdb : (x == ("__debug__" : Str)) = false := by decide) (he : starEach (e :: []) X.env = (false, eval e X.env) :: starEach [] X.env := by rfl) (hpl : (backTo pos (starEach [] X.env)).any (·.1) = false := by rfl) :
    PS X (.Raise (some (.Call (.Name x p) [e] [] pos)) none pos2) (tRaiseF C fl W te) := by
  obtain ⟨f, fd, ps, F, hi, ht, hb⟩ := T.ex
  have h := ps_raise (pos := pos2) hc tk (pmk_oex (p := p) (dvs := []) T.t.oex hi ht F (hr.mono hk) hb .nil passL hg T.g (pa_cons (pe_wk ha) pa_nil (hs := he)) hdb he hpl)
  refine ⟨fun pins s σ H D I q => h.run pins s σ H D I ?_⟩
  refine ⟨_, q, fun v H1 q1 => ?_⟩
  · show _ ∧ _
    refine ⟨by simp, fun a ha => ⟨a, v, rfl, upd_same, fun dx hdx nx => ⟨rfl, dx, [(fl, v)], upd_same, ?_, ?_, ?_⟩⟩⟩
    · rw [upd_ne nx, upd_same]
    · rw [upd_ne nx] at hdx
      exact hdx
    · rw [upd_ne nx] at hdx
      have sa : a ≠ dx := Ne.symm nx
      refine q1 dx _ ?_ hdx upd_same
      have k : ∀ b, b ≠ a → b ≠ dx → (upd (del (upd (upd (upd H1 a (exo a C none)) dx (exd dx [(fl, v)])) a (exo a C (some dx))) a) dx (.xd [(fl, v)])) b = H1 b := fun b h1 h2 => by
        rw [upd_ne h2, del_ne h1, upd_ne h1, upd_ne h2, upd_ne h1]
      have n : ∀ {b : Addr} {o : HO}, H1 b = some o → b ≠ a ∧ b ≠ dx := fun {b o} hb => ⟨ne_of_none hb ha, ne_of_none hb hdx⟩
      exact Kp.all fun b o hb => by rw [k b (n hb).1 (n hb).2]; exact hb
end
end Fw
namespace Fw
open PySem PySem.Spec PyProof.Rows L2 PySem.Calls
/-! ### what is never reached -/
def tNo : TS := fun _ _ _ => False
def tNoE : TE := fun _ _ _ => False
theorem ps_no {X : Cx} {st : Stmt} : PS X st tNo := ⟨fun _ _ _ _ _ _ h => h.elim⟩
theorem pe_no {X : Cx} {e : Expr} : PE X e tNoE := ⟨fun _ _ _ _ _ _ h => h.elim⟩
/-! ### in the suite of an except clause -/
def rIsEX (K : PySem.W.Frag) (a : Addr) (cls : Value) (d : Option Addr) : List V → Hp → VK → Prop := fun xs H Q => ∃ (D : Addr) (c : V) (cv : Value) (b : Bool), cls = .ref D ∧ L2.ExcC K D ∧ xs = [.ref a, c] ∧ (∀ u, RelV c u → u = cv) ∧ PySem.W.kitOne K (.ref D) cv = some b ∧ (∀ dd, d = some dd → ∃ fs, H dd = some (.xd fs)) ∧ Q (.bl b) H
theorem call_isEX {X : Cx} {a : Addr} {cls : Value} {d : Option Addr} {oe : Obj} {pn : List (Addr × Obj)} (hz : Zc cls d oe) (hf : ∃ vs, oe.data = .fields vs) : CallR (X.suite a ((a, oe) :: pn)) (.builtin "isinstance") (rIsEX X.K a cls d) := by
  intro pins s σ H xs us Q I r h
  obtain ⟨D, c, cv, b, rfl, hC, h⟩ := h
  exact call_isED hC hz hf pins s σ H xs us Q I r ⟨c, cv, b, h⟩
/-- e.f, e the caught error -/
def tXfX (K : PySem.W.Frag) (a : Addr) (cls : Value) (d : Option Addr) (f : Str) (te : TE) : TE := fun σ H Q => ∃ C : Addr, cls = .ref C ∧ XfC K C ∧ PySem.W.findIn K (.ref C) f = some none ∧ tXf a cls d C f te σ H Q
theorem pe_xfX {X : Cx} {a : Addr} {oe : Obj} {cls : Value} {d : Option Addr} {pn : List (Addr × Obj)} {e : Expr} {te : TE} {pos : Pos} {n : Str} (hz : Zc cls d oe) (hf : ∃ vs, oe.data = .fields vs) (he : PE (X.suite a ((a, oe) :: pn)) e te)
    (hb : attributeBase e n X.env (eval e X.env) = eval e X.env := by rfl) : PE (X.suite a ((a, oe) :: pn)) (.Attribute e n pos) (tXfX X.K a cls d n te) := by
  refine ⟨fun pins s σ H Q I h => ?_⟩
  obtain ⟨C, hc, T, no, h⟩ := h
  exact (pe_xf T no hz hf he hb).run pins s σ H Q I h
end Fw
namespace Fw
open PySem PySem.Spec PyProof.Rows L2
theorem cx_P {CX : CXT} {P : Program} {w : World} {K : PySem.W.Frag} {mg : Str → Option Value} {base : Heap} {N : List Str} {qual : Str} {scope : Scope} {f : Addr} {cdv : Value} {A : Around} {outer : List Env} {s : Shared} {H : Hp} {E : XK} :
    (cxOf CX P w K mg base N qual scope f cdv A outer s H E).prog = P := rfl
end Fw
namespace Fw
open PySem PySem.Spec PyProof.Rows L2 PySem.Calls
/-- o.m() where o never comes -/
def tMx (te : TE) : TE := fun σ H _ => te σ H fun _ _ => False
theorem pe_m0x {X : Cx} {te : TE} {o : Expr} {m : Str} {apos pos : Pos} {pl : Sem Bool} (he : PE X o te)
    (ht : eval (.Call (.Attribute o m apos) [] [] pos) X.env = (do
      let ov ← eval o X.env
      standAt apos.atName
      let (f, first) ← holding [ov] (getMethod ov m pl)
      callWith pos f first (backTo pos (starEach [] X.env)) (backToKw pos (keywordEach [] X.env))) := by rfl) : PE X (.Call (.Attribute o m apos) [] [] pos) (tMx te) :=
  ⟨fun pins s σ H Q I h => PySem.W.methodCall_KW (pl := pl) (thn (he.run pins s σ H _ I h) fun _ _ ⟨_, _, _, _, z⟩ => z.elim) ht⟩
end Fw
namespace Fw
open PySem PySem.Spec PyProof.Rows L2
theorem mt_lcountVK {X : Cx} (K : PySem.W.Frag) (h : X.K = K) : MtR X "list.count" (rCntV K) := by
  subst h
  exact mt_lcountV
theorem mt_indexK {X : Cx} (K : PySem.W.Frag) (h : X.K = K) : MtR X "list.index" (rIndex K) := by
  subst h
  exact mt_index
end Fw
namespace Fw
open PySem PySem.Spec PyProof.Rows L2
theorem pe_bmK {X : Cx} {T : String} {name : Str} {id : String} {r : V → List V → Hp → VK → Prop} {to : TE} {t : TA} {o e : Expr} {es : List Expr} {apos cpos : Pos} (K : PySem.W.Frag) (hK : X.K = K) (pa : PlainAttrs T) (slot : Slot T name id) (hty : typeOf (.builtin id) = pure (.type "method_descriptor"))
    (hm : MtR X id r) (ho : PE X o to) (ha : PA X (e :: es) t) (hbase : attributeBase o name X.env (eval o X.env) = eval o X.env := by rfl)
    (hfew : ((backTo cpos (starEach (e :: es) X.env)).all (fun x => !x.1) && (backToKw cpos (keywordEach [] X.env)).all (fun x => x.1.isSome) &&
      decide ((e :: es).length + ([] : List Keyword).length + (if ([] : List Keyword).isEmpty then 0 else 1) < 30)) = true := by rfl) (hline : (apos.endLine == cpos.line) = true := by rfl) (hs : starEach (e :: es) X.env = (false, eval e X.env) :: starEach es X.env := by rfl)
    (hplain : (backTo cpos (starEach es X.env)).any (·.1) = false := by rfl) : PE X (.Call (.Attribute o name apos) (e :: es) [] cpos) (tBM K T r to t) := by
  subst hK
  exact pe_bm pa slot hty hm ho ha hbase hfew hline hs hplain
end Fw
set_option Elab.async false
set_option linter.all false
set_option maxRecDepth 100000
set_option maxHeartbeats 4000000
namespace Kq
open PySem PySem.Spec PyProof.Rows L2 Fw
def topS (i : Nat) : Stmt := PySem.Challenge.pw_fewasks_k80_houses_of_a_town.main.body.getD i (.Pass ⟨0, 0, 0, 0⟩)
abbrev s__wall : Stmt := topS 0
abbrev s_NoName___init__ : Stmt := inClass (topS 4) 0
abbrev s_NoMark___init__ : Stmt := inClass (topS 6) 0
abbrev s_Lack___init__ : Stmt := inClass (topS 7) 0
abbrev s_NoHouse___init__ : Stmt := inClass (topS 8) 0
abbrev s_Taken___init__ : Stmt := inClass (topS 9) 0
abbrev s_NoTalk___init__ : Stmt := inClass (topS 10) 0
abbrev s_Broken___init__ : Stmt := inClass (topS 11) 0
abbrev s_is_int : Stmt := topS 16
abbrev s_is_text : Stmt := topS 17
abbrev s_is_label : Stmt := topS 18
abbrev s_rise : Stmt := topS 19
abbrev s_are_ints : Stmt := topS 20
abbrev s_rising_ints : Stmt := topS 21
abbrev s_is_pair : Stmt := topS 22
abbrev s_are_rows : Stmt := topS 23
abbrev s_Book___init__ : Stmt := inClass (topS 27) 0
abbrev s_Book___len__ : Stmt := inClass (topS 27) 1
abbrev s_Book_named : Stmt := inClass (topS 27) 2
abbrev s_Book_name_of : Stmt := inClass (topS 27) 3
abbrev s_Book_thing : Stmt := inClass (topS 27) 4
abbrev s_Book_kind : Stmt := inClass (topS 27) 5
abbrev s_Book_parts : Stmt := inClass (topS 27) 6
abbrev s_is_name : Stmt := topS 28
abbrev s_is_kind : Stmt := topS 29
abbrev s_is_entry : Stmt := topS 30
abbrev s_is_tree : Stmt := topS 31
abbrev s_depth_of : Stmt := topS 32
abbrev s_is_version : Stmt := topS 33
abbrev s_is_content : Stmt := topS 34
abbrev s_held_parts : Stmt := topS 37
abbrev s_keeping : Stmt := topS 38
abbrev s_Holding___init__ : Stmt := inClass (topS 40) 0
abbrev s_Holding___len__ : Stmt := inClass (topS 40) 1
abbrev s_Holding___eq__ : Stmt := inClass (topS 40) 2
abbrev s_Holding___str__ : Stmt := inClass (topS 40) 3
abbrev s_Holding_holds : Stmt := inClass (topS 40) 4
abbrev s_Holding_names : Stmt := inClass (topS 40) 5
abbrev s_Holding_versions : Stmt := inClass (topS 40) 6
abbrev s_Holding_edges : Stmt := inClass (topS 40) 7
abbrev s_Store___init__ : Stmt := inClass (topS 42) 0
abbrev s_Store___len__ : Stmt := inClass (topS 42) 1
abbrev s_Store_put : Stmt := inClass (topS 42) 2
abbrev s_Store_write : Stmt := inClass (topS 42) 3
abbrev s_Store_holds : Stmt := inClass (topS 42) 4
abbrev s_Store_held : Stmt := inClass (topS 42) 5
abbrev s_Store_view : Stmt := inClass (topS 42) 6
abbrev s_Store_changes : Stmt := inClass (topS 42) 7
abbrev s_House___init__ : Stmt := inClass (topS 44) 0
abbrev s_House_marks : Stmt := inClass (topS 44) 1
abbrev s_House_at : Stmt := inClass (topS 44) 2
abbrev s_House_must_have : Stmt := inClass (topS 44) 3
abbrev s_House_move : Stmt := inClass (topS 44) 4
abbrev s_House_move_all : Stmt := inClass (topS 44) 5
abbrev s_House_trail : Stmt := inClass (topS 44) 6
abbrev s_House_far : Stmt := inClass (topS 44) 7
abbrev s_House_set_far : Stmt := inClass (topS 44) 8
abbrev s_House_pin : Stmt := inClass (topS 44) 9
abbrev s_House_roots : Stmt := inClass (topS 44) 10
abbrev s_House_kept : Stmt := inClass (topS 44) 11
abbrev s_House_sweep : Stmt := inClass (topS 44) 12
abbrev s_Town___init__ : Stmt := inClass (topS 46) 0
abbrev s_Town_build : Stmt := inClass (topS 46) 1
abbrev s_Town_house : Stmt := inClass (topS 46) 2
abbrev s_Town_labels : Stmt := inClass (topS 46) 3
abbrev s_Town_begin : Stmt := inClass (topS 46) 4
abbrev s_Town_talk : Stmt := inClass (topS 46) 5
abbrev s_Town_step : Stmt := inClass (topS 46) 6
abbrev s_Town_cut : Stmt := inClass (topS 46) 7
abbrev s_Town_again : Stmt := inClass (topS 46) 8
abbrev s_Town_drop : Stmt := inClass (topS 46) 9
abbrev s_Town_pull : Stmt := inClass (topS 46) 10
abbrev s_Town_give : Stmt := inClass (topS 46) 11
abbrev s_Town_sweep : Stmt := inClass (topS 46) 12
abbrev s_l_deck : Stmt := topS 48
abbrev s_l_mixed : Stmt := topS 49
abbrev s_l_draw : Stmt := topS 50
abbrev s_l_label : Stmt := topS 51
abbrev s_l_alike : Stmt := topS 52
abbrev s_l_town_why : Stmt := topS 53
abbrev s_l_built : Stmt := topS 54
abbrev s_l_stands : Stmt := topS 55
abbrev s_law : Stmt := topS 56
abbrev sNum : Str := "abcdefghijklmnopqrstuvwxyz"
abbrev sSig : Str := " !\"#$&'()*+,-./0123456789:;<=>?@ABCDEFGHIJKLMNOPQRSTUVWXYZ[\\]^_`abcdefghijklmnopqrstuvwxyz{|}~"
/-- what the defs lean on -/
structure Txt (K : PySem.W.Frag) (w : World) (mg : Str → Option Value) (CN CB CH : Addr) : Prop where
  len_ : mg "len" = none
  isinstance_ : mg "isinstance" = none
  all_ : mg "all" = none
  str_ : mg "str" = none
  int_ : mg "int" = none
  bool_ : mg "bool" = none
  tuple_ : mg "tuple" = none
  list_ : mg "list" = none
  range_ : mg "range" = none
  sorted_ : mg "sorted" = none
  set_ : mg "set" = none
  ValueError_ : mg "ValueError" = none
  LETTERS : ∃ t, mg "LETTERS" = some (.str sNum t)
  SIGNS : ∃ t, mg "SIGNS" = some (.str sSig t)
  MOST : ∃ t, mg "MOST" = some (.int 400 t)
  NoHouse : mg "NoHouse" = some (.ref CN)
  Book : mg "Book" = some (.ref CB)
  g_HouseError : mg "HouseError" = some (.ref CH)
local macro_rules | `(tactic| walk_at "rd") => `(tactic| try simp only [tSeq, tNext, tBreak, tCont, tDrop, tRet, tRetN, tIfS, tAsg, tVar, tC, tOp, tUn, tTest, tB, tAnd, tOr, tNot, tAndV, tOrV, tNotV, tIf, tChain, tCB, tCons, tNil, tTup, tLst, tCall, tCallS, WE,
  gName, gSub, rI, rI0, rU, rEq, rNe, rIsiC, tSl, tPart, tNoPart, rSetL, tBM, tBM0, rAppend, rExtend, rExtendT, tCallL, L2.start, List.map_cons, List.map_nil, List.length_cons, List.length_nil, Nat.sub_self, Nat.reduceAdd, Nat.reduceSub, List.replicate_zero, List.replicate_succ, List.append_nil, List.nil_append, List.cons_append,
  List.getElem?_cons_zero, List.getElem?_cons_succ, List.set_cons_zero, List.set_cons_succ, Option.some.injEq, exists_eq_left', exists_eq_left, exists_eq_right, exists_eq_right', exists_const, exists_and_left, exists_and_right, V.int.injEq, V.bl.injEq, V.str.injEq, V.ref.injEq, V.ty.injEq, List.cons.injEq, and_true, true_and, and_assoc, reduceCtorEq, false_and, and_false, exists_false, false_or, or_false,
  if_true, if_false, Bool.not_true, Bool.not_false, Bool.false_eq_true, Bool.true_eq_false, ↓reduceIte, decide_eq_true_eq, decide_true, decide_false, sc_nn, sc_ni, sc_in, sc_nb, sc_bn, sc_ns, sc_sn, sc_ii, sc_bb, sc_ss, sc_is, sc_si, sc_bs, sc_sb, ipI, Int.reduceLT, Int.reduceLE, Int.reduceEq, Nat.reduceLT, Nat.reduceEqDiff, String.reduceEq, nc0, nc1, nc2, nc3, nc4, nc5, nc6, nc7, nc8, nc9, nc10, nc11, nc12, cx_K, cx_w, wipe, lenV_str, rCat, exists_eq, exists_eq', relO, relC, relM, relI, relSl, spOf, ciOf, csOf, crOf, L2.rIxD, eq_self, not_true_eq_false, not_false_eq_true, Option.isSome_some, Option.isSome_none, tCallV, ofS_inj, sg_inj, sg_len, sg_lt, tM1, tM0, tLc_rng1, tLc_rng2, tFor_rng1, tFor_rng2, tDNewK, sDPut,  Nat.reduceLeDiff, Bool.not_eq_true', decide_eq_false_iff_not,
  isi_int_int, isi_int_bool, isi_int_str, isi_int_tuple, isi_int_list, isi_int_dict, isi_bool_int, isi_bool_bool, isi_bool_str, isi_bool_tuple, isi_bool_list, isi_bool_dict, isi_str_int, isi_str_bool, isi_str_str, isi_str_tuple, isi_str_list, isi_str_dict, isi_non_int, isi_non_bool, isi_non_str, isi_non_tuple, isi_non_list, isi_non_dict])
local macro_rules | `(tactic| walk_at "ix") => `(tactic| (refine ixT (by assumption) rfl ?_; walk_at "rd"))
local macro_rules | `(tactic| walk_at "len") => `(tactic| (refine ⟨_, lenV_T (by assumption), ?_⟩; walk_at "rd"))
local macro_rules | `(tactic| walk_at "isT") => `(tactic| (refine ⟨true, isiT (by assumption), ?_⟩; walk_at "rd"))

theorem sz_of {n : Nat} (h : n ≤ 100000) : n ≤ sizeLine := Nat.le_trans h (by decide)
abbrev iS (i : Int) : Str := toString i
abbrev okC (c : Nat) : Bool := decide (c ∈ sNum.cps.toList)
abbrev okL (z : Str) : Bool := decide (1 ≤ z.length) && decide (z.length ≤ 8) && z.cps.toList.all okC
abbrev okG (c : Nat) : Bool := decide (c ∈ sSig.cps.toList)
abbrev okT (z : Str) : Bool := decide (z.length ≤ 40) && z.cps.toList.all okG
theorem okL_len {z : Str} (h : okL z = true) : z.length ≤ 8 := by
  simp only [okL, Bool.and_eq_true, decide_eq_true_eq] at h
  omega
theorem okT_len {z : Str} (h : okT z = true) : z.length ≤ 40 := by
  simp only [okT, Bool.and_eq_true, decide_eq_true_eq] at h
  omega
section
variable {P : Program} {w : World} {K : PySem.W.Frag} {mg : Str → Option Value} {base : Heap} {CN CB CH : Addr}
theorem sc_is_int : FnScope ["thing", "least"] ["thing", "least"] (defScope s_is_int) := ⟨rfl, rfl, rfl, by decide +kernel, rfl, by decide +kernel, by decide +kernel⟩
def spIsInt : Sp := fun vs H Q _ => ∃ i, vs = [.int i, .int 0] ∧ Q (.bl (decide (0 ≤ i))) H
theorem ok_is_int (T : Txt K w mg CN CB CH) (F : Atd K mg "is_int" s_is_int ["thing", "least"] [.int 0]) : Dfd P w K mg base 1 "is_int" ["thing", "least"] [.int 0] spIsInt := by
  refine F.ok sc_is_int (fun vs H Q E h => ?_) (fun qual f cdv A outer s H vs Q E hr h => ?_)
  · obtain ⟨i, rfl, _⟩ := h
    rfl
  · refine ⟨_, (pss_one (ps_ret (pe_and (pe_callB call_isiC (by rfl) T.isinstance_ (by decide +kernel) (pa_cons (pv 0) (pa_cons (pe_ty "int" rfl T.int_ (by decide +kernel)) pa_nil))) (pe_and (pe_not (pe_callB call_isiC (by rfl) T.isinstance_ (by decide +kernel) (pa_cons (pv 0) (pa_cons (pe_ty "bool" rfl T.bool_ (by decide +kernel)) pa_nil)))) (pe_one (pe_cmpR op_ge (pv 0) (pv 1) (nomark _))))))), ?_⟩
    obtain ⟨i, rfl, q⟩ := h
    walk_at "rd"
    by_cases h0 : (0 : Int) ≤ i
    · simpa [h0] using q
    · simpa [h0] using q
theorem sc_is_text : FnScope ["thing", "most", "sign"] ["thing", "most"] (defScope s_is_text) := ⟨rfl, rfl, rfl, by decide +kernel, rfl, by decide +kernel, by decide +kernel⟩
def spIsText : Sp := fun vs H Q _ => ∃ z, vs = [.str z, .int 40] ∧ okT z = true ∧ ∀ H', Kp [] H H' → Q (.bl true) H'
theorem ok_is_text (T : Txt K w mg CN CB CH) (F : Atd K mg "is_text" s_is_text ["thing", "most"] [.int 40]) : Dfd P w K mg base 1 "is_text" ["thing", "most"] [.int 40] spIsText := by
  refine F.ok sc_is_text (fun vs H Q E h => ?_) (fun qual f cdv A outer s H vs Q E hr h => ?_)
  · obtain ⟨z, rfl, _⟩ := h
    rfl
  · obtain ⟨z, rfl, hz, q⟩ := h
    refine ⟨_, (pss_one (ps_ret (pe_and (pe_callB call_isiC (by rfl) T.isinstance_ (by decide +kernel) (pa_cons (pv 0) (pa_cons (pe_ty "str" rfl T.str_ (by decide +kernel)) pa_nil))) (pe_and (pe_cmpR op_le (pe_callB call_len (by rfl) T.len_ (by decide +kernel) (pa_cons (pv 0) pa_nil)) (pv 1) (nomark _)) (pe_one (pe_callB (cr_all rfl) (by rfl) T.all_ (by decide +kernel) (pa_cons (pe_lc (own := [("sign", 2)]) (g := gName 2) (tt := tYes) rfl sc_is_text.nd (pi_str (pv 0)) (blkOk_by (N := ["thing", "most", "sign"]) (sc := defScope s_is_text) (by decide +kernel)) (fun _ _ _ _ _ => pg_name (i := 2) sc_is_text.nd rfl (Or.inl rfl)) (fun _ _ _ _ _ => pts_nil) (fun _ _ _ _ _ => (pe_cmpR op_in_sign (pv 2) (pe_cs rfl T.SIGNS) rfl))) pa_nil))))))), ?_⟩
    walk_at "rd"
    have h40 := okT_len hz
    refine ⟨sz_of (by omega), ?_⟩
    rw [if_pos (by omega)]
    refine all_str okG (fun Q h => ⟨_, rfl, h⟩) (by omega) (fun _ => rfl) (fun c H Q _ q => ?_) (fun H' k => ?_)
    · walk_at "rd"
      exact q
    · have e : z.cps.toList.all okG = true := by
        simp only [okT, Bool.and_eq_true] at hz
        exact hz.2
      rw [e]
      exact q H' k
theorem sc_are_rows : FnScope ["thing", "row"] ["thing"] (defScope s_are_rows) := ⟨rfl, rfl, rfl, by decide +kernel, rfl, by decide +kernel, by decide +kernel⟩
def spAreRows (K : PySem.W.Frag) : Sp := fun vs H Q _ => ∃ (a : Addr) (zs : List Str), vs = [.ref a] ∧ SqT K H a (zs.map V.str) ∧ zs.length ≤ 40 ∧ (∀ z ∈ zs, okT z = true) ∧ ∀ H', Kp [] H H' → Q (.bl true) H'
theorem ok_are_rows (T : Txt K w mg CN CB CH) (F : At K mg "are_rows" s_are_rows ["thing"]) (G_is_text : Dfd P w K mg base 1 "is_text" ["thing", "most"] [.int 40] spIsText) : Dfn P w K mg base 2 "are_rows" ["thing"] (spAreRows K) := by
  refine F.ok sc_are_rows (fun vs H Q E h => ?_) (fun qual f cdv A outer s H vs Q E hr h => ?_)
  · obtain ⟨a, z, rfl, _⟩ := h
    rfl
  · obtain ⟨a, zs, rfl, hs, hn, hz, q⟩ := h
    refine ⟨_, (pss_one (ps_ret (pe_and (pe_callB call_isiC (by rfl) T.isinstance_ (by decide +kernel) (pa_cons (pv 0) (pa_cons (pe_ty "tuple" rfl T.tuple_ (by decide +kernel)) pa_nil))) (pe_and (pe_cmpR op_le (pe_callB call_len (by rfl) T.len_ (by decide +kernel) (pa_cons (pv 0) pa_nil)) pe_int (nomark _)) (pe_one (pe_callB (cr_all rfl) (by rfl) T.all_ (by decide +kernel) (pa_cons (pe_lc (own := [("row", 1)]) (g := gName 1) (tt := tYes) rfl sc_are_rows.nd (pi_tup (pv 0)) (blkOk_by (N := ["thing", "row"]) (sc := defScope s_are_rows) (by decide +kernel)) (fun _ _ _ _ _ => pg_name (i := 1) sc_are_rows.nd rfl (Or.inl rfl)) (fun _ _ _ _ _ => pts_nil) (fun _ _ _ _ _ => (pe_fd G_is_text hr (pa_cons (pv 1) pa_nil)))) pa_nil))))))), ?_⟩
    walk_at "rd"
    refine ⟨true, isiT hs, ?_⟩
    walk_at "rd"
    refine ⟨_, lenV_T hs, ?_⟩
    rw [List.length_map, if_pos (by omega)]
    refine all_tup (xs := zs.map V.str) (bs := zs.map fun _ => true) (fun Q h => ⟨_, rfl, h⟩) hs (by simp; omega) (by simp) (fun _ => rfl) (fun i x b H' Q hx hb k q => ?_) (fun H' k => ?_)
    · simp only [List.getElem?_map, Option.map_eq_some_iff] at hx hb
      obtain ⟨z, hz1, rfl⟩ := hx
      obtain ⟨_, _, rfl⟩ := hb
      walk_at "rd"
      exact ⟨_, rfl, hz _ (List.mem_of_getElem? hz1), q⟩
    · have := q H' k
      rw [show (List.map (fun _ => true) zs).all id = true by simp]
      exact this
end
end Kq
set_option Elab.async false
set_option linter.all false
set_option maxRecDepth 100000
set_option maxHeartbeats 4000000
namespace Kq
open PySem PySem.Spec PyProof.Rows L2 Fw
local macro_rules | `(tactic| walk_at "rd") => `(tactic| try simp only [tSeq, tNext, tBreak, tCont, tDrop, tRet, tRetN, tIfS, tAsg, tVar, tC, tOp, tUn, tTest, tB, tAnd, tOr, tNot, tAndV, tOrV, tNotV, tIf, tChain, tCB, tCons, tNil, tTup, tLst, tCall, tCallS, WE,
  gName, gSub, rI, rI0, rU, rEq, rNe, rIsiC, tSl, tPart, tNoPart, rSetL, tBM, tBM0, rAppend, rExtend, rExtendT, tCallL, L2.start, List.map_cons, List.map_nil, List.length_cons, List.length_nil, Nat.sub_self, Nat.reduceAdd, Nat.reduceSub, List.replicate_zero, List.replicate_succ, List.append_nil, List.nil_append, List.cons_append,
  List.getElem?_cons_zero, List.getElem?_cons_succ, List.set_cons_zero, List.set_cons_succ, Option.some.injEq, exists_eq_left', exists_eq_left, exists_eq_right, exists_eq_right', exists_const, exists_and_left, exists_and_right, V.int.injEq, V.bl.injEq, V.str.injEq, V.ref.injEq, V.ty.injEq, List.cons.injEq, and_true, true_and, and_assoc, reduceCtorEq, false_and, and_false, exists_false, false_or, or_false,
  if_true, if_false, Bool.not_true, Bool.not_false, Bool.false_eq_true, Bool.true_eq_false, ↓reduceIte, decide_eq_true_eq, decide_true, decide_false, sc_nn, sc_ni, sc_in, sc_nb, sc_bn, sc_ns, sc_sn, sc_ii, sc_bb, sc_ss, sc_is, sc_si, sc_bs, sc_sb, ipI, Int.reduceLT, Int.reduceLE, Int.reduceEq, Nat.reduceLT, Nat.reduceEqDiff, String.reduceEq, nc0, nc1, nc2, nc3, nc4, nc5, nc6, nc7, nc8, nc9, nc10, nc11, nc12, cx_K, cx_w, wipe, lenV_str, rCat, exists_eq, exists_eq', relO, relC, relM, relI, relSl, spOf, ciOf, csOf, crOf, L2.rIxD, eq_self, not_true_eq_false, not_false_eq_true, Option.isSome_some, Option.isSome_none, tCallV, ofS_inj, sg_inj, sg_len, sg_lt, tM1, tM0, tLc_rng1, tLc_rng2, tFor_rng1, tFor_rng2, tDNewK, sDPut,  Nat.reduceLeDiff, Bool.not_eq_true', decide_eq_false_iff_not,
  isi_int_int, isi_int_bool, isi_int_str, isi_int_tuple, isi_int_list, isi_int_dict, isi_bool_int, isi_bool_bool, isi_bool_str, isi_bool_tuple, isi_bool_list, isi_bool_dict, isi_str_int, isi_str_bool, isi_str_str, isi_str_tuple, isi_str_list, isi_str_dict, isi_non_int, isi_non_bool, isi_non_str, isi_non_tuple, isi_non_list, isi_non_dict])
local macro_rules | `(tactic| walk_at "ix") => `(tactic| (refine ixT (by assumption) rfl ?_; walk_at "rd"))
local macro_rules | `(tactic| walk_at "len") => `(tactic| (refine ⟨_, lenV_T (by assumption), ?_⟩; walk_at "rd"))
local macro_rules | `(tactic| walk_at "isT") => `(tactic| (refine ⟨true, isiT (by assumption), ?_⟩; walk_at "rd"))

section
variable {P : Program} {w : World} {K : PySem.W.Frag} {mg : Str → Option Value} {base : Heap} {CN CB CH : Addr}
/-! ### rules under a comprehension: the written part told outright -/
theorem call_lenK {X : Cx} (K : PySem.W.Frag) (h : X.K = K) : CallR X (.builtin "len") (fun xs H Q => ∃ x n, xs = [x] ∧ LenV K x H n ∧ Q (.int (n : Nat)) H) := by
  subst h
  exact call_len
theorem ix_tupK {X : Cx} (K : PySem.W.Frag) (h : X.K = K) : IxR X (rIxT K) := by
  subst h
  exact ix_tup
theorem ix_listK {X : Cx} (K : PySem.W.Frag) (h : X.K = K) : IxR X (rIxL K) := by
  subst h
  exact ix_list
/-! ### the deck -/
structure Dk (K : PySem.W.Frag) (H : Hp) (d c : Addr) (n : Nat) : Prop where
  ne : c ≠ d
  ex : ∃ (xs : List Int) (i t : Nat) (b : Int), H d = some (.lst [.ref c, .int i, .int b, .int t]) ∧ H c = some (.lst (xs.map V.int)) ∧ xs.length ≤ 100 ∧ i ≤ xs.length ∧ t ≤ n ∧ 0 ≤ b
theorem Dk.mono {H : Hp} {d c : Addr} {n m : Nat} (h : Dk K H d c n) (l : n ≤ m) : Dk K H d c m := by
  obtain ⟨ne, xs, i, t, b, h1, h2, h3, h4, h5, h6⟩ := h
  exact ⟨ne, xs, i, t, b, h1, h2, h3, h4, Nat.le_trans h5 l, h6⟩
theorem Dk.kp {H H' : Hp} {M : List Addr} {d c : Addr} {n : Nat} (h : Dk K H d c n) (k : Kp M H H') (hd : d ∉ M) (hc : c ∉ M) : Dk K H' d c n := by
  obtain ⟨ne, xs, i, t, b, h1, h2, r⟩ := h
  exact ⟨ne, xs, i, t, b, k.at h1 hd, k.at h2 hc, r⟩
theorem Dk.kp0 {H H' : Hp} {d c : Addr} {n : Nat} (h : Dk K H d c n) (k : Kp [] H H') : Dk K H' d c n := h.kp k (by simp) (by simp)
theorem Dk.wr {H : Hp} {d c p : Addr} {n : Nat} {o : HO} (h : Dk K H d c n) (hp : d ≠ p) (hc : c ≠ p) : Dk K (upd H p o) d c n := by
  obtain ⟨ne, xs, i, t, b, h1, h2, r⟩ := h
  exact ⟨ne, xs, i, t, b, by rw [upd_ne hp]; exact h1, by rw [upd_ne hc]; exact h2, r⟩
theorem Dk.put {H : Hp} {d c p : Addr} {n : Nat} {xs ys : List V} (h : Dk K H d c n) (e : H p = some (.lst xs)) (hp : p ≠ d) (hc : p ≠ c) : Dk K (upd H p (.lst ys)) d c n :=
  h.kp (M := [p]) (Kp.refl.put e (mu_of trivial) (by simp)) (by simpa using fun z => hp z.symm) (by simpa using fun z => hc z.symm)
theorem Dk.d {H : Hp} {d c p : Addr} {n : Nat} (h : Dk K H d c n) (e : H p = none) : d ≠ p ∧ c ≠ p := by
  obtain ⟨ne, xs, i, t, b, h1, h2, r⟩ := h
  exact ⟨ne_of_none h1 e, ne_of_none h2 e⟩
theorem Dk.new {H : Hp} {d c p : Addr} {n : Nat} {o : HO} (h : Dk K H d c n) (e : H p = none) : Dk K (upd H p o) d c n := h.kp0 (Kp.refl.new e)
/-- what a generator promises -/
def spG (K : PySem.W.Frag) (cost : Nat) (pre : List V) (R : V → Hp → Prop) : Sp := fun vs H Q _ => ∃ (d c : Addr) (n : Nat), vs = .ref d :: pre ∧ Dk K H d c n ∧ n + cost ≤ 900000 ∧ ∀ H' v, Kp [d] H H' → Dk K H' d c (n + cost) → R v H' → Q v H'
/-- a comprehension whose items draw -/
theorem lc_deck {J : It} {cnt j n0 cost : Nat} {G : Hp → Prop} {Y : Nat → Hp → V → Hp → Prop} {te : TE} {vs : List Nat} {σ : L2.St} {H1 : Hp} {D d c : Addr} {Qd : Hp → Prop} (w : Walk J cnt G Y) (hG : ∀ H, G H) (hY : ∀ i H x H', Y i H x H' → H' = H)
    (hD : H1 D = none) (hn : cnt ≤ 100000) (hw : ∀ x, wipe ((wipe σ vs).set j (some x)) vs = wipe σ vs) (R : V → Hp → Prop) (hR : ∀ v H H', R v H → Kp [D, d] H H' → R v H') (h0 : Dk K H1 d c n0)
    (he : ∀ i x H (Q : VK), i < cnt → Kp [d] H1 H → Dk K H d c (n0 + i * cost) → (∀ H' y, Kp [d] H H' → Dk K H' d c (n0 + i * cost + cost) → R y H' → Q y H') → te ((wipe σ vs).set j (some x)) H Q)
    (hd : ∀ H' ys, Kp [d] H1 H' → Dk K H' d c (n0 + cnt * cost) → H' D = some (.lst ys) → ys.length = cnt → (∀ y ∈ ys, R y H') → Qd H') : LcGoal J (gName j) te vs σ H1 D Qd := by
  obtain ⟨hd1, hc1⟩ := h0.d hD
  refine lcS (M := [d]) w hD (by simpa using fun z => hd1 z.symm) hn (fun i H => Dk K H d c (n0 + i * cost)) (fun _ v H => R v H) (fun _ v H H' r k => hR v H H' r k) (fun i H xs ys e s => s.put e (fun z => hd1 z.symm) (fun z => hc1 z.symm)) (by simpa using h0.new hD) (fun _ H _ _ => hG H)
    (fun i x H H' Q hi k s y q => ⟨hw x, ?_⟩) (fun _ _ _ _ _ _ _ h a => gName_mono h a) (fun H' ys k s e l r => hd H' ys k s e l fun y hy => ?_)
  · obtain rfl := hY _ _ _ _ y
    refine he i x H' Q hi k s fun H2 y2 k2 s2 r2 => q y2 H2 k2 ?_ r2
    have e : n0 + (i + 1) * cost = n0 + i * cost + cost := by rw [Nat.add_mul, Nat.one_mul]; omega
    rw [e]
    exact s2
  · obtain ⟨i, hi⟩ := List.mem_iff_getElem?.mp hy
    exact r i y hi
theorem rng_deck {cnt j n0 cost : Nat} {lo : Int} {te : TE} {vs : List Nat} {σ : L2.St} {H1 : Hp} {d c : Addr} {Q : VK} (R : V → Hp → Prop) (h0 : Dk K H1 d c n0) (hn : cnt ≤ 1000) (hw : ∀ x, wipe ((wipe σ vs).set j (some x)) vs = wipe σ vs) (hR : ∀ D v H H', H1 D = none → R v H → Kp [D, d] H H' → R v H')
    (he : ∀ i x H (Q : VK), i < cnt → Kp [d] H1 H → Dk K H d c (n0 + i * cost) → (∀ H' y, Kp [d] H H' → Dk K H' d c (n0 + i * cost + cost) → R y H' → Q y H') → te ((wipe σ vs).set j (some x)) H Q)
    (hd : ∀ H' D ys, Kp [d] H1 H' → Dk K H' d c (n0 + cnt * cost) → H' D = some (.lst ys) → ys.length = cnt → (∀ y ∈ ys, R y H') → Q (.ref D) H') : RngGoal lo cnt (gName j) te vs σ Q H1 :=
  fun D hD => lc_deck walk_range (fun _ => trivial) (fun _ _ _ _ y => y.1) hD (by omega) hw R (fun v H H' => hR D v H H' hD) h0 he fun H' ys k s e l r => hd H' D ys k s e l r
theorem join_one (cs : List Nat) : Txt.join ("" : Str) (cs.map fun c => (⟨#[c]⟩ : Str)) = ⟨cs.toArray⟩ := by
  rw [show Txt.join ("" : Str) (cs.map fun c => (⟨#[c]⟩ : Str)) = Str.join ("" : Str) (cs.map fun c => (⟨#[c]⟩ : Str)) from eq_of_beq (PyProof.Rows.join_closes rfl)]
  induction cs with
  | nil => rfl
  | cons c cs ih =>
    cases cs with
    | nil => rfl
    | cons c2 cs =>
      simp only [List.map_cons, Str.join] at ih ⊢
      rw [ih]
      show (⟨(#[c] ++ #[]) ++ (c2 :: cs).toArray⟩ : Str) = _
      simp
theorem vals_of {α : Type} (f : α → V) (R : α → Prop) : ∀ ys : List V, (∀ y ∈ ys, ∃ x, y = f x ∧ R x) → ∃ xs : List α, ys = xs.map f ∧ ∀ x ∈ xs, R x
  | [], _ => ⟨[], rfl, fun c h => by cases h⟩
  | y :: r, h => by
    obtain ⟨x, hx, hr⟩ := h y (by simp)
    obtain ⟨xs, e, hz⟩ := vals_of f R r fun y hy => h y (List.mem_cons_of_mem _ hy)
    refine ⟨x :: xs, by rw [hx, e]; rfl, fun c hc => ?_⟩
    rcases List.mem_cons.mp hc with rfl | hc
    · exact hr
    · exact hz c hc
/-- the signs that were drawn, joined -/
theorem signs_end {z : List Nat} {H' : Hp} {D : Addr} {ys : List V} {cnt : Nat} {Q : VK} (e1 : H' D = some (.lst ys)) (hl : ys.length = cnt) (hc : cnt ≤ 1000) (r : ∀ y ∈ ys, ∃ c, y = .str ⟨#[c]⟩ ∧ c ∈ z) (q : ∀ s : Str, s.length = cnt → (∀ c ∈ s.cps.toList, c ∈ z) → Q (.str s) H') :
    ∃ x, V.ref D = V.ref x ∧ ∃ xs, (SqL K H' x (List.map V.str xs) ∨ SqT K H' x (List.map V.str xs)) ∧ (List.map (fun x => x.length) xs).sum + xs.length * (Str.ofString "").length ≤ 16777216 ∧ Q (V.str (Txt.join (Str.ofString "") xs)) H' := by
  obtain ⟨cs, rfl, hz⟩ : ∃ cs : List Nat, ys = cs.map (fun c => V.str ⟨#[c]⟩) ∧ ∀ c ∈ cs, c ∈ z := by
    clear e1 hl hc
    induction ys with
    | nil => exact ⟨[], rfl, fun c h => by cases h⟩
    | cons y r ih =>
      have r2 := r y (by simp)
      obtain ⟨cs, rfl, h⟩ := ih fun y hy => r y (List.mem_cons_of_mem _ hy)
      obtain ⟨c, rfl, hc⟩ := r2
      refine ⟨c :: cs, rfl, fun c2 hc2 => ?_⟩
      rcases List.mem_cons.mp hc2 with rfl | hc2
      · exact hc
      · exact h c2 hc2
  rw [List.length_map] at hl
  refine ⟨D, rfl, cs.map fun c => ⟨#[c]⟩, .inl (.inl (.inl (by rw [e1, List.map_map]; rfl))), ?_, ?_⟩
  · have e0 : (Str.ofString "").length = 0 := rfl
    have e2 : (List.map (fun x : Str => x.length) (cs.map fun c => (⟨#[c]⟩ : Str))).sum = cs.length := by
      clear e1 hl hz r
      induction cs with
      | nil => rfl
      | cons c r ih =>
        rw [List.map_cons, List.map_cons, List.sum_cons, ih, sg_len, List.length_cons]
        omega
    rw [e0, e2]
    omega
  · rw [join_one]
    exact q _ (by show cs.toArray.size = _; simp [hl]) (by simpa using hz)
theorem sc_l_deck : FnScope ["_law_script"] ["_law_script"] (defScope s_l_deck) := ⟨rfl, rfl, rfl, by decide +kernel, rfl, by decide +kernel, by decide +kernel⟩
theorem sc_l_mixed : FnScope ["_law_cell", "_law_turn"] ["_law_cell", "_law_turn"] (defScope s_l_mixed) := ⟨rfl, rfl, rfl, by decide +kernel, rfl, by decide +kernel, by decide +kernel⟩
theorem sc_l_draw : FnScope ["_law_deck_here", "_law_many", "_law_cells", "_law_found", "_law_number"] ["_law_deck_here", "_law_many"] (defScope s_l_draw) := ⟨rfl, rfl, rfl, by decide +kernel, rfl, by decide +kernel, by decide +kernel⟩
def spDeck (K : PySem.W.Frag) : Sp := fun vs H Q _ => ∃ (a : Addr) (xs : List Int), vs = [.ref a] ∧ SqL K H a (xs.map V.int) ∧ xs.length ≤ 100 ∧ ∀ H' d c, Kp [] H H' → Dk K H' d c 0 → Fr H d → H c = none → Q (.ref d) H'
theorem ok_deck (T : Txt K w mg CN CB CH) (F : At K mg "_law_deck" s_l_deck ["_law_script"]) : Dfn P w K mg base 1 "_law_deck" ["_law_script"] (spDeck K) := by
  refine F.ok sc_l_deck (fun vs H Q E h => ?_) (fun qual f cdv A outer s H vs Q E hr h => ?_)
  · obtain ⟨a, xs, rfl, _⟩ := h
    rfl
  · refine ⟨_, (pss_one (ps_ret (pe_lst (pa_cons (pe_callTy call_list_of (by rfl) T.list_ (by decide +kernel) (pa_cons (pv 0) pa_nil)) (pa_cons pe_int (pa_cons pe_int (pa_cons pe_int pa_nil))))))), ?_⟩
    obtain ⟨a, xs, rfl, hs, hl, q⟩ := h
    walk_at "rd"
    refine ⟨_, .inl hs, fun c hc => ⟨by decide, fun d hd => ?_⟩⟩
    have ne : c ≠ d := ne_of_none upd_same hd
    exact q _ d c ((Kp.refl.new hc).new hd) ⟨ne, xs, 0, 0, 0, upd_same, by rw [upd_ne ne, upd_same], hl, Nat.zero_le _, Nat.le_refl _, Int.le_refl _⟩ (Fr.of (by rw [← hd, upd_ne (Ne.symm ne)])) hc
def spMixed : Sp := fun vs H Q _ => ∃ (i t : Int), vs = [.int i, .int t] ∧ 0 ≤ t ∧ t ≤ 1000001 ∧ ∀ r : Int, 0 ≤ r → r < 2147483647 → Q (.int r) H
theorem ok_mixed (T : Txt K w mg CN CB CH) (F : At K mg "_law_mixed" s_l_mixed ["_law_cell", "_law_turn"]) : Dfn P w K mg base 1 "_law_mixed" ["_law_cell", "_law_turn"] spMixed := by
  refine F.ok sc_l_mixed (fun vs H Q E h => ?_) (fun qual f cdv A outer s H vs Q E hr h => ?_)
  · obtain ⟨i, t, rfl, _⟩ := h
    rfl
  · refine ⟨_, (pss_one (ps_ret (pe_op op_mod (pe_op op_pow (pe_op op_add (pe_op op_add (pe_op op_mod (pv 0) pe_int) (pe_op op_mul (pv 1) pe_int)) pe_int) pe_int) pe_int))), ?_⟩
    obtain ⟨i, t, rfl, h0, ht, q⟩ := h
    walk_at "rd"
    have l1 : 0 ≤ i % 2147483629 := Int.emod_nonneg _ (by decide)
    have l2 : i % 2147483629 < 2147483629 := Int.emod_lt_of_pos _ (by decide)
    refine ⟨.inr ⟨by decide, by decide⟩, ⟨by decide, by decide, by omega⟩, q _ (Int.emod_nonneg _ (by decide)) (Int.emod_lt_of_pos _ (by decide))⟩
theorem Dk.set {H H1 : Hp} {d c : Addr} {xs ys cs : List V} (k : Kp [d] H H1) (h1 : H1 d = some (.lst xs)) (h2 : H1 c = some (.lst cs)) (ne : c ≠ d) : Kp [d] H (upd H1 d (.lst ys)) ∧ (upd H1 d (.lst ys)) c = some (.lst cs) ∧ (upd H1 d (.lst ys)) d = some (.lst ys) := by
  have k1 : Kp [d] H1 (upd H1 d (.lst ys)) := Kp.refl.put h1 (mu_of trivial) (by simp)
  exact ⟨k.trans k1, k1.at h2 (by simpa using ne), upd_same⟩
theorem at_ints {xs : List Int} {i : Int} (h0 : 0 ≤ i) (h1 : i < xs.length) : ∃ z : Int, atI (xs.map V.int) i = some (.int z) := by
  have h2 : i.toNat < xs.length := by omega
  refine ⟨xs[i.toNat], ?_⟩
  have e : i = ((i.toNat : Nat) : Int) := by omega
  have h := atI_nat (xs := xs.map V.int) (j := i.toNat) (v := .int xs[i.toNat]) (by simp [h2])
  rwa [← e] at h
theorem div_ok {m : Int} (hm : 0 < m) (hm2 : m ≤ 10 ^ 100) (i : Int) : CDivW i m := by
  refine wide_div (b := 400) hm ?_ (by decide) (by decide)
  have e : (10 : Int) ^ 100 < 2 ^ 400 := by decide +kernel
  omega
theorem okL_of {z : Str} (h0 : 1 ≤ z.length) (h1 : z.length ≤ 8) (h2 : ∀ c ∈ z.cps.toList, okC c = true) : okL z = true := by
  simp only [okL, Bool.and_eq_true, decide_eq_true_eq]
  exact ⟨⟨h0, h1⟩, List.all_eq_true.mpr h2⟩
local macro_rules | `(tactic| walk_at "d") => `(tactic| (refine ixL (.inl (.inl (by assumption))) rfl ?_; walk_at "rd"))
def spDraw (K : PySem.W.Frag) : Sp := fun vs H Q _ => ∃ (d c : Addr) (n : Nat) (m : Int), vs = [.ref d, .int m] ∧ Dk K H d c n ∧ n < 1000000 ∧ 0 < m ∧ m ≤ 10 ^ 100 ∧ ∀ H' (r : Int), Kp [d] H H' → Dk K H' d c (n + 1) → 0 ≤ r → r < m → Q (.int r) H'
/-- a draw of a known deck -/
theorem spDraw_mk {H : Hp} {d c : Addr} {n : Nat} {m : Int} {Q : VK} {E : XK} (hd : Dk K H d c n) (hn : n < 1000000) (hm : 0 < m) (hm2 : m ≤ 10 ^ 100) (q : ∀ H' (r : Int), Kp [d] H H' → Dk K H' d c (n + 1) → 0 ≤ r → r < m → Q (.int r) H') : spDraw K [V.ref d, .int m] H Q E := ⟨d, c, n, m, rfl, hd, hn, hm, hm2, q⟩
/-- a generator's call of a known deck -/
theorem spG_mk {cost : Nat} {pre : List V} {R : V → Hp → Prop} {H : Hp} {d c : Addr} {n : Nat} {Q : VK} {E : XK} (hd : Dk K H d c n) (hn : n + cost ≤ 900000) (q : ∀ H' v, Kp [d] H H' → Dk K H' d c (n + cost) → R v H' → Q v H') : spG K cost pre R (.ref d :: pre) H Q E := ⟨d, c, n, rfl, hd, hn, q⟩
theorem ok_draw (T : Txt K w mg CN CB CH) (F : At K mg "_law_draw" s_l_draw ["_law_deck_here", "_law_many"]) (G_l_mixed : Dfn P w K mg base 1 "_law_mixed" ["_law_cell", "_law_turn"] spMixed) : Dfn P w K mg base 2 "_law_draw" ["_law_deck_here", "_law_many"] (spDraw K) := by
  refine F.ok sc_l_draw (fun vs H Q E h => ?_) (fun qual f cdv A outer s H vs Q E hr h => ?_)
  · obtain ⟨d, c, n, m, rfl, _⟩ := h
    rfl
  · refine ⟨_, (pss_cons (ps_set (i := 2) sc_l_draw.nd rfl (Or.inl rfl) (pe_ix ix_list (pv 0) pe_int (fun _ _ => rfl)))
      (pss_cons (ps_asg (pe_op op_add (pe_ix ix_list (pv 0) pe_int (fun _ _ => rfl)) pe_int) (pg_sub (pv 0) pe_int set_list))
      (pss_cons (ps_if (PW.pt (pw_and (pt_cmpR op_eq (pe_ix ix_list (pv 0) pe_int (fun _ _ => rfl)) pe_int (nomark _)) (pw_and1 (pt_cmpR op_lt (pe_ix ix_list (pv 0) pe_int (fun _ _ => rfl)) (pe_callB call_len (by rfl) T.len_ (by decide +kernel) (pa_cons (pv 2) pa_nil)) (nomark _))))) (pss_cons (ps_asg (pe_op op_add (pe_ix ix_list (pv 0) pe_int (fun _ _ => rfl)) pe_int) (pg_sub (pv 0) pe_int set_list))
      (pss_cons (ps_if (pt_cmpR op_lt (pe_ix ix_list (pv 2) (pe_op op_sub (pe_ix ix_list (pv 0) pe_int (fun _ _ => rfl)) pe_int) (fun _ _ => rfl)) (pe_op op_pow pe_int pe_int) (nomark _)) (pss_one (ps_ret (pe_op op_mod (pe_fn G_l_mixed hr (pa_cons (pe_ix ix_list (pv 2) (pe_op op_sub (pe_ix ix_list (pv 0) pe_int (fun _ _ => rfl)) pe_int) (fun _ _ => rfl)) (pa_cons (pe_ix ix_list (pv 0) pe_int (fun _ _ => rfl)) pa_nil))) (pv 1)))) pss_nil)
      (pss_one (ps_asg (pe_ix ix_list (pv 2) (pe_op op_sub (pe_ix ix_list (pv 0) pe_int (fun _ _ => rfl)) pe_int) (fun _ _ => rfl)) (pg_sub (pv 0) pe_int set_list))))) pss_nil)
      (pss_cons (ps_if (pt_cmpR op_gt (pe_ix ix_list (pv 0) pe_int (fun _ _ => rfl)) pe_int (nomark _)) (pss_cons (ps_set (i := 3) sc_l_draw.nd rfl (Or.inl rfl) (pe_op op_mod (pe_ix ix_list (pv 0) pe_int (fun _ _ => rfl)) (pv 1)))
      (pss_cons (ps_asg (pe_op op_fdivW (pe_ix ix_list (pv 0) pe_int (fun _ _ => rfl)) (pv 1)) (pg_sub (pv 0) pe_int set_list))
      (pss_one (ps_ret (pv 3))))) pss_nil)
      (pss_cons (ps_set (i := 4) sc_l_draw.nd rfl (Or.inl rfl) (pe_op op_mul (pe_ix ix_list (pv 0) pe_int (fun _ _ => rfl)) pe_int))
      (pss_cons (ps_if (pt_cmpR op_gt (pe_callB call_len (by rfl) T.len_ (by decide +kernel) (pa_cons (pv 2) pa_nil)) pe_int (nomark _)) (pss_one (ps_set (i := 4) sc_l_draw.nd rfl (Or.inl rfl) (pe_op op_add (pv 4) (pe_op op_mod (pe_ix ix_list (pv 2) (pe_op op_mod (pe_op op_mul (pe_ix ix_list (pv 0) pe_int (fun _ _ => rfl)) pe_int) (pe_callB call_len (by rfl) T.len_ (by decide +kernel) (pa_cons (pv 2) pa_nil))) (fun _ _ => rfl)) pe_int)))) pss_nil)
      (pss_one (ps_ret (pe_op op_mod (pe_fn G_l_mixed hr (pa_cons (pv 4) (pa_cons (pe_ix ix_list (pv 0) pe_int (fun _ _ => rfl)) pa_nil))) (pv 1)))))))))), ?_⟩
    obtain ⟨d, c, n, m, rfl, ⟨ne, xs, i, t, b, h1, h2, h3, h4, h5, h6⟩, hn, hm, hm2, q⟩ := h
    have done : ∀ (H2 : Hp) (i2 t2 : Nat) (b2 r : Int), Kp [d] H H2 → H2 d = some (.lst [.ref c, .int i2, .int b2, .int t2]) → H2 c = some (.lst (xs.map V.int)) → i2 ≤ xs.length → t2 ≤ n + 1 → 0 ≤ b2 → Q (.int (r % m)) H2 := fun H2 i2 t2 b2 r k e1 e2 e3 e4 e5 =>
      q H2 _ k ⟨ne, xs, i2, t2, b2, e1, e2, h3, e3, e4, e5⟩ (Int.emod_nonneg _ (by omega)) (Int.emod_lt_of_pos _ hm)
    walk_at "rd"
    walk_at "d"
    walk_at "d"
    refine ⟨_, h1, 3, rfl, ?_⟩
    obtain ⟨k2, c2, hD⟩ := Dk.set (ys := [V.ref c, V.int i, V.int b, V.int (t + 1)]) Kp.refl h1 h2 ne
    walk_at "rd"
    generalize upd H d (.lst [V.ref c, V.int i, V.int b, V.int (t + 1)]) = H2 at k2 c2 hD ⊢
    walk_at "d"
    have mixed : ∀ (H3 : Hp) (i3 : Nat), Kp [d] H H3 → H3 d = some (.lst [.ref c, .int i3, .int 0, .int (t + 1)]) → H3 c = some (.lst (xs.map V.int)) → i3 ≤ xs.length → ∀ r : Int, spMixed [.int r, .int (t + 1)] H3 (fun x H1 => ∃ i, x = V.int i ∧ 0 < m ∧ Q (V.int (i % m)) H1) E0 :=
      fun H3 i3 k e1 e2 e3 r => ⟨r, _, rfl, by omega, by omega, fun z z0 z1 => ⟨z, rfl, hm, done H3 i3 (t + 1) 0 z k e1 e2 e3 (by omega) (by decide)⟩⟩
    by_cases hb : b = 0
    · subst hb
      rw [if_pos rfl]
      walk_at "d"
      refine ⟨_, lenV_L (SqL.of c2), ?_⟩
      rw [List.length_map]
      by_cases hi : i < xs.length
      · rw [if_pos (by omega)]
        walk_at "d"
        refine ⟨_, hD, 1, rfl, ?_⟩
        obtain ⟨k3, c3, hD3⟩ := Dk.set (ys := [V.ref c, V.int ((i + 1 : Nat) : Int), V.int 0, V.int (t + 1)]) k2 hD c2 ne
        have e1 : ((i : Int) + 1) = ((i + 1 : Nat) : Int) := rfl
        rw [e1]
        walk_at "rd"
        generalize upd H2 d (.lst [V.ref c, V.int ((i + 1 : Nat) : Int), V.int 0, V.int (t + 1)]) = H3 at k3 c3 hD3 ⊢
        walk_at "d"
        obtain ⟨z, hz⟩ := at_ints (xs := xs) (i := ((i + 1 : Nat) : Int) - 1) (by omega) (by omega)
        refine ixL (SqL.of c3) hz ?_
        walk_at "rd"
        refine ⟨⟨by decide, by decide, by decide⟩, ?_⟩
        by_cases hz1 : z < 10 ^ 18
        · rw [if_pos (by exact hz1)]
          walk_at "d"
          refine ixL (SqL.of c3) hz ?_
          walk_at "d"
          exact mixed H3 (i + 1) k3 hD3 c3 hi z
        · rw [if_neg (by exact hz1)]
          walk_at "d"
          refine ixL (SqL.of c3) hz ?_
          walk_at "rd"
          refine ⟨_, hD3, 2, rfl, ?_⟩
          obtain ⟨k4, c4, hD4⟩ := Dk.set (ys := [V.ref c, V.int ((i + 1 : Nat) : Int), V.int z, V.int (t + 1)]) k3 hD3 c3 ne
          walk_at "rd"
          generalize upd H3 d (.lst [V.ref c, V.int ((i + 1 : Nat) : Int), V.int z, V.int (t + 1)]) = H4 at k4 c4 hD4 ⊢
          have hz0 : 0 < z := by omega
          walk_at "d"
          rw [if_pos hz0]
          walk_at "d"
          refine ⟨hm, ?_⟩
          walk_at "d"
          refine ⟨div_ok hm hm2 _, _, hD4, 2, rfl, ?_⟩
          obtain ⟨k5, c5, hD5⟩ := Dk.set (ys := [V.ref c, V.int ((i + 1 : Nat) : Int), V.int (z / m), V.int (t + 1)]) k4 hD4 c4 ne
          exact done _ (i + 1) (t + 1) _ z k5 hD5 c5 hi (by omega) (Int.ediv_nonneg (by omega) (by omega))
      · rw [if_neg (by omega)]
        walk_at "d"
        walk_at "d"
        refine ⟨.inr ⟨by decide, by decide⟩, _, lenV_L (SqL.of c2), ?_⟩
        rw [List.length_map]
        by_cases hx : 0 < xs.length
        · rw [if_pos (by omega)]
          walk_at "d"
          refine ⟨.inr ⟨by decide, by decide⟩, _, lenV_L (SqL.of c2), ?_⟩
          rw [List.length_map]
          obtain ⟨z, hz⟩ := at_ints (xs := xs) (i := (((t : Int) + 1) * 7) % (xs.length : Int)) (Int.emod_nonneg _ (by omega)) (Int.emod_lt_of_pos _ (by omega))
          refine ⟨by omega, ixL (SqL.of c2) hz ?_⟩
          walk_at "rd"
          walk_at "d"
          exact mixed H2 i k2 hD c2 h4 _
        · rw [if_neg (by omega)]
          walk_at "d"
          exact mixed H2 i k2 hD c2 h4 _
    · rw [if_neg hb]
      walk_at "d"
      rw [if_pos (by omega)]
      walk_at "d"
      refine ⟨hm, ?_⟩
      walk_at "d"
      refine ⟨div_ok hm hm2 _, _, hD, 2, rfl, ?_⟩
      obtain ⟨k5, c5, hD5⟩ := Dk.set (ys := [V.ref c, V.int i, V.int (b / m), V.int (t + 1)]) k2 hD c2 ne
      exact done _ i (t + 1) _ b k5 hD5 c5 h4 (by omega) (Int.ediv_nonneg h6 (by omega))
theorem sign_of {z : Str} {r : Int} (h0 : 0 ≤ r) (h1 : r < (z.length : Nat)) : ∃ c, atI z.cps.toList r = some c ∧ c ∈ z.cps.toList := by
  have h2 : r.toNat < z.cps.toList.length := by
    show r.toNat < z.cps.size
    have e : z.length = z.cps.size := rfl
    omega
  have e : r = ((r.toNat : Nat) : Int) := by omega
  have h3 := atI_nat (List.getElem?_eq_getElem h2)
  rw [← e] at h3
  exact ⟨_, h3, List.getElem_mem h2⟩
theorem sc_l_label : FnScope ["_law_deck_here", "_law_letters", "_law_k"] ["_law_deck_here"] (defScope s_l_label) := ⟨rfl, rfl, rfl, by decide +kernel, rfl, by decide +kernel, by decide +kernel⟩
def RLabel : V → Hp → Prop := fun v _ => ∃ z, v = .str z ∧ okL z = true
theorem okL_one {c : Nat} (h : okC c = true) : okL ⟨#[c]⟩ = true := by
  refine okL_of (Nat.le_refl 1) (by show 1 ≤ 8; decide) fun c2 hc => ?_
  have e : c2 = c := by simpa using hc
  rw [e]
  exact h
theorem ok_label (T : Txt K w mg CN CB CH) (F : At K mg "_law_label" s_l_label ["_law_deck_here"]) (G_l_draw : Dfn P w K mg base 2 "_law_draw" ["_law_deck_here", "_law_many"] (spDraw K)) : Dfn P w K mg base 3 "_law_label" ["_law_deck_here"] (spG K 10 [] RLabel) := by
  refine F.ok sc_l_label (fun vs H Q E h => ?_) (fun qual f cdv A outer s H vs Q E hr h => ?_)
  · obtain ⟨d, c, n0, rfl, _⟩ := h
    rfl
  · refine ⟨_, (pss_cons (ps_if (pt_cmpR op_gt (pe_fn G_l_draw hr (pa_cons (pv 0) (pa_cons pe_int pa_nil))) pe_int (nomark _)) (pss_one (ps_ret (pe_ix ix_str pe_str (pe_fn G_l_draw hr (pa_cons (pv 0) (pa_cons pe_int pa_nil))) (fun _ _ => rfl)))) pss_nil)
      (pss_cons (ps_set (i := 1) sc_l_label.nd rfl (Or.inr rfl) pe_str)
      (pss_one (ps_ret (pe_join pe_str (pe_lc (own := [("_law_k", 2)]) (g := gName 2) (tt := tYes) rfl sc_l_label.nd (pi_range1 rfl T.range_ (pa_cons (pe_op op_add pe_int (pe_fn G_l_draw hr (pa_cons (pv 0) (pa_cons pe_int pa_nil)))) pa_nil)) (blkOk_by (N := ["_law_deck_here", "_law_letters", "_law_k"]) (sc := defScope s_l_label) (by decide +kernel)) (fun _ _ _ _ _ => pg_name (i := 2) sc_l_label.nd rfl (Or.inl rfl)) (fun _ _ _ _ _ => pts_nil) (fun _ _ _ _ _ => (pe_ix ix_str (pv 1) (pe_fn G_l_draw hr (pa_cons (pv 0) (pa_cons pe_int pa_nil))) (fun _ _ => rfl))))))))), ?_⟩
    obtain ⟨d, c, n0, rfl, hd, hn, q⟩ := h
    walk_at "rd"
    refine spDraw_mk hd (by omega) (by decide) (by decide) fun H1 r k1 hd1 r0 r1 => ?_
    walk_at "rd"
    by_cases hr0 : 0 < r
    · rw [if_pos hr0]
      refine spDraw_mk hd1 (by omega) (by decide) (by decide) fun H2 r2 k2 hd2 r20 r21 => ?_
      obtain ⟨c2, hc2, hc3⟩ := sign_of (z := "abcd") r20 (by have : ("abcd" : Str).length = 4 := by decide +kernel
                                                             omega)
      refine ixS (by decide +kernel) hc2 (q H2 _ (k1.trans k2) (hd2.mono (by omega)) ⟨_, rfl, okL_one ((by decide +kernel : ∀ c ∈ ("abcd" : Str).cps.toList, okC c = true) c2 hc3)⟩)
    · rw [if_neg hr0]
      refine spDraw_mk hd1 (by omega) (by decide) (by decide) fun H2 i k2 hd2 i0 i1 => ?_
      walk_at "rd"
      refine ⟨by omega, by omega, ?_⟩
      refine rng_deck (cost := 1) (fun v _ => ∃ c, v = .str ⟨#[c]⟩ ∧ c ∈ (sNum).cps.toList) hd2 (by omega) (fun _ => rfl) (fun _ _ _ _ _ r _ => r) (fun i2 x H3 Q3 hi k3 hd3 q3 => ?_) (fun H3 D ys k3 hd3 e1 e2 r => ?_)
      · walk_at "rd"
        refine spDraw_mk hd3 (by omega) (by decide) (by decide) fun H4 r k4 hd4 r0 r1 => ?_
        obtain ⟨c2, hc2, hc3⟩ := sign_of (z := sNum) r0 (by have : sNum.length = 26 := by decide +kernel
                                                            omega)
        exact ixS (by decide +kernel) hc2 (q3 H4 _ k4 hd4 ⟨c2, rfl, hc3⟩)
      · refine signs_end e1 e2 (by omega) r fun s hs1 hs2 => q H3 _ ((k1.trans k2).trans k3) (hd3.mono (by omega)) ⟨s, rfl, okL_of (by omega) (by omega) (fun c hc => ?_)⟩
        simp only [okC, decide_eq_true_eq]
        exact hs2 c hc
end
end Kq
set_option Elab.async false
set_option linter.all false
set_option maxRecDepth 100000
set_option maxHeartbeats 4000000
namespace Kq
open PySem PySem.Spec PyProof.Rows L2 Fw
local macro_rules | `(tactic| walk_at "rd") => `(tactic| try simp only [tMeth, tMake, tFld, sFld, sFldAug, tMethT, tCallVT, tDNewN, tNo, tNoE, cx_P, tDIn, tDNotIn, tDGet, tDGet2, tMx, tRaiseF, tXfX, tXf, tSeq, tNext, tBreak, tCont, tDrop, tRet, tRetN, tIfS, tAsg, tVar, tC, tOp, tUn, tTest, tB, tAnd, tOr, tNot, tAndV, tOrV, tNotV, tIf, tChain, tCB, tCons, tNil, tTup, tLst, tCall, tCallS, WE,
  gName, gSub, rI, rI0, rU, rEq, rNe, rIsiC, tSl, tPart, tNoPart, rSetL, tBM, tBM0, rAppend, rExtend, rExtendT, tCallL, L2.start, List.map_cons, List.map_nil, List.length_cons, List.length_nil, Nat.sub_self, Nat.reduceAdd, Nat.reduceSub, List.replicate_zero, List.replicate_succ, List.append_nil, List.nil_append, List.cons_append,
  List.getElem?_cons_zero, List.getElem?_cons_succ, List.set_cons_zero, List.set_cons_succ, Option.some.injEq, exists_eq_left', exists_eq_left, exists_eq_right, exists_eq_right', exists_const, exists_and_left, exists_and_right, V.int.injEq, V.bl.injEq, V.str.injEq, V.ref.injEq, V.ty.injEq, List.cons.injEq, and_true, true_and, and_assoc, reduceCtorEq, false_and, and_false, exists_false, false_or, or_false,
  if_true, if_false, Bool.not_true, Bool.not_false, Bool.false_eq_true, Bool.true_eq_false, ↓reduceIte, decide_eq_true_eq, decide_true, decide_false, sc_nn, sc_ni, sc_in, sc_nb, sc_bn, sc_ns, sc_sn, sc_ii, sc_bb, sc_ss, sc_is, sc_si, sc_bs, sc_sb, ipI, Int.reduceLT, Int.reduceLE, Int.reduceEq, Nat.reduceLT, Nat.reduceEqDiff, String.reduceEq, nc0, nc1, nc2, nc3, nc4, nc5, nc6, nc7, nc8, nc9, nc10, nc11, nc12, cx_K, cx_w, wipe, lenV_str, rCat, exists_eq, exists_eq', relO, relC, relM, relI, relSl, spOf, ciOf, csOf, crOf, L2.rIxD, eq_self, not_true_eq_false, not_false_eq_true, Option.isSome_some, Option.isSome_none, tCallV, ofS_inj, sg_inj, sg_len, sg_lt, tM1, tM0, tLc_rng1, tLc_rng2, tFor_rng1, tFor_rng2, tDNewK, sDPut,  Nat.reduceLeDiff, Bool.not_eq_true', decide_eq_false_iff_not,
  isi_int_int, isi_int_bool, isi_int_str, isi_int_tuple, isi_int_list, isi_int_dict, isi_bool_int, isi_bool_bool, isi_bool_str, isi_bool_tuple, isi_bool_list, isi_bool_dict, isi_str_int, isi_str_bool, isi_str_str, isi_str_tuple, isi_str_list, isi_str_dict, isi_non_int, isi_non_bool, isi_non_str, isi_non_tuple, isi_non_list, isi_non_dict])
local macro_rules | `(tactic| walk_at "ix") => `(tactic| (refine ixT (by assumption) rfl ?_; walk_at "rd"))
local macro_rules | `(tactic| walk_at "len") => `(tactic| (refine ⟨_, lenV_T (by assumption), ?_⟩; walk_at "rd"))
local macro_rules | `(tactic| walk_at "isT") => `(tactic| (refine ⟨true, isiT (by assumption), ?_⟩; walk_at "rd"))

/-! ### what the book holds: leaves of two rows -/
abbrev ctK (c : Str) : NestedKey := .tup [.text "leaf", .tup [.text "here", .text c]]
def CtAt (K : PySem.W.Frag) (H : Hp) (x : Addr) (c : Str) : Prop := ∃ r, SqT K H x [.str "leaf", .ref r] ∧ SqT K H r [.str "here", .str c]
theorem CtAt.kp {K : PySem.W.Frag} {M : List Addr} {H H' : Hp} {x : Addr} {c : Str} (h : CtAt K H x c) (k : Kp M H H') : CtAt K H' x c := by
  obtain ⟨r, h1, h2⟩ := h
  exact ⟨r, k.tup h1, k.tup h2⟩
theorem CtAt.nk {K : PySem.W.Frag} {H : Hp} {x : Addr} {c : Str} (h : CtAt K H x c) : NkV K H (.ref x) (ctK c) := by
  obtain ⟨r, h1, h2⟩ := h
  exact .tup h1 (.cons (.str _) (.cons (.tup h2 (.cons (.str _) (.cons (.str _) .nil))) .nil))
theorem ctK_depth (c : Str) : (ctK c).depth ≤ 8 := by
  simp [ctK, NestedKey.depth, NestedKey.depthAll]
theorem ctK_inj {a b : Str} : ctK a = ctK b ↔ a = b := by simp [ctK]
def ents : Nat → List (Addr × Str) → List NEnt
  | _, [] => []
  | i, p :: r => (ctK p.2, p.1, .int ((i : Nat) : Int)) :: ents (i + 1) r
theorem valN_cons {x : NEnt} {xs : List NEnt} {k : NestedKey} : valN (x :: xs) k = if x.1 = k then some x.2.2 else valN xs k := by
  unfold valN
  rw [List.find?_cons]
  by_cases h : x.1 = k
  · rw [decide_eq_true h, if_pos h]
    rfl
  · rw [decide_eq_false h, if_neg h]
theorem ents_none {c : Str} : ∀ {ps : List (Addr × Str)} {i : Nat}, c ∉ ps.map (·.2) → valN (ents i ps) (ctK c) = none
  | [], _, _ => rfl
  | p :: r, i, h => by
    rw [List.map_cons, List.mem_cons, not_or] at h
    rw [ents, valN_cons, if_neg (fun z => h.1 (ctK_inj.mp z).symm)]
    exact ents_none h.2
theorem ents_some {c : Str} : ∀ {ps : List (Addr × Str)} {i j : Nat}, (ps.map (·.2)).Nodup → (ps.map (·.2))[j]? = some c → valN (ents i ps) (ctK c) = some (.int ((i + j : Nat) : Int))
  | [], _, _, _, h => by simp at h
  | p :: r, i, 0, nd, h => by
    simp only [List.map_cons, List.getElem?_cons_zero, Option.some.injEq] at h
    rw [ents, valN_cons, if_pos (by rw [h])]
    rfl
  | p :: r, i, j + 1, nd, h => by
    rw [List.map_cons, List.getElem?_cons_succ] at h
    rw [List.map_cons, List.nodup_cons] at nd
    rw [ents, valN_cons, if_neg (fun z => nd.1 (by rw [ctK_inj.mp z]; exact List.mem_of_getElem? h)), ents_some nd.2 h]
    rw [show i + 1 + j = i + (j + 1) by omega]
theorem ents_snoc {p : Addr × Str} : ∀ {ps : List (Addr × Str)} {i : Nat}, ents i (ps ++ [p]) = ents i ps ++ [(ctK p.2, p.1, .int ((i + ps.length : Nat) : Int))]
  | [], i => rfl
  | q :: r, i => by
    rw [List.cons_append, ents, ents_snoc, ents, List.cons_append, List.length_cons]
    rw [show i + 1 + r.length = i + (r.length + 1) by omega]
theorem ents_len : ∀ {ps : List (Addr × Str)} {i : Nat}, (ents i ps).length = ps.length
  | [], _ => rfl
  | p :: r, i => by rw [ents, List.length_cons, ents_len, List.length_cons]
theorem ents_mem {e : NEnt} : ∀ {ps : List (Addr × Str)} {i : Nat}, e ∈ ents i ps → ∃ p ∈ ps, e.1 = ctK p.2 ∧ e.2.1 = p.1
  | [], _, h => by cases h
  | p :: r, i, h => by
    rcases List.mem_cons.mp h with rfl | h
    · exact ⟨p, by simp, rfl, rfl⟩
    · obtain ⟨q, hq, z⟩ := ents_mem h
      exact ⟨q, List.mem_cons_of_mem _ hq, z⟩
/-! ### the book -/
abbrev bkF (ca da ga : Addr) : List (Str × V) := [("contents", .ref ca), ("depths", .ref da), ("given", .ref ga)]
theorem lkc {ca da ga : Addr} : (bkF ca da ga).lookup ("contents" : Str) = some (.ref ca) := by rfl
theorem lkd {ca da ga : Addr} : (bkF ca da ga).lookup ("depths" : Str) = some (.ref da) := by rfl
theorem lkg {ca da ga : Addr} : (bkF ca da ga).lookup ("given" : Str) = some (.ref ga) := by rfl
structure TxtB (K : PySem.W.Frag) (CB : Addr) : Prop where
  cl : Cls K CB
  nc : NoAttr K CB "contents"
  nd : NoAttr K CB "depths"
  ng : NoAttr K CB "given"
local macro_rules | `(tactic| walk_at "bc") => `(tactic| (refine ⟨_, _, _, (by assumption), (TxtB.cl (by assumption)), (TxtB.nc (by assumption)), _, lkc, ?_⟩; walk_at "rd"))
local macro_rules | `(tactic| walk_at "bd") => `(tactic| (refine ⟨_, _, _, (by assumption), (TxtB.cl (by assumption)), (TxtB.nd (by assumption)), _, lkd, ?_⟩; walk_at "rd"))
local macro_rules | `(tactic| walk_at "bg") => `(tactic| (refine ⟨_, _, _, (by assumption), (TxtB.cl (by assumption)), (TxtB.ng (by assumption)), _, lkg, ?_⟩; walk_at "rd"))
structure BkAt (P : Program) (w : World) (K : PySem.W.Frag) (CB : Addr) (H : Hp) (b ca da ga : Addr) (ps : List (Addr × Str)) : Prop where
  ob : ∃ dx, H b = some (.ins CB dx (bkF ca da ga))
  co : H ca = some (.lst (ps.map fun p => V.ref p.1))
  de : H da = some (.lst (List.replicate ps.length (.int 0)))
  gi : NDk P w K H ga (ents 0 ps)
  ct : ∀ p ∈ ps, CtAt K H p.1 p.2 ∧ okT p.2 = true
  nd : (ps.map (·.2)).Nodup
  ne : ca ≠ da
  le : ps.length ≤ 100
section
variable {P : Program} {w : World} {K : PySem.W.Frag} {mg : Str → Option Value} {base : Heap} {CN CB CH : Addr} {H H' : Hp} {M : List Addr} {b ca da ga : Addr} {ps : List (Addr × Str)}
theorem BkAt.kp (h : BkAt P w K CB H b ca da ga ps) (k : Kp M H H') (n1 : b ∉ M) (n2 : ca ∉ M) (n3 : da ∉ M) (n4 : ga ∉ M) : BkAt P w K CB H' b ca da ga ps := by
  obtain ⟨dx, h1⟩ := h.ob
  exact ⟨⟨dx, k.at h1 n1⟩, k.at h.co n2, k.at h.de n3, h.gi.kp k n4, fun p hp => ⟨(h.ct p hp).1.kp k, (h.ct p hp).2⟩, h.nd, h.ne, h.le⟩
theorem BkAt.kp0 (h : BkAt P w K CB H b ca da ga ps) (k : Kp [] H H') : BkAt P w K CB H' b ca da ga ps := h.kp k (by simp) (by simp) (by simp) (by simp)
theorem sc_Book___init__ : FnScope ["self"] ["self"] (defScope s_Book___init__) := ⟨rfl, rfl, rfl, by decide +kernel, rfl, by decide +kernel, by decide +kernel⟩
theorem sc_Book___len__ : FnScope ["self"] ["self"] (defScope s_Book___len__) := ⟨rfl, rfl, rfl, by decide +kernel, rfl, by decide +kernel, by decide +kernel⟩
theorem sc_Book_named : FnScope ["self", "content"] ["self", "content"] (defScope s_Book_named) := ⟨rfl, rfl, rfl, by decide +kernel, rfl, by decide +kernel, by decide +kernel⟩
theorem sc_Book_thing : FnScope ["self", "name"] ["self", "name"] (defScope s_Book_thing) := ⟨rfl, rfl, rfl, by decide +kernel, rfl, by decide +kernel, by decide +kernel⟩
theorem sc_Book_kind : FnScope ["self", "name"] ["self", "name"] (defScope s_Book_kind) := ⟨rfl, rfl, rfl, by decide +kernel, rfl, by decide +kernel, by decide +kernel⟩
theorem sc_is_name : FnScope ["book", "thing"] ["book", "thing"] (defScope s_is_name) := ⟨rfl, rfl, rfl, by decide +kernel, rfl, by decide +kernel, by decide +kernel⟩
theorem sc_depth_of : FnScope ["book", "content", "label", "name"] ["book", "content"] (defScope s_depth_of) := ⟨rfl, rfl, rfl, by decide +kernel, rfl, by decide +kernel, by decide +kernel⟩
theorem sc_is_content : FnScope ["book", "thing"] ["book", "thing"] (defScope s_is_content) := ⟨rfl, rfl, rfl, by decide +kernel, rfl, by decide +kernel, by decide +kernel⟩
def spBkI (P : Program) (w : World) (K : PySem.W.Frag) (CB : Addr) : Sp := fun vs H Q _ => ∃ (p dx : Addr), vs = [.ref p] ∧ H p = some (.ins CB dx []) ∧ ∀ H' ca da ga, Kp [p] H H' → Fr H ca → Fr H da → Fr H ga → BkAt P w K CB H' p ca da ga [] → Q .non H'
theorem ok_bk_init (T : Txt K w mg CN CB CH) (TB : TxtB K CB) (F : AtM K CB "__init__" "Book.__init__" s_Book___init__ ["self"]) : Dfm P w K mg base 1 CB "__init__" ["self"] (spBkI P w K CB) := by
  refine F.ok sc_Book___init__ (fun vs H Q E h => ?_) (fun qual f cdv A outer s H vs Q E hr h => ?_)
  · obtain ⟨p, dx, rfl, _⟩ := h
    rfl
  · refine ⟨_, (pss_cons (ps_fld (pv 0) (pe_lst pa_nil) rfl)
      (pss_cons (ps_fld (pv 0) (pe_lst pa_nil) rfl)
      (pss_one (ps_fld (pv 0) pe_dnewN rfl)))), ?_⟩
    obtain ⟨p, dx, rfl, hp, q⟩ := h
    walk_at "rd"
    refine ⟨by decide, fun ca hca => ?_⟩
    have k1 : Kp [] H (upd H ca (.lst [])) := Kp.refl.new hca
    have hc1 : upd H ca (.lst []) ca = some (.lst []) := upd_same
    have hp1 := k1.at hp (by simp)
    generalize upd H ca (.lst []) = H1 at k1 hc1 hp1 ⊢
    have m4 : ∀ {p : Addr} fs, Mu p (HO.ins CB dx fs) := fun _ => mu_of trivial
    have npc : ca ≠ p := (ne_of hp1 hc1 (by intro z; cases z)).symm
    refine ⟨CB, dx, _, hp1, TB.cl, TB.nc, (by show 0 < 1000; decide), ?_⟩
    have k2 : Kp [p] H1 (upd H1 p (.ins CB dx (putF "contents" (.ref ca) []))) := Kp.refl.put hp1 (m4 _) (by simp)
    have hp2 : upd H1 p (.ins CB dx (putF "contents" (.ref ca) [])) p = some (.ins CB dx (putF "contents" (.ref ca) [])) := upd_same
    have hc2 := k2.at hc1 (by simpa using npc)
    generalize upd H1 p (.ins CB dx (putF "contents" (.ref ca) [])) = H2 at k2 hp2 hc2 ⊢
    refine ⟨by decide, fun da hda => ?_⟩
    have k3 : Kp [] H2 (upd H2 da (.lst [])) := Kp.refl.new hda
    have hd3 : upd H2 da (.lst []) da = some (.lst []) := upd_same
    have hp3 := k3.at hp2 (by simp)
    have hc3 := k3.at hc2 (by simp)
    have ncd : ca ≠ da := ne_of_none hc2 hda
    generalize upd H2 da (.lst []) = H3 at k3 hd3 hp3 hc3 ⊢
    have npd : da ≠ p := (ne_of hp3 hd3 (by intro z; cases z)).symm
    refine ⟨CB, dx, _, hp3, TB.cl, TB.nd, (by show 1 < 1000; decide), ?_⟩
    have k4 : Kp [p] H3 (upd H3 p (.ins CB dx (putF "depths" (.ref da) (putF "contents" (.ref ca) [])))) := Kp.refl.put hp3 (m4 _) (by simp)
    have hp4 : upd H3 p (.ins CB dx (putF "depths" (.ref da) (putF "contents" (.ref ca) []))) p = some (.ins CB dx (putF "depths" (.ref da) (putF "contents" (.ref ca) []))) := upd_same
    have hc4 := k4.at hc3 (by simpa using npc)
    have hd4 := k4.at hd3 (by simpa using npd)
    generalize upd H3 p (.ins CB dx (putF "depths" (.ref da) (putF "contents" (.ref ca) []))) = H4 at k4 hp4 hc4 hd4 ⊢
    intro ga hga
    have k5 : Kp [] H4 (upd H4 ga (NDO P w ga [])) := Kp.refl.new hga
    have hg5 : upd H4 ga (NDO P w ga []) ga = some (NDO P w ga []) := upd_same
    have hp5 := k5.at hp4 (by simp)
    have hc5 := k5.at hc4 (by simp)
    have hd5 := k5.at hd4 (by simp)
    generalize upd H4 ga (NDO P w ga []) = H5 at k5 hg5 hp5 hc5 hd5 ⊢
    refine ⟨CB, dx, _, hp5, TB.cl, TB.ng, (by show 2 < 1000; decide), ?_⟩
    have npg : ga ≠ p := (ne_of hp5 hg5 ndo_ne_ins.symm).symm
    have k6 : Kp [p] H5 (upd H5 p (.ins CB dx (putF "given" (.ref ga) (putF "depths" (.ref da) (putF "contents" (.ref ca) []))))) := Kp.refl.put hp5 (m4 _) (by simp)
    refine q _ ca da ga (((((k1.nil.trans k2).trans k3.nil).trans k4).trans k5.nil).trans k6) (.of hca) ((k1.nil.trans k2).free (.of hda)) ((((k1.nil.trans k2).trans k3.nil).trans k4).free (.of hga)) ⟨⟨dx, upd_same⟩, k6.at hc5 (by simpa using npc), k6.at hd5 (by simpa using npd), ⟨?_, fun x hx => by cases hx⟩, fun p hp => (by cases hp), by simp, ncd, by simp⟩
    exact k6.at hg5 (by simpa using npg)
def spBkLen (P : Program) (w : World) (K : PySem.W.Frag) (CB : Addr) : Sp := fun vs H Q _ => ∃ (b ca da ga : Addr) (ps : List (Addr × Str)), vs = [.ref b] ∧ BkAt P w K CB H b ca da ga ps ∧ Q (.int ((ps.length : Nat) : Int)) H
theorem ok_bk_len (T : Txt K w mg CN CB CH) (TB : TxtB K CB) (F : AtM K CB "__len__" "Book.__len__" s_Book___len__ ["self"]) : Dfm P w K mg base 1 CB "__len__" ["self"] (spBkLen P w K CB) := by
  refine F.ok sc_Book___len__ (fun vs H Q E h => ?_) (fun qual f cdv A outer s H vs Q E hr h => ?_)
  · obtain ⟨b, ca, da, ga, ps, rfl, _⟩ := h
    rfl
  · refine ⟨_, (pss_one (ps_ret (pe_callB call_len (by rfl) T.len_ (by decide +kernel) (pa_cons (pe_fld (pv 0) rfl) pa_nil)))), ?_⟩
    obtain ⟨b, ca, da, ga, ps, rfl, hb, q⟩ := h
    obtain ⟨dx, h1⟩ := hb.ob
    walk_at "rd"
    walk_at "bc"
    refine ⟨_, lenV_L (SqL.of hb.co), ?_⟩
    rw [List.length_map]
    exact q
def spIsName (P : Program) (w : World) (K : PySem.W.Frag) (CB : Addr) : Sp := fun vs H Q _ => ∃ (b ca da ga : Addr) (ps : List (Addr × Str)) (n : Nat), vs = [.ref b, .int ((n : Nat) : Int)] ∧ BkAt P w K CB H b ca da ga ps ∧ Q (.bl (decide (n < ps.length))) H
theorem ok_is_name (T : Txt K w mg CN CB CH) (TB : TxtB K CB) (F : At K mg "is_name" s_is_name ["book", "thing"]) (G_is_int : Dfd P w K mg base 1 "is_int" ["thing", "least"] [.int 0] spIsInt) : Dfn P w K mg base 2 "is_name" ["book", "thing"] (spIsName P w K CB) := by
  refine F.ok sc_is_name (fun vs H Q E h => ?_) (fun qual f cdv A outer s H vs Q E hr h => ?_)
  · obtain ⟨b, ca, da, ga, ps, n, rfl, _⟩ := h
    rfl
  · refine ⟨_, (pss_one (ps_ret (pe_and (pe_fd G_is_int hr (pa_cons (pv 1) pa_nil)) (pe_one (pe_cmpR op_lt (pv 1) (pe_callB call_len (by rfl) T.len_ (by decide +kernel) (pa_cons (pe_fld (pv 0) rfl) pa_nil)) (nomark _)))))), ?_⟩
    obtain ⟨b, ca, da, ga, ps, n, rfl, hb, q⟩ := h
    obtain ⟨dx, h1⟩ := hb.ob
    walk_at "rd"
    refine ⟨_, rfl, ?_⟩
    walk_at "rd"
    rw [if_pos (by omega)]
    walk_at "bc"
    refine ⟨_, lenV_L (SqL.of hb.co), ?_⟩
    rw [List.length_map]
    simpa using q
end
end Kq
set_option Elab.async false
set_option linter.all false
set_option maxRecDepth 100000
set_option maxHeartbeats 4000000
namespace Kq
open PySem PySem.Spec PyProof.Rows L2 Fw
local macro_rules | `(tactic| walk_at "rd") => `(tactic| try simp only [tMeth, tMake, tFld, sFld, sFldAug, tMethT, tCallVT, tDNewN, tNo, tNoE, cx_P, tDIn, tDNotIn, tDGet, tDGet2, tMx, tRaiseF, tXfX, tXf, tSeq, tNext, tBreak, tCont, tDrop, tRet, tRetN, tIfS, tAsg, tVar, tC, tOp, tUn, tTest, tB, tAnd, tOr, tNot, tAndV, tOrV, tNotV, tIf, tChain, tCB, tCons, tNil, tTup, tLst, tCall, tCallS, WE,
  gName, gSub, rI, rI0, rU, rEq, rNe, rIsiC, tSl, tPart, tNoPart, rSetL, tBM, tBM0, rAppend, rExtend, rExtendT, tCallL, L2.start, List.map_cons, List.map_nil, List.length_cons, List.length_nil, Nat.sub_self, Nat.reduceAdd, Nat.reduceSub, List.replicate_zero, List.replicate_succ, List.append_nil, List.nil_append, List.cons_append,
  List.getElem?_cons_zero, List.getElem?_cons_succ, List.set_cons_zero, List.set_cons_succ, Option.some.injEq, exists_eq_left', exists_eq_left, exists_eq_right, exists_eq_right', exists_const, exists_and_left, exists_and_right, V.int.injEq, V.bl.injEq, V.str.injEq, V.ref.injEq, V.ty.injEq, List.cons.injEq, and_true, true_and, and_assoc, reduceCtorEq, false_and, and_false, exists_false, false_or, or_false,
  if_true, if_false, Bool.not_true, Bool.not_false, Bool.false_eq_true, Bool.true_eq_false, ↓reduceIte, decide_eq_true_eq, decide_true, decide_false, sc_nn, sc_ni, sc_in, sc_nb, sc_bn, sc_ns, sc_sn, sc_ii, sc_bb, sc_ss, sc_is, sc_si, sc_bs, sc_sb, ipI, Int.reduceLT, Int.reduceLE, Int.reduceEq, Nat.reduceLT, Nat.reduceEqDiff, String.reduceEq, nc0, nc1, nc2, nc3, nc4, nc5, nc6, nc7, nc8, nc9, nc10, nc11, nc12, cx_K, cx_w, wipe, lenV_str, rCat, exists_eq, exists_eq', relO, relC, relM, relI, relSl, spOf, ciOf, csOf, crOf, L2.rIxD, eq_self, not_true_eq_false, not_false_eq_true, Option.isSome_some, Option.isSome_none, tCallV, ofS_inj, sg_inj, sg_len, sg_lt, tM1, tM0, tLc_rng1, tLc_rng2, tFor_rng1, tFor_rng2, tDNewK, sDPut,  Nat.reduceLeDiff, Bool.not_eq_true', decide_eq_false_iff_not,
  isi_int_int, isi_int_bool, isi_int_str, isi_int_tuple, isi_int_list, isi_int_dict, isi_bool_int, isi_bool_bool, isi_bool_str, isi_bool_tuple, isi_bool_list, isi_bool_dict, isi_str_int, isi_str_bool, isi_str_str, isi_str_tuple, isi_str_list, isi_str_dict, isi_non_int, isi_non_bool, isi_non_str, isi_non_tuple, isi_non_list, isi_non_dict])
local macro_rules | `(tactic| walk_at "ix") => `(tactic| (refine ixT (by assumption) rfl ?_; walk_at "rd"))
local macro_rules | `(tactic| walk_at "len") => `(tactic| (refine ⟨_, lenV_T (by assumption), ?_⟩; walk_at "rd"))
local macro_rules | `(tactic| walk_at "isT") => `(tactic| (refine ⟨true, isiT (by assumption), ?_⟩; walk_at "rd"))

local macro_rules | `(tactic| walk_at "bc") => `(tactic| (refine ⟨_, _, _, (by assumption), (TxtB.cl (by assumption)), (TxtB.nc (by assumption)), _, lkc, ?_⟩; walk_at "rd"))
local macro_rules | `(tactic| walk_at "bd") => `(tactic| (refine ⟨_, _, _, (by assumption), (TxtB.cl (by assumption)), (TxtB.nd (by assumption)), _, lkd, ?_⟩; walk_at "rd"))
local macro_rules | `(tactic| walk_at "bg") => `(tactic| (refine ⟨_, _, _, (by assumption), (TxtB.cl (by assumption)), (TxtB.ng (by assumption)), _, lkg, ?_⟩; walk_at "rd"))
section
variable {P : Program} {w : World} {K : PySem.W.Frag} {mg : Str → Option Value} {base : Heap} {CN CB CH : Addr} {H H' : Hp} {M : List Addr} {b ca da ga : Addr} {ps : List (Addr × Str)}
theorem keepU {a p : Addr} {o u : HO} (n : a ≠ p) (e : H a = some o) : upd H p u a = some o := by rw [upd_ne n]; exact e
def spDepth (K : PySem.W.Frag) : Sp := fun vs H Q _ => ∃ (b : V) (x : Addr) (c : Str), vs = [b, .ref x] ∧ CtAt K H x c ∧ Q (.int 0) H
theorem ok_depth_of (T : Txt K w mg CN CB CH) (F : At K mg "depth_of" s_depth_of ["book", "content"]) : Dfn P w K mg base 1 "depth_of" ["book", "content"] (spDepth K) := by
  refine F.ok sc_depth_of (fun vs H Q E h => ?_) (fun qual f cdv A outer s H vs Q E hr h => ?_)
  · obtain ⟨b, x, c, rfl, _⟩ := h
    rfl
  · refine ⟨_, (pss_cons (ps_if (pt_cmpR op_ne (pe_ix ix_tup (pv 1) pe_int (fun _ _ => rfl)) pe_str (nomark _)) (pss_one (ps_ret pe_int)) pss_nil)
      (pss_one ps_no)), ?_⟩
    obtain ⟨b, x, c, rfl, ⟨r, h1, h2⟩, q⟩ := h
    walk_at "rd"
    refine ixT h1 rfl ?_
    walk_at "rd"
    exact q
def spIsContent (K : PySem.W.Frag) : Sp := fun vs H Q _ => ∃ (b : V) (x : Addr) (c : Str), vs = [b, .ref x] ∧ CtAt K H x c ∧ okT c = true ∧ ∀ H', Kp [] H H' → Q (.bl true) H'
theorem okT_here : okT ("here" : Str) = true := by decide +kernel
theorem ok_is_content (T : Txt K w mg CN CB CH) (F : At K mg "is_content" s_is_content ["book", "thing"]) (G_are_rows : Dfn P w K mg base 2 "are_rows" ["thing"] (spAreRows K)) : Dfn P w K mg base 3 "is_content" ["book", "thing"] (spIsContent K) := by
  refine F.ok sc_is_content (fun vs H Q E h => ?_) (fun qual f cdv A outer s H vs Q E hr h => ?_)
  · obtain ⟨b, x, c, rfl, _⟩ := h
    rfl
  · refine ⟨_, (pss_cons (ps_if (PW.pt (pw_or (pt_not (pt_val (pe_callB call_isiC (by rfl) T.isinstance_ (by decide +kernel) (pa_cons (pv 1) (pa_cons (pe_ty "tuple" rfl T.tuple_ (by decide +kernel)) pa_nil))))) (pw_or (pt_cmpR op_lt (pe_callB call_len (by rfl) T.len_ (by decide +kernel) (pa_cons (pv 1) pa_nil)) pe_int (nomark _)) (pw_or1 (pt_not (pt_val (pe_callB call_isiC (by rfl) T.isinstance_ (by decide +kernel) (pa_cons (pe_ix ix_tup (pv 1) pe_int (fun _ _ => rfl)) (pa_cons (pe_ty "str" rfl T.str_ (by decide +kernel)) pa_nil))))))))) (pss_one (ps_ret pe_bl)) pss_nil)
      (pss_cons (ps_if (pt_cmpR op_eq (pe_ix ix_tup (pv 1) pe_int (fun _ _ => rfl)) pe_str (nomark _)) (pss_one (ps_ret (pe_and (pe_cmpR op_eq (pe_callB call_len (by rfl) T.len_ (by decide +kernel) (pa_cons (pv 1) pa_nil)) pe_int (nomark _)) (pe_one (pe_fn G_are_rows hr (pa_cons (pe_ix ix_tup (pv 1) pe_int (fun _ _ => rfl)) pa_nil)))))) pss_nil)
      (pss_cons ps_no
      (pss_one ps_no)))), ?_⟩
    obtain ⟨b, x, c, rfl, ⟨r, h1, h2⟩, hc, q⟩ := h
    walk_at "rd"
    refine ⟨true, isiT h1, ?_⟩
    walk_at "rd"
    refine ⟨_, lenV_T h1, ?_⟩
    walk_at "rd"
    refine ixT h1 rfl ?_
    walk_at "rd"
    refine ixT h1 rfl ?_
    walk_at "rd"
    refine ⟨_, lenV_T h1, ?_⟩
    walk_at "rd"
    refine ixT h1 rfl ?_
    walk_at "rd"
    refine ⟨r, ["here", c], rfl, h2, (by simp), fun z hz => ?_, q⟩
    simp only [List.mem_cons, List.not_mem_nil, or_false] at hz
    rcases hz with rfl | rfl
    · exact okT_here
    · exact hc
def spNamed (P : Program) (w : World) (K : PySem.W.Frag) (CB : Addr) : Sp := fun vs H Q _ => ∃ (b ca da ga x : Addr) (ps : List (Addr × Str)) (c : Str), vs = [.ref b, .ref x] ∧ BkAt P w K CB H b ca da ga ps ∧ CtAt K H x c ∧ okT c = true ∧ ps.length ≤ 50 ∧
  (∀ (j : Nat) H', (ps.map (·.2))[j]? = some c → Kp [] H H' → Q (.int ((j : Nat) : Int)) H') ∧ (c ∉ ps.map (·.2) → ∀ H', Kp [ca, da, ga] H H' → BkAt P w K CB H' b ca da ga (ps ++ [(x, c)]) → Q (.int ((ps.length : Nat) : Int)) H')
theorem ok_named (T : Txt K w mg CN CB CH) (TB : TxtB K CB) (F : AtM K CB "named" "Book.named" s_Book_named ["self", "content"]) (G_is_content : Dfn P w K mg base 3 "is_content" ["book", "thing"] (spIsContent K)) (G_depth_of : Dfn P w K mg base 1 "depth_of" ["book", "content"] (spDepth K)) :
    Dfm P w K mg base 4 CB "named" ["self", "content"] (spNamed P w K CB) := by
  refine F.ok sc_Book_named (fun vs H Q E h => ?_) (fun qual f cdv A outer s H vs Q E hr h => ?_)
  · obtain ⟨b, ca, da, ga, x, ps, c, rfl, _⟩ := h
    rfl
  · refine ⟨_, (pss_cons (ps_if (pt_not (pt_val (pe_fn G_is_content hr (pa_cons (pv 0) (pa_cons (pv 1) pa_nil))))) (pss_one ps_no) pss_nil)
      (pss_cons (ps_if (pt_cmpR (op_in_nd hr.units) (pv 1) (pe_fld (pv 0) rfl) rfl) (pss_one (ps_ret (pe_ix (ix_nd hr.units) (pe_fld (pv 0) rfl) (pv 1) (fun _ _ => rfl)))) pss_nil)
      (pss_cons (ps_if (pt_cmpR op_ge (pe_callB call_len (by rfl) T.len_ (by decide +kernel) (pa_cons (pe_fld (pv 0) rfl) pa_nil)) (pe_ci rfl T.MOST) (nomark _)) (pss_one ps_no) pss_nil)
      (pss_cons (ps_asg (pe_callB call_len (by rfl) T.len_ (by decide +kernel) (pa_cons (pe_fld (pv 0) rfl) pa_nil)) (pg_sub (pe_fld (pv 0) rfl) (pv 1) (set_nd hr.units)))
      (pss_cons (ps_expr (pe_bm PySem.F.plainAttrs_list PySem.F.slot_list_append PySem.F.type_list_append mt_append (pe_fld (pv 0) rfl) (pa_cons (pv 1) pa_nil)))
      (pss_cons (ps_expr (pe_bm PySem.F.plainAttrs_list PySem.F.slot_list_append PySem.F.type_list_append mt_append (pe_fld (pv 0) rfl) (pa_cons (pe_fn G_depth_of hr (pa_cons (pv 0) (pa_cons (pv 1) pa_nil))) pa_nil)))
      (pss_one (ps_ret (pe_op op_sub (pe_callB call_len (by rfl) T.len_ (by decide +kernel) (pa_cons (pe_fld (pv 0) rfl) pa_nil)) pe_int))))))))), ?_⟩
    obtain ⟨b, ca, da, ga, x, ps, c, rfl, hb, hx, hc, h50, q1, q2⟩ := h
    walk_at "rd"
    refine ⟨_, x, c, rfl, hx, hc, fun H1 k1 => ?_⟩
    have hb1 := hb.kp0 k1
    have hx1 := hx.kp k1
    obtain ⟨dx, h1⟩ := hb1.ob
    walk_at "rd"
    walk_at "bg"
    refine ⟨x, ga, ctK c, ents 0 ps, rfl, rfl, hx1.nk, ctK_depth c, hb1.gi, ?_⟩
    walk_at "rd"
    by_cases hm : c ∈ ps.map (·.2)
    · obtain ⟨j, hj⟩ := List.mem_iff_getElem?.mp hm
      have hv := ents_some (i := 0) hb1.nd hj
      rw [Nat.zero_add] at hv
      rw [hv]
      walk_at "rd"
      walk_at "bg"
      exact ⟨x, ga, ctK c, ents 0 ps, _, rfl, rfl, hx1.nk, ctK_depth c, hb1.gi, hv, q1 j H1 hj k1⟩
    · have hv := ents_none (i := 0) hm
      rw [hv]
      walk_at "rd"
      walk_at "bc"
      refine ⟨_, lenV_L (SqL.of hb1.co), ?_⟩
      rw [List.length_map, if_neg (by omega)]
      walk_at "bc"
      refine ⟨_, lenV_L (SqL.of hb1.co), ?_⟩
      rw [List.length_map]
      walk_at "bg"
      refine ⟨x, ga, ctK c, ents 0 ps, rfl, rfl, hx1.nk, ctK_depth c, hb1.gi, hv, by rw [ents_len, sizeLine_eq]; omega, ?_⟩
      have nbg : b ≠ ga := ne_of h1 hb1.gi.at_ ndo_ne_ins.symm
      have ncg : ca ≠ ga := ne_of hb1.co hb1.gi.at_ ndo_ne_lst.symm
      have ndg : da ≠ ga := ne_of hb1.de hb1.gi.at_ ndo_ne_lst.symm
      have nbc : b ≠ ca := ne_of h1 hb1.co (by intro z; cases z)
      have nbd : b ≠ da := ne_of h1 hb1.de (by intro z; cases z)
      have k2 : Kp [ca, da, ga] H1 (upd H1 ga (NDO P w ga (ents 0 ps ++ [(ctK c, x, V.int ((ps.length : Nat) : Int))]))) := Kp.refl.put hb1.gi.at_ ndo_mu (by simp)
      have e2g : upd H1 ga (NDO P w ga (ents 0 ps ++ [(ctK c, x, V.int ((ps.length : Nat) : Int))])) ga = some (NDO P w ga (ents 0 ps ++ [(ctK c, x, V.int ((ps.length : Nat) : Int))])) := upd_same
      have e2b := keepU (u := NDO P w ga (ents 0 ps ++ [(ctK c, x, V.int ((ps.length : Nat) : Int))])) nbg h1
      have e2c := keepU (u := NDO P w ga (ents 0 ps ++ [(ctK c, x, V.int ((ps.length : Nat) : Int))])) ncg hb1.co
      have e2d := keepU (u := NDO P w ga (ents 0 ps ++ [(ctK c, x, V.int ((ps.length : Nat) : Int))])) ndg hb1.de
      generalize upd H1 ga (NDO P w ga (ents 0 ps ++ [(ctK c, x, V.int ((ps.length : Nat) : Int))])) = H2 at k2 e2g e2b e2c e2d ⊢
      walk_at "bc"
      refine ⟨.inl ⟨rfl, _, SqL.of e2c⟩, _, e2c, by rw [List.length_map, sizeLine_eq]; omega, ?_⟩
      have k3 : Kp [ca, da, ga] H2 (upd H2 ca (.lst (ps.map (fun p => V.ref p.1) ++ [V.ref x]))) := Kp.refl.put e2c (mu_of trivial) (by simp)
      have e3c : upd H2 ca (.lst (ps.map (fun p => V.ref p.1) ++ [V.ref x])) ca = some (.lst (ps.map (fun p => V.ref p.1) ++ [V.ref x])) := upd_same
      have e3b := keepU (u := .lst (ps.map (fun p => V.ref p.1) ++ [V.ref x])) nbc e2b
      have e3d := keepU (u := .lst (ps.map (fun p => V.ref p.1) ++ [V.ref x])) hb1.ne.symm e2d
      have e3g := keepU (u := .lst (ps.map (fun p => V.ref p.1) ++ [V.ref x])) ncg.symm e2g
      generalize upd H2 ca (.lst (ps.map (fun p => V.ref p.1) ++ [V.ref x])) = H3 at k3 e3b e3c e3d e3g ⊢
      walk_at "bd"
      refine ⟨.inl ⟨rfl, _, SqL.of e3d⟩, _, x, c, rfl, ((hx1.kp k2).kp k3), _, e3d, by rw [List.length_replicate, sizeLine_eq]; omega, ?_⟩
      have k4 : Kp [ca, da, ga] H3 (upd H3 da (.lst (List.replicate ps.length (V.int 0) ++ [V.int 0]))) := Kp.refl.put e3d (mu_of trivial) (by simp)
      have e4d : upd H3 da (.lst (List.replicate ps.length (V.int 0) ++ [V.int 0])) da = some (.lst (List.replicate ps.length (V.int 0) ++ [V.int 0])) := upd_same
      have e4b := keepU (u := .lst (List.replicate ps.length (V.int 0) ++ [V.int 0])) nbd e3b
      have e4c := keepU (u := .lst (List.replicate ps.length (V.int 0) ++ [V.int 0])) hb1.ne e3c
      have e4g := keepU (u := .lst (List.replicate ps.length (V.int 0) ++ [V.int 0])) ndg.symm e3g
      generalize upd H3 da (.lst (List.replicate ps.length (V.int 0) ++ [V.int 0])) = H4 at k4 e4b e4c e4d e4g ⊢
      walk_at "bc"
      refine ⟨_, lenV_L (SqL.of e4c), ?_⟩
      rw [List.length_append, List.length_map, List.length_singleton, show (((ps.length + 1 : Nat) : Int) - 1) = ((ps.length : Nat) : Int) by omega]
      have k14 := (k2.trans k3).trans k4
      refine q2 hm H4 (k1.nil.trans k14) ⟨⟨dx, e4b⟩, by rw [e4c, List.map_append]; rfl, by rw [e4d, List.length_append, List.length_singleton, List.replicate_succ'], ⟨by rw [e4g, ents_snoc, Nat.zero_add], fun e he => ?_⟩, fun p hp => ?_, ?_, hb1.ne, by rw [List.length_append, List.length_singleton]; omega⟩
      · obtain ⟨p, hp, h1, h2⟩ := ents_mem he
        rw [h1, h2]
        rcases List.mem_append.mp hp with hp | hp
        · exact ⟨((hb1.ct p hp).1.kp k14).nk, ctK_depth _⟩
        · rw [List.mem_singleton.mp hp]
          exact ⟨(hx1.kp k14).nk, ctK_depth _⟩
      · rcases List.mem_append.mp hp with hp | hp
        · exact ⟨(hb1.ct p hp).1.kp k14, (hb1.ct p hp).2⟩
        · rw [List.mem_singleton.mp hp]
          exact ⟨hx1.kp k14, hc⟩
      · rw [List.map_append, List.nodup_append]
        refine ⟨hb1.nd, by simp, fun a ha b hb => ?_⟩
        simp only [List.map_cons, List.map_nil, List.mem_singleton] at hb
        rintro rfl
        exact hm (by rw [← hb]; exact ha)
def spThing (P : Program) (w : World) (K : PySem.W.Frag) (CB : Addr) : Sp := fun vs H Q _ => ∃ (b ca da ga : Addr) (ps : List (Addr × Str)) (n : Nat) (p : Addr × Str), vs = [.ref b, .int ((n : Nat) : Int)] ∧ BkAt P w K CB H b ca da ga ps ∧ ps[n]? = some p ∧ Q (.ref p.1) H
theorem ok_thing (T : Txt K w mg CN CB CH) (TB : TxtB K CB) (F : AtM K CB "thing" "Book.thing" s_Book_thing ["self", "name"]) (G_is_name : Dfn P w K mg base 2 "is_name" ["book", "thing"] (spIsName P w K CB)) : Dfm P w K mg base 3 CB "thing" ["self", "name"] (spThing P w K CB) := by
  refine F.ok sc_Book_thing (fun vs H Q E h => ?_) (fun qual f cdv A outer s H vs Q E hr h => ?_)
  · obtain ⟨b, ca, da, ga, ps, n, p, rfl, _⟩ := h
    rfl
  · refine ⟨_, (pss_cons (ps_if (pt_not (pt_val (pe_fn G_is_name hr (pa_cons (pv 0) (pa_cons (pv 1) pa_nil))))) (pss_one ps_no) pss_nil)
      (pss_one (ps_ret (pe_ix ix_list (pe_fld (pv 0) rfl) (pv 1) (fun _ _ => rfl))))), ?_⟩
    obtain ⟨b, ca, da, ga, ps, n, p, rfl, hb, hp, q⟩ := h
    obtain ⟨dx, h1⟩ := hb.ob
    walk_at "rd"
    have hl := (List.getElem?_eq_some_iff.mp hp).1
    refine ⟨b, ca, da, ga, ps, n, rfl, hb, ?_⟩
    walk_at "rd"
    rw [if_neg (by simpa using hl)]
    walk_at "bc"
    refine ixL (SqL.of hb.co) (v := .ref p.1) (atI_nat (by simp [hp])) q
def spKind (P : Program) (w : World) (K : PySem.W.Frag) (CB : Addr) : Sp := fun vs H Q _ => ∃ (b ca da ga : Addr) (ps : List (Addr × Str)) (n : Nat), vs = [.ref b, .int ((n : Nat) : Int)] ∧ BkAt P w K CB H b ca da ga ps ∧ n < ps.length ∧ Q (.str "leaf") H
theorem ok_kind (T : Txt K w mg CN CB CH) (TB : TxtB K CB) (F : AtM K CB "kind" "Book.kind" s_Book_kind ["self", "name"]) (M_thing : Dfm P w K mg base 3 CB "thing" ["self", "name"] (spThing P w K CB)) : Dfm P w K mg base 4 CB "kind" ["self", "name"] (spKind P w K CB) := by
  refine F.ok sc_Book_kind (fun vs H Q E h => ?_) (fun qual f cdv A outer s H vs Q E hr h => ?_)
  · obtain ⟨b, ca, da, ga, ps, n, rfl, _⟩ := h
    rfl
  · refine ⟨_, (pss_one (ps_ret (pe_ix ix_tup (Fw.pe_m M_thing hr passL (pv 0) (pa_cons (pv 1) pa_nil)) pe_int (fun _ _ => rfl)))), ?_⟩
    obtain ⟨b, ca, da, ga, ps, n, rfl, hb, hl, q⟩ := h
    obtain ⟨dx, h1⟩ := hb.ob
    walk_at "rd"
    obtain ⟨r, h2, h3⟩ := (hb.ct ps[n] (List.getElem_mem hl)).1
    refine ⟨_, _, h1, rfl, b, ca, da, ga, ps, n, ps[n], rfl, hb, List.getElem?_eq_getElem hl, ?_⟩
    exact ixT h2 rfl q
end
end Kq
set_option Elab.async false
set_option linter.all false
set_option maxRecDepth 100000
set_option maxHeartbeats 4000000
namespace Kq
open PySem PySem.Spec PyProof.Rows L2 Fw
local macro_rules | `(tactic| walk_at "rd") => `(tactic| try simp only [tMeth, tMake, tFld, sFld, sFldAug, tMethT, tCallVT, tDNewN, tNo, tNoE, cx_P, tDIn, tDNotIn, tDGet, tDGet2, tMx, tRaiseF, tXfX, tXf, tSeq, tNext, tBreak, tCont, tDrop, tRet, tRetN, tIfS, tAsg, tVar, tC, tOp, tUn, tTest, tB, tAnd, tOr, tNot, tAndV, tOrV, tNotV, tIf, tChain, tCB, tCons, tNil, tTup, tLst, tCall, tCallS, WE,
  gName, gSub, rI, rI0, rU, rEq, rNe, rIsiC, tSl, tPart, tNoPart, rSetL, tBM, tBM0, rAppend, rExtend, rExtendT, tCallL, L2.start, List.map_cons, List.map_nil, List.length_cons, List.length_nil, Nat.sub_self, Nat.reduceAdd, Nat.reduceSub, List.replicate_zero, List.replicate_succ, List.append_nil, List.nil_append, List.cons_append,
  List.getElem?_cons_zero, List.getElem?_cons_succ, List.set_cons_zero, List.set_cons_succ, Option.some.injEq, exists_eq_left', exists_eq_left, exists_eq_right, exists_eq_right', exists_const, exists_and_left, exists_and_right, V.int.injEq, V.bl.injEq, V.str.injEq, V.ref.injEq, V.ty.injEq, List.cons.injEq, and_true, true_and, and_assoc, reduceCtorEq, false_and, and_false, exists_false, false_or, or_false,
  if_true, if_false, Bool.not_true, Bool.not_false, Bool.false_eq_true, Bool.true_eq_false, ↓reduceIte, decide_eq_true_eq, decide_true, decide_false, sc_nn, sc_ni, sc_in, sc_nb, sc_bn, sc_ns, sc_sn, sc_ii, sc_bb, sc_ss, sc_is, sc_si, sc_bs, sc_sb, ipI, Int.reduceLT, Int.reduceLE, Int.reduceEq, Nat.reduceLT, Nat.reduceEqDiff, String.reduceEq, nc0, nc1, nc2, nc3, nc4, nc5, nc6, nc7, nc8, nc9, nc10, nc11, nc12, cx_K, cx_w, wipe, lenV_str, rCat, exists_eq, exists_eq', relO, relC, relM, relI, relSl, spOf, ciOf, csOf, crOf, L2.rIxD, eq_self, not_true_eq_false, not_false_eq_true, Option.isSome_some, Option.isSome_none, tCallV, ofS_inj, sg_inj, sg_len, sg_lt, tM1, tM0, tLc_rng1, tLc_rng2, tFor_rng1, tFor_rng2, tDNewK, sDPut,  Nat.reduceLeDiff, Bool.not_eq_true', decide_eq_false_iff_not,
  isi_int_int, isi_int_bool, isi_int_str, isi_int_tuple, isi_int_list, isi_int_dict, isi_bool_int, isi_bool_bool, isi_bool_str, isi_bool_tuple, isi_bool_list, isi_bool_dict, isi_str_int, isi_str_bool, isi_str_str, isi_str_tuple, isi_str_list, isi_str_dict, isi_non_int, isi_non_bool, isi_non_str, isi_non_tuple, isi_non_list, isi_non_dict])
local macro_rules | `(tactic| walk_at "ix") => `(tactic| (refine ixT (by assumption) rfl ?_; walk_at "rd"))
local macro_rules | `(tactic| walk_at "len") => `(tactic| (refine ⟨_, lenV_T (by assumption), ?_⟩; walk_at "rd"))
local macro_rules | `(tactic| walk_at "isT") => `(tactic| (refine ⟨true, isiT (by assumption), ?_⟩; walk_at "rd"))

/-! ### a house -/
abbrev hsF (b hh : Addr) (n : Int) (sa la oa pa : V) : List (Str × V) := [("book", .ref b), ("here", .ref hh), ("turns", .int n), ("stands", sa), ("lately", la), ("others", oa), ("pinned", pa)]
section
variable {b hh : Addr} {n m : Int} {sa la oa pa : V}
theorem lhb : (hsF b hh n sa la oa pa).lookup ("book" : Str) = some (.ref b) := by rfl
theorem lhh : (hsF b hh n sa la oa pa).lookup ("here" : Str) = some (.ref hh) := by rfl
theorem lht : (hsF b hh n sa la oa pa).lookup ("turns" : Str) = some (.int n) := by rfl
theorem pht : putF "turns" (.int m) (hsF b hh n sa la oa pa) = hsF b hh m sa la oa pa := by rfl
end
structure TxtH (K : PySem.W.Frag) (CO : Addr) : Prop where
  cl : Cls K CO
  nb : NoAttr K CO "book"
  nh : NoAttr K CO "here"
  nt : NoAttr K CO "turns"
  ns : NoAttr K CO "stands"
  nl : NoAttr K CO "lately"
  no : NoAttr K CO "others"
  np : NoAttr K CO "pinned"
local macro_rules | `(tactic| walk_at "hb") => `(tactic| (refine ⟨_, _, _, (by assumption), (TxtH.cl (by assumption)), (TxtH.nb (by assumption)), _, lhb, ?_⟩; walk_at "rd"))
local macro_rules | `(tactic| walk_at "hh") => `(tactic| (refine ⟨_, _, _, (by assumption), (TxtH.cl (by assumption)), (TxtH.nh (by assumption)), _, lhh, ?_⟩; walk_at "rd"))
local macro_rules | `(tactic| walk_at "ht") => `(tactic| (refine ⟨_, _, _, (by assumption), (TxtH.cl (by assumption)), (TxtH.nt (by assumption)), _, lht, ?_⟩; walk_at "rd"))
abbrev nmK (ns : List Nat) : List (Key × V) := ns.map fun k => (Sum.inl ((k : Nat) : Int), V.bl true)
structure HsAt (CO : Addr) (H : Hp) (h b hh : Addr) (ns : List Nat) : Prop where
  ob : ∃ dx n sa la oa pa, H h = some (.ins CO dx (hsF b hh n sa la oa pa))
  he : H hh = some (.dK (nmK ns))
  nd : ns.Nodup
theorem HsAt.kp {CO : Addr} {M : List Addr} {H H' : Hp} {h b hh : Addr} {ns : List Nat} (x : HsAt CO H h b hh ns) (k : Kp M H H') (n1 : h ∉ M) (n2 : hh ∉ M) : HsAt CO H' h b hh ns := by
  obtain ⟨dx, n, sa, la, oa, pa, h1⟩ := x.ob
  exact ⟨⟨dx, n, sa, la, oa, pa, k.at h1 n1⟩, k.at x.he n2, x.nd⟩
theorem val_nm {m : Nat} : ∀ {ns : List Nat}, valV (nmK ns) (Sum.inl ((m : Nat) : Int)) = if m ∈ ns then some (.bl true) else none
  | [] => by simp [valV]
  | k :: r => by
    by_cases h : k = m
    · subst h
      show valV ((Sum.inl ((k : Nat) : Int), V.bl true) :: nmK r) _ = _
      rw [valV_pos rfl, if_pos (by simp)]
    · show valV ((Sum.inl ((k : Nat) : Int), V.bl true) :: nmK r) _ = _
      rw [valV_neg (fun z => h (by simp at z; omega)), val_nm]
      by_cases h2 : m ∈ r
      · rw [if_pos h2, if_pos (List.mem_cons_of_mem _ h2)]
      · rw [if_neg h2, if_neg (fun z => (List.mem_cons.mp z).elim (fun e => h e.symm) h2)]
section
variable {P : Program} {w : World} {K : PySem.W.Frag} {mg : Str → Option Value} {base : Heap} {CN CB CH CO CS : Addr} {H H' : Hp} {M : List Addr} {b ca da ga : Addr} {ps : List (Addr × Str)}
theorem sc_Store___init__ : FnScope ["self", "book"] ["self", "book"] (defScope s_Store___init__) := ⟨rfl, rfl, rfl, by decide +kernel, rfl, by decide +kernel, by decide +kernel⟩
theorem sc_Store_put : FnScope ["self", "name"] ["self", "name"] (defScope s_Store_put) := ⟨rfl, rfl, rfl, by decide +kernel, rfl, by decide +kernel, by decide +kernel⟩
theorem sc_Store_write : FnScope ["self", "content", "name"] ["self", "content"] (defScope s_Store_write) := ⟨rfl, rfl, rfl, by decide +kernel, rfl, by decide +kernel, by decide +kernel⟩
theorem sc_Store_held : FnScope ["self"] ["self"] (defScope s_Store_held) := ⟨rfl, rfl, rfl, by decide +kernel, rfl, by decide +kernel, by decide +kernel⟩
theorem sc_House___init__ : FnScope ["self", "book"] ["self", "book"] (defScope s_House___init__) := ⟨rfl, rfl, rfl, by decide +kernel, rfl, by decide +kernel, by decide +kernel⟩
def spStI (CO : Addr) : Sp := fun vs H Q _ => ∃ (p dx b : Addr), vs = [.ref p, .ref b] ∧ H p = some (.ins CO dx []) ∧ ∀ H' hh, Kp [p] H H' → H hh = none → H' p = some (.ins CO dx [("book", .ref b), ("here", .ref hh), ("turns", .int 0)]) → H' hh = some (.dK []) → Q .non H'
theorem ok_st_init (T : Txt K w mg CN CB CH) (TH : TxtH K CO) (F : AtM K CS "__init__" "Store.__init__" s_Store___init__ ["self", "book"]) : Dfm P w K mg base 1 CS "__init__" ["self", "book"] (spStI CO) := by
  refine F.ok sc_Store___init__ (fun vs H Q E h => ?_) (fun qual f cdv A outer s H vs Q E hr h => ?_)
  · obtain ⟨p, dx, b, rfl, _⟩ := h
    rfl
  · refine ⟨_, (pss_cons (ps_fld (pv 0) (pv 1) rfl)
      (pss_cons (ps_fld (pv 0) pe_dnewK rfl)
      (pss_one (ps_fld (pv 0) pe_int rfl)))), ?_⟩
    obtain ⟨p, dx, b, rfl, hp, q⟩ := h
    walk_at "rd"
    have m4 : ∀ {p : Addr} fs, Mu p (HO.ins CO dx fs) := fun _ => mu_of trivial
    refine ⟨CO, dx, _, hp, TH.cl, TH.nb, (by show 0 < 1000; decide), ?_⟩
    have k1 : Kp [p] H (upd H p (.ins CO dx (putF "book" (.ref b) []))) := Kp.refl.put hp (m4 _) (by simp)
    have hp1 : upd H p (.ins CO dx (putF "book" (.ref b) [])) p = some (.ins CO dx (putF "book" (.ref b) [])) := upd_same
    have fr : ∀ x, upd H p (.ins CO dx (putF "book" (.ref b) [])) x = none → H x = none := fun x hx => by
      by_cases e : x = p
      · rw [e, upd_same] at hx
        cases hx
      · rwa [upd_ne e] at hx
    generalize upd H p (.ins CO dx (putF "book" (.ref b) [])) = H1 at k1 hp1 fr ⊢
    intro hh hhn
    have k2 : Kp [] H1 (upd H1 hh (.dK [])) := Kp.refl.new hhn
    have hh2 : upd H1 hh (.dK []) hh = some (.dK []) := upd_same
    have hp2 := k2.at hp1 (by simp)
    have nph : hh ≠ p := (ne_of_none hp1 hhn).symm
    generalize upd H1 hh (.dK []) = H2 at k2 hh2 hp2 ⊢
    refine ⟨CO, dx, _, hp2, TH.cl, TH.nh, (by show 1 < 1000; decide), CO, dx, _, upd_same, TH.cl, TH.nt, (by show 2 < 1000; decide), ?_⟩
    refine q _ hh ((k1.trans k2.nil).trans ((Kp.refl.put hp2 (m4 _) (by simp)).put upd_same (m4 _) (by simp))) (fr _ hhn) upd_same ?_
    rw [upd_ne nph, upd_ne nph]
    exact hh2
def spHsI (CO : Addr) : Sp := fun vs H Q _ => ∃ (p dx b : Addr), vs = [.ref p, .ref b] ∧ H p = some (.ins CO dx []) ∧ ∀ H' hh, Kp [p] H H' → H hh = none → HsAt CO H' p b hh [] → Q .non H'
theorem ok_hs_init (T : Txt K w mg CN CB CH) (TH : TxtH K CO) (F : AtM K CO "__init__" "House.__init__" s_House___init__ ["self", "book"]) (S_Store : ClsA K mg "Store" CS "__init__") (M_st_init : Dfm P w K mg base 1 CS "__init__" ["self", "book"] (spStI CO)) :
    Dfm P w K mg base 2 CO "__init__" ["self", "book"] (spHsI CO) := by
  refine F.ok sc_House___init__ (fun vs H Q E h => ?_) (fun qual f cdv A outer s H vs Q E hr h => ?_)
  · obtain ⟨p, dx, b, rfl, _⟩ := h
    rfl
  · refine ⟨_, (pss_cons (ps_expr (pe_cm S_Store M_st_init hr (pa_cons (pv 0) (pa_cons (pv 1) pa_nil))))
      (pss_cons (ps_fld (pv 0) pe_dnewK rfl)
      (pss_cons (ps_fld (pv 0) (pe_lst pa_nil) rfl)
      (pss_cons (ps_fld (pv 0) pe_dnewK rfl)
      (pss_one (ps_fld (pv 0) (pe_lst pa_nil) rfl)))))), ?_⟩
    obtain ⟨p, dx, b, rfl, hp, q⟩ := h
    walk_at "rd"
    refine ⟨p, dx, b, rfl, hp, fun H1 hh k1 hhn hp1 hh1 => ?_⟩
    have m4 : ∀ {p : Addr} fs, Mu p (HO.ins CO dx fs) := fun _ => mu_of trivial
    have nph : hh ≠ p := (ne_of_none hp hhn).symm
    walk_at "rd"
    intro sa hsa
    have k2 : Kp [] H1 (upd H1 sa (.dK [])) := Kp.refl.new hsa
    have hp2 := k2.at hp1 (by simp)
    have hh2 := k2.at hh1 (by simp)
    generalize upd H1 sa (.dK []) = H2 at k2 hh2 hp2 ⊢
    refine ⟨CO, dx, _, hp2, TH.cl, TH.ns, (by show 3 < 1000; decide), ?_⟩
    have k3 : Kp [p] H2 _ := Kp.refl.put (o := .ins CO dx (putF "stands" (.ref sa) [("book", .ref b), ("here", .ref hh), ("turns", .int 0)])) hp2 (m4 _) (by simp)
    have hp3 : upd H2 p (.ins CO dx (putF "stands" (.ref sa) [("book", .ref b), ("here", .ref hh), ("turns", .int 0)])) p = some (.ins CO dx (putF "stands" (.ref sa) [("book", .ref b), ("here", .ref hh), ("turns", .int 0)])) := upd_same
    have hh3 := k3.at hh2 (by simpa using nph)
    generalize upd H2 p (.ins CO dx (putF "stands" (.ref sa) [("book", .ref b), ("here", .ref hh), ("turns", .int 0)])) = H3 at k3 hh3 hp3 ⊢
    refine ⟨by decide, fun la hla => ?_⟩
    have k4 : Kp [] H3 (upd H3 la (.lst [])) := Kp.refl.new hla
    have hp4 := k4.at hp3 (by simp)
    have hh4 := k4.at hh3 (by simp)
    generalize upd H3 la (.lst []) = H4 at k4 hh4 hp4 ⊢
    refine ⟨CO, dx, _, hp4, TH.cl, TH.nl, (by show 4 < 1000; decide), ?_⟩
    have k5 : Kp [p] H4 _ := Kp.refl.put (o := .ins CO dx (putF "lately" (.ref la) (putF "stands" (.ref sa) [("book", .ref b), ("here", .ref hh), ("turns", .int 0)]))) hp4 (m4 _) (by simp)
    have hp5 : upd H4 p (.ins CO dx (putF "lately" (.ref la) (putF "stands" (.ref sa) [("book", .ref b), ("here", .ref hh), ("turns", .int 0)]))) p = some (.ins CO dx (putF "lately" (.ref la) (putF "stands" (.ref sa) [("book", .ref b), ("here", .ref hh), ("turns", .int 0)]))) := upd_same
    have hh5 := k5.at hh4 (by simpa using nph)
    generalize upd H4 p (.ins CO dx (putF "lately" (.ref la) (putF "stands" (.ref sa) [("book", .ref b), ("here", .ref hh), ("turns", .int 0)]))) = H5 at k5 hh5 hp5 ⊢
    intro oa hoa
    have k6 : Kp [] H5 (upd H5 oa (.dK [])) := Kp.refl.new hoa
    have hp6 := k6.at hp5 (by simp)
    have hh6 := k6.at hh5 (by simp)
    generalize upd H5 oa (.dK []) = H6 at k6 hh6 hp6 ⊢
    refine ⟨CO, dx, _, hp6, TH.cl, TH.no, (by show 5 < 1000; decide), ?_⟩
    have k7 : Kp [p] H6 _ := Kp.refl.put (o := .ins CO dx (putF "others" (.ref oa) (putF "lately" (.ref la) (putF "stands" (.ref sa) [("book", .ref b), ("here", .ref hh), ("turns", .int 0)])))) hp6 (m4 _) (by simp)
    have hp7 : upd H6 p (.ins CO dx (putF "others" (.ref oa) (putF "lately" (.ref la) (putF "stands" (.ref sa) [("book", .ref b), ("here", .ref hh), ("turns", .int 0)])))) p = some (.ins CO dx (putF "others" (.ref oa) (putF "lately" (.ref la) (putF "stands" (.ref sa) [("book", .ref b), ("here", .ref hh), ("turns", .int 0)])))) := upd_same
    have hh7 := k7.at hh6 (by simpa using nph)
    generalize upd H6 p (.ins CO dx (putF "others" (.ref oa) (putF "lately" (.ref la) (putF "stands" (.ref sa) [("book", .ref b), ("here", .ref hh), ("turns", .int 0)])))) = H7 at k7 hh7 hp7 ⊢
    refine ⟨by decide, fun pa hpa => ?_⟩
    have k8 : Kp [] H7 (upd H7 pa (.lst [])) := Kp.refl.new hpa
    have hp8 := k8.at hp7 (by simp)
    have hh8 := k8.at hh7 (by simp)
    generalize upd H7 pa (.lst []) = H8 at k8 hh8 hp8 ⊢
    refine ⟨CO, dx, _, hp8, TH.cl, TH.np, (by show 6 < 1000; decide), ?_⟩
    have k9 : Kp [p] H8 _ := Kp.refl.put (o := .ins CO dx (putF "pinned" (.ref pa) (putF "others" (.ref oa) (putF "lately" (.ref la) (putF "stands" (.ref sa) [("book", .ref b), ("here", .ref hh), ("turns", .int 0)]))))) hp8 (m4 _) (by simp)
    exact q _ hh ((((((((k1.trans k2.nil).trans k3).trans k4.nil).trans k5).trans k6.nil).trans k7).trans k8.nil).trans k9) hhn ⟨⟨dx, 0, .ref sa, .ref la, .ref oa, .ref pa, upd_same⟩, k9.at hh8 (by simpa using nph), by simp⟩
def spPut (P : Program) (w : World) (K : PySem.W.Frag) (CB CO : Addr) : Sp := fun vs H Q _ => ∃ (h b hh ca da ga : Addr) (ns : List Nat) (ps : List (Addr × Str)) (m : Nat), vs = [.ref h, .int ((m : Nat) : Int)] ∧ HsAt CO H h b hh ns ∧ BkAt P w K CB H b ca da ga ps ∧ m < ps.length ∧ ns.length ≤ 100 ∧
  ∀ H', Kp [h, hh] H H' → HsAt CO H' h b hh (if m ∈ ns then ns else ns ++ [m]) → Q (.bl (!decide (m ∈ ns))) H'
theorem ok_put (T : Txt K w mg CN CB CH) (TH : TxtH K CO) (F : AtM K CO "put" "Store.put" s_Store_put ["self", "name"]) (G_is_name : Dfn P w K mg base 2 "is_name" ["book", "thing"] (spIsName P w K CB)) : Dfm P w K mg base 3 CO "put" ["self", "name"] (spPut P w K CB CO) := by
  refine F.ok sc_Store_put (fun vs H Q E h => ?_) (fun qual f cdv A outer s H vs Q E hr h => ?_)
  · obtain ⟨h, b, hh, ca, da, ga, ns, ps, m, rfl, _⟩ := h
    rfl
  · refine ⟨_, (pss_cons (ps_if (pt_not (pt_val (pe_fn G_is_name hr (pa_cons (pe_fld (pv 0) rfl) (pa_cons (pv 1) pa_nil))))) (pss_one ps_no) pss_nil)
      (pss_cons (ps_if (pt_cmp (pc_din (hu_of hr) (pv 1) (pe_fld (pv 0) rfl))) (pss_one (ps_ret pe_bl)) pss_nil)
      (pss_cons (ps_dput (hu_of hr) (pe_fld (pv 0) rfl) (pv 1) pe_bl rfl)
      (pss_cons (ps_fldaug (pv 0) pe_int in_add)
      (pss_one (ps_ret pe_bl)))))), ?_⟩
    obtain ⟨h, b, hh, ca, da, ga, ns, ps, m, rfl, hs, hb, hm, h100, q⟩ := h
    obtain ⟨dx, n, sa, la, oa, pa, h1⟩ := hs.ob
    have hhe := hs.he
    walk_at "rd"
    walk_at "hb"
    refine ⟨b, ca, da, ga, ps, m, rfl, hb, ?_⟩
    walk_at "rd"
    rw [if_neg (by simpa using hm)]
    walk_at "hh"
    refine ⟨_, DGet.k (k := Sum.inl ((m : Nat) : Int)) hhe, ?_⟩
    rw [val_nm]
    by_cases e : m ∈ ns
    · rw [if_pos e]
      walk_at "rd"
      have q1 := q H Kp.refl
      rw [if_pos e, decide_eq_true e] at q1
      exact q1 hs
    · rw [if_neg e]
      walk_at "rd"
      walk_at "hh"
      have hv : valV (nmK ns) (Sum.inl ((m : Nat) : Int)) = none := by rw [val_nm, if_neg e]
      refine ⟨_, DPut.k (k := Sum.inl ((m : Nat) : Int)) hhe (by rw [List.length_map, sizeLine_eq]; omega), ?_⟩
      rw [putK_new _ hv]
      have nhh : h ≠ hh := ne_of h1 hhe (by intro z; cases z)
      have e2h := keepU (u := .dK (nmK ns ++ [(Sum.inl ((m : Nat) : Int), V.bl true)])) nhh h1
      have e2 : upd H hh (.dK (nmK ns ++ [(Sum.inl ((m : Nat) : Int), V.bl true)])) hh = some (.dK (nmK ns ++ [(Sum.inl ((m : Nat) : Int), V.bl true)])) := upd_same
      have k2 : Kp [h, hh] H (upd H hh (.dK (nmK ns ++ [(Sum.inl ((m : Nat) : Int), V.bl true)]))) := Kp.refl.put hhe (mu_of trivial) (by simp)
      generalize upd H hh (.dK (nmK ns ++ [(Sum.inl ((m : Nat) : Int), V.bl true)])) = H2 at e2h e2 k2 ⊢
      walk_at "ht"
      refine ⟨_, _, rfl, rfl, _, _, e2h, (by show 7 < 1000; decide), ?_⟩
      rw [pht]
      have q1 := q _ (k2.trans (Kp.refl.put (o := .ins CO dx (hsF b hh (n + 1) sa la oa pa)) e2h (mu_of trivial) (by simp)))
      rw [if_neg e, decide_eq_false e] at q1
      refine q1 ⟨⟨dx, _, sa, la, oa, pa, upd_same⟩, ?_, ?_⟩
      · rw [upd_ne nhh.symm, e2, nmK, nmK, List.map_append]
        rfl
      · rw [List.nodup_append]
        refine ⟨hs.nd, by simp, fun a ha b hb => ?_⟩
        rw [List.mem_singleton.mp hb]
        rintro rfl
        exact e ha
def spHeld (CO : Addr) : Sp := fun vs H Q _ => ∃ (h b hh : Addr) (ns : List Nat), vs = [.ref h] ∧ HsAt CO H h b hh ns ∧ ns.length ≤ 50 ∧
  ∀ H' p (ys : List Int), Kp [] H H' → ys.Perm (ns.map fun k => ((k : Nat) : Int)) → ys.Pairwise (· ≤ ·) → Fr H p → H' p = some (.lst (ys.map V.int)) → Q (.ref p) H'
theorem ok_held (T : Txt K w mg CN CB CH) (TH : TxtH K CO) (F : AtM K CO "held" "Store.held" s_Store_held ["self"]) : Dfm P w K mg base 1 CO "held" ["self"] (spHeld CO) := by
  refine F.ok sc_Store_held (fun vs H Q E h => ?_) (fun qual f cdv A outer s H vs Q E hr h => ?_)
  · obtain ⟨h, b, hh, ns, rfl, _⟩ := h
    rfl
  · refine ⟨_, (pss_one (ps_ret (pe_callB (call_sortedDI rfl) (by rfl) T.sorted_ (by decide +kernel) (pa_cons (pe_fld (pv 0) rfl) pa_nil)))), ?_⟩
    obtain ⟨h, b, hh, ns, rfl, hs, h50, q⟩ := h
    obtain ⟨dx, n, sa, la, oa, pa, h1⟩ := hs.ob
    walk_at "rd"
    walk_at "hh"
    exact ⟨_, .inl hs.he, ns.map fun k => ((k : Nat) : Int), by rw [List.map_map, List.map_map]; rfl, by rw [List.length_map]; omega, fun ys p hp1 hp2 hp => q _ p ys (Kp.refl.new hp) hp1 hp2 (.of hp) upd_same⟩
theorem hs_ne_bk {b hh ca da ga dx dx' : Addr} {n : Int} {sa la oa pa : V} : HO.ins CO dx (hsF b hh n sa la oa pa) ≠ HO.ins CB dx' (bkF ca da ga) := fun z => by
  injection z with z1 z2 z3
  have := congrArg List.length z3
  simp at this
theorem BkAt.off {h b' hh : Addr} {ns : List Nat} (hb : BkAt P w K CB H b ca da ga ps) (hs : HsAt CO H h b' hh ns) : (b ∉ [h, hh] ∧ ca ∉ [h, hh] ∧ da ∉ [h, hh] ∧ ga ∉ [h, hh]) ∧ h ∉ [ca, da, ga] ∧ hh ∉ [ca, da, ga] := by
  obtain ⟨dx, n, sa, la, oa, pa, h1⟩ := hs.ob
  obtain ⟨dxb, hb1⟩ := hb.ob
  have a1 : h ≠ b := ne_of h1 hb1 hs_ne_bk
  have a2 : b ≠ hh := ne_of hb1 hs.he (by intro z; cases z)
  have a3 : ca ≠ h := ne_of hb.co h1 (by intro z; cases z)
  have a4 : ca ≠ hh := ne_of hb.co hs.he (by intro z; cases z)
  have a5 : da ≠ h := ne_of hb.de h1 (by intro z; cases z)
  have a6 : da ≠ hh := ne_of hb.de hs.he (by intro z; cases z)
  have a7 : ga ≠ h := ne_of hb.gi.at_ h1 ndo_ne_ins
  have a8 : ga ≠ hh := ne_of hb.gi.at_ hs.he ndo_ne_dk
  simp [a1.symm, a2, a3, a4, a5, a6, a7, a8, a3.symm, a4.symm, a5.symm, a6.symm, a7.symm, a8.symm]
def spWrite (P : Program) (w : World) (K : PySem.W.Frag) (CB CO : Addr) : Sp := fun vs H Q _ => ∃ (h b hh ca da ga x : Addr) (ns : List Nat) (ps : List (Addr × Str)) (c : Str), vs = [.ref h, .ref x] ∧ HsAt CO H h b hh ns ∧ BkAt P w K CB H b ca da ga ps ∧ CtAt K H x c ∧ okT c = true ∧ ps.length ≤ 50 ∧ ns.length ≤ 100 ∧
  ∀ (m : Nat) (ps' : List (Addr × Str)) H', Kp [ca, da, ga, h, hh] H H' → m < ps'.length → (ps' = ps ∨ ps' = ps ++ [(x, c)] ∧ c ∉ ps.map (·.2)) → (ps'.map (·.2))[m]? = some c → BkAt P w K CB H' b ca da ga ps' → HsAt CO H' h b hh (if m ∈ ns then ns else ns ++ [m]) → Q (.int ((m : Nat) : Int)) H'
theorem ok_write (T : Txt K w mg CN CB CH) (TH : TxtH K CO) (F : AtM K CO "write" "Store.write" s_Store_write ["self", "content"]) (M_named : Dfm P w K mg base 4 CB "named" ["self", "content"] (spNamed P w K CB)) (M_put : Dfm P w K mg base 3 CO "put" ["self", "name"] (spPut P w K CB CO)) :
    Dfm P w K mg base 5 CO "write" ["self", "content"] (spWrite P w K CB CO) := by
  refine F.ok sc_Store_write (fun vs H Q E h => ?_) (fun qual f cdv A outer s H vs Q E hr h => ?_)
  · obtain ⟨h, b, hh, ca, da, ga, x, ns, ps, c, rfl, _⟩ := h
    rfl
  · refine ⟨_, (pss_cons (ps_set (i := 2) sc_Store_write.nd rfl (Or.inl rfl) (Fw.pe_m M_named hr passL (pe_fld (pv 0) rfl) (pa_cons (pv 1) pa_nil)))
      (pss_cons (ps_expr (Fw.pe_m M_put hr passL (pv 0) (pa_cons (pv 2) pa_nil)))
      (pss_one (ps_ret (pv 2))))), ?_⟩
    obtain ⟨h, b, hh, ca, da, ga, x, ns, ps, c, rfl, hs, hb, hx, hc, h50, h100, q⟩ := h
    obtain ⟨dx, n, sa, la, oa, pa, h1⟩ := hs.ob
    obtain ⟨dxb, hb1⟩ := hb.ob
    walk_at "rd"
    walk_at "hb"
    have m1 : ∀ z, z ∈ [h, hh] → z ∈ [ca, da, ga, h, hh] := fun z hz => by
      simp only [List.mem_cons, List.not_mem_nil, or_false] at hz ⊢
      rcases hz with rfl | rfl <;> simp
    have m2 : ∀ z, z ∈ [ca, da, ga] → z ∈ [ca, da, ga, h, hh] := fun z hz => by
      simp only [List.mem_cons, List.not_mem_nil, or_false] at hz ⊢
      rcases hz with rfl | rfl | rfl <;> simp
    refine ⟨_, _, hb1, rfl, b, ca, da, ga, x, ps, c, rfl, hb, hx, hc, h50, fun j H1 hj k1 => ?_, fun hm H1 k1 hb' => ?_⟩
    · have hj2 : j < ps.length := by simpa using (List.getElem?_eq_some_iff.mp hj).1
      have hs1 := hs.kp k1 (by simp) (by simp)
      have hb1 := hb.kp0 k1
      refine ⟨_, _, k1.at h1 (by simp), rfl, h, b, hh, ca, da, ga, ns, ps, j, rfl, hs1, hb1, hj2, h100, fun H2 k2 hs2 => ?_⟩
      obtain ⟨⟨a1, a2, a3, a4⟩, _⟩ := hb1.off hs1
      exact q j ps H2 (k1.nil.trans (k2.mono m1)) hj2 (.inl rfl) hj (hb1.kp k2 a1 a2 a3 a4) hs2
    · have hs1 := hs.kp k1 (hb.off hs).2.1 (hb.off hs).2.2
      have hl : ps.length < (ps ++ [(x, c)]).length := by simp
      refine ⟨_, _, k1.at h1 (hb.off hs).2.1, rfl, h, b, hh, ca, da, ga, ns, ps ++ [(x, c)], ps.length, rfl, hs1, hb', hl, h100, fun H2 k2 hs2 => ?_⟩
      obtain ⟨⟨a1, a2, a3, a4⟩, _⟩ := hb'.off hs1
      exact q ps.length _ H2 ((k1.mono m2).trans (k2.mono m1)) hl (.inr ⟨rfl, hm⟩) (by simp) (hb'.kp k2 a1 a2 a3 a4) hs2
end
end Kq
set_option Elab.async false
set_option linter.all false
set_option maxRecDepth 100000
set_option maxHeartbeats 4000000
namespace Kq
open PySem PySem.Spec PyProof.Rows L2 Fw
local macro_rules | `(tactic| walk_at "rd") => `(tactic| try simp only [tMeth, tMake, tFld, sFld, sFldAug, tMethT, tCallVT, tDNewN, tNo, tNoE, cx_P, tDIn, tDNotIn, tDGet, tDGet2, tMx, tRaiseF, tXfX, tXf, tSeq, tNext, tBreak, tCont, tDrop, tRet, tRetN, tIfS, tAsg, tVar, tC, tOp, tUn, tTest, tB, tAnd, tOr, tNot, tAndV, tOrV, tNotV, tIf, tChain, tCB, tCons, tNil, tTup, tLst, tCall, tCallS, WE,
  gName, gSub, rI, rI0, rU, rEq, rNe, rIsiC, tSl, tPart, tNoPart, rSetL, tBM, tBM0, rAppend, rExtend, rExtendT, tCallL, L2.start, List.map_cons, List.map_nil, List.length_cons, List.length_nil, Nat.sub_self, Nat.reduceAdd, Nat.reduceSub, List.replicate_zero, List.replicate_succ, List.append_nil, List.nil_append, List.cons_append,
  List.getElem?_cons_zero, List.getElem?_cons_succ, List.set_cons_zero, List.set_cons_succ, Option.some.injEq, exists_eq_left', exists_eq_left, exists_eq_right, exists_eq_right', exists_const, exists_and_left, exists_and_right, V.int.injEq, V.bl.injEq, V.str.injEq, V.ref.injEq, V.ty.injEq, List.cons.injEq, and_true, true_and, and_assoc, reduceCtorEq, false_and, and_false, exists_false, false_or, or_false,
  if_true, if_false, Bool.not_true, Bool.not_false, Bool.false_eq_true, Bool.true_eq_false, ↓reduceIte, decide_eq_true_eq, decide_true, decide_false, sc_nn, sc_ni, sc_in, sc_nb, sc_bn, sc_ns, sc_sn, sc_ii, sc_bb, sc_ss, sc_is, sc_si, sc_bs, sc_sb, ipI, Int.reduceLT, Int.reduceLE, Int.reduceEq, Nat.reduceLT, Nat.reduceEqDiff, String.reduceEq, nc0, nc1, nc2, nc3, nc4, nc5, nc6, nc7, nc8, nc9, nc10, nc11, nc12, cx_K, cx_w, wipe, lenV_str, rCat, exists_eq, exists_eq', relO, relC, relM, relI, relSl, spOf, ciOf, csOf, crOf, L2.rIxD, eq_self, not_true_eq_false, not_false_eq_true, Option.isSome_some, Option.isSome_none, tCallV, ofS_inj, sg_inj, sg_len, sg_lt, tM1, tM0, tLc_rng1, tLc_rng2, tFor_rng1, tFor_rng2, tDNewK, sDPut,  Nat.reduceLeDiff, Bool.not_eq_true', decide_eq_false_iff_not,
  isi_int_int, isi_int_bool, isi_int_str, isi_int_tuple, isi_int_list, isi_int_dict, isi_bool_int, isi_bool_bool, isi_bool_str, isi_bool_tuple, isi_bool_list, isi_bool_dict, isi_str_int, isi_str_bool, isi_str_str, isi_str_tuple, isi_str_list, isi_str_dict, isi_non_int, isi_non_bool, isi_non_str, isi_non_tuple, isi_non_list, isi_non_dict])
local macro_rules | `(tactic| walk_at "ix") => `(tactic| (refine ixT (by assumption) rfl ?_; walk_at "rd"))
local macro_rules | `(tactic| walk_at "len") => `(tactic| (refine ⟨_, lenV_T (by assumption), ?_⟩; walk_at "rd"))
local macro_rules | `(tactic| walk_at "isT") => `(tactic| (refine ⟨true, isiT (by assumption), ?_⟩; walk_at "rd"))

/-! ### a town -/
abbrev tnF (b ha : Addr) (ta : V) : List (Str × V) := [("book", .ref b), ("homes", .ref ha), ("talks", ta)]
theorem ltb {b ha : Addr} {ta : V} : (tnF b ha ta).lookup ("book" : Str) = some (.ref b) := by rfl
theorem lth {b ha : Addr} {ta : V} : (tnF b ha ta).lookup ("homes" : Str) = some (.ref ha) := by rfl
structure TxtW (K : PySem.W.Frag) (CW : Addr) : Prop where
  cl : Cls K CW
  nb : NoAttr K CW "book"
  nh : NoAttr K CW "homes"
  nt : NoAttr K CW "talks"
local macro_rules | `(tactic| walk_at "tb") => `(tactic| (refine ⟨_, _, _, (by assumption), (TxtW.cl (by assumption)), (TxtW.nb (by assumption)), _, ltb, ?_⟩; walk_at "rd"))
local macro_rules | `(tactic| walk_at "th") => `(tactic| (refine ⟨_, _, _, (by assumption), (TxtW.cl (by assumption)), (TxtW.nh (by assumption)), _, lth, ?_⟩; walk_at "rd"))
/-- a house of a town -/
structure Rec where
  lab : Str
  a : Addr
  hh : Addr
  ns : List Nat
abbrev labs (rs : List Rec) : List Str := rs.map (·.lab)
abbrev hmK (rs : List Rec) : List (Key × V) := rs.map fun r => (Sum.inr r.lab, V.ref r.a)
abbrev own (rs : List Rec) : List Addr := rs.flatMap fun r => [r.a, r.hh]
theorem val_hm_none {l : Str} : ∀ {rs : List Rec}, l ∉ labs rs → valV (hmK rs) (Sum.inr l) = none
  | [], _ => rfl
  | r :: rs, h => by
    rw [labs, List.map_cons, List.mem_cons, not_or] at h
    show valV ((Sum.inr r.lab, V.ref r.a) :: hmK rs) _ = _
    rw [valV_neg (fun z => h.1 (Sum.inr.inj z).symm)]
    exact val_hm_none h.2
theorem val_hm_some {r : Rec} : ∀ {rs : List Rec}, (labs rs).Nodup → r ∈ rs → valV (hmK rs) (Sum.inr r.lab) = some (.ref r.a)
  | [], _, h => by cases h
  | q :: rs, nd, h => by
    rw [labs, List.map_cons, List.nodup_cons] at nd
    show valV ((Sum.inr q.lab, V.ref q.a) :: hmK rs) _ = _
    rcases List.mem_cons.mp h with rfl | h
    · rw [valV_pos rfl]
    · rw [valV_neg (fun z => nd.1 (by rw [Sum.inr.inj z]; exact List.mem_map_of_mem (f := (·.lab)) h))]
      exact val_hm_some nd.2 h
structure TnAt (P : Program) (w : World) (K : PySem.W.Frag) (CB CO CW : Addr) (H : Hp) (t b ca da ga ha : Addr) (ps : List (Addr × Str)) (rs : List Rec) : Prop where
  ob : ∃ dx ta, H t = some (.ins CW dx (tnF b ha ta))
  bk : BkAt P w K CB H b ca da ga ps
  hm : H ha = some (.dK (hmK rs))
  hs : ∀ r ∈ rs, HsAt CO H r.a b r.hh r.ns
  nl : (labs rs).Nodup
  na : (own rs).Nodup
  nh : ∀ r ∈ rs, r.hh ≠ ha
  nn : ∀ r ∈ rs, ∀ n ∈ r.ns, n < ps.length
abbrev fp (t b ca da ga ha : Addr) (rs : List Rec) : List Addr := [t, b, ca, da, ga, ha] ++ own rs
section
variable {P : Program} {w : World} {K : PySem.W.Frag} {mg : Str → Option Value} {base : Heap} {CN CB CH CO CS CW CT : Addr} {H H' : Hp} {M : List Addr} {t b ca da ga ha : Addr} {ps : List (Addr × Str)} {rs : List Rec}
theorem occ_of {z : Addr} {o : HO} (e : H z = some o) (n : NT o := by exact trivial) : ∃ o, NT o ∧ H z = some o := ⟨o, n, e⟩
theorem mem_own {r : Rec} (h : r ∈ rs) : r.a ∈ own rs ∧ r.hh ∈ own rs := ⟨List.mem_flatMap.mpr ⟨r, h, by simp⟩, List.mem_flatMap.mpr ⟨r, h, by simp⟩⟩
theorem TnAt.kp (h : TnAt P w K CB CO CW H t b ca da ga ha ps rs) (k : Kp M H H') (n : ∀ z ∈ fp t b ca da ga ha rs, z ∉ M) : TnAt P w K CB CO CW H' t b ca da ga ha ps rs := by
  obtain ⟨dx, ta, h1⟩ := h.ob
  refine ⟨⟨dx, ta, k.at h1 (n _ (by simp))⟩, h.bk.kp k (n _ (by simp)) (n _ (by simp)) (n _ (by simp)) (n _ (by simp)), k.at h.hm (n _ (by simp)), fun r hr => (h.hs r hr).kp k (n _ ?_) (n _ ?_), h.nl, h.na, h.nh, h.nn⟩
  · exact List.mem_append_right _ (mem_own hr).1
  · exact List.mem_append_right _ (mem_own hr).2
theorem TnAt.kp0 (h : TnAt P w K CB CO CW H t b ca da ga ha ps rs) (k : Kp [] H H') : TnAt P w K CB CO CW H' t b ca da ga ha ps rs := h.kp k (by simp)
/-- all of it is there -/
theorem TnAt.occ (h : TnAt P w K CB CO CW H t b ca da ga ha ps rs) {z : Addr} (hz : z ∈ fp t b ca da ga ha rs) : ∃ o, NT o ∧ H z = some o := by
  obtain ⟨dx, ta, h1⟩ := h.ob
  obtain ⟨dxb, h2⟩ := h.bk.ob
  rcases List.mem_append.mp hz with hz | hz
  · simp only [List.mem_cons, List.not_mem_nil, or_false] at hz
    rcases hz with rfl | rfl | rfl | rfl | rfl | rfl
    · exact occ_of (h1)
    · exact occ_of (h2)
    · exact occ_of (h.bk.co)
    · exact occ_of (h.bk.de)
    · exact occ_of (h.bk.gi.at_)
    · exact occ_of (h.hm)
  · obtain ⟨r, hr, hz⟩ := List.mem_flatMap.mp hz
    simp only [List.mem_cons, List.not_mem_nil, or_false] at hz
    obtain ⟨dx, n, sa, la, oa, pa, h3⟩ := (h.hs r hr).ob
    rcases hz with rfl | rfl
    · exact occ_of (h3)
    · exact occ_of ((h.hs r hr).he)
theorem TnAt.wr (h : TnAt P w K CB CO CW H t b ca da ga ha ps rs) {z : Addr} (hz : Wr H z) : z ∉ fp t b ca da ga ha rs := fun q => by
  obtain ⟨o, n, e⟩ := h.occ q
  exact hz o n e
theorem TnAt.fr (h : TnAt P w K CB CO CW H t b ca da ga ha ps rs) {z : Addr} (hz : Fr H z) : z ∉ fp t b ca da ga ha rs := h.wr (.of hz)
theorem sc_Town___init__ : FnScope ["self"] ["self"] (defScope s_Town___init__) := ⟨rfl, rfl, rfl, by decide +kernel, rfl, by decide +kernel, by decide +kernel⟩
theorem sc_Town_build : FnScope ["self", "label"] ["self", "label"] (defScope s_Town_build) := ⟨rfl, rfl, rfl, by decide +kernel, rfl, by decide +kernel, by decide +kernel⟩
theorem sc_Town_house : FnScope ["self", "label"] ["self", "label"] (defScope s_Town_house) := ⟨rfl, rfl, rfl, by decide +kernel, rfl, by decide +kernel, by decide +kernel⟩
theorem sc_Town_labels : FnScope ["self"] ["self"] (defScope s_Town_labels) := ⟨rfl, rfl, rfl, by decide +kernel, rfl, by decide +kernel, by decide +kernel⟩
theorem sc_Town_sweep : FnScope ["self", "label"] ["self", "label"] (defScope s_Town_sweep) := ⟨rfl, rfl, rfl, by decide +kernel, rfl, by decide +kernel, by decide +kernel⟩
def spTnI (P : Program) (w : World) (K : PySem.W.Frag) (CB CO CW : Addr) : Sp := fun vs H Q _ => ∃ (p dx : Addr), vs = [.ref p] ∧ H p = some (.ins CW dx []) ∧ ∀ H' b ca da ga ha, Kp [p] H H' → Fr H b → Fr H ca → Fr H da → Fr H ga → Fr H ha → TnAt P w K CB CO CW H' p b ca da ga ha [] [] → Q .non H'
theorem ok_tn_init (T : Txt K w mg CN CB CH) (TB : TxtB K CB) (TW : TxtW K CW) (F : AtM K CW "__init__" "Town.__init__" s_Town___init__ ["self"]) (C_Book : Dfc P w K mg base 1 "Book" CB ["self"] (spBkI P w K CB)) : Dfm P w K mg base 3 CW "__init__" ["self"] (spTnI P w K CB CO CW) := by
  refine F.ok sc_Town___init__ (fun vs H Q E h => ?_) (fun qual f cdv A outer s H vs Q E hr h => ?_)
  · obtain ⟨p, dx, rfl, _⟩ := h
    rfl
  · refine ⟨_, (pss_cons (ps_fld (pv 0) (pe_mk0 C_Book hr) rfl)
      (pss_cons (ps_fld (pv 0) pe_dnewK rfl)
      (pss_one (ps_fld (pv 0) (pe_lst pa_nil) rfl)))), ?_⟩
    obtain ⟨p, dx, rfl, hp, q⟩ := h
    walk_at "rd"
    have m4 : ∀ {p : Addr} fs, Mu p (HO.ins CW dx fs) := fun _ => mu_of trivial
    intro b dxb hb hdb nb
    have k0 : Kp [] H (upd (upd H dxb (.own b)) b (.ins CB dxb [])) := (Kp.refl.new hdb).new (by rw [upd_ne (Ne.symm nb)]; exact hb)
    have hb0 : upd (upd H dxb (.own b)) b (.ins CB dxb []) b = some (.ins CB dxb []) := upd_same
    have hp0 := k0.at hp (by simp)
    generalize upd (upd H dxb (.own b)) b (.ins CB dxb []) = H0 at k0 hb0 hp0 ⊢
    refine ⟨b, dxb, rfl, hb0, fun H1 ca da ga k1 fca fda fga hbk => ?_⟩
    have hp1 := k1.at hp0 (by simpa using (ne_of_none hp hb))
    have k01 : Kp [] H H1 := k0.hide k1 fun m hm => .inr (by rw [List.mem_singleton.mp hm]; exact .of hb)
    walk_at "rd"
    refine ⟨CW, dx, _, hp1, TW.cl, TW.nb, (by show 0 < 1000; decide), ?_⟩
    have npb : b ≠ p := (ne_of_none hp hb).symm
    have k2 : Kp [p] H1 (upd H1 p (.ins CW dx (putF "book" (.ref b) []))) := Kp.refl.put hp1 (m4 _) (by simp)
    have hp2 : upd H1 p (.ins CW dx (putF "book" (.ref b) [])) p = some (.ins CW dx (putF "book" (.ref b) [])) := upd_same
    have nc : ∀ {z : Addr}, Fr H z → z ≠ p := fun f => (f.ne (o := .ins CW dx []) trivial hp).symm
    have hbk2 := hbk.kp k2 (by simpa using npb) (by simpa using nc (k0.free fca)) (by simpa using nc (k0.free fda)) (by simpa using nc (k0.free fga))
    generalize upd H1 p (.ins CW dx (putF "book" (.ref b) [])) = H2 at k2 hp2 hbk2 ⊢
    intro ha hha
    have k3 : Kp [] H2 (upd H2 ha (.dK [])) := Kp.refl.new hha
    have hp3 := k3.at hp2 (by simp)
    have ha3 : upd H2 ha (.dK []) ha = some (.dK []) := upd_same
    have hbk3 := hbk2.kp0 k3
    have nha : ha ≠ p := (ne_of_none hp2 hha).symm
    generalize upd H2 ha (.dK []) = H3 at k3 hp3 ha3 hbk3 ⊢
    refine ⟨CW, dx, _, hp3, TW.cl, TW.nh, (by show 1 < 1000; decide), by decide, fun ta hta => ?_⟩
    have hp4 : upd H3 p (.ins CW dx (putF "homes" (.ref ha) (putF "book" (.ref b) []))) p = some (.ins CW dx (putF "homes" (.ref ha) (putF "book" (.ref b) []))) := upd_same
    have k4 : Kp [p] H3 (upd H3 p (.ins CW dx (putF "homes" (.ref ha) (putF "book" (.ref b) [])))) := Kp.refl.put hp3 (m4 _) (by simp)
    have ha4 := k4.at ha3 (by simpa using nha)
    have hbk4 := hbk3.kp k4 (by simpa using npb) (by simpa using nc (k0.free fca)) (by simpa using nc (k0.free fda)) (by simpa using nc (k0.free fga))
    generalize upd H3 p (.ins CW dx (putF "homes" (.ref ha) (putF "book" (.ref b) []))) = H4 at k4 hp4 ha4 hbk4 hta ⊢
    have k5 : Kp [] H4 (upd H4 ta (.lst [])) := Kp.refl.new hta
    have hp5 := k5.at hp4 (by simp)
    have ha5 := k5.at ha4 (by simp)
    have hbk5 := hbk4.kp0 k5
    generalize upd H4 ta (.lst []) = H5 at k5 hp5 ha5 hbk5 ⊢
    refine ⟨CW, dx, _, hp5, TW.cl, TW.nt, (by show 2 < 1000; decide), ?_⟩
    have k6 : Kp [p] H5 _ := Kp.refl.put (o := .ins CW dx (putF "talks" (.ref ta) (putF "homes" (.ref ha) (putF "book" (.ref b) [])))) hp5 (m4 _) (by simp)
    refine q _ b ca da ga ha (((((k01.nil.trans k2).trans k3.nil).trans k4).trans k5.nil).trans k6) (.of hb) (k0.free fca) (k0.free fda) (k0.free fga) ((k01.nil.trans k2).free (.of hha)) ⟨⟨dx, .ref ta, upd_same⟩, hbk5.kp k6 (by simpa using npb) (by simpa using nc (k0.free fca)) (by simpa using nc (k0.free fda)) (by simpa using nc (k0.free fga)), k6.at ha5 (by simpa using nha), fun r hr => (by cases hr), by simp, by simp, fun r hr => (by cases hr), fun r hr => (by cases hr)⟩
end
end Kq
set_option Elab.async false
set_option linter.all false
set_option maxRecDepth 100000
set_option maxHeartbeats 4000000
namespace Kq
open PySem PySem.Spec PyProof.Rows L2 Fw
local macro_rules | `(tactic| walk_at "rd") => `(tactic| try simp only [tMeth, tMake, tFld, sFld, sFldAug, tMethT, tCallVT, tDNewN, tNo, tNoE, cx_P, tDIn, tDNotIn, tDGet, tDGet2, tMx, tRaiseF, tXfX, tXf, tSeq, tNext, tBreak, tCont, tDrop, tRet, tRetN, tIfS, tAsg, tVar, tC, tOp, tUn, tTest, tB, tAnd, tOr, tNot, tAndV, tOrV, tNotV, tIf, tChain, tCB, tCons, tNil, tTup, tLst, tCall, tCallS, WE,
  gName, gSub, rI, rI0, rU, rEq, rNe, rIsiC, tSl, tPart, tNoPart, rSetL, tBM, tBM0, rAppend, rExtend, rExtendT, tCallL, L2.start, List.map_cons, List.map_nil, List.length_cons, List.length_nil, Nat.sub_self, Nat.reduceAdd, Nat.reduceSub, List.replicate_zero, List.replicate_succ, List.append_nil, List.nil_append, List.cons_append,
  List.getElem?_cons_zero, List.getElem?_cons_succ, List.set_cons_zero, List.set_cons_succ, Option.some.injEq, exists_eq_left', exists_eq_left, exists_eq_right, exists_eq_right', exists_const, exists_and_left, exists_and_right, V.int.injEq, V.bl.injEq, V.str.injEq, V.ref.injEq, V.ty.injEq, List.cons.injEq, and_true, true_and, and_assoc, reduceCtorEq, false_and, and_false, exists_false, false_or, or_false,
  if_true, if_false, Bool.not_true, Bool.not_false, Bool.false_eq_true, Bool.true_eq_false, ↓reduceIte, decide_eq_true_eq, decide_true, decide_false, sc_nn, sc_ni, sc_in, sc_nb, sc_bn, sc_ns, sc_sn, sc_ii, sc_bb, sc_ss, sc_is, sc_si, sc_bs, sc_sb, ipI, Int.reduceLT, Int.reduceLE, Int.reduceEq, Nat.reduceLT, Nat.reduceEqDiff, String.reduceEq, nc0, nc1, nc2, nc3, nc4, nc5, nc6, nc7, nc8, nc9, nc10, nc11, nc12, cx_K, cx_w, wipe, lenV_str, rCat, exists_eq, exists_eq', relO, relC, relM, relI, relSl, spOf, ciOf, csOf, crOf, L2.rIxD, eq_self, not_true_eq_false, not_false_eq_true, Option.isSome_some, Option.isSome_none, tCallV, ofS_inj, sg_inj, sg_len, sg_lt, tM1, tM0, tLc_rng1, tLc_rng2, tFor_rng1, tFor_rng2, tDNewK, sDPut,  Nat.reduceLeDiff, Bool.not_eq_true', decide_eq_false_iff_not,
  isi_int_int, isi_int_bool, isi_int_str, isi_int_tuple, isi_int_list, isi_int_dict, isi_bool_int, isi_bool_bool, isi_bool_str, isi_bool_tuple, isi_bool_list, isi_bool_dict, isi_str_int, isi_str_bool, isi_str_str, isi_str_tuple, isi_str_list, isi_str_dict, isi_non_int, isi_non_bool, isi_non_str, isi_non_tuple, isi_non_list, isi_non_dict])
local macro_rules | `(tactic| walk_at "ix") => `(tactic| (refine ixT (by assumption) rfl ?_; walk_at "rd"))
local macro_rules | `(tactic| walk_at "len") => `(tactic| (refine ⟨_, lenV_T (by assumption), ?_⟩; walk_at "rd"))
local macro_rules | `(tactic| walk_at "isT") => `(tactic| (refine ⟨true, isiT (by assumption), ?_⟩; walk_at "rd"))

local macro_rules | `(tactic| walk_at "tb") => `(tactic| (refine ⟨_, _, _, (by assumption), (TxtW.cl (by assumption)), (TxtW.nb (by assumption)), _, ltb, ?_⟩; walk_at "rd"))
local macro_rules | `(tactic| walk_at "th") => `(tactic| (refine ⟨_, _, _, (by assumption), (TxtW.cl (by assumption)), (TxtW.nh (by assumption)), _, lth, ?_⟩; walk_at "rd"))
section
variable {P : Program} {w : World} {K : PySem.W.Frag} {mg : Str → Option Value} {base : Heap} {CN CB CH CO CS CW CT : Addr} {H H' : Hp} {M : List Addr} {t b ca da ga ha : Addr} {ps : List (Addr × Str)} {rs : List Rec}
theorem TnAt.off (h : TnAt P w K CB CO CW H t b ca da ga ha ps rs) : t ≠ ha ∧ b ≠ ha ∧ ca ≠ ha ∧ da ≠ ha ∧ ga ≠ ha ∧ ∀ r ∈ rs, r.a ≠ ha := by
  obtain ⟨dx, ta, h1⟩ := h.ob
  obtain ⟨dxb, h2⟩ := h.bk.ob
  refine ⟨ne_of h1 h.hm (by intro z; cases z), ne_of h2 h.hm (by intro z; cases z), ne_of h.bk.co h.hm (by intro z; cases z), ne_of h.bk.de h.hm (by intro z; cases z), ne_of h.bk.gi.at_ h.hm ndo_ne_dk, fun r hr => ?_⟩
  obtain ⟨dx, n, sa, la, oa, pa, h3⟩ := (h.hs r hr).ob
  exact ne_of h3 h.hm (by intro z; cases z)
/-- the error of the class C with the label l leaves -/
def Lets (C : Addr) (l : Str) (H : Hp) (E : XK) : Prop := ∀ d H', Kp [] H H' → H d = none → H' d = some (.xd [("label", .str l)]) → E (.ref C) (some d) H'
def spBuild (P : Program) (w : World) (K : PySem.W.Frag) (CB CO CW CT : Addr) : Sp := fun vs H Q E => ∃ (t b ca da ga ha : Addr) (ps : List (Addr × Str)) (rs : List Rec) (l : Str), vs = [.ref t, .str l] ∧ TnAt P w K CB CO CW H t b ca da ga ha ps rs ∧ rs.length ≤ 50 ∧
  (l ∈ labs rs → Lets CT l H E) ∧ (l ∉ labs rs → ∀ H' a hh, Kp [ha] H H' → H a = none → H hh = none → a ≠ hh → TnAt P w K CB CO CW H' t b ca da ga ha ps (rs ++ [⟨l, a, hh, []⟩]) → Q (.ref a) H')
theorem ok_build (T : Txt K w mg CN CB CH) (TB : TxtB K CB) (TH : TxtH K CO) (TW : TxtW K CW) (F : AtM K CW "build" "Town.build" s_Town_build ["self", "label"]) (C_House : Dfc P w K mg base 2 "House" CO ["self", "book"] (spHsI CO)) (X_Taken : ExF P w K mg base "Taken" CT "label") :
    Dfm P w K mg base 4 CW "build" ["self", "label"] (spBuild P w K CB CO CW CT) := by
  refine F.ok sc_Town_build (fun vs H Q E h => ?_) (fun qual f cdv A outer s H vs Q E hr h => ?_)
  · obtain ⟨t, b, ca, da, ga, ha, ps, rs, l, rfl, _⟩ := h
    rfl
  · refine ⟨_, (pss_cons (ps_if (pt_cmp (pc_din (hu_of hr) (pv 1) (pe_fld (pv 0) rfl))) (pss_one (ps_raiseF rfl X_Taken hr (takes_of rfl rfl rfl rfl) (pv 1))) pss_nil)
      (pss_cons (ps_dput (hu_of hr) (pe_fld (pv 0) rfl) (pv 1) (pe_mk C_House hr (pa_cons (pe_fld (pv 0) rfl) pa_nil)) rfl)
      (pss_one (ps_ret (pe_dget (hu_of hr) (pe_fld (pv 0) rfl) (pv 1) (fun _ _ => rfl)))))), ?_⟩
    obtain ⟨t, b, ca, da, ga, ha, ps, rs, l, rfl, ht, h50, q1, q2⟩ := h
    obtain ⟨dx, ta, h1⟩ := ht.ob
    obtain ⟨dxb, hb1⟩ := ht.bk.ob
    have hha := ht.hm
    walk_at "rd"
    walk_at "th"
    refine ⟨_, DGet.k (k := Sum.inr l) hha, ?_⟩
    by_cases hm : l ∈ labs rs
    · obtain ⟨r, hr', rfl⟩ := List.mem_map.mp hm
      rw [val_hm_some ht.nl hr']
      walk_at "rd"
      exact fun d H2 k hd e => q1 hm d H2 k hd e
    · have hv := val_hm_none hm
      rw [hv]
      walk_at "rd"
      walk_at "tb"
      intro a dxa ha0 hdxa na
      have k0 : Kp [] H (upd (upd H dxa (.own a)) a (.ins CO dxa [])) := (Kp.refl.new hdxa).new (by rw [upd_ne (Ne.symm na)]; exact ha0)
      have e0 : upd (upd H dxa (.own a)) a (.ins CO dxa []) a = some (.ins CO dxa []) := upd_same
      have fr0 : ∀ z, upd (upd H dxa (.own a)) a (.ins CO dxa []) z = none → H z = none ∧ z ≠ a := fun z hz => by
        have e1 : z ≠ a := fun e => by
          rw [e, e0] at hz
          cases hz
        rw [upd_ne e1] at hz
        by_cases e2 : z = dxa
        · rw [e2, upd_same] at hz
          cases hz
        · rw [upd_ne e2] at hz
          exact ⟨hz, e1⟩
      have h10 := k0.at h1 (by simp)
      generalize upd (upd H dxa (.own a)) a (.ins CO dxa []) = H0 at k0 e0 fr0 h10 ⊢
      refine ⟨a, dxa, b, rfl, e0, fun H1 hh k1 fhh hs1 => ?_⟩
      obtain ⟨hhn, hna⟩ := fr0 hh fhh
      have k01 : Kp [] H H1 := k0.hide k1 fun m hm => .inr (by rw [List.mem_singleton.mp hm]; exact .of ha0)
      have ht1 := ht.kp0 k01
      have h11 := k01.at h1 (by simp)
      walk_at "rd"
      walk_at "th"
      refine ⟨_, DPut.k (k := Sum.inr l) ht1.hm (by rw [List.length_map, sizeLine_eq]; omega), ?_⟩
      rw [putK_new _ hv]
      have e2 : upd H1 ha (.dK (hmK rs ++ [(Sum.inr l, V.ref a)])) ha = some (.dK (hmK rs ++ [(Sum.inr l, V.ref a)])) := upd_same
      have k2 : Kp [ha] H1 (upd H1 ha (.dK (hmK rs ++ [(Sum.inr l, V.ref a)]))) := Kp.refl.put ht1.hm (mu_of trivial) (by simp)
      generalize upd H1 ha (.dK (hmK rs ++ [(Sum.inr l, V.ref a)])) = H2 at e2 k2 ⊢
      obtain ⟨o1, o2, o3, o4, o5, o6⟩ := ht1.off
      have h12 := k2.at h11 (by simpa using o1)
      walk_at "th"
      have e2' : H2 ha = some (.dK (hmK (rs ++ [⟨l, a, hh, []⟩]))) := by rw [e2, hmK, hmK, List.map_append]; rfl
      have nl : (labs (rs ++ [⟨l, a, hh, []⟩])).Nodup := by
        rw [labs, List.map_append, List.nodup_append]
        refine ⟨ht.nl, by simp, fun x hx y hy => ?_⟩
        simp only [List.map_cons, List.map_nil, List.mem_singleton] at hy
        rintro rfl
        exact hm (hy ▸ hx)
      have hg := DGet.k (k := Sum.inr l) e2'
      rw [val_hm_some (r := ⟨l, a, hh, []⟩) nl (by simp)] at hg
      refine ⟨_, hg, ?_⟩
      have nha : a ≠ ha := (ne_of_none hha ha0).symm
      have nhh : hh ≠ ha := (ne_of_none hha hhn).symm
      have na' : ∀ z, H z = none → z ∉ own rs := fun z hz q => ht.fr (.of hz) (List.mem_append_right _ q)
      refine q2 hm H2 a hh (k01.nil.trans k2) ha0 hhn hna.symm ⟨⟨dx, ta, h12⟩, ht1.bk.kp k2 (by simpa using o2) (by simpa using o3) (by simpa using o4) (by simpa using o5), e2', fun r hr => ?_, nl, ?_, fun r hr => ?_, fun r hr n hn => ?_⟩
      · rcases List.mem_append.mp hr with hr | hr
        · exact (ht1.hs r hr).kp k2 (by simpa using o6 r hr) (by simpa using ht1.nh r hr)
        · rw [List.mem_singleton.mp hr]
          exact hs1.kp k2 (by simpa using nha) (by simpa using nhh)
      · rw [own, List.flatMap_append, List.nodup_append]
        refine ⟨ht.na, by simpa using hna.symm, fun x hx y hy => ?_⟩
        simp only [List.flatMap_cons, List.flatMap_nil, List.append_nil, List.mem_cons, List.not_mem_nil, or_false] at hy
        rintro rfl
        rcases hy with rfl | rfl
        · exact na' _ ha0 hx
        · exact na' _ hhn hx
      · rcases List.mem_append.mp hr with hr | hr
        · exact ht.nh r hr
        · rw [List.mem_singleton.mp hr]
          exact nhh
      · rcases List.mem_append.mp hr with hr | hr
        · exact ht.nn r hr n hn
        · rw [List.mem_singleton.mp hr] at hn
          cases hn
def spHouse (P : Program) (w : World) (K : PySem.W.Frag) (CB CO CW CN : Addr) : Sp := fun vs H Q E => ∃ (t b ca da ga ha : Addr) (ps : List (Addr × Str)) (rs : List Rec) (l : Str), vs = [.ref t, .str l] ∧ TnAt P w K CB CO CW H t b ca da ga ha ps rs ∧
  (l ∉ labs rs → Lets CN l H E) ∧ (∀ r ∈ rs, r.lab = l → Q (.ref r.a) H)
theorem ok_house (T : Txt K w mg CN CB CH) (TW : TxtW K CW) (F : AtM K CW "house" "Town.house" s_Town_house ["self", "label"]) (X_NoHouse : ExF P w K mg base "NoHouse" CN "label") : Dfm P w K mg base 3 CW "house" ["self", "label"] (spHouse P w K CB CO CW CN) := by
  refine F.ok sc_Town_house (fun vs H Q E h => ?_) (fun qual f cdv A outer s H vs Q E hr h => ?_)
  · obtain ⟨t, b, ca, da, ga, ha, ps, rs, l, rfl, _⟩ := h
    rfl
  · refine ⟨_, (pss_cons (ps_if (pt_cmp (pc_dnotin (hu_of hr) (pv 1) (pe_fld (pv 0) rfl))) (pss_one (ps_raiseF rfl X_NoHouse hr (takes_of rfl rfl rfl rfl) (pv 1))) pss_nil)
      (pss_one (ps_ret (pe_dget (hu_of hr) (pe_fld (pv 0) rfl) (pv 1) (fun _ _ => rfl))))), ?_⟩
    obtain ⟨t, b, ca, da, ga, ha, ps, rs, l, rfl, ht, q1, q2⟩ := h
    obtain ⟨dx, ta, h1⟩ := ht.ob
    have hha := ht.hm
    walk_at "rd"
    walk_at "th"
    refine ⟨_, DGet.k (k := Sum.inr l) hha, ?_⟩
    by_cases hm : l ∈ labs rs
    · obtain ⟨r, hr', rfl⟩ := List.mem_map.mp hm
      have hg := DGet.k (k := Sum.inr r.lab) hha
      rw [val_hm_some ht.nl hr'] at hg ⊢
      walk_at "rd"
      walk_at "th"
      exact ⟨_, hg, q2 r hr' rfl⟩
    · rw [val_hm_none hm]
      walk_at "rd"
      exact fun d H2 k hd e => q1 hm d H2 k hd e
def spLabels (P : Program) (w : World) (K : PySem.W.Frag) (CB CO CW : Addr) : Sp := fun vs H Q _ => ∃ (t b ca da ga ha : Addr) (ps : List (Addr × Str)) (rs : List Rec), vs = [.ref t] ∧ TnAt P w K CB CO CW H t b ca da ga ha ps rs ∧ rs.length ≤ 50 ∧
  ∀ H' p (ys : List Str), Kp [] H H' → ys.Perm (labs rs) → sortedS ys = true → H p = none → H' p = some (.lst (ys.map V.str)) → Q (.ref p) H'
theorem ok_labels (T : Txt K w mg CN CB CH) (TW : TxtW K CW) (F : AtM K CW "labels" "Town.labels" s_Town_labels ["self"]) : Dfm P w K mg base 1 CW "labels" ["self"] (spLabels P w K CB CO CW) := by
  refine F.ok sc_Town_labels (fun vs H Q E h => ?_) (fun qual f cdv A outer s H vs Q E hr h => ?_)
  · obtain ⟨t, b, ca, da, ga, ha, ps, rs, rfl, _⟩ := h
    rfl
  · refine ⟨_, (pss_one (ps_ret (pe_callB (call_sortedD rfl) (by rfl) T.sorted_ (by decide +kernel) (pa_cons (pe_fld (pv 0) rfl) pa_nil)))), ?_⟩
    obtain ⟨t, b, ca, da, ga, ha, ps, rs, rfl, ht, h50, q⟩ := h
    obtain ⟨dx, ta, h1⟩ := ht.ob
    walk_at "rd"
    walk_at "th"
    exact ⟨_, .inl ht.hm, labs rs, by rw [List.map_map, List.map_map]; rfl, by rw [List.length_map]; omega, fun ys p hp1 hp2 hp => q _ p ys (Kp.refl.new hp) hp1 hp2 hp upd_same⟩
def spSweep (P : Program) (w : World) (K : PySem.W.Frag) (CB CO CW CN : Addr) : Sp := fun vs H Q E => ∃ (t b ca da ga ha : Addr) (ps : List (Addr × Str)) (rs : List Rec) (l : Str), vs = [.ref t, .str l] ∧ TnAt P w K CB CO CW H t b ca da ga ha ps rs ∧ l ∉ labs rs ∧ Lets CN l H E
theorem ok_sweep (T : Txt K w mg CN CB CH) (TW : TxtW K CW) (F : AtM K CW "sweep" "Town.sweep" s_Town_sweep ["self", "label"]) (M_house : Dfm P w K mg base 3 CW "house" ["self", "label"] (spHouse P w K CB CO CW CN)) : Dfm P w K mg base 4 CW "sweep" ["self", "label"] (spSweep P w K CB CO CW CN) := by
  refine F.ok sc_Town_sweep (fun vs H Q E h => ?_) (fun qual f cdv A outer s H vs Q E hr h => ?_)
  · obtain ⟨t, b, ca, da, ga, ha, ps, rs, l, rfl, _⟩ := h
    rfl
  · refine ⟨_, (pss_one (ps_ret (pe_m0x (Fw.pe_m M_house hr (passes_call (takes_of rfl rfl rfl rfl) (fun _ _ _ _ h => h)) (pv 0) (pa_cons (pv 1) pa_nil))))), ?_⟩
    obtain ⟨t, b, ca, da, ga, ha, ps, rs, l, rfl, ht, hm, q⟩ := h
    obtain ⟨dx, ta, h1⟩ := ht.ob
    walk_at "rd"
    exact ⟨_, _, h1, rfl, t, b, ca, da, ga, ha, ps, rs, l, rfl, ht, fun _ => q, fun r hr e => absurd (List.mem_map.mpr ⟨r, hr, e⟩) hm⟩
end
end Kq
set_option Elab.async false
set_option linter.all false
set_option maxRecDepth 100000
set_option maxHeartbeats 4000000
namespace Fw
open PySem PySem.Spec PyProof.Rows L2 PySem.Calls
/-- a def's promise of nothing -/
theorem At.no {P : Program} {w : World} {K : PySem.W.Frag} {mg : Str → Option Value} {base : Heap} {x : Str} {st : Stmt} {N ps : List Str} (F : At K mg x st ps) (S : FnScope N ps (defScope st)) : Dfn P w K mg base 1 x ps (fun _ _ _ _ => False) :=
  F.ok S (fun _ _ _ _ h => h.elim) fun _ _ _ _ _ _ _ _ _ _ _ h => h.elim
/-! ### isinstance(x, (tuple, list)) -/
def Tl (K : PySem.W.Frag) (H : Hp) (x : V) (b : Bool) : Prop := ∃ t b1 b2, TyX K H x (.type t) ∧ kitB t "tuple" = some b1 ∧ kitB t "list" = some b2 ∧ b = (b1 || b2)
def rIsTL (K : PySem.W.Frag) : List V → Hp → VK → Prop := fun xs H Q => ∃ (x : V) (tp : Addr) (b : Bool), xs = [x, .ref tp] ∧ H tp = some (.tup [.ty "tuple", .ty "list"]) ∧ Tl K H x b ∧ Q (.bl b) H
theorem call_isTL {X : Cx} : CallR X (.builtin "isinstance") (rIsTL X.K) := by
  intro pins s σ H xs us Q I r h
  obtain ⟨x, tp, b, rfl, ht, ⟨t, b1, b2, ty, e1, e2, rfl⟩, q⟩ := h
  refine call_isiT pins s σ H _ us Q I r ⟨x, tp, _, .type t, [.type "tuple", .type "list"], b1 || b2, rfl, ht, .cons (.ty _) (.cons (.ty _) .nil), ty, ?_, q⟩
  refine kitAny_cons (kit_ty e1) (fun h1 => ?_) (fun h1 => by rw [h1]; rfl)
  refine kitAny_cons (kit_ty e2) (fun h2 => by rw [h1, h2]; rfl) (fun h2 => by rw [h2, Bool.or_true])
section
variable {K : PySem.W.Frag} {H : Hp} {p : Addr} {xs : List V}
theorem tl_T (h : SqT K H p xs) : Tl K H (.ref p) true := ⟨_, _, _, tyT h, kitB_same, (by decide +kernel : kitB "tuple" "list" = some false), rfl⟩
theorem tl_L (h : SqL K H p xs) : Tl K H (.ref p) true := ⟨_, _, _, tyL h, (by decide +kernel : kitB "list" "tuple" = some false), kitB_same, rfl⟩
theorem tl_int {i : Int} : Tl K H (.int i) false := ⟨_, _, _, .base (.int i), (by decide +kernel : kitB "int" "tuple" = some false), (by decide +kernel : kitB "int" "list" = some false), rfl⟩
theorem tl_str {z : Str} : Tl K H (.str z) false := ⟨_, _, _, .base (.str z), (by decide +kernel : kitB "str" "tuple" = some false), (by decide +kernel : kitB "str" "list" = some false), rfl⟩
end
end Fw
namespace Kq
open PySem PySem.Spec PyProof.Rows L2 Fw
local macro_rules | `(tactic| walk_at "rd") => `(tactic| try simp only [tMeth, tMake, tFld, sFld, sFldAug, tMethT, tCallVT, tDNewN, tNo, tNoE, cx_P, tDIn, tDNotIn, tDGet, tDGet2, tMx, tRaiseF, tXfX, tXf, tSeq, tNext, tBreak, tCont, tDrop, tRet, tRetN, tIfS, tAsg, tVar, tC, tOp, tUn, tTest, tB, tAnd, tOr, tNot, tAndV, tOrV, tNotV, tIf, tChain, tCB, tCons, tNil, tTup, tLst, tCall, tCallS, WE,
  gName, gSub, rI, rI0, rU, rEq, rNe, rIsiC, tSl, tPart, tNoPart, rSetL, tBM, tBM0, rAppend, rExtend, rExtendT, tCallL, L2.start, List.map_cons, List.map_nil, List.length_cons, List.length_nil, Nat.sub_self, Nat.reduceAdd, Nat.reduceSub, List.replicate_zero, List.replicate_succ, List.append_nil, List.nil_append, List.cons_append,
  List.getElem?_cons_zero, List.getElem?_cons_succ, List.set_cons_zero, List.set_cons_succ, Option.some.injEq, exists_eq_left', exists_eq_left, exists_eq_right, exists_eq_right', exists_const, exists_and_left, exists_and_right, V.int.injEq, V.bl.injEq, V.str.injEq, V.ref.injEq, V.ty.injEq, List.cons.injEq, and_true, true_and, and_assoc, reduceCtorEq, false_and, and_false, exists_false, false_or, or_false,
  if_true, if_false, Bool.not_true, Bool.not_false, Bool.false_eq_true, Bool.true_eq_false, ↓reduceIte, decide_eq_true_eq, decide_true, decide_false, sc_nn, sc_ni, sc_in, sc_nb, sc_bn, sc_ns, sc_sn, sc_ii, sc_bb, sc_ss, sc_is, sc_si, sc_bs, sc_sb, ipI, Int.reduceLT, Int.reduceLE, Int.reduceEq, Nat.reduceLT, Nat.reduceEqDiff, String.reduceEq, nc0, nc1, nc2, nc3, nc4, nc5, nc6, nc7, nc8, nc9, nc10, nc11, nc12, cx_K, cx_w, wipe, lenV_str, rCat, exists_eq, exists_eq', relO, relC, relM, relI, relSl, spOf, ciOf, csOf, crOf, L2.rIxD, eq_self, not_true_eq_false, not_false_eq_true, Option.isSome_some, Option.isSome_none, tCallV, ofS_inj, sg_inj, sg_len, sg_lt, tM1, tM0, tLc_rng1, tLc_rng2, tFor_rng1, tFor_rng2, tDNewK, sDPut,  Nat.reduceLeDiff, Bool.not_eq_true', decide_eq_false_iff_not,
  isi_int_int, isi_int_bool, isi_int_str, isi_int_tuple, isi_int_list, isi_int_dict, isi_bool_int, isi_bool_bool, isi_bool_str, isi_bool_tuple, isi_bool_list, isi_bool_dict, isi_str_int, isi_str_bool, isi_str_str, isi_str_tuple, isi_str_list, isi_str_dict, isi_non_int, isi_non_bool, isi_non_str, isi_non_tuple, isi_non_list, isi_non_dict])
local macro_rules | `(tactic| walk_at "ix") => `(tactic| (refine ixT (by assumption) rfl ?_; walk_at "rd"))
local macro_rules | `(tactic| walk_at "len") => `(tactic| (refine ⟨_, lenV_T (by assumption), ?_⟩; walk_at "rd"))
local macro_rules | `(tactic| walk_at "isT") => `(tactic| (refine ⟨true, isiT (by assumption), ?_⟩; walk_at "rd"))

section
variable {P : Program} {w : World} {K : PySem.W.Frag} {mg : Str → Option Value} {base : Heap} {CN CB CH : Addr}
theorem sc_l_alike : FnScope ["_law_found", "_law_due", "_law_k"] ["_law_found", "_law_due"] (defScope s_l_alike) := ⟨rfl, rfl, rfl, by decide +kernel, rfl, by decide +kernel, by decide +kernel⟩
def Sca (v : V) : Prop := (∃ i, v = .int i) ∨ ∃ z, v = .str z
def spAl0 : Sp := fun vs H Q _ => ∃ v, vs = [v, v] ∧ Sca v ∧ ∀ H', Kp [] H H' → Q (.bl true) H'
theorem ok_alike0 (T : Txt K w mg CN CB CH) (F : At K mg "_law_alike" s_l_alike ["_law_found", "_law_due"]) (G_l_alike : Dfn P w K mg base 1 "_law_alike" ["_law_found", "_law_due"] (fun _ _ _ _ => False)) : Dfn P w K mg base 2 "_law_alike" ["_law_found", "_law_due"] spAl0 := by
  refine F.ok sc_l_alike (fun vs H Q E h => ?_) (fun qual f cdv A outer s H vs Q E hr h => ?_)
  · obtain ⟨v, rfl, _⟩ := h
    rfl
  · refine ⟨_, (pss_cons (ps_if (pt_val (pe_callB call_isTL (by rfl) T.isinstance_ (by decide +kernel) (pa_cons (pv 1) (pa_cons (pe_tup (pa_cons (pe_ty "tuple" rfl T.tuple_ (by decide +kernel)) (pa_cons (pe_ty "list" rfl T.list_ (by decide +kernel)) pa_nil))) pa_nil)))) (pss_cons (ps_if (PW.pt (pw_or (pt_cmpR op_ne (pe_callB call_isiC (by rfl) T.isinstance_ (by decide +kernel) (pa_cons (pv 1) (pa_cons (pe_ty "tuple" rfl T.tuple_ (by decide +kernel)) pa_nil))) (pe_callB call_isiC (by rfl) T.isinstance_ (by decide +kernel) (pa_cons (pv 0) (pa_cons (pe_ty "tuple" rfl T.tuple_ (by decide +kernel)) pa_nil))) (nomark _)) (pw_or1 (pt_not (pt_val (pe_callB call_isTL (by rfl) T.isinstance_ (by decide +kernel) (pa_cons (pv 0) (pa_cons (pe_tup (pa_cons (pe_ty "tuple" rfl T.tuple_ (by decide +kernel)) (pa_cons (pe_ty "list" rfl T.list_ (by decide +kernel)) pa_nil))) pa_nil)))))))) (pss_one (ps_ret pe_bl)) pss_nil)
      (pss_cons (ps_if (pt_cmpR op_ne (pe_callB call_len (by rfl) T.len_ (by decide +kernel) (pa_cons (pv 0) pa_nil)) (pe_callB call_len (by rfl) T.len_ (by decide +kernel) (pa_cons (pv 1) pa_nil)) (nomark _)) (pss_one (ps_ret pe_bl)) pss_nil)
      (pss_cons (ps_for (passes_of rfl) rfl (pi_range1 rfl T.range_ (pa_cons (pe_callB call_len (by rfl) T.len_ (by decide +kernel) (pa_cons (pv 1) pa_nil)) pa_nil)) (pg_name (i := 2) sc_l_alike.nd rfl (Or.inl rfl)) (pss_one (ps_if (pt_not (pt_val (pe_fn G_l_alike hr (pa_cons (pe_ix (ix_tup.or ix_list) (pv 0) (pv 2) (fun _ _ => rfl)) (pa_cons (pe_ix (ix_tup.or ix_list) (pv 1) (pv 2) (fun _ _ => rfl)) pa_nil)) (hk := by decide)))) (pss_one (ps_ret pe_bl)) pss_nil)))
      (pss_one (ps_ret pe_bl))))) pss_nil)
      (pss_cons (ps_if (PW.pt (pw_or (pt_val (pe_callB call_isiC (by rfl) T.isinstance_ (by decide +kernel) (pa_cons (pv 1) (pa_cons (pe_ty "bool" rfl T.bool_ (by decide +kernel)) pa_nil)))) (pw_or1 (pt_val (pe_callB call_isiC (by rfl) T.isinstance_ (by decide +kernel) (pa_cons (pv 0) (pa_cons (pe_ty "bool" rfl T.bool_ (by decide +kernel)) pa_nil))))))) (pss_one (ps_ret (pe_and (pe_callB call_isiC (by rfl) T.isinstance_ (by decide +kernel) (pa_cons (pv 1) (pa_cons (pe_ty "bool" rfl T.bool_ (by decide +kernel)) pa_nil))) (pe_and (pe_callB call_isiC (by rfl) T.isinstance_ (by decide +kernel) (pa_cons (pv 0) (pa_cons (pe_ty "bool" rfl T.bool_ (by decide +kernel)) pa_nil))) (pe_one (pe_cmpR op_eq (pv 0) (pv 1) (nomark _))))))) pss_nil)
      (pss_cons (ps_if (pt_val (pe_callB call_isiC (by rfl) T.isinstance_ (by decide +kernel) (pa_cons (pv 1) (pa_cons (pe_ty "int" rfl T.int_ (by decide +kernel)) pa_nil)))) (pss_one (ps_ret (pe_and (pe_callB call_isiC (by rfl) T.isinstance_ (by decide +kernel) (pa_cons (pv 0) (pa_cons (pe_ty "int" rfl T.int_ (by decide +kernel)) pa_nil))) (pe_one (pe_cmpR op_eq (pv 0) (pv 1) (nomark _)))))) pss_nil)
      (pss_cons (ps_if (pt_val (pe_callB call_isiC (by rfl) T.isinstance_ (by decide +kernel) (pa_cons (pv 1) (pa_cons (pe_ty "str" rfl T.str_ (by decide +kernel)) pa_nil)))) (pss_one (ps_ret (pe_and (pe_callB call_isiC (by rfl) T.isinstance_ (by decide +kernel) (pa_cons (pv 0) (pa_cons (pe_ty "str" rfl T.str_ (by decide +kernel)) pa_nil))) (pe_one (pe_cmpR op_eq (pv 0) (pv 1) (nomark _)))))) pss_nil)
      (pss_one (ps_ret (pe_and (pe_cmpR op_isN (pv 1) pe_non (nomark _)) (pe_one (pe_cmpR op_isN (pv 0) pe_non (nomark _)))))))))), ?_⟩
    obtain ⟨v, rfl, hv, q⟩ := h
    rcases hv with ⟨i, rfl⟩ | ⟨z, rfl⟩
    · walk_at "rd"
      refine ⟨by decide, fun t ht => ⟨_, t, false, rfl, upd_same, tl_int, ?_⟩⟩
      walk_at "rd"
      exact q _ (Kp.refl.new ht)
    · walk_at "rd"
      refine ⟨by decide, fun t ht => ⟨_, t, false, rfl, upd_same, tl_str, ?_⟩⟩
      walk_at "rd"
      exact q _ (Kp.refl.new ht)
def SqX (K : PySem.W.Frag) (H : Hp) (p q : Addr) (xs : List V) (b : Bool) : Prop := (b = true ∧ SqT K H p xs ∧ SqT K H q xs) ∨ (b = false ∧ SqL K H p xs ∧ SqL K H q xs)
theorem SqX.kp {H H' : Hp} {p q : Addr} {xs : List V} {b : Bool} (h : SqX K H p q xs b) (k : Kp [] H H') : SqX K H' p q xs b := by
  rcases h with ⟨e, h1, h2⟩ | ⟨e, h1, h2⟩
  · exact .inl ⟨e, k.tup h1, k.tup h2⟩
  · exact .inr ⟨e, k.lst h1 (by simp), k.lst h2 (by simp)⟩
theorem SqX.tl {H : Hp} {p q : Addr} {xs : List V} {b : Bool} (h : SqX K H p q xs b) : (Tl K H (.ref p) true ∧ Tl K H (.ref q) true) ∧ Isi K H (.ref p) "tuple" b ∧ Isi K H (.ref q) "tuple" b ∧ LenV K (.ref p) H xs.length ∧ LenV K (.ref q) H xs.length := by
  rcases h with ⟨rfl, h1, h2⟩ | ⟨rfl, h1, h2⟩
  · exact ⟨⟨tl_T h1, tl_T h2⟩, isiT h1, isiT h2, lenV_T h1, lenV_T h2⟩
  · exact ⟨⟨tl_L h1, tl_L h2⟩, isiL_ h1 (by decide +kernel), isiL_ h2 (by decide +kernel), lenV_L h1, lenV_L h2⟩
theorem SqX.ix {H : Hp} {p q : Addr} {xs : List V} {b : Bool} {i : Int} {v : V} (h : SqX K H p q xs b) (e : atI xs i = some v) : (∀ Q : VK, Q v H → (rIxT K (.ref p) (.int i) H Q ∨ rIxL K (.ref p) (.int i) H Q)) ∧ ∀ Q : VK, Q v H → (rIxT K (.ref q) (.int i) H Q ∨ rIxL K (.ref q) (.int i) H Q) := by
  rcases h with ⟨rfl, h1, h2⟩ | ⟨rfl, h1, h2⟩
  · exact ⟨fun Q hq => .inl (ixT h1 e hq), fun Q hq => .inl (ixT h2 e hq)⟩
  · exact ⟨fun Q hq => .inr (ixL h1 e hq), fun Q hq => .inr (ixL h2 e hq)⟩
def spAl1 (K : PySem.W.Frag) : Sp := fun vs H Q _ => ∃ (p q : Addr) (xs : List V) (b : Bool), vs = [.ref p, .ref q] ∧ SqX K H p q xs b ∧ (∀ x ∈ xs, Sca x) ∧ xs.length ≤ 100 ∧ ∀ H', Kp [] H H' → Q (.bl true) H'
theorem ok_alike1 (T : Txt K w mg CN CB CH) (F : At K mg "_law_alike" s_l_alike ["_law_found", "_law_due"]) (G_l_alike : Dfn P w K mg base 2 "_law_alike" ["_law_found", "_law_due"] spAl0) : Dfn P w K mg base 3 "_law_alike" ["_law_found", "_law_due"] (spAl1 K) := by
  refine F.ok sc_l_alike (fun vs H Q E h => ?_) (fun qual f cdv A outer s H vs Q E hr h => ?_)
  · obtain ⟨p, q, xs, b, rfl, _⟩ := h
    rfl
  · refine ⟨_, (pss_cons (ps_if (pt_val (pe_callB call_isTL (by rfl) T.isinstance_ (by decide +kernel) (pa_cons (pv 1) (pa_cons (pe_tup (pa_cons (pe_ty "tuple" rfl T.tuple_ (by decide +kernel)) (pa_cons (pe_ty "list" rfl T.list_ (by decide +kernel)) pa_nil))) pa_nil)))) (pss_cons (ps_if (PW.pt (pw_or (pt_cmpR op_ne (pe_callB call_isiC (by rfl) T.isinstance_ (by decide +kernel) (pa_cons (pv 1) (pa_cons (pe_ty "tuple" rfl T.tuple_ (by decide +kernel)) pa_nil))) (pe_callB call_isiC (by rfl) T.isinstance_ (by decide +kernel) (pa_cons (pv 0) (pa_cons (pe_ty "tuple" rfl T.tuple_ (by decide +kernel)) pa_nil))) (nomark _)) (pw_or1 (pt_not (pt_val (pe_callB call_isTL (by rfl) T.isinstance_ (by decide +kernel) (pa_cons (pv 0) (pa_cons (pe_tup (pa_cons (pe_ty "tuple" rfl T.tuple_ (by decide +kernel)) (pa_cons (pe_ty "list" rfl T.list_ (by decide +kernel)) pa_nil))) pa_nil)))))))) (pss_one (ps_ret pe_bl)) pss_nil)
      (pss_cons (ps_if (pt_cmpR op_ne (pe_callB call_len (by rfl) T.len_ (by decide +kernel) (pa_cons (pv 0) pa_nil)) (pe_callB call_len (by rfl) T.len_ (by decide +kernel) (pa_cons (pv 1) pa_nil)) (nomark _)) (pss_one (ps_ret pe_bl)) pss_nil)
      (pss_cons (ps_for (passes_of rfl) rfl (pi_range1 rfl T.range_ (pa_cons (pe_callB call_len (by rfl) T.len_ (by decide +kernel) (pa_cons (pv 1) pa_nil)) pa_nil)) (pg_name (i := 2) sc_l_alike.nd rfl (Or.inl rfl)) (pss_one (ps_if (pt_not (pt_val (pe_fn G_l_alike hr (pa_cons (pe_ix (ix_tup.or ix_list) (pv 0) (pv 2) (fun _ _ => rfl)) (pa_cons (pe_ix (ix_tup.or ix_list) (pv 1) (pv 2) (fun _ _ => rfl)) pa_nil)) (hk := by decide)))) (pss_one (ps_ret pe_bl)) pss_nil)))
      (pss_one (ps_ret pe_bl))))) pss_nil)
      (pss_cons (ps_if (PW.pt (pw_or (pt_val (pe_callB call_isiC (by rfl) T.isinstance_ (by decide +kernel) (pa_cons (pv 1) (pa_cons (pe_ty "bool" rfl T.bool_ (by decide +kernel)) pa_nil)))) (pw_or1 (pt_val (pe_callB call_isiC (by rfl) T.isinstance_ (by decide +kernel) (pa_cons (pv 0) (pa_cons (pe_ty "bool" rfl T.bool_ (by decide +kernel)) pa_nil))))))) (pss_one (ps_ret (pe_and (pe_callB call_isiC (by rfl) T.isinstance_ (by decide +kernel) (pa_cons (pv 1) (pa_cons (pe_ty "bool" rfl T.bool_ (by decide +kernel)) pa_nil))) (pe_and (pe_callB call_isiC (by rfl) T.isinstance_ (by decide +kernel) (pa_cons (pv 0) (pa_cons (pe_ty "bool" rfl T.bool_ (by decide +kernel)) pa_nil))) (pe_one (pe_cmpR op_eq (pv 0) (pv 1) (nomark _))))))) pss_nil)
      (pss_cons (ps_if (pt_val (pe_callB call_isiC (by rfl) T.isinstance_ (by decide +kernel) (pa_cons (pv 1) (pa_cons (pe_ty "int" rfl T.int_ (by decide +kernel)) pa_nil)))) (pss_one (ps_ret (pe_and (pe_callB call_isiC (by rfl) T.isinstance_ (by decide +kernel) (pa_cons (pv 0) (pa_cons (pe_ty "int" rfl T.int_ (by decide +kernel)) pa_nil))) (pe_one (pe_cmpR op_eq (pv 0) (pv 1) (nomark _)))))) pss_nil)
      (pss_cons (ps_if (pt_val (pe_callB call_isiC (by rfl) T.isinstance_ (by decide +kernel) (pa_cons (pv 1) (pa_cons (pe_ty "str" rfl T.str_ (by decide +kernel)) pa_nil)))) (pss_one (ps_ret (pe_and (pe_callB call_isiC (by rfl) T.isinstance_ (by decide +kernel) (pa_cons (pv 0) (pa_cons (pe_ty "str" rfl T.str_ (by decide +kernel)) pa_nil))) (pe_one (pe_cmpR op_eq (pv 0) (pv 1) (nomark _)))))) pss_nil)
      (pss_one (ps_ret (pe_and (pe_cmpR op_isN (pv 1) pe_non (nomark _)) (pe_one (pe_cmpR op_isN (pv 0) pe_non (nomark _)))))))))), ?_⟩
    obtain ⟨p, q, xs, b, rfl, hx, hsc, hl, hq⟩ := h
    walk_at "rd"
    refine ⟨by decide, fun t ht => ?_⟩
    have k1 : Kp [] H (upd H t (.tup [.ty "tuple", .ty "list"])) := Kp.refl.new ht
    have e1 : upd H t (.tup [.ty "tuple", .ty "list"]) t = some (.tup [.ty "tuple", .ty "list"]) := upd_same
    generalize upd H t (.tup [.ty "tuple", .ty "list"]) = H1 at k1 e1 ⊢
    have hx1 := hx.kp k1
    refine ⟨_, t, true, rfl, e1, hx1.tl.1.2, ?_⟩
    walk_at "rd"
    refine ⟨_, hx1.tl.2.2.1, _, hx1.tl.2.1, ?_⟩
    rw [if_neg (by simp)]
    refine ⟨by decide, fun t2 ht2 => ?_⟩
    have k2 : Kp [] H1 (upd H1 t2 (.tup [.ty "tuple", .ty "list"])) := Kp.refl.new ht2
    have e2 : upd H1 t2 (.tup [.ty "tuple", .ty "list"]) t2 = some (.tup [.ty "tuple", .ty "list"]) := upd_same
    generalize upd H1 t2 (.tup [.ty "tuple", .ty "list"]) = H2 at k2 e2 ⊢
    have hx2 := hx1.kp k2
    refine ⟨_, t2, true, rfl, e2, hx2.tl.1.1, ?_⟩
    walk_at "rd"
    refine ⟨_, hx2.tl.2.2.2.1, _, hx2.tl.2.2.2.2, ?_⟩
    rw [if_neg (by simp)]
    refine ⟨_, hx2.tl.2.2.2.2, by omega, by omega, ?_⟩
    obtain ⟨Pv, hPv⟩ : ∃ Pv : Nat → L2.St → Hp → Prop, ∀ i σ H', Pv i σ H' ↔ (Kp [] H H' ∧ ∃ o, σ = [some (V.ref p), some (V.ref q), o]) := ⟨_, fun _ _ _ => Iff.rfl⟩
    refine for_rng Pv ((hPv _ _ _).mpr ⟨k1.trans k2, _, rfl⟩) (fun i σ H3 hi h3 => ?_) fun σ H3 h3 => ?_
    · obtain ⟨k3, o, rfl⟩ := (hPv _ _ _).mp h3
      have hi2 : i < xs.length := by simpa using hi
      have hx3 := hx.kp k3
      walk_at "rd"
      obtain ⟨g1, g2⟩ := hx3.ix (i := ((i : Nat) : Int)) (v := xs[i]) (atI_nat (by simp [hi2]))
      rw [show (0 : Int) + ((i : Nat) : Int) = ((i : Nat) : Int) by omega]
      refine g1 _ (g2 _ ⟨xs[i], rfl, hsc _ (List.getElem_mem hi2), fun H4 k4 => ?_⟩)
      walk_at "rd"
      exact (hPv _ _ _).mpr ⟨k3.trans k4, _, rfl⟩
    · obtain ⟨k3, o, rfl⟩ := (hPv _ _ _).mp h3
      walk_at "rd"
      exact hq H3 k3
abbrev spAl (K : PySem.W.Frag) : Sp := fun vs H Q E => spAl0 vs H Q E ∨ spAl1 K vs H Q E
end
end Kq
set_option Elab.async false
set_option linter.all false
set_option maxRecDepth 100000
set_option maxHeartbeats 4000000
namespace Fw
open PySem PySem.Spec PyProof.Rows L2 PySem.Calls
theorem takes_len {X : Cx} {W : WX} (t : Takes X W) : Takes X (fun cls d σ H => σ.length = X.N.length → W cls d σ H) := fun u s' ⟨a, B, sI, pins, σ, H, cls, d, e, I, nb, up, sky, na, os, ag, w⟩ =>
  t u s' ⟨a, B, sI, pins, σ, H, cls, d, e, I, nb, up, sky, na, os, ag, w I.len⟩
end Fw
namespace Kq
open PySem PySem.Spec PyProof.Rows L2 Fw
local macro_rules | `(tactic| walk_at "rd") => `(tactic| try simp only [tMeth, tMake, tFld, sFld, sFldAug, tMethT, tCallVT, tDNewN, tNo, tNoE, cx_P, tDIn, tDNotIn, tDGet, tDGet2, tMx, tRaiseF, tXfX, tXf, tSeq, tNext, tBreak, tCont, tDrop, tRet, tRetN, tIfS, tAsg, tVar, tC, tOp, tUn, tTest, tB, tAnd, tOr, tNot, tAndV, tOrV, tNotV, tIf, tChain, tCB, tCons, tNil, tTup, tLst, tCall, tCallS, WE,
  gName, gSub, rI, rI0, rU, rEq, rNe, rIsiC, tSl, tPart, tNoPart, rSetL, tBM, tBM0, rAppend, rExtend, rExtendT, tCallL, L2.start, List.map_cons, List.map_nil, List.length_cons, List.length_nil, Nat.sub_self, Nat.reduceAdd, Nat.reduceSub, List.replicate_zero, List.replicate_succ, List.append_nil, List.nil_append, List.cons_append,
  List.getElem?_cons_zero, List.getElem?_cons_succ, List.set_cons_zero, List.set_cons_succ, Option.some.injEq, exists_eq_left', exists_eq_left, exists_eq_right, exists_eq_right', exists_const, exists_and_left, exists_and_right, V.int.injEq, V.bl.injEq, V.str.injEq, V.ref.injEq, V.ty.injEq, List.cons.injEq, and_true, true_and, and_assoc, reduceCtorEq, false_and, and_false, exists_false, false_or, or_false,
  if_true, if_false, Bool.not_true, Bool.not_false, Bool.false_eq_true, Bool.true_eq_false, ↓reduceIte, decide_eq_true_eq, decide_true, decide_false, sc_nn, sc_ni, sc_in, sc_nb, sc_bn, sc_ns, sc_sn, sc_ii, sc_bb, sc_ss, sc_is, sc_si, sc_bs, sc_sb, ipI, Int.reduceLT, Int.reduceLE, Int.reduceEq, Nat.reduceLT, Nat.reduceEqDiff, String.reduceEq, nc0, nc1, nc2, nc3, nc4, nc5, nc6, nc7, nc8, nc9, nc10, nc11, nc12, cx_K, cx_w, wipe, lenV_str, rCat, exists_eq, exists_eq', relO, relC, relM, relI, relSl, spOf, ciOf, csOf, crOf, L2.rIxD, eq_self, not_true_eq_false, not_false_eq_true, Option.isSome_some, Option.isSome_none, tCallV, ofS_inj, sg_inj, sg_len, sg_lt, tM1, tM0, tLc_rng1, tLc_rng2, tFor_rng1, tFor_rng2, tDNewK, sDPut,  Nat.reduceLeDiff, Bool.not_eq_true', decide_eq_false_iff_not,
  isi_int_int, isi_int_bool, isi_int_str, isi_int_tuple, isi_int_list, isi_int_dict, isi_bool_int, isi_bool_bool, isi_bool_str, isi_bool_tuple, isi_bool_list, isi_bool_dict, isi_str_int, isi_str_bool, isi_str_str, isi_str_tuple, isi_str_list, isi_str_dict, isi_non_int, isi_non_bool, isi_non_str, isi_non_tuple, isi_non_list, isi_non_dict])
local macro_rules | `(tactic| walk_at "ix") => `(tactic| (refine ixT (by assumption) rfl ?_; walk_at "rd"))
local macro_rules | `(tactic| walk_at "len") => `(tactic| (refine ⟨_, lenV_T (by assumption), ?_⟩; walk_at "rd"))
local macro_rules | `(tactic| walk_at "isT") => `(tactic| (refine ⟨true, isiT (by assumption), ?_⟩; walk_at "rd"))

local macro_rules | `(tactic| walk_at "rx") => `(tactic| try simp (config := {maxSteps := 5000000}) only [tMeth, tMake, tFld, sFld, sFldAug, tMethT, tCallVT, tDNewN, tNo, tNoE, cx_P, tDIn, tDNotIn, tDGet, tDGet2, tMx, tRaiseF, tXfX, tXf, tSeq, tNext, tBreak, tCont, tDrop, tRet, tRetN, tIfS, tAsg, tVar, tC, tOp, tUn, tTest, tB, tAnd, tOr, tNot, tAndV, tOrV, tNotV, tIf, tChain, tCB, tCons, tNil, tTup, tLst, tCall, tCallS, WE,
  gName, gSub, rI, rI0, rU, rEq, rNe, rIsiC, tSl, tPart, tNoPart, rSetL, tBM, tBM0, rAppend, rExtend, rExtendT, tCallL, L2.start, List.map_cons, List.map_nil, List.length_cons, List.length_nil, Nat.sub_self, Nat.reduceAdd, Nat.reduceSub, List.replicate_zero, List.replicate_succ, List.append_nil, List.nil_append, List.cons_append,
  List.getElem?_cons_zero, List.getElem?_cons_succ, List.set_cons_zero, List.set_cons_succ, Option.some.injEq, exists_eq_left', exists_eq_left, exists_eq_right, exists_eq_right', exists_const, exists_and_left, exists_and_right, V.int.injEq, V.bl.injEq, V.str.injEq, V.ref.injEq, V.ty.injEq, List.cons.injEq, and_true, true_and, and_assoc, reduceCtorEq, false_and, and_false, exists_false, false_or, or_false,
  if_true, if_false, Bool.not_true, Bool.not_false, Bool.false_eq_true, Bool.true_eq_false, ↓reduceIte, decide_eq_true_eq, decide_true, decide_false, sc_nn, sc_ni, sc_in, sc_nb, sc_bn, sc_ns, sc_sn, sc_ii, sc_bb, sc_ss, sc_is, sc_si, sc_bs, sc_sb, ipI, Int.reduceLT, Int.reduceLE, Int.reduceEq, Nat.reduceLT, Nat.reduceEqDiff, String.reduceEq, nc0, nc1, nc2, nc3, nc4, nc5, nc6, nc7, nc8, nc9, nc10, nc11, nc12, cx_K, cx_w, wipe, lenV_str, rCat, exists_eq, exists_eq', relO, relC, relM, relI, relSl, spOf, ciOf, csOf, crOf, L2.rIxD, eq_self, not_true_eq_false, not_false_eq_true, Option.isSome_some, Option.isSome_none, tCallV, ofS_inj, sg_inj, sg_len, sg_lt, tM1, tM0, tLc_rng1, tLc_rng2, tFor_rng1, tFor_rng2, tDNewK, sDPut,  Nat.reduceLeDiff, Bool.not_eq_true', decide_eq_false_iff_not,
  isi_int_int, isi_int_bool, isi_int_str, isi_int_tuple, isi_int_list, isi_int_dict, isi_bool_int, isi_bool_bool, isi_bool_str, isi_bool_tuple, isi_bool_list, isi_bool_dict, isi_str_int, isi_str_bool, isi_str_str, isi_str_tuple, isi_str_list, isi_str_dict, isi_non_int, isi_non_bool, isi_non_str, isi_non_tuple, isi_non_list, isi_non_dict])

/-- the classes that are asked for -/
structure TxE (mg : Str → Option Value) (D : Nat → Addr) : Prop where
  NoHouse : mg "NoHouse" = some (.ref (D 0))
  Taken : mg "Taken" = some (.ref (D 1))
  NoTalk : mg "NoTalk" = some (.ref (D 2))
  TooMany : mg "TooMany" = some (.ref (D 3))
  NoMark : mg "NoMark" = some (.ref (D 4))
  Broken : mg "Broken" = some (.ref (D 5))
  Lack : mg "Lack" = some (.ref (D 6))
  NoName : mg "NoName" = some (.ref (D 7))
/-- an error of the class at C, the j-th of them, as isinstance and except see it -/
structure Row (K : PySem.W.Frag) (D : Nat → Addr) (CH C : Addr) (j : Nat) : Prop where
  k : ∀ i, i < 8 → PySem.W.kitOne K (.ref C) (.ref (D i)) = some (decide (i = j))
  v : PySem.W.kitOne K (.ref C) (.type "ValueError") = some true
  m : PySem.W.exmOne K (.ref C) (.ref CH) = some true
  c : L2.ExcC K C
  x : XfC K C
  l : PySem.W.findIn K (.ref C) "label" = some none
section
variable {P : Program} {w : World} {K : PySem.W.Frag} {mg : Str → Option Value} {base : Heap} {CN CB CH CT : Addr} {D : Nat → Addr}
theorem sc_l_town_why : FnScope ["_law_deed", "_law_told", "e", "_law_kinds"] ["_law_deed"] (defScope s_l_town_why) := ⟨rfl, rfl, rfl, by decide +kernel, rfl, by decide +kernel, by decide +kernel⟩
/-- what comes of an error of the j-th class with the label l -/
def TTwhy (K : PySem.W.Frag) (D : Nat → Addr) (CH : Addr) : (XK → Hp → VK → Prop) → Hp → VK → Prop := fun tl H Q => ∃ (C : Addr) (j : Nat) (l : Str), Row K D CH C j ∧ j < 2 ∧ ∀ H1 t, Kp [] H H1 → H1 t = some (.tup [.str "let by", .non]) →
  tl (fun cls d H' => cls = .ref C ∧ ∃ dd, d = some dd ∧ H' dd = some (.xd [("label", .str l)]) ∧ ∀ H2 p, Kp [] H' H2 → H2 p = some (.tup [.str (if j = 0 then "NoHouse" else "Taken"), .str l]) → Q (.ref p) H2) H1 (fun _ H' => Q (.ref t) H')
theorem is_ie {C a dd : Addr} {j i : Nat} {H : Hp} {fs : List (Str × V)} {Q : VK} (R : Row K D CH C j) (hd : H dd = some (.xd fs)) (hi : i < 8) (q : Q (.bl (decide (i = j))) H) : rIsEX K a (.ref C) (some dd) [.ref a, .ref (D i)] H Q :=
  ⟨C, .ref (D i), .ref (D i), _, rfl, R.c, rfl, fun u hu => hu, R.k i hi, fun d e => by cases e; exact ⟨_, hd⟩, q⟩
theorem is_ve {C a dd : Addr} {j : Nat} {H : Hp} {fs : List (Str × V)} {Q : VK} (R : Row K D CH C j) (hd : H dd = some (.xd fs)) (q : Q (.bl true) H) : rIsEX K a (.ref C) (some dd) [.ref a, .ty "ValueError"] H Q :=
  ⟨C, .ty "ValueError", .type "ValueError", _, rfl, R.c, rfl, fun u hu => hu, R.v, fun d e => by cases e; exact ⟨_, hd⟩, q⟩
theorem why_gives {X : Cx} {q : Str} {g : Addr} {cdg : Value} (T : Txt X.K X.w X.mg CN CB CH) (T2 : TxE X.mg D) : LamX.GivesTo X ["_law_deed", "_law_told", "e", "_law_kinds"] "_law_town_why" (defScope s_l_town_why) g cdg (defBody s_l_town_why) "_law_deed" q (TTwhy X.K D CH) := by
  intro f c' s H Q tl act hc h
  refine ⟨_, (pss_cons (ps_set (i := 1) sc_l_town_why.nd rfl (Or.inl rfl) (pe_tup (pa_cons pe_str (pa_cons pe_non pa_nil))))
      (pss_cons (ps_tryRas (i := 2) rfl rfl sc_l_town_why.nd rfl rfl ⟨rfl, by decide, .inl T.g_HouseError⟩ takes0 (fun a oe cls d pn hz hf =>
      (pss_cons (ps_set (i := 3) sc_l_town_why.nd rfl (Or.inl rfl) (pe_lst (pa_cons (pe_callB (call_isEX hz hf) (by rfl) T.isinstance_ (by decide +kernel) (pa_cons (pv 2) (pa_cons (pe_cr rfl T2.NoHouse) pa_nil))) (pa_cons (pe_callB (call_isEX hz hf) (by rfl) T.isinstance_ (by decide +kernel) (pa_cons (pv 2) (pa_cons (pe_cr rfl T2.Taken) pa_nil))) (pa_cons (pe_callB (call_isEX hz hf) (by rfl) T.isinstance_ (by decide +kernel) (pa_cons (pv 2) (pa_cons (pe_cr rfl T2.NoTalk) pa_nil))) (pa_cons (pe_callB (call_isEX hz hf) (by rfl) T.isinstance_ (by decide +kernel) (pa_cons (pv 2) (pa_cons (pe_cr rfl T2.TooMany) pa_nil))) pa_nil))))))
      (pss_cons (ps_set (i := 3) sc_l_town_why.nd rfl (Or.inl rfl) (pe_op op_cat (pv 3) (pe_lst (pa_cons (pe_callB (call_isEX hz hf) (by rfl) T.isinstance_ (by decide +kernel) (pa_cons (pv 2) (pa_cons (pe_cr rfl T2.NoMark) pa_nil))) (pa_cons (pe_callB (call_isEX hz hf) (by rfl) T.isinstance_ (by decide +kernel) (pa_cons (pv 2) (pa_cons (pe_cr rfl T2.Broken) pa_nil))) (pa_cons (pe_callB (call_isEX hz hf) (by rfl) T.isinstance_ (by decide +kernel) (pa_cons (pv 2) (pa_cons (pe_cr rfl T2.Lack) pa_nil))) (pa_cons (pe_callB (call_isEX hz hf) (by rfl) T.isinstance_ (by decide +kernel) (pa_cons (pv 2) (pa_cons (pe_cr rfl T2.NoName) pa_nil))) pa_nil)))))))
      (pss_cons (ps_set (i := 1) sc_l_town_why.nd rfl (Or.inl rfl) (pe_tup (pa_cons pe_str (pa_cons pe_non pa_nil))))
      (pss_one (ps_if (PW.pt (pw_and (pt_val (pe_callB (call_isEX hz hf) (by rfl) T.isinstance_ (by decide +kernel) (pa_cons (pv 2) (pa_cons (pe_ty "ValueError" rfl T.ValueError_ (by decide +kernel)) pa_nil)))) (pw_and1 (pt_cmpR op_eq (pe_bmK X.K (by rfl) PySem.F.plainAttrs_list PySem.F.slot_list_count PySem.F.type_list_count (mt_lcountVK X.K (by rfl)) (pv 3) (pa_cons pe_bl pa_nil)) pe_int (nomark _))))) (pss_cons (ps_set (i := 1) sc_l_town_why.nd rfl (Or.inl rfl) (pe_tup (pa_cons pe_str (pa_cons pe_non pa_nil))))
      (pss_cons (ps_if (PW.pt (pw_or (pt_val (pe_callB (call_isEX hz hf) (by rfl) T.isinstance_ (by decide +kernel) (pa_cons (pv 2) (pa_cons (pe_cr rfl T2.NoHouse) pa_nil)))) (pw_or1 (pt_val (pe_callB (call_isEX hz hf) (by rfl) T.isinstance_ (by decide +kernel) (pa_cons (pv 2) (pa_cons (pe_cr rfl T2.Taken) pa_nil))))))) (pss_one (ps_set (i := 1) sc_l_town_why.nd rfl (Or.inl rfl) (pe_tup (pa_cons (pe_ix (ix_listK X.K (by rfl)) (pe_lst (pa_cons pe_str (pa_cons pe_str pa_nil))) (pe_bmK X.K (by rfl) PySem.F.plainAttrs_list PySem.F.slot_list_index PySem.F.type_list_index (mt_indexK X.K (by rfl)) (pv 3) (pa_cons pe_bl pa_nil)) (fun _ _ => rfl)) (pa_cons (pe_xfX hz hf (pv 2)) pa_nil))))) pss_nil)
      (pss_cons (ps_if (pt_val (pe_callB (call_isEX hz hf) (by rfl) T.isinstance_ (by decide +kernel) (pa_cons (pv 2) (pa_cons (pe_cr rfl T2.NoTalk) pa_nil)))) (pss_one (ps_set (i := 1) sc_l_town_why.nd rfl (Or.inl rfl) (pe_tup (pa_cons pe_str (pa_cons (pe_xfX hz hf (pv 2)) pa_nil))))) pss_nil)
      (pss_cons (ps_if (pt_val (pe_callB (call_isEX hz hf) (by rfl) T.isinstance_ (by decide +kernel) (pa_cons (pv 2) (pa_cons (pe_cr rfl T2.NoMark) pa_nil)))) (pss_one (ps_set (i := 1) sc_l_town_why.nd rfl (Or.inl rfl) (pe_tup (pa_cons pe_str (pa_cons (pe_xfX hz hf (pv 2)) pa_nil))))) pss_nil)
      (pss_cons (ps_if (pt_val (pe_callB (call_isEX hz hf) (by rfl) T.isinstance_ (by decide +kernel) (pa_cons (pv 2) (pa_cons (pe_cr rfl T2.Broken) pa_nil)))) (pss_one (ps_set (i := 1) sc_l_town_why.nd rfl (Or.inl rfl) (pe_tup (pa_cons pe_str (pa_cons (pe_xfX hz hf (pv 2)) pa_nil))))) pss_nil)
      (pss_one (ps_if (PW.pt (pw_or (pt_val (pe_callB (call_isEX hz hf) (by rfl) T.isinstance_ (by decide +kernel) (pa_cons (pv 2) (pa_cons (pe_cr rfl T2.Lack) pa_nil)))) (pw_or1 (pt_val (pe_callB (call_isEX hz hf) (by rfl) T.isinstance_ (by decide +kernel) (pa_cons (pv 2) (pa_cons (pe_cr rfl T2.NoName) pa_nil))))))) (pss_one (ps_set (i := 1) sc_l_town_why.nd rfl (Or.inl rfl) (pe_tup (pa_cons pe_str (pa_cons (pe_xfX hz hf (pv 2)) pa_nil))))) pss_nil))))))) pss_nil)))))))
      (pss_one (ps_ret (pv 1))))), ?_⟩
  obtain ⟨C, j, l, R, hj, h⟩ := h
  walk_at "rd"
  refine ⟨by decide, fun t ht => ?_⟩
  have k1 : Kp [] H (upd H t (.tup [.str (Str.ofString "let by"), .non])) := Kp.refl.new ht
  have hc1 := k1.at hc (by simp)
  have h1 := h _ t k1 upd_same
  generalize upd H t (.tup [.str (Str.ofString "let by"), .non]) = H1 at k1 hc1 h1 ⊢
  intro WW hWW
  have hE : ∀ cls d σ' H', (cls = .ref C ∧ ∃ dd, d = some dd ∧ H' dd = some (.xd [("label", .str l)]) ∧ ∀ H2 p, Kp [] H' H2 → H2 p = some (.tup [.str (if j = 0 then "NoHouse" else "Taken"), .str l]) → Q (.ref p) H2) → σ'.length = 4 → WW cls d σ' H' := by
    rintro cls d σ' H' ⟨rfl, dd, rfl, hd, hq⟩ h4
    match σ', h4 with
    | [o0, o1, o2, o3], _ =>
    rw [hWW]
    refine ⟨true, R.m, fun _ a ha => ?_, fun z => by cases z⟩
    walk_at "rx"
    refine is_ie R hd (by decide) (is_ie R hd (by decide) (is_ie R hd (by decide) (is_ie R hd (by decide) ⟨by decide, fun p1 hp1 => ?_⟩)))
    have k1 : Kp [] H' (upd H' p1 (.lst [.bl (decide (0 = j)), .bl (decide (1 = j)), .bl (decide (2 = j)), .bl (decide (3 = j))])) := Kp.refl.new hp1
    have e1 : upd H' p1 (.lst [.bl (decide (0 = j)), .bl (decide (1 = j)), .bl (decide (2 = j)), .bl (decide (3 = j))]) p1 = some (.lst [.bl (decide (0 = j)), .bl (decide (1 = j)), .bl (decide (2 = j)), .bl (decide (3 = j))]) := upd_same
    have hd1 := k1.at hd (by simp)
    generalize upd H' p1 (.lst [.bl (decide (0 = j)), .bl (decide (1 = j)), .bl (decide (2 = j)), .bl (decide (3 = j))]) = H1 at k1 e1 hd1 ⊢
    refine is_ie R hd1 (by decide) (is_ie R hd1 (by decide) (is_ie R hd1 (by decide) (is_ie R hd1 (by decide) ⟨by decide, fun p2 hp2 => ?_⟩)))
    have k2 : Kp [] H1 (upd H1 p2 (.lst [.bl (decide (4 = j)), .bl (decide (5 = j)), .bl (decide (6 = j)), .bl (decide (7 = j))])) := Kp.refl.new hp2
    have e2 : upd H1 p2 (.lst [.bl (decide (4 = j)), .bl (decide (5 = j)), .bl (decide (6 = j)), .bl (decide (7 = j))]) p2 = some (.lst [.bl (decide (4 = j)), .bl (decide (5 = j)), .bl (decide (6 = j)), .bl (decide (7 = j))]) := upd_same
    have e12 := k2.at e1 (by simp)
    have hd2 := k2.at hd1 (by simp)
    generalize upd H1 p2 (.lst [.bl (decide (4 = j)), .bl (decide (5 = j)), .bl (decide (6 = j)), .bl (decide (7 = j))]) = H2 at k2 e2 e12 hd2 ⊢
    have nd : ∀ n i : Nat, n ≠ i → decide (n = i) = false := fun n i h => decide_eq_false h
    rcases (show j = 0 ∨ j = 1 by omega) with rfl | rfl
    · have eL : ([V.bl (decide (0 = 0)), V.bl (decide (1 = 0)), V.bl (decide (2 = 0)), V.bl (decide (3 = 0))] ++ [V.bl (decide (4 = 0)), V.bl (decide (5 = 0)), V.bl (decide (6 = 0)), V.bl (decide (7 = 0))]) = [.bl true, .bl false, .bl false, .bl false, .bl false, .bl false, .bl false, .bl false] := rfl
      refine ⟨_, e12, _, e2, (by show 8 ≤ sizeLine; decide), fun p3 hp3 => ⟨by decide, fun p4 hp4 => ?_⟩⟩
      rw [eL] at hp4 ⊢
      have k3 : Kp [] H2 (upd (upd H2 p3 (.lst [.bl true, .bl false, .bl false, .bl false, .bl false, .bl false, .bl false, .bl false])) p4 (.tup [.str "other", .non])) := (Kp.refl.new hp3).new hp4
      have e3 : upd (upd H2 p3 (.lst [.bl true, .bl false, .bl false, .bl false, .bl false, .bl false, .bl false, .bl false])) p4 (.tup [.str "other", .non]) p3 = some (.lst [.bl true, .bl false, .bl false, .bl false, .bl false, .bl false, .bl false, .bl false]) := by rw [upd_ne (ne_of_none upd_same hp4), upd_same]
      have hd3 := k3.at hd2 (by simp)
      generalize upd (upd H2 p3 (.lst [.bl true, .bl false, .bl false, .bl false, .bl false, .bl false, .bl false, .bl false])) p4 (.tup [.str "other", .non]) = H3 at k3 e3 hd3 ⊢
      refine is_ve R hd3 ?_
      walk_at "rx"
      refine ⟨.inl ⟨rfl, _, SqL.of e3⟩, p3, _, .bl true, rfl, rfl, SqL.of e3, rfl, rfl, ?_⟩
      walk_at "rx"
      rw [if_pos (by rfl)]
      refine ⟨by decide, fun p5 hp5 => ?_⟩
      have k4 : Kp [] H3 (upd H3 p5 (.tup [.str "TooMany", .non])) := Kp.refl.new hp5
      have e4 := k4.at e3 (by simp)
      have hd4 := k4.at hd3 (by simp)
      generalize upd H3 p5 (.tup [.str "TooMany", .non]) = H4 at k4 e4 hd4 ⊢
      refine is_ie R hd4 (by decide) ?_
      walk_at "rx"
      refine ⟨by decide, fun p6 hp6 => ?_⟩
      have k5 : Kp [] H4 (upd H4 p6 (.lst [.str "NoHouse", .str "Taken"])) := Kp.refl.new hp6
      have e5 := k5.at e4 (by simp)
      have e6 : upd H4 p6 (.lst [.str "NoHouse", .str "Taken"]) p6 = some (.lst [.str "NoHouse", .str "Taken"]) := upd_same
      have hd5 := k5.at hd4 (by simp)
      generalize upd H4 p6 (.lst [.str "NoHouse", .str "Taken"]) = H5 at k5 e5 e6 hd5 ⊢
      refine ⟨.inl ⟨rfl, _, SqL.of e5⟩, p3, _, .bl true, 0, .bl true, rfl, rfl, SqL.of e5, rfl, rfl, rfl, rfl, fun m z hm hz => ?_, ?_⟩
      · omega
      refine ixL (SqL.of e6) (v := .str "NoHouse") (atI_nat (j := 0) rfl) ?_
      walk_at "rx"
      refine ⟨C, rfl, R.x, R.l, rfl, _, hd5, _, rfl, by decide, fun p7 hp7 => ?_⟩
      have k6 : Kp [] H5 (upd H5 p7 (.tup [.str "NoHouse", .str l])) := Kp.refl.new hp7
      have e7 : upd H5 p7 (.tup [.str "NoHouse", .str l]) p7 = some (.tup [.str "NoHouse", .str l]) := upd_same
      have hd6 := k6.at hd5 (by simp)
      generalize upd H5 p7 (.tup [.str "NoHouse", .str l]) = H6 at k6 e7 hd6 ⊢
      have fin := hq H6 p7 (((((k1.trans k2).trans k3).trans k4).trans k5).trans k6) e7
      refine is_ie R hd6 (by decide) ?_
      walk_at "rx"
      refine is_ie R hd6 (by decide) ?_
      walk_at "rx"
      refine is_ie R hd6 (by decide) ?_
      walk_at "rx"
      refine is_ie R hd6 (by decide) ?_
      walk_at "rx"
      refine is_ie R hd6 (by decide) ?_
      walk_at "rx"
      exact fin
    · have eL : ([V.bl (decide (0 = 1)), V.bl (decide (1 = 1)), V.bl (decide (2 = 1)), V.bl (decide (3 = 1))] ++ [V.bl (decide (4 = 1)), V.bl (decide (5 = 1)), V.bl (decide (6 = 1)), V.bl (decide (7 = 1))]) = [.bl false, .bl true, .bl false, .bl false, .bl false, .bl false, .bl false, .bl false] := rfl
      refine ⟨_, e12, _, e2, (by show 8 ≤ sizeLine; decide), fun p3 hp3 => ⟨by decide, fun p4 hp4 => ?_⟩⟩
      rw [eL] at hp4 ⊢
      have k3 : Kp [] H2 (upd (upd H2 p3 (.lst [.bl false, .bl true, .bl false, .bl false, .bl false, .bl false, .bl false, .bl false])) p4 (.tup [.str "other", .non])) := (Kp.refl.new hp3).new hp4
      have e3 : upd (upd H2 p3 (.lst [.bl false, .bl true, .bl false, .bl false, .bl false, .bl false, .bl false, .bl false])) p4 (.tup [.str "other", .non]) p3 = some (.lst [.bl false, .bl true, .bl false, .bl false, .bl false, .bl false, .bl false, .bl false]) := by rw [upd_ne (ne_of_none upd_same hp4), upd_same]
      have hd3 := k3.at hd2 (by simp)
      generalize upd (upd H2 p3 (.lst [.bl false, .bl true, .bl false, .bl false, .bl false, .bl false, .bl false, .bl false])) p4 (.tup [.str "other", .non]) = H3 at k3 e3 hd3 ⊢
      refine is_ve R hd3 ?_
      walk_at "rx"
      refine ⟨.inl ⟨rfl, _, SqL.of e3⟩, p3, _, .bl true, rfl, rfl, SqL.of e3, rfl, rfl, ?_⟩
      walk_at "rx"
      rw [if_pos (by rfl)]
      refine ⟨by decide, fun p5 hp5 => ?_⟩
      have k4 : Kp [] H3 (upd H3 p5 (.tup [.str "TooMany", .non])) := Kp.refl.new hp5
      have e4 := k4.at e3 (by simp)
      have hd4 := k4.at hd3 (by simp)
      generalize upd H3 p5 (.tup [.str "TooMany", .non]) = H4 at k4 e4 hd4 ⊢
      refine is_ie R hd4 (by decide) ?_
      walk_at "rx"
      refine is_ie R hd4 (by decide) ?_
      walk_at "rx"
      refine ⟨by decide, fun p6 hp6 => ?_⟩
      have k5 : Kp [] H4 (upd H4 p6 (.lst [.str "NoHouse", .str "Taken"])) := Kp.refl.new hp6
      have e5 := k5.at e4 (by simp)
      have e6 : upd H4 p6 (.lst [.str "NoHouse", .str "Taken"]) p6 = some (.lst [.str "NoHouse", .str "Taken"]) := upd_same
      have hd5 := k5.at hd4 (by simp)
      generalize upd H4 p6 (.lst [.str "NoHouse", .str "Taken"]) = H5 at k5 e5 e6 hd5 ⊢
      refine ⟨.inl ⟨rfl, _, SqL.of e5⟩, p3, _, .bl true, 1, .bl true, rfl, rfl, SqL.of e5, rfl, rfl, rfl, rfl, fun m z hm hz => ?_, ?_⟩
      · have : m = 0 := by omega
        subst this
        cases hz
        rfl
      refine ixL (SqL.of e6) (v := .str "Taken") (atI_nat (j := 1) rfl) ?_
      walk_at "rx"
      refine ⟨C, rfl, R.x, R.l, rfl, _, hd5, _, rfl, by decide, fun p7 hp7 => ?_⟩
      have k6 : Kp [] H5 (upd H5 p7 (.tup [.str "Taken", .str l])) := Kp.refl.new hp7
      have e7 : upd H5 p7 (.tup [.str "Taken", .str l]) p7 = some (.tup [.str "Taken", .str l]) := upd_same
      have hd6 := k6.at hd5 (by simp)
      generalize upd H5 p7 (.tup [.str "Taken", .str l]) = H6 at k6 e7 hd6 ⊢
      have fin := hq H6 p7 (((((k1.trans k2).trans k3).trans k4).trans k5).trans k6) e7
      refine is_ie R hd6 (by decide) ?_
      walk_at "rx"
      refine is_ie R hd6 (by decide) ?_
      walk_at "rx"
      refine is_ie R hd6 (by decide) ?_
      walk_at "rx"
      refine is_ie R hd6 (by decide) ?_
      walk_at "rx"
      refine is_ie R hd6 (by decide) ?_
      walk_at "rx"
      exact fin
  generalize hE1 : (fun cls d H' => cls = .ref C ∧ ∃ dd, d = some dd ∧ H' dd = some (.xd [("label", .str l)]) ∧ ∀ H2 p, Kp [] H' H2 → H2 p = some (.tup [.str (if j = 0 then "NoHouse" else "Taken"), .str l]) → Q (.ref p) H2 : XK) = E1 at h1
  have hE : ∀ cls d σ' H', E1 cls d H' → σ'.length = 4 → WW cls d σ' H' := by
    subst hE1
    exact hE
  refine ⟨(tDrop (fun σZ HZ Q => σZ[0]? = some (some (.ref f)) ∧ HZ c' = some (LamX.CodeO c' q) ∧ tl E1 HZ Q)), fun pn xe tk hp => (pss_one (ps_expr (act _ pn xe E1 _ _ (takes_len tk) hE))), ?_⟩
  refine ⟨rfl, hc1, ?_⟩
  walk_at "rd"
  exact h1
end
end Kq
set_option Elab.async false
set_option linter.all false
set_option maxRecDepth 100000
set_option maxHeartbeats 4000000
namespace Fw
open PySem PySem.Spec PyProof.Rows L2 PySem.Calls
/-! ### what stays when a lambda was made -/
section
variable {K : PySem.W.Frag} {H H' : Hp} {M : List Addr}
mutual
theorem NkV.kw (kk : Kw M H H') : ∀ (k : NestedKey) (v : V), NkV K H v k → NkV K H' v k
  | .none, _, h => by
    cases h
    exact .non
  | .num i, _, h => by
    cases h
    exact .int i
  | .text x, _, h => by
    cases h
    exact .str x
  | .tup ks, _, h => by
    cases h with
    | tup hs ha => exact .tup (kk.tup hs) (NkV.kwAll kk ks _ ha)
theorem NkV.kwAll (kk : Kw M H H') : ∀ (ks : List NestedKey) (vs : List V), NkAll K H vs ks → NkAll K H' vs ks
  | [], _, h => by
    cases h
    exact .nil
  | k :: ks, _, h => by
    cases h with
    | cons h1 h2 => exact .cons (NkV.kw kk k _ h1) (NkV.kwAll kk ks _ h2)
end
theorem NDk.kw {P : Program} {w : World} {d : Addr} {xs : List NEnt} (h : NDk P w K H d xs) (k : Kw M H H') (hd : d ∉ M) : NDk P w K H' d xs :=
  ⟨k.at h.at_ hd, fun x hx => ⟨(h.ks x hx).1.kw k _ _, (h.ks x hx).2⟩⟩
end
/-! ### a def that makes lambdas: its code object at c, the table at p -/
structure AtL (K : PySem.W.Frag) (mg : Str → Option Value) (base : Heap) (x : Str) (st : Stmt) (ps : List Str) (p : Addr) : Prop where
  ex : ∃ (f : Addr) (fd : FuncData) (c : Addr), FunD K x x (defArgs st) (defBody st) (defScope st) [] [] f fd ∧ mg x = some (.ref f) ∧ Binds K fd ps [] ∧ fd.code = .ref c ∧ LamX.TabB base mg c p
theorem AtL.ok {P : Program} {w : World} {K : PySem.W.Frag} {mg : Str → Option Value} {base : Heap} {x : Str} {st : Stmt} {N ps : List Str} {p : Addr} {k : Nat} {sp : Sp} (F : AtL K mg base x st ps p) (S : FnScope N ps (defScope st)) (len : ∀ vs H Q E, sp vs H Q E → vs.length = ps.length)
    (hbody : ∀ (f c : Addr) (A : Around) (outer : List Env) (s : Shared) (H : Hp) (vs : List V) (Q : VK) (E : XK), LamX.TabB base mg c p → Room k (A.deeper (envOfC x (defScope st) s.heap.objs.size f (.ref c))) → sp vs H Q E →
      ∃ t, PSs (cxOf (L2.CX P w) P w K mg base N x (defScope st) f (.ref c) A outer s H E) (defBody st) t ∧ t { nx := fun _ H' => Q .non H', rt := Q } (start N vs) H) : Dfn P w K mg base (k + 1) x ps sp := by
  obtain ⟨f, fd, c, FD, hm, hb, hc, TB⟩ := F.ex
  obtain ⟨oc, od, dV, kV, doc, pm, an, cdv, ct, osl, rfl, lk, hcd, _, _⟩ := FD.ex
  have ec : cdv = .ref c := hc
  subst ec
  exact ⟨f, _, fn_of lk hcd S len fun A outer s H vs Q E hr hsp => hbody f c A outer s H vs Q E TB hr hsp, hm, FD.kp, hb, oc, od, osl, lk⟩
end Fw
namespace Kq
open PySem PySem.Spec PyProof.Rows L2 Fw
local macro_rules | `(tactic| walk_at "rd") => `(tactic| try simp only [tMeth, tMake, tFld, sFld, sFldAug, tMethT, tCallVT, tDNewN, tNo, tNoE, cx_P, tDIn, tDNotIn, tDGet, tDGet2, tMx, tRaiseF, tXfX, tXf, tSeq, tNext, tBreak, tCont, tDrop, tRet, tRetN, tIfS, tAsg, tVar, tC, tOp, tUn, tTest, tB, tAnd, tOr, tNot, tAndV, tOrV, tNotV, tIf, tChain, tCB, tCons, tNil, tTup, tLst, tCall, tCallS, WE,
  gName, gSub, rI, rI0, rU, rEq, rNe, rIsiC, tSl, tPart, tNoPart, rSetL, tBM, tBM0, rAppend, rExtend, rExtendT, tCallL, L2.start, List.map_cons, List.map_nil, List.length_cons, List.length_nil, Nat.sub_self, Nat.reduceAdd, Nat.reduceSub, List.replicate_zero, List.replicate_succ, List.append_nil, List.nil_append, List.cons_append,
  List.getElem?_cons_zero, List.getElem?_cons_succ, List.set_cons_zero, List.set_cons_succ, Option.some.injEq, exists_eq_left', exists_eq_left, exists_eq_right, exists_eq_right', exists_const, exists_and_left, exists_and_right, V.int.injEq, V.bl.injEq, V.str.injEq, V.ref.injEq, V.ty.injEq, List.cons.injEq, and_true, true_and, and_assoc, reduceCtorEq, false_and, and_false, exists_false, false_or, or_false,
  if_true, if_false, Bool.not_true, Bool.not_false, Bool.false_eq_true, Bool.true_eq_false, ↓reduceIte, decide_eq_true_eq, decide_true, decide_false, sc_nn, sc_ni, sc_in, sc_nb, sc_bn, sc_ns, sc_sn, sc_ii, sc_bb, sc_ss, sc_is, sc_si, sc_bs, sc_sb, ipI, Int.reduceLT, Int.reduceLE, Int.reduceEq, Nat.reduceLT, Nat.reduceEqDiff, String.reduceEq, nc0, nc1, nc2, nc3, nc4, nc5, nc6, nc7, nc8, nc9, nc10, nc11, nc12, cx_K, cx_w, wipe, lenV_str, rCat, exists_eq, exists_eq', relO, relC, relM, relI, relSl, spOf, ciOf, csOf, crOf, L2.rIxD, eq_self, not_true_eq_false, not_false_eq_true, Option.isSome_some, Option.isSome_none, tCallV, ofS_inj, sg_inj, sg_len, sg_lt, tM1, tM0, tLc_rng1, tLc_rng2, tFor_rng1, tFor_rng2, tDNewK, sDPut,  Nat.reduceLeDiff, Bool.not_eq_true', decide_eq_false_iff_not,
  isi_int_int, isi_int_bool, isi_int_str, isi_int_tuple, isi_int_list, isi_int_dict, isi_bool_int, isi_bool_bool, isi_bool_str, isi_bool_tuple, isi_bool_list, isi_bool_dict, isi_str_int, isi_str_bool, isi_str_str, isi_str_tuple, isi_str_list, isi_str_dict, isi_non_int, isi_non_bool, isi_non_str, isi_non_tuple, isi_non_list, isi_non_dict])
local macro_rules | `(tactic| walk_at "ix") => `(tactic| (refine ixT (by assumption) rfl ?_; walk_at "rd"))
local macro_rules | `(tactic| walk_at "len") => `(tactic| (refine ⟨_, lenV_T (by assumption), ?_⟩; walk_at "rd"))
local macro_rules | `(tactic| walk_at "isT") => `(tactic| (refine ⟨true, isiT (by assumption), ?_⟩; walk_at "rd"))

section
variable {P : Program} {w : World} {K : PySem.W.Frag} {mg : Str → Option Value} {base : Heap} {CN CB CH CT CO CW : Addr} {D : Nat → Addr} {H H' : Hp} {M : List Addr} {t b ca da ga ha : Addr} {ps : List (Addr × Str)} {rs : List Rec} {T : List (Addr × Str)}
theorem CtAt.kw {x : Addr} {c : Str} (h : CtAt K H x c) (k : Kw M H H') : CtAt K H' x c := by
  obtain ⟨r, h1, h2⟩ := h
  exact ⟨r, k.tup h1, k.tup h2⟩
theorem BkAt.kw (h : BkAt P w K CB H b ca da ga ps) (k : Kw M H H') (n1 : b ∉ M) (n2 : ca ∉ M) (n3 : da ∉ M) (n4 : ga ∉ M) : BkAt P w K CB H' b ca da ga ps := by
  obtain ⟨dx, h1⟩ := h.ob
  exact ⟨⟨dx, k.at h1 n1⟩, k.at h.co n2, k.at h.de n3, h.gi.kw k n4, fun p hp => ⟨(h.ct p hp).1.kw k, (h.ct p hp).2⟩, h.nd, h.ne, h.le⟩
theorem HsAt.kw {h b hh : Addr} {ns : List Nat} (x : HsAt CO H h b hh ns) (k : Kw M H H') (n1 : h ∉ M) (n2 : hh ∉ M) : HsAt CO H' h b hh ns := by
  obtain ⟨dx, n, sa, la, oa, pa, h1⟩ := x.ob
  exact ⟨⟨dx, n, sa, la, oa, pa, k.at h1 n1⟩, k.at x.he n2, x.nd⟩
theorem TnAt.kw (h : TnAt P w K CB CO CW H t b ca da ga ha ps rs) (k : Kw M H H') (n : ∀ z ∈ fp t b ca da ga ha rs, z ∉ M) : TnAt P w K CB CO CW H' t b ca da ga ha ps rs := by
  obtain ⟨dx, ta, h1⟩ := h.ob
  refine ⟨⟨dx, ta, k.at h1 (n _ (by simp))⟩, h.bk.kw k (n _ (by simp)) (n _ (by simp)) (n _ (by simp)) (n _ (by simp)), k.at h.hm (n _ (by simp)), fun r hr => (h.hs r hr).kw k (n _ ?_) (n _ ?_), h.nl, h.na, h.nh, h.nn⟩
  · exact List.mem_append_right _ (mem_own hr).1
  · exact List.mem_append_right _ (mem_own hr).2
theorem Dk.kw {d c : Addr} {n : Nat} (h : Dk K H d c n) (k : Kw M H H') (hd : d ∉ M) (hc : c ∉ M) : Dk K H' d c n := by
  obtain ⟨ne, xs, i, t, b, h1, h2, r⟩ := h
  exact ⟨ne, xs, i, t, b, k.at h1 hd, k.at h2 hc, r⟩
/-! ### the def that asks why -/
structure WhyD (K : PySem.W.Frag) (mg : Str → Option Value) : Prop where
  ex : ∃ (g : Addr) (oc : Value) (od : Option Addr) (dV kV doc pm cdv ct : Value) (an : Option Addr) (osl : Array (Option Value)), mg "_law_town_why" = some (.ref g) ∧ PySem.W.keepIn K (.ref g) = true ∧
    K.lookup g = some ⟨oc, od, .func (PySem.W.fnOf "_law_town_why" "_law_town_why" (defArgs s_l_town_why) (defBody s_l_town_why) (defScope s_l_town_why) dV kV doc pm an cdv ct), osl⟩ ∧ PySem.W.codeIn K cdv "_law_town_why" = true ∧
    L2.Binds K (PySem.W.fnOf "_law_town_why" "_law_town_why" (defArgs s_l_town_why) (defBody s_l_town_why) (defScope s_l_town_why) dV kV doc pm an cdv ct) ["_law_deed"] []
theorem why_of (F : At K mg "_law_town_why" s_l_town_why ["_law_deed"]) : WhyD K mg := by
  obtain ⟨f, fd, FD, hm, hb⟩ := F.ex
  obtain ⟨oc, od, dV, kV, doc, pm, an, cdv, ct, osl, rfl, lk, hcd, _, _⟩ := FD.ex
  exact ⟨f, oc, od, dV, kV, doc, pm, cdv, ct, an, osl, hm, FD.kp, lk, hcd, hb⟩
theorem pe_why {X : Cx} {c q : Addr} {k : Nat} {params : Arguments} {body : Expr} {scope : Scope} {t : XK → TE} {p lpos pos : Pos} (W : WhyD X.K X.mg) (Tx : Txt X.K X.w X.mg CN CB CH) (T2 : TxE X.mg D) (TB : LamX.TabB X.base X.mg c q) (hmT : (q, X.env.qual ++ "<lambda>") ∈ T) (hu : ∀ p ∈ T, p.1 = q → p.2 = X.env.qual ++ "<lambda>") (hr : Room (k + 2) X.A)
    (hbody : ∀ (A : Around) (outer : List Env) (s : Shared) (H : Hp) (E : XK) (f c' : Addr), Room k (A.deeper (LamX.lamEnv X scope s.heap.objs.size f c')) → PE (LamX.lamCx X A outer s H E scope f c') body (t E))
    (hcode : X.env.code = .ref c := by rfl) (hg : Gl X "_law_town_why" := by rfl) (L : LamX.lamSB X.env.scope scope = true := by rfl) (hdef : defaultsOf params X.env = ([], []) := by rfl)
    (hbind : ∀ (q : Str) (cl : List (Str × Addr)) (pm cv ctv : Value), bindArgs (PySem.W.kla_fn "<lambda>" q params body scope cl pm cv ctv) ⟨[], []⟩ = pure [] := by intros; rfl) : PE X (.Call (.Name "_law_town_why" p) [.Lambda params body scope lpos] [] pos) (LamX.tLam T (TTwhy X.K D CH) t) := by
  obtain ⟨g, oc, od, dV, kV, doc, pm, cdv, ct, an, osl, hm, hk, lk, hcd, hb⟩ := W.ex
  exact LamX.pe_lamcall hg hm hk lk hcd hb sc_l_town_why rfl (.inl rfl) (why_gives Tx T2) TB hcode hmT hu hr (LamX.lamS_by L) hdef hbind hbody
theorem why_mk {σ : L2.St} {t : XK → TE} {Q : VK} {C : Addr} {j : Nat} {l : Str} (hT : LamX.Tabs T H) (R : Row K D CH C j) (hj : j < 2) (hs : ∀ H1 (Q1 : VK) (E1 : XK), Kw [] H H1 → Lets C l H1 E1 → t E1 σ H1 Q1)
    (q : ∀ H' p, Kw [] H H' → LamX.Tabs T H' → H' p = some (.tup [.str (if j = 0 then "NoHouse" else "Taken"), .str l]) → Q (.ref p) H') : LamX.tLam T (TTwhy K D CH) t σ H Q := by
  refine ⟨hT, fun H1 e1 hT1 => ⟨C, j, l, R, hj, fun H2 tt k2 _ => hs H2 _ _ ((Kw.ofExt e1).trans k2.w) fun d H3 k3 hd0 hd => ⟨rfl, d, rfl, hd, fun H4 p k4 hp => ?_⟩⟩⟩
  exact q H4 p ((((Kw.ofExt e1).trans k2.w).trans k3.w).trans k4.w) (k4.tabs (k3.tabs (k2.tabs hT1))) hp
theorem sc_l_built : FnScope ["_law_deck_here", "_law_town", "_law_homes", "_law_label_here"] ["_law_deck_here", "_law_town", "_law_homes"] (defScope s_l_built) := ⟨rfl, rfl, rfl, by decide +kernel, rfl, by decide +kernel, by decide +kernel⟩
abbrev qb : Str := (envOfC "_law_built" (defScope s_l_built) 0 0 .none).qual ++ "<lambda>"
/-- the classes of the houses and the books -/
structure TxO (mg : Str → Option Value) (CO : Addr) : Prop where
  House : mg "House" = some (.ref CO)
def spBuilt (P : Program) (w : World) (K : PySem.W.Frag) (CB CO CW : Addr) (T : List (Addr × Str)) : Sp := fun vs H Q _ => ∃ (d c n t b ca da ga ha lh : Addr) (ps : List (Addr × Str)) (rs : List Rec), vs = [.ref d, .ref t, .ref lh] ∧ Dk K H d c n ∧ n + 10 ≤ 900000 ∧
  TnAt P w K CB CO CW H t b ca da ga ha ps rs ∧ rs.length ≤ 45 ∧ H lh = some (.dK (hmK rs)) ∧ LamX.Tabs T H ∧ (∀ z ∈ [d, c, lh], z ∉ fp t b ca da ga ha rs) ∧
  ∀ H' rs', Kw [d, ha, lh] H H' → LamX.Tabs T H' → Dk K H' d c (n + 10) → TnAt P w K CB CO CW H' t b ca da ga ha ps rs' → H' lh = some (.dK (hmK rs')) → rs' ≠ [] → (rs' = rs ∨ ∃ l a hh, rs' = rs ++ [⟨l, a, hh, []⟩] ∧ Wr H a ∧ Wr H hh) → Q (.bl true) H'
theorem ok_built (T : Txt K w mg CN CB CH) (T2 : TxE mg D) (TO : TxO mg CO) (TW : TxtW K CW) (IH : C8.InsC K CO) (DE : DefEq K CO) (R0 : Row K D CH CN 0) (R1 : Row K D CH CT 1) {q : Addr} {T8 : List (Addr × Str)} (hmT : (q, qb) ∈ T8) (hu : ∀ p ∈ T8, p.1 = q → p.2 = qb) (F : AtL K mg base "_law_built" s_l_built ["_law_deck_here", "_law_town", "_law_homes"] q) (WD : WhyD K mg)
    (G_l_label : Dfn P w K mg base 3 "_law_label" ["_law_deck_here"] (spG K 10 [] RLabel)) (G_l_alike : Dfn P w K mg base 3 "_law_alike" ["_law_found", "_law_due"] (spAl K)) (M_build : Dfm P w K mg base 4 CW "build" ["self", "label"] (spBuild P w K CB CO CW CT)) (M_house : Dfm P w K mg base 3 CW "house" ["self", "label"] (spHouse P w K CB CO CW CN)) :
    Dfn P w K mg base 7 "_law_built" ["_law_deck_here", "_law_town", "_law_homes"] (spBuilt P w K CB CO CW T8) := by
  refine F.ok sc_l_built (fun vs H Q E h => ?_) (fun f c0 A outer s H vs Q E TB hr h => ?_)
  · obtain ⟨d, c, n, t, b, ca, da, ga, ha, lh, ps, rs, rfl, _⟩ := h
    rfl
  · refine ⟨_, (pss_cons (ps_set (i := 3) sc_l_built.nd rfl (Or.inr rfl) (pe_fn G_l_label hr (pa_cons (pv 0) pa_nil)))
      (pss_cons (ps_if (pt_cmp (pc_din (hu_of hr) (pv 3) (pv 2))) (pss_one (ps_ret (pe_fn G_l_alike hr (pa_cons (pe_why (k := 4) WD T T2 TB hmT hu (hr.mono (by decide)) (t := fun E => tMeth CW "build" (spM M_build) [] E (tVar 1) (tCons (tVar 3) tNil)) (fun A outer s H E f c' hr2 => Fw.pe_m M_build hr2 (passes_call (takes_of rfl rfl rfl rfl) (fun _ _ _ _ h => h)) (pv 1) (pa_cons (pv 3) pa_nil))) (pa_cons (pe_tup (pa_cons pe_str (pa_cons (pv 3) pa_nil))) pa_nil))))) pss_nil)
      (pss_cons (ps_if (pt_not (pt_val (pe_fn G_l_alike hr (pa_cons (pe_why (k := 3) WD T T2 TB hmT hu (hr.mono (by decide)) (t := fun E => tMeth CW "house" (spM M_house) [] E (tVar 1) (tCons (tVar 3) tNil)) (fun A outer s H E f c' hr2 => Fw.pe_m M_house hr2 (passes_call (takes_of rfl rfl rfl rfl) (fun _ _ _ _ h => h)) (pv 1) (pa_cons (pv 3) pa_nil))) (pa_cons (pe_tup (pa_cons pe_str (pa_cons (pv 3) pa_nil))) pa_nil))))) (pss_one (ps_ret pe_bl)) pss_nil)
      (pss_cons (ps_dput (hu_of hr) (pv 2) (pv 3) (Fw.pe_m M_build hr (passes_call (takes_of rfl rfl rfl rfl) (fun _ _ _ _ h => h)) (pv 1) (pa_cons (pv 3) pa_nil)) rfl)
      (pss_one (ps_ret (pe_and (pe_callB (C8.call_isC IH) (by rfl) T.isinstance_ (by decide +kernel) (pa_cons (pe_dget (hu_of hr) (pv 2) (pv 3) (fun _ _ => rfl)) (pa_cons (pe_cr rfl TO.House) pa_nil))) (pe_one (pe_cmpR (op_eqI hr.units) (Fw.pe_m M_house hr (passes_call (takes_of rfl rfl rfl rfl) (fun _ _ _ _ h => h)) (pv 1) (pa_cons (pv 3) pa_nil)) (pe_dget (hu_of hr) (pv 2) (pv 3) (fun _ _ => rfl)) (nomark _)))))))))), ?_⟩
    obtain ⟨d, c, n, t, b, ca, da, ga, ha, lh, ps, rs, rfl, hd, hn, ht, h45, hlh, hT, hdj, q⟩ := h
    have nlh : ∀ {z : Addr}, z ∈ [d, c] → lh ≠ z := fun {z} hz => by
      obtain ⟨ne, xs, i, tt, bb, h1, h2, _⟩ := hd
      simp only [List.mem_cons, List.not_mem_nil, or_false] at hz
      rcases hz with rfl | rfl
      · exact ne_of hlh h1 (by intro z; cases z)
      · exact ne_of hlh h2 (by intro z; cases z)
    have djd : ∀ z ∈ fp t b ca da ga ha rs, z ∉ [d] := fun z hz e => hdj d (by simp) (by rw [← List.mem_singleton.mp e]; exact hz)
    have djl : ∀ z ∈ [t, b, ca, da, ga, ha], z ≠ lh := fun z hz e => hdj lh (by simp) (by rw [← e]; exact List.mem_append_left _ hz)
    have ndh : ∀ z ∈ [d, c], z ≠ ha := fun z hz e => hdj z (by simp at hz ⊢; rcases hz with h | h <;> simp [h]) (by rw [e]; simp)
    walk_at "rd"
    refine spG_mk hd hn fun H1 v k1 hd1 hv => ?_
    obtain ⟨l, rfl, hl⟩ := hv
    have ht1 := ht.kp k1 djd
    have hlh1 := k1.at hlh (by simpa using nlh (z := d) (by simp))
    have hT1 := k1.tabs hT
    refine ⟨_, DGet.k (k := Sum.inr l) hlh1, ?_⟩
    by_cases hm : l ∈ labs rs
    · obtain ⟨r, hr', rfl⟩ := List.mem_map.mp hm
      rw [val_hm_some ht.nl hr']
      walk_at "rd"
      refine why_mk (l := r.lab) hT1 R1 (by decide) (fun H2 Q2 E2 kw L => ?_) (fun H2 p kw hT2 hp => ?_)
      · have ht2 := ht1.kw kw (by simp)
        obtain ⟨dx, ta, hob⟩ := ht2.ob
        walk_at "rd"
        exact ⟨_, _, hob, rfl, t, b, ca, da, ga, ha, ps, rs, _, rfl, ht2, by omega, fun _ => L, fun hn => absurd hm hn⟩
      · refine ⟨by decide, fun p2 hp2 => .inr ⟨p, p2, [.str "Taken", .str r.lab], true, rfl, .inl ⟨rfl, .inl (.inl ?_), .inl (.inl upd_same)⟩, fun x hx => ?_, (by show 2 ≤ 100; decide), fun H3 k3 => ?_⟩⟩
        · rw [upd_ne (ne_of_none hp hp2)]
          exact hp
        · simp only [List.mem_cons, List.not_mem_nil, or_false] at hx
          rcases hx with rfl | rfl <;> exact .inr ⟨_, rfl⟩
        · have k2 : Kp [] H2 (upd H2 p2 (.tup [.str "Taken", .str r.lab])) := Kp.refl.new hp2
          have k23 := k2.trans k3
          have kk := (kw.trans k23.w)
          refine q H3 rs ((k1.w.mono (by simp)).trans kk.nil) (k23.tabs hT2) (hd1.kw kk (by simp) (by simp)) (ht1.kw kk (by simp)) (kk.at hlh1 (by simp)) ?_ (.inl rfl)
          rintro rfl
          cases hr'
    · have hv := val_hm_none hm
      rw [hv]
      walk_at "rd"
      refine why_mk (l := l) hT1 R0 (by decide) (fun H2 Q2 E2 kw L => ?_) (fun H2 p kw hT2 hp => ?_)
      · have ht2 := ht1.kw kw (by simp)
        obtain ⟨dx, ta, hob⟩ := ht2.ob
        walk_at "rd"
        exact ⟨_, _, hob, rfl, t, b, ca, da, ga, ha, ps, rs, _, rfl, ht2, fun _ => L, fun r hr e => absurd (List.mem_map.mpr ⟨r, hr, e⟩) hm⟩
      · refine ⟨by decide, fun p2 hp2 => .inr ⟨p, p2, [.str "NoHouse", .str l], true, rfl, .inl ⟨rfl, .inl (.inl ?_), .inl (.inl upd_same)⟩, fun x hx => ?_, (by show 2 ≤ 100; decide), fun H3 k3 => ?_⟩⟩
        · rw [upd_ne (ne_of_none hp hp2)]
          exact hp
        · simp only [List.mem_cons, List.not_mem_nil, or_false] at hx
          rcases hx with rfl | rfl <;> exact .inr ⟨_, rfl⟩
        · have k2 : Kp [] H2 (upd H2 p2 (.tup [.str "NoHouse", .str l])) := Kp.refl.new hp2
          have k23 := k2.trans k3
          have kk := (kw.trans k23.w)
          have ht3 := ht1.kw kk (by simp)
          have hlh3 := kk.at hlh1 (by simp)
          have hT3 := k23.tabs hT2
          obtain ⟨dx, ta, hob⟩ := ht3.ob
          walk_at "rd"
          refine ⟨_, _, hob, rfl, t, b, ca, da, ga, ha, ps, rs, l, rfl, ht3, by omega, fun h => absurd h hm, fun _ H4 a hh k4 ha0 hh0 nah ht4 => ?_⟩
          have hlh4 := k4.at hlh3 (by simpa using (djl ha (by simp)).symm)
          refine ⟨_, DPut.k (k := Sum.inr l) hlh4 (by rw [List.length_map, sizeLine_eq]; omega), ?_⟩
          rw [putK_new _ hv]
          have e5 : upd H4 lh (.dK (hmK rs ++ [(Sum.inr l, V.ref a)])) lh = some (.dK (hmK (rs ++ [⟨l, a, hh, []⟩]))) := by rw [upd_same, hmK, hmK, List.map_append]; rfl
          have k5 : Kp [lh] H4 (upd H4 lh (.dK (hmK rs ++ [(Sum.inr l, V.ref a)]))) := Kp.refl.put hlh4 (mu_of trivial) (by simp)
          have nal : a ≠ lh := (ne_of_none hlh3 ha0).symm
          have nhl : hh ≠ lh := (ne_of_none hlh3 hh0).symm
          have ht5 := ht4.kp k5 (fun z hz e => by
            have e2 := List.mem_singleton.mp e
            subst e2
            rcases List.mem_append.mp hz with hz | hz
            · exact djl _ hz rfl
            · rw [own, List.flatMap_append] at hz
              rcases List.mem_append.mp hz with hz | hz
              · exact hdj _ (by simp) (List.mem_append_right _ hz)
              · simp only [List.flatMap_cons, List.flatMap_nil, List.append_nil, List.mem_cons, List.not_mem_nil, or_false] at hz
                rcases hz with hz | hz
                · exact nal hz.symm
                · exact nhl hz.symm)
          generalize upd H4 lh (.dK (hmK rs ++ [(Sum.inr l, V.ref a)])) = H5 at e5 k5 ht5 ⊢
          have hg := DGet.k (k := Sum.inr l) e5
          rw [val_hm_some (r := ⟨l, a, hh, []⟩) ht5.nl (by simp)] at hg
          obtain ⟨dxa, n5, sa, la, oa, pa, hoa⟩ := (ht5.hs ⟨l, a, hh, []⟩ (by simp)).ob
          obtain ⟨dx5, ta5, hob5⟩ := ht5.ob
          refine ⟨_, hg, a, rfl, ⟨_, _, hoa⟩, _, _, hob5, rfl, t, b, ca, da, ga, ha, ps, _, l, rfl, ht5, fun h => absurd (by simp [labs]) h, fun r hr e => ?_⟩
          have er : r = ⟨l, a, hh, []⟩ := by
            rcases List.mem_append.mp hr with hr | hr
            · exact absurd (List.mem_map.mpr ⟨r, hr, e⟩) hm
            · exact List.mem_singleton.mp hr
          subst er
          refine ⟨_, hg, CO, a, a, _, _, _, _, rfl, rfl, hoa, hoa, DE, ?_⟩
          rw [if_neg Bool.false_ne_true, decide_eq_true rfl]
          have k45 : Kp [d, ha, lh] H3 H5 := (k4.mono (by simp)).trans (k5.mono (by simp))
          have k15 : Kw [d, ha, lh] H1 H5 := kk.nil.trans k45.w
          refine q H5 _ ((k1.w.mono (by simp)).trans k15) (k45.tabs hT3) ?_ ht5 e5 (by simp) (.inr ⟨l, a, hh, rfl, (k1.w.trans kk.nil).free (.of ha0), (k1.w.trans kk.nil).free (.of hh0)⟩)
          have hd3 := hd1.kw kk (by simp) (by simp)
          exact (hd3.kp k4 (by simpa using ndh d (by simp)) (by simpa using ndh c (by simp))).kp k5 (by simpa using (nlh (z := d) (by simp)).symm) (by simpa using (nlh (z := c) (by simp)).symm)
end
end Kq
set_option Elab.async false
set_option linter.all false
set_option maxRecDepth 100000
set_option maxHeartbeats 6400000
namespace Fw
open PySem PySem.Spec PyProof.Rows L2 PySem.Calls
section
variable {P : Program} {w : World} {A : Around} {E : Value → Shared → Prop} {s : Shared}
/-- a set that was just made -/
abbrev nwS (w : World) : Obj := { cls := .type "set", dict := none, data := .set #[] 0 (.fresh 0 0 (!w.params.followText "set-order")) }
local macro_rules | `(tactic| walk_at "stp") => `(tactic| repeat (any_goals (first | assumption | wp_step)))
/-- set(xs), xs a list of ints -/
theorem set_of_list {l : Addr} {items : Array Value} (ns : List Int) {Q : Value → Shared → Prop} (hh : A.handled = none) (hl : s.heap.IsList l items) (hit : IntsAre items.toList ns) (hb : ns.length + 1 < scanBound)
    (h : ∀ (G : Heap) (tk c : Nat), SetR w G s.heap.objs.size (fun j => decide (j ∈ ns)) c → c ≤ ns.length → (∀ b o, s.heap.get? b = some o → G.get? b = some o) → Q (.ref s.heap.objs.size) { s with heap := G, toks := tk }) : wpAny (model P w) A (call (.type "set") [.ref l]) Q E s := by
  have hisz : items.size = ns.length := by rw [← Array.length_toList]; exact IntsAre.length hit
  obtain ⟨m0, tl, hmro⟩ := F.called_set.mro
  have hmade := F.called_set.made; have hsub := F.called_set.sub
  refine wpAny_call (codeAny_of_tree (show wpAny _ _ (callAny (.type "set") _) _ _ _ from wpAny_pure ⟨Code.quiet_builtin _ (by decide +kernel), codeAny_builtin F.entry_type_call ?_⟩))
  rw [Around.under_plain (weight_type_call_type "set" [.ref l] []) rfl]
  have g1 := F.called_set.notType; have g2 := F.called_set.canCreate; have g3 := F.typeCall_set_1 (.ref l)
  walk_at "stp"
  refine codeAny_mono (code_set_led1 (.ref l) (E := E) (Q₁ := fun ob s1 => ob = .ref s.heap.objs.size ∧ s1 = { s with heap := s.heap.push (nwS w) }) ⟨rfl, rfl⟩) fun r s1 hr => ?_
  cases r with
  | error e => exact hr
  | ok fl =>
    cases fl with
    | ret ob =>
      obtain ⟨rfl, rfl⟩ := hr
      have hS : (s.heap.push (nwS w)).get? s.heap.objs.size = some (nwS w) := Heap.get?_push_size _ rfl
      have hT : Shared.TypeIs { s with heap := s.heap.push (nwS w) } (.ref s.heap.objs.size) "set" := ⟨_, hS, rfl⟩
      have i1 := F.called_set.init.lookup; have i2 := F.called_set.init.bind (.ref s.heap.objs.size)
      walk_at "stp"
      refine codeAny_mono (codeAny_call_builtin (R := wants (fun r s2 => r = .none ∧ ∃ G tk c, s2 = { s with heap := G, toks := tk } ∧ SetR w G s.heap.objs.size (fun j => decide (j ∈ ns)) c ∧ c ≤ ns.length ∧ (∀ b o, s.heap.get? b = some o → G.get? b = some o)) E)
        F.called_set.init.plain F.entry_set_init (check_set_init_1 hT ?_)) fun r2 s2 hr2 => ?_
      · obtain ⟨ol, hol, hcl, nl, hdl⟩ := hl
        obtain ⟨ocl, odi, oda, osl⟩ := ol
        simp only at hcl hdl
        subst hcl hdl
        have hol' : (s.heap.push (nwS w)).get? l = some { cls := .type "list", dict := odi, data := .seq items nl, slots := osl } := Heap.get?_push_of_some _ hol
        have j1 := F.sub_list_set; have j2 := F.sub_list_frozenset
        have j3 : (Value.type "list" == Value.type "dict") = false := by decide
        have hl1 : (s.heap.push (nwS w)).IsList l items := ⟨_, hol', rfl, nl, rfl⟩
        unfold Builtin.«set.__init__» noKeywords Builtin.Frozenset.updateFrom
        generalize hPI : pyIter = PI
        wp_walk
        subst hPI
        refine wpAny_pyIter_list hl1 (wpAny_bind (wpAny_runValue ?_))
        have hlt : l < s.heap.objs.size := Heap.lt_size hol
        have hz : (s.heap.push (nwS w)).objs.size = s.heap.objs.size + 1 := Heap.size_push ..
        have n1 : l ≠ (s.heap.push (nwS w)).objs.size := hz ▸ Nat.ne_of_lt (Nat.lt_succ_of_lt hlt)
        have n2 : s.heap.objs.size ∉ [(s.heap.push (nwS w)).objs.size, l] := by
          rw [hz, List.mem_cons, List.mem_singleton]
          exact fun z => z.elim (Nat.ne_of_lt (Nat.lt_succ_self _)) (Nat.ne_of_gt hlt)
        have hval : ∀ (i : Nat) (v : Value), items[i]? = some v → ∃ k t, ns[i]? = some k ∧ v = .int k t := fun i v hv => by
          have hi : i < ns.length := hisz ▸ (Array.getElem?_eq_some_iff.mp hv).1
          obtain ⟨t, e⟩ := IntsAre.int_at hit i v (by rw [Array.getElem?_toList]; exact hv)
          exact ⟨ns[i], t, List.getElem?_eq_getElem hi, by rw [e, List.getD_eq_getElem?_getD, List.getElem?_eq_getElem hi]; rfl⟩
        refine set_update_ints ((Walks.list (show A.in1.in1.in1.handled = none by simp [hh]) _ l n1 items).toS) s.heap.objs.size n2 ns hisz hb hval (items.size - 0) 0 _ (by omega) (Nat.zero_le _) ⟨⟨_, Heap.get?_push_size _ rfl, rfl, rfl⟩, (hl1.push _)⟩ ?hss ?hrr
        case hss => exact ⟨0, Nat.le_refl 0, setR_new_at (Heap.get?_push_of_some _ hS)⟩
        case hrr =>
          intro s3 c3 hm hc3 hS3
          obtain ⟨G, gg, dd, tk, oo⟩ := s3
          obtain rfl : gg = s.gens := hm.gens
          obtain rfl : dd = s.drawn := hm.drawn
          obtain rfl : oo = s.os := hm.os
          refine (show wpAny _ _ _ _ _ _ from wpAny_pure (show wpAny _ _ (ret Value.none) _ _ _ from wpAny_pure ⟨rfl, G, tk, c3, rfl, hS3, hisz ▸ hc3, fun b o e => ?_⟩))
          have hb0 : b < s.heap.objs.size := Heap.lt_size e
          refine hm.heap b o ?_ (Heap.get?_push_of_some _ (Heap.get?_push_of_some _ e))
          rw [hz, List.mem_cons, List.mem_singleton]
          exact fun z => z.elim (Nat.ne_of_lt hb0) (Nat.ne_of_lt (Nat.lt_succ_of_lt hb0))
      · cases r2 with
        | error e => exact hr2
        | ok f2 =>
          cases f2 with
          | ret r =>
            obtain ⟨rfl, G, tk, c3, rfl, hS3, hc3, hk3⟩ := hr2
            walk_at "stp"
            exact h _ _ _ hS3 hc3 hk3
          | _ => exact hr2.elim
    | _ => exact hr.elim
end
def rSetI (K : PySem.W.Frag) (w : World) : List V → Hp → VK → Prop := fun vs H Q => ∃ (p : Addr) (is : List Int), vs = [.ref p] ∧ SqL K H p (is.map V.int) ∧ is.length < 64 ∧
  ∀ (a : Addr) (c : Nat), H a = none → c ≤ is.length → Q (.ref a) (upd H a (SetO w a (fun j => decide (j ∈ is)) c))
theorem cr_setI {X : Cx} (hc : X.calm = true) : CallR X (.type "set") (rSetI X.K X.w) := by
  intro pins s σ H xs us Q I r h
  obtain ⟨p, is, rfl, hp, h64, q⟩ := h
  obtain rfl := Vals.ref1 r
  obtain ⟨its, rv, hl, hz⟩ := I.list hp
  refine set_of_list is (I.ok.hd hc) hl.isList (by simpa using ints_are rv) (by unfold scanBound; omega) fun h' tk c R hcl k => ?_
  exact ⟨.ref s.heap.objs.size, upd H s.heap.objs.size (SetO X.w s.heap.objs.size (fun j => decide (j ∈ is)) c), I.laid (t' := tk) k (Nat.le_refl _) (setO_new R), rfl, q _ c (I.hok.fresh (Nat.le_refl _)) hcl⟩
/-! ### sorted texts are one list -/
theorem sorted_one {α : Type} {r : α → α → Prop} (anti : ∀ a b, r a b → r b a → a = b) : ∀ {xs ys : List α}, xs.Perm ys → xs.Pairwise r → ys.Pairwise r → xs = ys
  | [], ys, p, _, _ => p.nil_eq
  | x :: xs, [], p, _, _ => absurd p.length_eq (by simp)
  | x :: xs, y :: ys, p, hx, hy => by
    have e : x = y := by
      have a1 : x ∈ y :: ys := p.mem_iff.mp (by simp)
      have a2 : y ∈ x :: xs := p.mem_iff.mpr (by simp)
      rcases List.mem_cons.mp a1 with e | a1
      · exact e
      · rcases List.mem_cons.mp a2 with e | a2
        · exact e.symm
        · exact anti _ _ ((List.pairwise_cons.mp hx).1 y a2) ((List.pairwise_cons.mp hy).1 x a1)
    subst e
    rw [sorted_one anti (List.Perm.cons_inv p) (List.pairwise_cons.mp hx).2 (List.pairwise_cons.mp hy).2]
theorem rising_all {p : Str} : ∀ {l : List Str}, risingS p l = true → (∀ x ∈ l, p.cps.toList ≤ x.cps.toList) ∧ l.Pairwise fun a b => a.cps.toList ≤ b.cps.toList
  | [], _ => ⟨fun x h => (by cases h), List.Pairwise.nil⟩
  | y :: l, h => by
    have h' : (!ltCps y.cps.toList p.cps.toList && risingS y l) = true := h
    rw [Bool.and_eq_true, ltCps_eq] at h'
    have h1 : p.cps.toList ≤ y.cps.toList := by
      have := h'.1
      simp only [Bool.not_eq_true', decide_eq_false_iff_not] at this
      exact List.not_lt.mp this
    obtain ⟨a, b⟩ := rising_all h'.2
    refine ⟨fun x hx => ?_, List.pairwise_cons.mpr ⟨a, b⟩⟩
    rcases List.mem_cons.mp hx with rfl | hx
    · exact h1
    · exact List.le_trans h1 (a x hx)
theorem sortedS_one {xs ys : List Str} (p : xs.Perm ys) (hx : sortedS xs = true) (hy : sortedS ys = true) : xs = ys := by
  have pw : ∀ {l : List Str}, sortedS l = true → l.Pairwise fun a b => a.cps.toList ≤ b.cps.toList := fun {l} h => by
    cases l with
    | nil => exact .nil
    | cons x l =>
      obtain ⟨a, b⟩ := rising_all (p := x) (l := l) h
      exact List.pairwise_cons.mpr ⟨a, b⟩
  refine sorted_one (r := fun a b : Str => a.cps.toList ≤ b.cps.toList) (fun a b h1 h2 => ?_) p (pw hx) (pw hy)
  have e := List.le_antisymm h1 h2
  obtain ⟨⟨a⟩⟩ := a
  obtain ⟨⟨b⟩⟩ := b
  simpa using e
end Fw
set_option Elab.async false
set_option linter.all false
set_option maxRecDepth 100000
set_option maxHeartbeats 4000000
namespace Fw
open PySem PySem.Spec PyProof.Rows L2 PySem.Calls
section
variable {K : PySem.W.Frag}
/-! ### for x in a list -/
def LstGoal (K : PySem.W.Frag) (a : Addr) (g : TG) (tb : TS) (D : Ends) (σ : L2.St) (H : Hp) : Prop := ∃ W : Nat → Nat → L2.St → Hp → Prop, (∃ m, W 0 m σ H) ∧ ∀ i m σ H, W i m σ H →
      ((Itl K a).stop i H ∧ D.nx σ H) ∨ ((Itl K a).go i H ∧ ∃ N : L2.St → Hp → Prop, (∀ σ' H', N σ' H' → ∃ m', m' < m ∧ W (i + 1) m' σ' H') ∧ ∀ x H', (Itl K a).yld i H x H' → g x σ H' fun σ2 H2 => tb { D with nx := N, ct := N, bk := D.nx } σ2 H2)
theorem tFor_lst {ts : TE} {g : TG} {tb : TS} {D : Ends} {σ : L2.St} {H : Hp} : tFor (iList K ts) g tb D σ H = (ts σ H fun x H1 => ∃ a, x = .ref a ∧ (∃ xs, SqL K H1 a xs) ∧ LstGoal K a g tb D σ H1) := rfl
theorem lst_goal {a : Addr} {xs : List V} {g : TG} {tb : TS} {D : Ends} {σ : L2.St} {H : Hp} (Pv : Nat → L2.St → Hp → Prop) (h0 : Pv 0 σ H) (hG : ∀ i σ H, i ≤ xs.length → Pv i σ H → SqL K H a xs)
    (hs : ∀ i x σ H, xs[i]? = some x → Pv i σ H → g x σ H fun σ2 H2 => tb { D with nx := Pv (i + 1), ct := Pv (i + 1), bk := D.nx } σ2 H2) (hd : ∀ σ H, Pv xs.length σ H → D.nx σ H) : LstGoal K a g tb D σ H :=
  for_it walk_list Pv h0 hG (fun i x σ H H' hi p y => by
    obtain ⟨rfl, hx⟩ := y
    exact hs i x σ H' hx p) hd
end
end Fw
set_option Elab.async false
set_option linter.all false
set_option maxRecDepth 100000
set_option maxHeartbeats 4000000
namespace Kq
open PySem PySem.Spec PyProof.Rows L2 Fw
local macro_rules | `(tactic| walk_at "rd") => `(tactic| try simp only [tMeth, tMake, tFld, sFld, sFldAug, tMethT, tCallVT, tDNewN, tNo, tNoE, cx_P, tDIn, tDNotIn, tDGet, tDGet2, tMx, tRaiseF, tXfX, tXf, tSeq, tNext, tBreak, tCont, tDrop, tRet, tRetN, tIfS, tAsg, tVar, tC, tOp, tUn, tTest, tB, tAnd, tOr, tNot, tAndV, tOrV, tNotV, tIf, tChain, tCB, tCons, tNil, tTup, tLst, tCall, tCallS, WE,
  gName, gSub, rI, rI0, rU, rEq, rNe, rIsiC, tSl, tPart, tNoPart, rSetL, tBM, tBM0, rAppend, rExtend, rExtendT, tCallL, L2.start, List.map_cons, List.map_nil, List.length_cons, List.length_nil, Nat.sub_self, Nat.reduceAdd, Nat.reduceSub, List.replicate_zero, List.replicate_succ, List.append_nil, List.nil_append, List.cons_append,
  List.getElem?_cons_zero, List.getElem?_cons_succ, List.set_cons_zero, List.set_cons_succ, Option.some.injEq, exists_eq_left', exists_eq_left, exists_eq_right, exists_eq_right', exists_const, exists_and_left, exists_and_right, V.int.injEq, V.bl.injEq, V.str.injEq, V.ref.injEq, V.ty.injEq, List.cons.injEq, and_true, true_and, and_assoc, reduceCtorEq, false_and, and_false, exists_false, false_or, or_false,
  if_true, if_false, Bool.not_true, Bool.not_false, Bool.false_eq_true, Bool.true_eq_false, ↓reduceIte, decide_eq_true_eq, decide_true, decide_false, sc_nn, sc_ni, sc_in, sc_nb, sc_bn, sc_ns, sc_sn, sc_ii, sc_bb, sc_ss, sc_is, sc_si, sc_bs, sc_sb, ipI, Int.reduceLT, Int.reduceLE, Int.reduceEq, Nat.reduceLT, Nat.reduceEqDiff, String.reduceEq, nc0, nc1, nc2, nc3, nc4, nc5, nc6, nc7, nc8, nc9, nc10, nc11, nc12, cx_K, cx_w, wipe, lenV_str, rCat, exists_eq, exists_eq', relO, relC, relM, relI, relSl, spOf, ciOf, csOf, crOf, L2.rIxD, eq_self, not_true_eq_false, not_false_eq_true, Option.isSome_some, Option.isSome_none, tCallV, ofS_inj, sg_inj, sg_len, sg_lt, tM1, tM0, tLc_rng1, tLc_rng2, tFor_rng1, tFor_rng2, tDNewK, sDPut,  Nat.reduceLeDiff, Bool.not_eq_true', decide_eq_false_iff_not,
  isi_int_int, isi_int_bool, isi_int_str, isi_int_tuple, isi_int_list, isi_int_dict, isi_bool_int, isi_bool_bool, isi_bool_str, isi_bool_tuple, isi_bool_list, isi_bool_dict, isi_str_int, isi_str_bool, isi_str_str, isi_str_tuple, isi_str_list, isi_str_dict, isi_non_int, isi_non_bool, isi_non_str, isi_non_tuple, isi_non_list, isi_non_dict])
local macro_rules | `(tactic| walk_at "ix") => `(tactic| (refine ixT (by assumption) rfl ?_; walk_at "rd"))
local macro_rules | `(tactic| walk_at "len") => `(tactic| (refine ⟨_, lenV_T (by assumption), ?_⟩; walk_at "rd"))
local macro_rules | `(tactic| walk_at "isT") => `(tactic| (refine ⟨true, isiT (by assumption), ?_⟩; walk_at "rd"))

section
variable {P : Program} {w : World} {K : PySem.W.Frag} {mg : Str → Option Value} {base : Heap} {CN CB CH CT CO CW : Addr} {D : Nat → Addr} {H H' : Hp} {M : List Addr} {t b ca da ga ha : Addr} {ps : List (Addr × Str)} {rs : List Rec} {T : List (Addr × Str)}
local macro_rules | `(tactic| walk_at "hb") => `(tactic| (refine ⟨_, _, _, (by assumption), (TxtH.cl (by assumption)), (TxtH.nb (by assumption)), _, lhb, ?_⟩; walk_at "rd"))
local macro_rules | `(tactic| walk_at "tb") => `(tactic| (refine ⟨_, _, _, (by assumption), (TxtW.cl (by assumption)), (TxtW.nb (by assumption)), _, ltb, ?_⟩; walk_at "rd"))
theorem nodup_lab {r r' : Rec} : ∀ {rs : List Rec}, (labs rs).Nodup → r' ∈ rs → r ∈ rs → r'.lab = r.lab → r' = r
  | [], _, h, _, _ => by cases h
  | q :: rs, nd, h1, h2, e => by
    rw [labs, List.map_cons, List.nodup_cons] at nd
    rcases List.mem_cons.mp h1 with g1 | g1
    · rcases List.mem_cons.mp h2 with g2 | g2
      · rw [g1, g2]
      · exact absurd (List.mem_map.mpr ⟨r, g2, by rw [← e, g1]⟩) nd.1
    · rcases List.mem_cons.mp h2 with g2 | g2
      · exact absurd (List.mem_map.mpr ⟨r', g1, by rw [e, g2]⟩) nd.1
      · exact nodup_lab nd.2 g1 g2 e
/-- what the law notes of a house -/
def HeldR (H : Hp) (hk : List (Key × V)) (r : Rec) : Prop := (valV hk (Sum.inr r.lab) = none ∧ r.ns = []) ∨
  ∃ (p : Addr) (ys : List Int), valV hk (Sum.inr r.lab) = some (.ref p) ∧ H p = some (.lst (ys.map V.int)) ∧ ys.Perm (r.ns.map fun k => ((k : Nat) : Int)) ∧ ys.Pairwise (· ≤ ·)
theorem HeldR.kp {hk : List (Key × V)} {r : Rec} (h : HeldR H hk r) (k : Kp [] H H') : HeldR H' hk r := by
  rcases h with h | ⟨p, ys, h1, h2, h3⟩
  · exact .inl h
  · exact .inr ⟨p, ys, h1, k.at h2 (by simp), h3⟩
theorem sc_l_stands : FnScope ["_law_town", "_law_homes", "_law_held", "_law_label_here"] ["_law_town", "_law_homes", "_law_held"] (defScope s_l_stands) := ⟨rfl, rfl, rfl, by decide +kernel, rfl, by decide +kernel, by decide +kernel⟩
def spStands (P : Program) (w : World) (K : PySem.W.Frag) (CB CO CW : Addr) : Sp := fun vs H Q _ => ∃ (t b ca da ga ha lh lk : Addr) (ps : List (Addr × Str)) (rs : List Rec) (hk : List (Key × V)), vs = [.ref t, .ref lh, .ref lk] ∧ TnAt P w K CB CO CW H t b ca da ga ha ps rs ∧ rs.length ≤ 45 ∧ (∀ r ∈ rs, r.ns.length ≤ 50) ∧
  H lh = some (.dK (hmK rs)) ∧ H lk = some (.dK hk) ∧ (∀ r ∈ rs, HeldR H hk r) ∧ ∀ H', Kp [] H H' → Q (.bl true) H'
theorem ok_stands (T : Txt K w mg CN CB CH) (TH : TxtH K CO) (TW : TxtW K CW) (DO : DefEq K CO) (DB : DefEq K CB) (F : At K mg "_law_stands" s_l_stands ["_law_town", "_law_homes", "_law_held"]) (G_l_alike : Dfn P w K mg base 3 "_law_alike" ["_law_found", "_law_due"] (spAl K)) (M_labels : Dfm P w K mg base 1 CW "labels" ["self"] (spLabels P w K CB CO CW))
    (M_house : Dfm P w K mg base 3 CW "house" ["self", "label"] (spHouse P w K CB CO CW CN)) (M_held : Dfm P w K mg base 1 CO "held" ["self"] (spHeld CO)) : Dfn P w K mg base 4 "_law_stands" ["_law_town", "_law_homes", "_law_held"] (spStands P w K CB CO CW) := by
  refine F.ok sc_l_stands (fun vs H Q E h => ?_) (fun qual f cdv A outer s H vs Q E hr h => ?_)
  · obtain ⟨t, b, ca, da, ga, ha, lh, lk, ps, rs, hk, rfl, _⟩ := h
    rfl
  · refine ⟨_, (pss_cons (ps_if (pt_not (pt_val (pe_fn G_l_alike hr (pa_cons (Fw.pe_m0 M_labels hr passL (pv 0)) (pa_cons (pe_callB (call_sortedD rfl) (by rfl) T.sorted_ (by decide +kernel) (pa_cons (pv 1) pa_nil)) pa_nil))))) (pss_one (ps_ret pe_bl)) pss_nil)
      (pss_cons (ps_for (passes_of rfl) rfl (pi_list (pe_callB (call_sortedD rfl) (by rfl) T.sorted_ (by decide +kernel) (pa_cons (pv 1) pa_nil))) (pg_name (i := 3) sc_l_stands.nd rfl (Or.inl rfl)) (pss_cons (ps_if (PW.pt (pw_or (pt_cmpR (op_neI hr.units) (Fw.pe_m M_house hr (passes_call (takes_of rfl rfl rfl rfl) (fun _ _ _ _ h => h)) (pv 0) (pa_cons (pv 3) pa_nil)) (pe_dget (hu_of hr) (pv 1) (pv 3) (fun _ _ => rfl)) (nomark _)) (pw_or1 (pt_cmpR (op_neI hr.units) (pe_fld (pe_dget (hu_of hr) (pv 1) (pv 3) (fun _ _ => rfl)) rfl) (pe_fld (pv 0) rfl) (nomark _))))) (pss_one (ps_ret pe_bl)) pss_nil)
      (pss_one (ps_if (pt_not (pt_val (pe_fn G_l_alike hr (pa_cons (Fw.pe_m0 M_held hr passL (Fw.pe_m M_house hr (passes_call (takes_of rfl rfl rfl rfl) (fun _ _ _ _ h => h)) (pv 0) (pa_cons (pv 3) pa_nil))) (pa_cons (pe_dget2 (hu_of hr) (pv 2) (pv 3) (pe_lst pa_nil) ⟨rfl, rfl, rfl, rfl⟩) pa_nil))))) (pss_one (ps_ret pe_bl)) pss_nil))))
      (pss_one (ps_ret pe_bl)))), ?_⟩
    obtain ⟨t, b, ca, da, ga, ha, lh, lk, ps, rs, hk, rfl, ht, h45, h50, hlh, hlk, hhd, q⟩ := h
    obtain ⟨dx, ta, hob⟩ := ht.ob
    walk_at "rd"
    refine ⟨_, _, hob, rfl, t, b, ca, da, ga, ha, ps, rs, rfl, ht, by omega, fun H1 p1 ys1 k1 pm1 so1 hn1 e1 => ?_⟩
    refine ⟨_, .inl (k1.at hlh (by simp)), labs rs, by rw [List.map_map, List.map_map]; rfl, by rw [List.length_map]; omega, fun ys2 p2 pm2 so2 hn2 => ?_⟩
    obtain rfl := sortedS_one (pm2.trans pm1.symm) so2 so1
    have k2 : Kp [] H1 (upd H1 p2 (.lst (ys2.map V.str))) := Kp.refl.new hn2
    have hl2 : ys2.length ≤ 100 := by rw [pm2.length_eq, List.length_map]; omega
    refine .inr ⟨p1, p2, ys2.map V.str, false, rfl, .inr ⟨rfl, SqL.of (k2.at e1 (by simp)), SqL.of upd_same⟩, fun x hx => ?_, by rw [List.length_map]; exact hl2, fun H2 k3 => ?_⟩
    · obtain ⟨z, _, rfl⟩ := List.mem_map.mp hx
      exact .inr ⟨z, rfl⟩
    · walk_at "rd"
      have k12 := (k1.trans k2).trans k3
      rw [tFor_lst]
      walk_at "rd"
      refine ⟨_, .inl (k12.at hlh (by simp)), labs rs, by rw [List.map_map, List.map_map]; rfl, by rw [List.length_map]; omega, fun ys3 p3 pm3 so3 hn3 => ?_⟩
      have k4 : Kp [] H2 (upd H2 p3 (.lst (ys3.map V.str))) := Kp.refl.new hn3
      have e3 : SqL K (upd H2 p3 (.lst (ys3.map V.str))) p3 (ys3.map V.str) := SqL.of upd_same
      generalize upd H2 p3 (.lst (ys3.map V.str)) = H3 at k4 e3 ⊢
      have k34 := k12.trans k4
      obtain ⟨Pv, hPv⟩ : ∃ Pv : Nat → L2.St → Hp → Prop, ∀ i σ H', Pv i σ H' ↔ (Kp [] H3 H' ∧ ∃ o, σ = [some (V.ref t), some (V.ref lh), some (V.ref lk), o]) := ⟨_, fun _ _ _ => Iff.rfl⟩
      refine ⟨⟨_, e3⟩, lst_goal (xs := ys3.map V.str) Pv ((hPv _ _ _).mpr ⟨Kp.refl, _, rfl⟩) (fun i σ H' _ h => ((hPv _ _ _).mp h).1.lst e3 (by simp)) (fun i x σ H4 hxi h => ?_) fun σ H4 h => ?_⟩
      · obtain ⟨k5, o, rfl⟩ := (hPv _ _ _).mp h
        obtain ⟨z, hz, rfl⟩ := List.mem_map.mp (List.mem_of_getElem? hxi)
        obtain ⟨r, hr1, rfl⟩ := List.mem_map.mp (pm3.mem_iff.mp hz)
        have k6 := k34.trans k5
        have ht6 := ht.kp0 k6
        have hlh6 := k6.at hlh (by simp)
        have hlk6 := k6.at hlk (by simp)
        have hob6 := k6.at hob (by simp)
        obtain ⟨dxb, hbk6⟩ := ht6.bk.ob
        have hs6 := ht6.hs r hr1
        obtain ⟨dxh, n, sa, la, oa, pa, hoh⟩ := hs6.ob
        have hg := DGet.k (k := Sum.inr r.lab) hlh6
        rw [val_hm_some ht.nl hr1] at hg
        have uq : ∀ r' ∈ rs, r'.lab = r.lab → r' = r := fun r' h1 h2 => by
          exact nodup_lab ht.nl h1 hr1 h2
        walk_at "rd"
        have hmem : r.lab ∈ labs rs := List.mem_map.mpr ⟨r, hr1, rfl⟩
        refine ⟨_, _, hob6, rfl, t, b, ca, da, ga, ha, ps, rs, r.lab, rfl, ht6, fun hn => absurd hmem hn, fun r' g1 g2 => ?_⟩
        obtain rfl := uq r' g1 g2
        refine ⟨_, hg, CO, r'.a, r'.a, _, _, _, _, rfl, rfl, hoh, hoh, DO, ?_⟩
        rw [if_pos rfl, decide_eq_true rfl]
        walk_at "rd"
        refine ⟨_, hg, r'.a, rfl, ?_⟩
        walk_at "hb"
        walk_at "tb"
        refine ⟨CB, b, b, _, _, _, _, rfl, rfl, hbk6, hbk6, DB, ?_⟩
        rw [if_pos rfl, decide_eq_true rfl]
        walk_at "rd"
        refine ⟨_, _, hob6, rfl, t, b, ca, da, ga, ha, ps, rs, r'.lab, rfl, ht6, fun hn => absurd hmem hn, fun r2 g3 g4 => ?_⟩
        obtain rfl := uq r2 g3 g4
        refine ⟨r2.a, rfl, _, _, hoh, rfl, r2.a, b, r2.hh, r2.ns, rfl, hs6, h50 r2 hr1, fun H5 p5 ys5 k5b pm5 pw5 _ e5 => ?_⟩
        have hlk5 := k5b.at hlk6 (by simp)
        refine ⟨.inl ⟨hk, .inl hlk5⟩, by decide, fun p6 hp6 => ?_⟩
        have k6b : Kp [] H5 (upd H5 p6 (.lst [])) := Kp.refl.new hp6
        have e56 := k6b.at e5 (by simp)
        have e66 : upd H5 p6 (.lst []) p6 = some (.lst []) := upd_same
        have hlk66 := k6b.at hlk5 (by simp)
        generalize upd H5 p6 (.lst []) = H6 at k6b e56 e66 hlk66 ⊢
        have hd6 := (hhd r2 hr1).kp (((k34.trans k5).trans k5b).trans k6b)
        have hl5 : ys5.length ≤ 100 := by
          rw [pm5.length_eq, List.length_map]
          have := h50 r2 hr1
          omega
        have sca : ∀ x ∈ ys5.map V.int, Sca x := fun x hx => by
          obtain ⟨z, _, rfl⟩ := List.mem_map.mp hx
          exact .inl ⟨z, rfl⟩
        refine ⟨_, DGet.k (k := Sum.inr r2.lab) hlk66, ?_⟩
        rcases hd6 with ⟨v, hn⟩ | ⟨p7, ys7, v, e7, pm7, pw7⟩
        · rw [v]
          have hz : ys5 = [] := by
            rw [hn] at pm5
            exact pm5.eq_nil
          rw [hz] at e56
          refine .inr ⟨p5, p6, [], false, rfl, .inr ⟨rfl, SqL.of e56, SqL.of e66⟩, fun x hx => (by cases hx), by simp, fun H7 k7 => ?_⟩
          walk_at "rd"
          exact (hPv _ _ _).mpr ⟨((k5.trans k5b).trans k6b).trans k7, _, rfl⟩
        · rw [v]
          obtain rfl := PySem.W.lks_uniq (pm5.trans pm7.symm) pw5 pw7
          refine .inr ⟨p5, p7, ys5.map V.int, false, rfl, .inr ⟨rfl, SqL.of e56, SqL.of e7⟩, sca, by rw [List.length_map]; exact hl5, fun H7 k7 => ?_⟩
          walk_at "rd"
          exact (hPv _ _ _).mpr ⟨((k5.trans k5b).trans k6b).trans k7, _, rfl⟩
      · obtain ⟨k5, o, rfl⟩ := (hPv _ _ _).mp h
        walk_at "rd"
        exact q _ (k34.trans k5)
end
end Kq
set_option Elab.async false
set_option linter.all false
set_option maxRecDepth 100000
set_option maxHeartbeats 4000000
namespace Kq
open PySem PySem.Spec PyProof.Rows L2 Fw
/-! ### what the law knows of both towns -/
/-- the addresses of a town -/
structure Tw where
  t : Addr
  b : Addr
  ca : Addr
  da : Addr
  ga : Addr
  ha : Addr
abbrev TA (P : Program) (w : World) (K : PySem.W.Frag) (CB CO CW : Addr) (H : Hp) (A : Tw) (ps : List (Addr × Str)) (rs : List Rec) : Prop := TnAt P w K CB CO CW H A.t A.b A.ca A.da A.ga A.ha ps rs
abbrev fpT (A : Tw) (rs : List Rec) : List Addr := fp A.t A.b A.ca A.da A.ga A.ha rs
structure LSt (P : Program) (w : World) (K : PySem.W.Frag) (CB CO CW : Addr) (T : List (Addr × Str)) (H : Hp) (d c lh lo lk : Addr) (A B : Tw) (n i : Nat) (ps : List (Addr × Str)) (rs rb : List Rec) (hk : List (Key × V)) : Prop where
  dk : Dk K H d c n
  ta : TA P w K CB CO CW H A ps rs
  tb : TA P w K CB CO CW H B [] rb
  eh : H lh = some (.dK (hmK rs))
  eo : H lo = some (.dK (hmK rb))
  ek : H lk = some (.dK hk)
  tab : LamX.Tabs T H
  fa : ∀ z ∈ [d, c, lh, lo, lk], z ∉ fpT A rs
  fb : ∀ z ∈ [d, c, lh, lo, lk], z ∉ fpT B rb
  ab : ∀ z ∈ fpT A rs, z ∉ fpT B rb
  n1 : lh ≠ lo
  n2 : lh ≠ lk
  n3 : lo ≠ lk
  hl : ∀ r ∈ rs, HeldR H hk r
  hp : ∀ l p, valV hk (Sum.inr l) = some (.ref p) → p ∉ [d, A.ca, A.da]
  hx : ∀ l, valV hk (Sum.inr l) ≠ none → l ∈ labs rs
  nb : ∀ r ∈ rb, r.ns = []
  l1 : rs.length ≤ i
  l2 : rb.length ≤ i
  l3 : ps.length ≤ i
  l4 : ∀ r ∈ rs, r.ns.length ≤ i
  l5 : hk.length ≤ i
section
variable {P : Program} {w : World} {K : PySem.W.Frag} {CB CO CW : Addr} {T : List (Addr × Str)} {H H' : Hp} {d c lh lo lk : Addr} {A B : Tw} {n i m : Nat} {ps : List (Addr × Str)} {rs rb : List Rec} {hk : List (Key × V)} {M : List Addr}
theorem HeldR.kw {r : Rec} (h : HeldR H hk r) (k : Kw M H H') (hn : ∀ p, valV hk (Sum.inr r.lab) = some (.ref p) → p ∉ M) : HeldR H' hk r := by
  rcases h with h | ⟨p, ys, h1, h2, h3⟩
  · exact .inl h
  · exact .inr ⟨p, ys, h1, k.at h2 (hn p h1), h3⟩
theorem LSt.dne (S : LSt P w K CB CO CW T H d c lh lo lk A B n i ps rs rb hk) : ∀ z ∈ [lh, lo, lk], z ≠ d ∧ z ≠ c := by
  obtain ⟨ne, xs, i, tt, bb, h1, h2, _⟩ := S.dk
  intro z hz
  have e : ∃ kv, H z = some (.dK kv) := by
    simp only [List.mem_cons, List.not_mem_nil, or_false] at hz
    rcases hz with rfl | rfl | rfl
    · exact ⟨_, S.eh⟩
    · exact ⟨_, S.eo⟩
    · exact ⟨_, S.ek⟩
  obtain ⟨kv, e⟩ := e
  exact ⟨ne_of e h1 (by intro z; cases z), ne_of e h2 (by intro z; cases z)⟩
theorem LSt.occ (S : LSt P w K CB CO CW T H d c lh lo lk A B n i ps rs rb hk) {z : Addr} (hz : z ∈ [d, c, lh, lo, lk]) : ∃ o, NT o ∧ H z = some o := by
  obtain ⟨ne, xs, i, tt, bb, h1, h2, _⟩ := S.dk
  simp only [List.mem_cons, List.not_mem_nil, or_false] at hz
  rcases hz with rfl | rfl | rfl | rfl | rfl
  · exact occ_of h1
  · exact occ_of h2
  · exact occ_of S.eh
  · exact occ_of S.eo
  · exact occ_of S.ek
theorem LSt.wr (S : LSt P w K CB CO CW T H d c lh lo lk A B n i ps rs rb hk) {z : Addr} (hz : Wr H z) : z ∉ [d, c, lh, lo, lk] ∧ z ∉ fpT A rs ∧ z ∉ fpT B rb := by
  refine ⟨fun q => ?_, S.ta.wr hz, S.tb.wr hz⟩
  obtain ⟨o, n, e⟩ := S.occ q
  exact hz o n e
/-- only the deck was written, and what is new -/
theorem LSt.deck (S : LSt P w K CB CO CW T H d c lh lo lk A B n i ps rs rb hk) (k : Kw [d] H H') (hd : Dk K H' d c m) (ht : LamX.Tabs T H') : LSt P w K CB CO CW T H' d c lh lo lk A B m i ps rs rb hk := by
  have a1 : ∀ z ∈ [lh, lo, lk], z ∉ [d] := fun z hz => by simpa using (S.dne z hz).1
  refine ⟨hd, S.ta.kw k (fun z hz e => S.fa d (by simp) (List.mem_singleton.mp e ▸ hz)), S.tb.kw k (fun z hz e => S.fb d (by simp) (List.mem_singleton.mp e ▸ hz)), k.at S.eh (a1 _ (by simp)), k.at S.eo (a1 _ (by simp)), k.at S.ek (a1 _ (by simp)), ht, S.fa, S.fb, S.ab, S.n1, S.n2, S.n3, fun r hr => (S.hl r hr).kw k fun p hp => ?_, S.hp, S.hx, S.nb, S.l1, S.l2, S.l3, S.l4, S.l5⟩
  have := S.hp _ p hp
  simp only [List.mem_cons, List.not_mem_nil, or_false, not_or] at this
  simpa using this.1
theorem LSt.mono (S : LSt P w K CB CO CW T H d c lh lo lk A B n i ps rs rb hk) {j : Nat} (h : i ≤ j) : LSt P w K CB CO CW T H d c lh lo lk A B n j ps rs rb hk :=
  ⟨S.dk, S.ta, S.tb, S.eh, S.eo, S.ek, S.tab, S.fa, S.fb, S.ab, S.n1, S.n2, S.n3, S.hl, S.hp, S.hx, S.nb, Nat.le_trans S.l1 h, Nat.le_trans S.l2 h, Nat.le_trans S.l3 h, fun r hr => Nat.le_trans (S.l4 r hr) h, Nat.le_trans S.l5 h⟩
theorem own_snoc {r : Rec} {z : Addr} : z ∈ own (rs ++ [r]) ↔ z ∈ own rs ∨ z = r.a ∨ z = r.hh := by
  simp [own]
theorem fp_snoc {r : Rec} {z : Addr} : z ∈ fpT A (rs ++ [r]) ↔ z ∈ fpT A rs ∨ z = r.a ∨ z = r.hh := by
  simp only [fpT, fp, List.mem_append, own_snoc, or_assoc]
/-- a house was built in the one town, or not -/
theorem LSt.builtA (S : LSt P w K CB CO CW T H d c lh lo lk A B n i ps rs rb hk) {rs' : List Rec} (k : Kw [d, A.ha, lh] H H') (ht : LamX.Tabs T H') (hd : Dk K H' d c m) (ha : TA P w K CB CO CW H' A ps rs') (e : H' lh = some (.dK (hmK rs')))
    (hr : rs' = rs ∨ ∃ l a hh, rs' = rs ++ [⟨l, a, hh, []⟩] ∧ Wr H a ∧ Wr H hh) (hi : rs'.length ≤ i) : LSt P w K CB CO CW T H' d c lh lo lk A B m i ps rs' rb hk := by
  have nl : ∀ z ∈ [lo, lk], z ∉ [d, A.ha, lh] := fun z hz q => by
    have h1 : z ∈ [lh, lo, lk] := List.mem_cons_of_mem _ hz
    have h2 := S.dne z h1
    have h3 : z ≠ A.ha := fun e => S.fa z (by simp at hz ⊢; rcases hz with h | h <;> simp [h]) (by rw [e]; simp)
    have h4 : z ≠ lh := by
      simp only [List.mem_cons, List.not_mem_nil, or_false] at hz
      rcases hz with rfl | rfl
      · exact S.n1.symm
      · exact S.n2.symm
    simp only [List.mem_cons, List.not_mem_nil, or_false] at q
    rcases q with q | q | q
    · exact h2.1 q
    · exact h3 q
    · exact h4 q
  have hb := S.tb.kw k (fun z hz q => by
    simp only [List.mem_cons, List.not_mem_nil, or_false] at q
    rcases q with rfl | rfl | rfl
    · exact S.fb _ (by simp) hz
    · exact S.ab _ (by simp) hz
    · exact S.fb _ (by simp) hz)
  have hh : ∀ r ∈ rs, HeldR H' hk r := fun r hr => by
    rcases S.hl r hr with h | ⟨p, ys, h1, h2, h3⟩
    · exact .inl h
    · refine .inr ⟨p, ys, h1, k.at h2 ?_, h3⟩
      have h4 := S.hp _ p h1
      simp only [List.mem_cons, List.not_mem_nil, or_false, not_or] at h4 ⊢
      exact ⟨h4.1, ne_of h2 S.ta.hm (by intro z; cases z), ne_of h2 S.eh (by intro z; cases z)⟩
  rcases hr with rfl | ⟨l, a, h0, rfl, wa, wh⟩
  · exact ⟨hd, ha, hb, e, k.at S.eo (nl _ (by simp)), k.at S.ek (nl _ (by simp)), ht, S.fa, S.fb, S.ab, S.n1, S.n2, S.n3, hh, S.hp, S.hx, S.nb, S.l1, S.l2, S.l3, S.l4, S.l5⟩
  · obtain ⟨w1, w2, w3⟩ := S.wr wa
    obtain ⟨w4, w5, w6⟩ := S.wr wh
    refine ⟨hd, ha, hb, e, k.at S.eo (nl _ (by simp)), k.at S.ek (nl _ (by simp)), ht, fun z hz q => ?_, S.fb, fun z hz q => ?_, S.n1, S.n2, S.n3, fun r hr => ?_, S.hp, fun l' h => ?_, S.nb, hi, S.l2, S.l3, fun r hr => ?_, S.l5⟩
    · rcases fp_snoc.mp q with q | q | q
      · exact S.fa z hz q
      · exact w1 (by rw [← show z = a from q]; exact hz)
      · exact w4 (by rw [← show z = h0 from q]; exact hz)
    · rcases fp_snoc.mp hz with h | h | h
      · exact S.ab z h q
      · exact w3 (by rw [← show z = a from h]; exact q)
      · exact w6 (by rw [← show z = h0 from h]; exact q)
    · rcases List.mem_append.mp hr with hr | hr
      · exact hh r hr
      · rw [List.mem_singleton.mp hr]
        refine .inl ⟨?_, rfl⟩
        cases hv : valV hk (Sum.inr l) with
        | none => rfl
        | some v =>
          have hm := S.hx l (by rw [hv]; simp)
          have nd := ha.nl
          rw [labs, List.map_append, List.nodup_append] at nd
          exact absurd rfl (nd.2.2 l hm l (by simp))
    · rw [labs, List.map_append]
      exact List.mem_append_left _ (S.hx l' h)
    · rcases List.mem_append.mp hr with hr | hr
      · exact S.l4 r hr
      · rw [List.mem_singleton.mp hr]
        exact Nat.zero_le _
/-- .. in the other one -/
theorem LSt.builtB (S : LSt P w K CB CO CW T H d c lh lo lk A B n i ps rs rb hk) {rb' : List Rec} (k : Kw [d, B.ha, lo] H H') (ht : LamX.Tabs T H') (hd : Dk K H' d c m) (hb : TA P w K CB CO CW H' B [] rb') (e : H' lo = some (.dK (hmK rb')))
    (hr : rb' = rb ∨ ∃ l a hh, rb' = rb ++ [⟨l, a, hh, []⟩] ∧ Wr H a ∧ Wr H hh) (hi : rb'.length ≤ i) : LSt P w K CB CO CW T H' d c lh lo lk A B m i ps rs rb' hk := by
  have nl : ∀ z ∈ [lh, lk], z ∉ [d, B.ha, lo] := fun z hz q => by
    have h1 : z ∈ [lh, lo, lk] := by simp at hz ⊢; rcases hz with h | h <;> simp [h]
    have h2 := S.dne z h1
    have h3 : z ≠ B.ha := fun e => S.fb z (by simp at hz ⊢; rcases hz with h | h <;> simp [h]) (by rw [e]; simp)
    have h4 : z ≠ lo := by
      simp only [List.mem_cons, List.not_mem_nil, or_false] at hz
      rcases hz with rfl | rfl
      · exact S.n1
      · exact S.n3.symm
    simp only [List.mem_cons, List.not_mem_nil, or_false] at q
    rcases q with q | q | q
    · exact h2.1 q
    · exact h3 q
    · exact h4 q
  have ha := S.ta.kw k (fun z hz q => by
    simp only [List.mem_cons, List.not_mem_nil, or_false] at q
    rcases q with rfl | rfl | rfl
    · exact S.fa _ (by simp) hz
    · exact S.ab _ hz (by simp)
    · exact S.fa _ (by simp) hz)
  have hh : ∀ r ∈ rs, HeldR H' hk r := fun r hr => by
    rcases S.hl r hr with h | ⟨p, ys, h1, h2, h3⟩
    · exact .inl h
    · refine .inr ⟨p, ys, h1, k.at h2 ?_, h3⟩
      have h4 := S.hp _ p h1
      simp only [List.mem_cons, List.not_mem_nil, or_false, not_or] at h4 ⊢
      exact ⟨h4.1, ne_of h2 S.tb.hm (by intro z; cases z), ne_of h2 S.eo (by intro z; cases z)⟩
  rcases hr with rfl | ⟨l, a, h0, rfl, wa, wh⟩
  · exact ⟨hd, ha, hb, k.at S.eh (nl _ (by simp)), e, k.at S.ek (nl _ (by simp)), ht, S.fa, S.fb, S.ab, S.n1, S.n2, S.n3, hh, S.hp, S.hx, S.nb, S.l1, S.l2, S.l3, S.l4, S.l5⟩
  · obtain ⟨w1, w2, w3⟩ := S.wr wa
    obtain ⟨w4, w5, w6⟩ := S.wr wh
    refine ⟨hd, ha, hb, k.at S.eh (nl _ (by simp)), e, k.at S.ek (nl _ (by simp)), ht, S.fa, fun z hz q => ?_, fun z hz q => ?_, S.n1, S.n2, S.n3, hh, S.hp, S.hx, fun r hr => ?_, S.l1, hi, S.l3, S.l4, S.l5⟩
    · rcases fp_snoc.mp q with q | q | q
      · exact S.fb z hz q
      · exact w1 (by rw [← show z = a from q]; exact hz)
      · exact w4 (by rw [← show z = h0 from q]; exact hz)
    · rcases fp_snoc.mp q with h | h | h
      · exact S.ab z hz h
      · exact w2 (by rw [← show z = a from h]; exact hz)
      · exact w5 (by rw [← show z = h0 from h]; exact hz)
    · rcases List.mem_append.mp hr with hr | hr
      · exact S.nb r hr
      · rw [List.mem_singleton.mp hr]
/-! ### one house has more -/
abbrev upR (l : Str) (ns : List Nat) (rs : List Rec) : List Rec := rs.map fun x => if x.lab = l then ⟨x.lab, x.a, x.hh, ns⟩ else x
theorem labs_up {l : Str} {ns : List Nat} : labs (upR l ns rs) = labs rs := by
  rw [labs, labs, upR, List.map_map]
  refine List.map_congr_left fun x _ => ?_
  show (if x.lab = l then (⟨x.lab, x.a, x.hh, ns⟩ : Rec) else x).lab = x.lab
  split <;> rfl
theorem hmK_up {l : Str} {ns : List Nat} : hmK (upR l ns rs) = hmK rs := by
  rw [hmK, hmK, upR, List.map_map]
  refine List.map_congr_left fun x _ => ?_
  show (Sum.inr (if x.lab = l then (⟨x.lab, x.a, x.hh, ns⟩ : Rec) else x).lab, V.ref (if x.lab = l then (⟨x.lab, x.a, x.hh, ns⟩ : Rec) else x).a) = _
  split <;> rfl
theorem own_up {l : Str} {ns : List Nat} : own (upR l ns rs) = own rs := by
  rw [own, own, upR, List.flatMap_map]
  congr 1
  funext x
  split <;> rfl
theorem mem_up {l : Str} {ns : List Nat} {x : Rec} (h : x ∈ upR l ns rs) : ∃ y ∈ rs, (y.lab = l ∧ x = ⟨y.lab, y.a, y.hh, ns⟩) ∨ (y.lab ≠ l ∧ x = y) := by
  obtain ⟨y, hy, e⟩ := List.mem_map.mp h
  refine ⟨y, hy, ?_⟩
  by_cases h : y.lab = l
  · exact .inl ⟨h, by rw [← e]; exact if_pos h⟩
  · exact .inr ⟨h, by rw [← e]; exact if_neg h⟩
/-- two houses of a town stand apart -/
theorem own_apart : ∀ {rs : List Rec}, (own rs).Nodup → ∀ {r y : Rec}, r ∈ rs → y ∈ rs → y.lab ≠ r.lab → y.a ≠ r.a ∧ y.a ≠ r.hh ∧ y.hh ≠ r.a ∧ y.hh ≠ r.hh
  | [], _, _, _, h, _, _ => by cases h
  | q :: rs, nd, r, y, h1, h2, ne => by
    have e : own (q :: rs) = [q.a, q.hh] ++ own rs := by simp [own]
    rw [e, List.nodup_append] at nd
    obtain ⟨_, nd2, dj⟩ := nd
    rcases List.mem_cons.mp h1 with g1 | g1
    · rcases List.mem_cons.mp h2 with g2 | g2
      · exact absurd (by rw [g1, g2]) ne
      · obtain ⟨m1, m2⟩ := mem_own g2
        subst g1
        exact ⟨fun z => dj r.a (by simp) y.a m1 z.symm, fun z => dj r.hh (by simp) y.a m1 z.symm, fun z => dj r.a (by simp) y.hh m2 z.symm, fun z => dj r.hh (by simp) y.hh m2 z.symm⟩
    · rcases List.mem_cons.mp h2 with g2 | g2
      · obtain ⟨m1, m2⟩ := mem_own g1
        subst g2
        exact ⟨fun z => dj y.a (by simp) r.a m1 z, fun z => dj y.a (by simp) r.hh m2 z, fun z => dj y.hh (by simp) r.a m1 z, fun z => dj y.hh (by simp) r.hh m2 z⟩
      · exact own_apart nd2 g1 g2 ne
theorem fp_up {l : Str} {ns : List Nat} : fpT A (upR l ns rs) = fpT A rs := by rw [fpT, fpT, fp, fp, own_up]
theorem put_len {kvs : List (Key × V)} {k : Key} {v : V} : (putK kvs k v).length ≤ kvs.length + 1 := by
  unfold putK
  split
  · rw [List.length_map]
    omega
  · rw [List.length_append, List.length_singleton]
    omega
theorem hs_ne_tn {b hh b' ha dx dx' : Addr} {n : Int} {sa la oa pa ta : V} : HO.ins CO dx (hsF b hh n sa la oa pa) ≠ HO.ins CW dx' (tnF b' ha ta) := fun z => by
  injection z with z1 z2 z3
  have := congrArg List.length z3
  simp at this
theorem LSt.wrote (S : LSt P w K CB CO CW T H d c lh lo lk A B n i ps rs rb hk) {r : Rec} (hr : r ∈ rs) {ps' : List (Addr × Str)} {ns : List Nat} {p : Addr} {ys : List Int} (k : Kp [d, A.ca, A.da, A.ga, r.a, r.hh, lk] H H') (hd : Dk K H' d c m)
    (hb : BkAt P w K CB H' A.b A.ca A.da A.ga ps') (hs : HsAt CO H' r.a A.b r.hh ns) (e : H' lk = some (.dK (putK hk (Sum.inr r.lab) (.ref p)))) (hp : Fr H p) (ep : H' p = some (.lst (ys.map V.int))) (pm : ys.Perm (ns.map fun k => ((k : Nat) : Int))) (pw : ys.Pairwise (· ≤ ·))
    (hps : ps.length ≤ ps'.length) (hn : ∀ x ∈ ns, x < ps'.length) (h3 : ps'.length ≤ i + 1) (h4 : ns.length ≤ i + 1) : LSt P w K CB CO CW T H' d c lh lo lk A B m (i + 1) ps' (upR r.lab ns rs) rb (putK hk (Sum.inr r.lab) (.ref p)) := by
  obtain ⟨dxt, ta0, ot⟩ := S.ta.ob
  obtain ⟨dxb, ob⟩ := S.ta.bk.ob
  obtain ⟨dxr, nr, sr, lr, or', pr, ore⟩ := (S.ta.hs r hr).ob
  have hhr := (S.ta.hs r hr).he
  obtain ⟨mr1, mr2⟩ := mem_own hr
  have inA : ∀ z ∈ own rs, z ∈ fpT A rs := fun z hz => List.mem_append_right _ hz
  have fpd : ∀ z ∈ fpT A rs, z ≠ d ∧ z ≠ lk := fun z hz => ⟨fun q => S.fa d (by simp) (q ▸ hz), fun q => S.fa lk (by simp) (q ▸ hz)⟩
  have nM : ∀ z ∈ fpT A rs, z ≠ A.ca → z ≠ A.da → z ≠ A.ga → z ≠ r.a → z ≠ r.hh → z ∉ [d, A.ca, A.da, A.ga, r.a, r.hh, lk] := fun z hz a1 a2 a3 a4 a5 => by
    obtain ⟨b1, b2⟩ := fpd z hz
    simp [a1, a2, a3, a4, a5, b1, b2]
  have tM : A.t ∉ [d, A.ca, A.da, A.ga, r.a, r.hh, lk] := nM _ (by simp) (ne_of ot S.ta.bk.co (by intro z; cases z)) (ne_of ot S.ta.bk.de (by intro z; cases z)) (ne_of ot S.ta.bk.gi.at_ ndo_ne_ins.symm) (ne_of ore ot hs_ne_tn).symm (ne_of ot hhr (by intro z; cases z))
  have hM : A.ha ∉ [d, A.ca, A.da, A.ga, r.a, r.hh, lk] := nM _ (by simp) (ne_of S.ta.hm S.ta.bk.co (by intro z; cases z)) (ne_of S.ta.hm S.ta.bk.de (by intro z; cases z)) (ne_of S.ta.hm S.ta.bk.gi.at_ ndo_ne_dk.symm) (ne_of S.ta.hm ore (by intro z; cases z)) (S.ta.nh r hr).symm
  have yM : ∀ y ∈ rs, y.lab ≠ r.lab → y.a ∉ [d, A.ca, A.da, A.ga, r.a, r.hh, lk] ∧ y.hh ∉ [d, A.ca, A.da, A.ga, r.a, r.hh, lk] := fun y hy ne => by
    obtain ⟨dxy, ny, sy, ly, oy, py, oye⟩ := (S.ta.hs y hy).ob
    have hhy := (S.ta.hs y hy).he
    obtain ⟨a1, a2, a3, a4⟩ := own_apart S.ta.na hr hy ne
    obtain ⟨m1, m2⟩ := mem_own hy
    exact ⟨nM _ (inA _ m1) (ne_of oye S.ta.bk.co (by intro z; cases z)) (ne_of oye S.ta.bk.de (by intro z; cases z)) (ne_of oye S.ta.bk.gi.at_ ndo_ne_ins.symm) a1 a2, nM _ (inA _ m2) (ne_of hhy S.ta.bk.co (by intro z; cases z)) (ne_of hhy S.ta.bk.de (by intro z; cases z)) (ne_of hhy S.ta.bk.gi.at_ ndo_ne_dk.symm) a3 a4⟩
  have inM : ∀ z ∈ [d, A.ca, A.da, A.ga, r.a, r.hh, lk], z = d ∨ z = lk ∨ z ∈ fpT A rs := fun z hz => by
    simp only [List.mem_cons, List.not_mem_nil, or_false] at hz
    rcases hz with rfl | rfl | rfl | rfl | rfl | rfl | rfl
    · exact .inl rfl
    · exact .inr (.inr (by simp))
    · exact .inr (.inr (by simp))
    · exact .inr (.inr (by simp))
    · exact .inr (.inr (inA _ mr1))
    · exact .inr (.inr (inA _ mr2))
    · exact .inr (.inl rfl)
  have lM : ∀ z ∈ [lh, lo], z ∉ [d, A.ca, A.da, A.ga, r.a, r.hh, lk] := fun z hz q => by
    have h1 : z ∈ [lh, lo, lk] ∧ z ∈ [d, c, lh, lo, lk] ∧ z ≠ lk := by
      simp only [List.mem_cons, List.not_mem_nil, or_false] at hz
      rcases hz with rfl | rfl
      · exact ⟨by simp, by simp, S.n2⟩
      · exact ⟨by simp, by simp, S.n3⟩
    rcases inM z q with h | h | h
    · exact (S.dne z h1.1).1 h
    · exact h1.2.2 h
    · exact S.fa z h1.2.1 h
  have same : ∀ y ∈ rs, y.lab = r.lab → y = r := fun y hy e => nodup_lab S.ta.nl hy hr e
  have vput : ∀ l, valV (putK hk (Sum.inr r.lab) (.ref p)) (Sum.inr l) = if l = r.lab then some (.ref p) else valV hk (Sum.inr l) := fun l => by
    rw [valV_put]
    by_cases h : l = r.lab
    · rw [if_pos h, if_pos (by rw [h])]
    · rw [if_neg h, if_neg (fun z => h (Sum.inr.inj z))]
  refine ⟨hd, ⟨⟨dxt, ta0, k.at ot tM⟩, hb, by rw [hmK_up]; exact k.at S.ta.hm hM, fun x hx => ?_, by rw [labs_up]; exact S.ta.nl, by rw [own_up]; exact S.ta.na, fun x hx => ?_, fun x hx => ?_⟩, S.tb.kp k (fun z hz q => ?_), by rw [hmK_up]; exact k.at S.eh (lM _ (by simp)), k.at S.eo (lM _ (by simp)), e, k.tabs S.tab, by rw [fp_up]; exact S.fa, S.fb, by rw [fp_up]; exact S.ab, S.n1, S.n2, S.n3, fun x hx => ?_, fun l q hv => ?_, fun l hv => ?_, S.nb, by rw [List.length_map]; exact Nat.le_succ_of_le S.l1, Nat.le_succ_of_le S.l2, h3, fun x hx => ?_, Nat.le_trans put_len (Nat.succ_le_succ S.l5)⟩
  · obtain ⟨y, hy, ⟨e1, rfl⟩ | ⟨e1, rfl⟩⟩ := mem_up hx
    · rw [same y hy e1]
      exact hs
    · exact (S.ta.hs _ hy).kp k (yM _ hy e1).1 (yM _ hy e1).2
  · obtain ⟨y, hy, ⟨e1, rfl⟩ | ⟨e1, rfl⟩⟩ := mem_up hx
    · exact S.ta.nh y hy
    · exact S.ta.nh _ hy
  · obtain ⟨y, hy, ⟨e1, rfl⟩ | ⟨e1, rfl⟩⟩ := mem_up hx
    · exact hn
    · exact fun z hz => Nat.lt_of_lt_of_le (S.ta.nn _ hy z hz) hps
  · rcases inM z q with h | h | h
    · exact S.fb d (by simp) (h ▸ hz)
    · exact S.fb lk (by simp) (h ▸ hz)
    · exact S.ab z h hz
  · obtain ⟨y, hy, ⟨e1, rfl⟩ | ⟨e1, rfl⟩⟩ := mem_up hx
    · exact .inr ⟨p, ys, by rw [vput, if_pos e1], ep, pm, pw⟩
    · rcases S.hl _ hy with ⟨h1, h2⟩ | ⟨q, zs, h1, h2, h3'⟩
      · exact .inl ⟨by rw [vput, if_neg e1]; exact h1, h2⟩
      · refine .inr ⟨q, zs, by rw [vput, if_neg e1]; exact h1, k.at h2 ?_, h3'⟩
        have h5 := S.hp _ q h1
        simp only [List.mem_cons, List.not_mem_nil, or_false, not_or] at h5 ⊢
        exact ⟨h5.1, h5.2.1, h5.2.2, ne_of h2 S.ta.bk.gi.at_ ndo_ne_lst.symm, ne_of h2 ore (by intro z; cases z), ne_of h2 hhr (by intro z; cases z), ne_of h2 S.ek (by intro z; cases z)⟩
  · rw [vput] at hv
    by_cases h : l = r.lab
    · rw [if_pos h] at hv
      obtain rfl : p = q := by simpa using hv
      obtain ⟨ne, xs, i', tt, bb, h1, h2, _⟩ := S.dk
      simp only [List.mem_cons, List.not_mem_nil, or_false, not_or]
      exact ⟨(ne_of_none h1 hp).symm, (ne_of_none S.ta.bk.co hp).symm, (ne_of_none S.ta.bk.de hp).symm⟩
    · rw [if_neg h] at hv
      exact S.hp l q hv
  · rw [labs_up]
    rw [vput] at hv
    by_cases h : l = r.lab
    · rw [h]
      exact List.mem_map.mpr ⟨r, hr, rfl⟩
    · rw [if_neg h] at hv
      exact S.hx l hv
  · obtain ⟨y, hy, ⟨e1, rfl⟩ | ⟨e1, rfl⟩⟩ := mem_up hx
    · exact h4
    · exact Nat.le_succ_of_le (S.l4 _ hy)
end
end Kq
set_option Elab.async false
set_option linter.all false
set_option maxRecDepth 100000
set_option maxHeartbeats 8000000
namespace Kq
open PySem PySem.Spec PyProof.Rows L2 Fw
local macro_rules | `(tactic| walk_at "rd") => `(tactic| try simp only [tMeth, tMake, tFld, sFld, sFldAug, tMethT, tCallVT, tDNewN, tNo, tNoE, cx_P, tDIn, tDNotIn, tDGet, tDGet2, tMx, tRaiseF, tXfX, tXf, tSeq, tNext, tBreak, tCont, tDrop, tRet, tRetN, tIfS, tAsg, tVar, tC, tOp, tUn, tTest, tB, tAnd, tOr, tNot, tAndV, tOrV, tNotV, tIf, tChain, tCB, tCons, tNil, tTup, tLst, tCall, tCallS, WE,
  gName, gSub, rI, rI0, rU, rEq, rNe, rIsiC, tSl, tPart, tNoPart, rSetL, tBM, tBM0, rAppend, rExtend, rExtendT, tCallL, L2.start, List.map_cons, List.map_nil, List.length_cons, List.length_nil, Nat.sub_self, Nat.reduceAdd, Nat.reduceSub, List.replicate_zero, List.replicate_succ, List.append_nil, List.nil_append, List.cons_append,
  List.getElem?_cons_zero, List.getElem?_cons_succ, List.set_cons_zero, List.set_cons_succ, Option.some.injEq, exists_eq_left', exists_eq_left, exists_eq_right, exists_eq_right', exists_const, exists_and_left, exists_and_right, V.int.injEq, V.bl.injEq, V.str.injEq, V.ref.injEq, V.ty.injEq, List.cons.injEq, and_true, true_and, and_assoc, reduceCtorEq, false_and, and_false, exists_false, false_or, or_false,
  if_true, if_false, Bool.not_true, Bool.not_false, Bool.false_eq_true, Bool.true_eq_false, ↓reduceIte, decide_eq_true_eq, decide_true, decide_false, sc_nn, sc_ni, sc_in, sc_nb, sc_bn, sc_ns, sc_sn, sc_ii, sc_bb, sc_ss, sc_is, sc_si, sc_bs, sc_sb, ipI, Int.reduceLT, Int.reduceLE, Int.reduceEq, Nat.reduceLT, Nat.reduceEqDiff, String.reduceEq, nc0, nc1, nc2, nc3, nc4, nc5, nc6, nc7, nc8, nc9, nc10, nc11, nc12, cx_K, cx_w, wipe, lenV_str, rCat, exists_eq, exists_eq', relO, relC, relM, relI, relSl, spOf, ciOf, csOf, crOf, L2.rIxD, eq_self, not_true_eq_false, not_false_eq_true, Option.isSome_some, Option.isSome_none, tCallV, ofS_inj, sg_inj, sg_len, sg_lt, tM1, tM0, tLc_rng1, tLc_rng2, tFor_rng1, tFor_rng2, tDNewK, sDPut,  Nat.reduceLeDiff, Bool.not_eq_true', decide_eq_false_iff_not,
  isi_int_int, isi_int_bool, isi_int_str, isi_int_tuple, isi_int_list, isi_int_dict, isi_bool_int, isi_bool_bool, isi_bool_str, isi_bool_tuple, isi_bool_list, isi_bool_dict, isi_str_int, isi_str_bool, isi_str_str, isi_str_tuple, isi_str_list, isi_str_dict, isi_non_int, isi_non_bool, isi_non_str, isi_non_tuple, isi_non_list, isi_non_dict])
local macro_rules | `(tactic| walk_at "ix") => `(tactic| (refine ixT (by assumption) rfl ?_; walk_at "rd"))
local macro_rules | `(tactic| walk_at "len") => `(tactic| (refine ⟨_, lenV_T (by assumption), ?_⟩; walk_at "rd"))
local macro_rules | `(tactic| walk_at "isT") => `(tactic| (refine ⟨true, isiT (by assumption), ?_⟩; walk_at "rd"))

local macro_rules | `(tactic| walk_at "rx") => `(tactic| try simp (config := {maxSteps := 5000000}) only [tMeth, tMake, tFld, sFld, sFldAug, tMethT, tCallVT, tDNewN, tNo, tNoE, cx_P, tDIn, tDNotIn, tDGet, tDGet2, tMx, tRaiseF, tXfX, tXf, tSeq, tNext, tBreak, tCont, tDrop, tRet, tRetN, tIfS, tAsg, tVar, tC, tOp, tUn, tTest, tB, tAnd, tOr, tNot, tAndV, tOrV, tNotV, tIf, tChain, tCB, tCons, tNil, tTup, tLst, tCall, tCallS, WE,
  gName, gSub, rI, rI0, rU, rEq, rNe, rIsiC, tSl, tPart, tNoPart, rSetL, tBM, tBM0, rAppend, rExtend, rExtendT, tCallL, L2.start, List.map_cons, List.map_nil, List.length_cons, List.length_nil, Nat.sub_self, Nat.reduceAdd, Nat.reduceSub, List.replicate_zero, List.replicate_succ, List.append_nil, List.nil_append, List.cons_append,
  List.getElem?_cons_zero, List.getElem?_cons_succ, List.set_cons_zero, List.set_cons_succ, Option.some.injEq, exists_eq_left', exists_eq_left, exists_eq_right, exists_eq_right', exists_const, exists_and_left, exists_and_right, V.int.injEq, V.bl.injEq, V.str.injEq, V.ref.injEq, V.ty.injEq, List.cons.injEq, and_true, true_and, and_assoc, reduceCtorEq, false_and, and_false, exists_false, false_or, or_false,
  if_true, if_false, Bool.not_true, Bool.not_false, Bool.false_eq_true, Bool.true_eq_false, ↓reduceIte, decide_eq_true_eq, decide_true, decide_false, sc_nn, sc_ni, sc_in, sc_nb, sc_bn, sc_ns, sc_sn, sc_ii, sc_bb, sc_ss, sc_is, sc_si, sc_bs, sc_sb, ipI, Int.reduceLT, Int.reduceLE, Int.reduceEq, Nat.reduceLT, Nat.reduceEqDiff, String.reduceEq, nc0, nc1, nc2, nc3, nc4, nc5, nc6, nc7, nc8, nc9, nc10, nc11, nc12, cx_K, cx_w, wipe, lenV_str, rCat, exists_eq, exists_eq', relO, relC, relM, relI, relSl, spOf, ciOf, csOf, crOf, L2.rIxD, eq_self, not_true_eq_false, not_false_eq_true, Option.isSome_some, Option.isSome_none, tCallV, ofS_inj, sg_inj, sg_len, sg_lt, tM1, tM0, tLc_rng1, tLc_rng2, tFor_rng1, tFor_rng2, tDNewK, sDPut,  Nat.reduceLeDiff, Bool.not_eq_true', decide_eq_false_iff_not,
  isi_int_int, isi_int_bool, isi_int_str, isi_int_tuple, isi_int_list, isi_int_dict, isi_bool_int, isi_bool_bool, isi_bool_str, isi_bool_tuple, isi_bool_list, isi_bool_dict, isi_str_int, isi_str_bool, isi_str_str, isi_str_tuple, isi_str_list, isi_str_dict, isi_non_int, isi_non_bool, isi_non_str, isi_non_tuple, isi_non_list, isi_non_dict])

section
variable {P : Program} {w : World} {K : PySem.W.Frag} {mg : Str → Option Value} {base : Heap} {CN CB CH CT CO CW : Addr} {D : Nat → Addr}
local macro_rules | `(tactic| walk_at "tb") => `(tactic| (refine ⟨_, _, _, (by assumption), (TxtW.cl (by assumption)), (TxtW.nb (by assumption)), _, ltb, ?_⟩; walk_at "rx"))
theorem ar1 {n i : Nat} (h : n ≤ 100 + i * 100) (h2 : i ≤ 7) : n ≤ 800 := by omega
theorem ar2 {n j : Nat} (h : n ≤ 800) (h2 : j ≤ 100) : n + j ≤ 900000 := by omega
theorem ar3 {l i : Nat} (h : l ≤ 2 * i) (h2 : i ≤ 7) : l ≤ 45 := by omega
theorem sc_law : FnScope ["_law_script", "_law_deck_here", "_law_town", "_law_other", "_law_homes", "_law_others", "_law_held", "_law_turn", "_law_label_here", "_law_name", "_law_due"] ["_law_script"] (defScope s_law) := ⟨rfl, rfl, rfl, by decide +kernel, rfl, by decide +kernel, by decide +kernel⟩
abbrev ql : Str := (envOfC "law" (defScope s_law) 0 0 .none).qual ++ "<lambda>"
def spLaw (K : PySem.W.Frag) (T : List (Addr × Str)) : Sp := fun vs H Q _ => ∃ (a : Addr) (xs : List Int), vs = [.ref a] ∧ SqL K H a (xs.map V.int) ∧ xs.length ≤ 100 ∧ LamX.Tabs T H ∧ ∀ H', Q (.bl true) H'
theorem ok_law (T : Txt K w mg CN CB CH) (T2 : TxE mg D) (TB1 : TxtB K CB) (TH : TxtH K CO) (TW : TxtW K CW) (IB : C8.InsC K CB) (DO : DefEq K CO) (DB : DefEq K CB) (R0 : Row K D CH CN 0) {q : Addr} {T8 : List (Addr × Str)} (hmT : (q, ql) ∈ T8) (hu : ∀ p ∈ T8, p.1 = q → p.2 = ql) (F : AtL K mg base "law" s_law ["_law_script"] q) (WD : WhyD K mg)
    (G_l_deck : Dfn P w K mg base 1 "_law_deck" ["_law_script"] (spDeck K)) (G_l_draw : Dfn P w K mg base 2 "_law_draw" ["_law_deck_here", "_law_many"] (spDraw K)) (G_l_label : Dfn P w K mg base 3 "_law_label" ["_law_deck_here"] (spG K 10 [] RLabel)) (G_l_alike : Dfn P w K mg base 3 "_law_alike" ["_law_found", "_law_due"] (spAl K))
    (G_l_built : Dfn P w K mg base 7 "_law_built" ["_law_deck_here", "_law_town", "_law_homes"] (spBuilt P w K CB CO CW T8)) (G_l_stands : Dfn P w K mg base 4 "_law_stands" ["_law_town", "_law_homes", "_law_held"] (spStands P w K CB CO CW)) (C_Town : Dfc P w K mg base 3 "Town" CW ["self"] (spTnI P w K CB CO CW))
    (M_labels : Dfm P w K mg base 1 CW "labels" ["self"] (spLabels P w K CB CO CW)) (M_write : Dfm P w K mg base 5 CO "write" ["self", "content"] (spWrite P w K CB CO)) (M_len : Dfm P w K mg base 1 CB "__len__" ["self"] (spBkLen P w K CB)) (M_kind : Dfm P w K mg base 4 CB "kind" ["self", "name"] (spKind P w K CB))
    (M_sweep : Dfm P w K mg base 4 CW "sweep" ["self", "label"] (spSweep P w K CB CO CW CN)) : Dfn P w K mg base 8 "law" ["_law_script"] (spLaw K T8) := by
  refine F.ok sc_law (fun vs H Q E h => ?_) (fun f c0 A0 outer s H vs Q E TB hr h => ?_)
  · obtain ⟨a, xs, rfl, _⟩ := h
    rfl
  · refine ⟨_, (pss_cons (ps_set (i := 1) sc_law.nd rfl (Or.inl rfl) (pe_fn G_l_deck hr (pa_cons (pv 0) pa_nil)))
      (pss_cons (ps_set (i := 2) sc_law.nd rfl (Or.inr rfl) (pe_mk0 C_Town hr))
      (pss_cons (ps_set (i := 3) sc_law.nd rfl (Or.inl rfl) (pe_mk0 C_Town hr))
      (pss_cons (ps_if (PW.pt (pw_or (pt_not (pt_val (pe_callB (C8.call_isC IB) (by rfl) T.isinstance_ (by decide +kernel) (pa_cons (pe_fld (pv 2) rfl) (pa_cons (pe_cr rfl T.Book) pa_nil))))) (pw_or (pt_cmpR (op_eqI hr.units) (pe_fld (pv 2) rfl) (pe_fld (pv 3) rfl) (nomark _)) (pw_or1 (pt_not (pt_val (pe_fn G_l_alike hr (pa_cons (Fw.pe_m0 M_labels hr passL (pv 2)) (pa_cons (pe_lst pa_nil) pa_nil))))))))) (pss_one (ps_ret pe_bl)) pss_nil)
      (pss_cons (ps_set (i := 4) sc_law.nd rfl (Or.inl rfl) pe_dnewK)
      (pss_cons (ps_set (i := 5) sc_law.nd rfl (Or.inl rfl) pe_dnewK)
      (pss_cons (ps_set (i := 6) sc_law.nd rfl (Or.inl rfl) pe_dnewK)
      (pss_cons (ps_for (passes_of rfl) rfl (pi_range1 rfl T.range_ (pa_cons (pe_op op_add pe_int (pe_fn G_l_draw hr (pa_cons (pv 1) (pa_cons pe_int pa_nil)))) pa_nil)) (pg_name (i := 7) sc_law.nd rfl (Or.inl rfl)) (pss_cons (ps_if (PW.pt (pw_or (pt_not (pt_val (pe_fn G_l_built hr (pa_cons (pv 1) (pa_cons (pv 2) (pa_cons (pv 4) pa_nil)))))) (pw_or1 (pt_not (pt_val (pe_fn G_l_built hr (pa_cons (pv 1) (pa_cons (pv 3) (pa_cons (pv 5) pa_nil))))))))) (pss_one (ps_ret pe_bl)) pss_nil)
      (pss_cons (ps_set (i := 8) sc_law.nd rfl (Or.inr rfl) (pe_ix ix_list (pe_callB (call_sortedD rfl) (by rfl) T.sorted_ (by decide +kernel) (pa_cons (pv 4) pa_nil)) (pe_fn G_l_draw hr (pa_cons (pv 1) (pa_cons (pe_callB call_lenD (by rfl) T.len_ (by decide +kernel) (pa_cons (pv 4) pa_nil)) pa_nil))) (fun _ _ => rfl)))
      (pss_cons (ps_set (i := 9) sc_law.nd rfl (Or.inl rfl) (Fw.pe_m M_write hr passL (pe_dget (hu_of hr) (pv 4) (pv 8) (fun _ _ => rfl)) (pa_cons (pe_tup (pa_cons pe_str (pa_cons (pe_tup (pa_cons pe_str (pa_cons (pe_callTy call_str_int (by rfl) T.str_ (by decide +kernel) (pa_cons (pe_fn G_l_draw hr (pa_cons (pv 1) (pa_cons pe_int pa_nil))) pa_nil)) pa_nil))) pa_nil))) pa_nil)))
      (pss_cons (ps_dput (hu_of hr) (pv 6) (pv 8) (pe_callB (cr_sortedSet rfl) (by rfl) T.sorted_ (by decide +kernel) (pa_cons (pe_callTy (cr_setI rfl) (by rfl) T.set_ (by decide +kernel) (pa_cons (pe_op op_cat (pe_dget2 (hu_of hr) (pv 6) (pv 8) (pe_lst pa_nil) ⟨rfl, rfl, rfl, rfl⟩) (pe_lst (pa_cons (pv 9) pa_nil))) pa_nil)) pa_nil)) rfl)
      (pss_one (ps_expr (pe_bm0 PySem.F.plainAttrs_list PySem.F.slot_list_clear PySem.F.type_list_clear mt_clear (Fw.pe_m0 M_labels hr passL (pv 2))))))))))
      (pss_cons (ps_if (PW.pt (pw_or (pt_cmpR op_ne (pe_callB (call_lenO M_len hr) (by rfl) T.len_ (by decide +kernel) (pa_cons (pe_fld (pv 3) rfl) pa_nil)) pe_int (nomark _)) (pw_or1 (pt_cmpR op_ne (Fw.pe_m M_kind hr passL (pe_fld (pv 2) rfl) (pa_cons pe_int pa_nil)) pe_str (nomark _))))) (pss_one (ps_ret pe_bl)) pss_nil)
      (pss_cons (ps_for (passes_of rfl) rfl (pi_range1 rfl T.range_ (pa_cons pe_int pa_nil)) (pg_name (i := 7) sc_law.nd rfl (Or.inl rfl)) (pss_cons (ps_set (i := 8) sc_law.nd rfl (Or.inr rfl) (pe_op op_add_str pe_str (pe_slice sl_str (pe_fn G_l_label hr (pa_cons (pv 1) pa_nil)) po_none (po_some pe_int))))
      (pss_cons (ps_set (i := 10) sc_law.nd rfl (Or.inl rfl) (pe_tup (pa_cons pe_str (pa_cons (pv 8) pa_nil))))
      (pss_one (ps_if (PW.pt (pw_and (pt_cmp (pc_dnotin (hu_of hr) (pv 8) (pv 4))) (pw_and1 (pt_not (pt_val (pe_fn G_l_alike hr (pa_cons (pe_why (k := 4) WD T T2 TB hmT hu (hr.mono (by decide)) (t := fun E => tMeth CW "sweep" (spM M_sweep) [] E (tVar 2) (tCons (tVar 8) tNil)) (fun A outer s H E f c' hr2 => Fw.pe_m M_sweep hr2 (passes_call (takes_of rfl rfl rfl rfl) (fun _ _ _ _ h => h)) (pv 2) (pa_cons (pv 8) pa_nil))) (pa_cons (pv 10) pa_nil)))))))) (pss_one (ps_ret pe_bl)) pss_nil)))))
      (pss_one (ps_ret (pe_and (pe_fn G_l_stands hr (pa_cons (pv 2) (pa_cons (pv 4) (pa_cons (pv 6) pa_nil)))) (pe_one (pe_fn G_l_stands hr (pa_cons (pv 3) (pa_cons (pv 5) (pa_cons pe_dnewK pa_nil)))))))))))))))))), ?_⟩
    obtain ⟨a, xs, rfl, hs, hx, hT, hq⟩ := h
    walk_at "rx"
    refine ⟨a, xs, rfl, hs, hx, fun H1 d c k1 hd1 fd fc => ?_⟩
    intro tA dxA htA hdxA nA
    have k2 : Kp [] H1 (upd (upd H1 dxA (.own tA)) tA (.ins CW dxA [])) := (Kp.refl.new hdxA).new (by rw [upd_ne (Ne.symm nA)]; exact htA)
    have e2 : upd (upd H1 dxA (.own tA)) tA (.ins CW dxA []) tA = some (.ins CW dxA []) := upd_same
    generalize upd (upd H1 dxA (.own tA)) tA (.ins CW dxA []) = H2 at k2 e2 ⊢
    refine ⟨tA, dxA, rfl, e2, fun H3 bA caA daA gaA haA k3 fA1 fA2 fA3 fA4 fA5 htA3 => ⟨rfl, ?_⟩⟩
    have k13 : Kp [] H1 H3 := k2.hide k3 fun m hm => .inr (by rw [List.mem_singleton.mp hm]; exact htA)
    intro tB dxB htB hdxB nB
    have k4 : Kp [] H3 (upd (upd H3 dxB (.own tB)) tB (.ins CW dxB [])) := (Kp.refl.new hdxB).new (by rw [upd_ne (Ne.symm nB)]; exact htB)
    have e4 : upd (upd H3 dxB (.own tB)) tB (.ins CW dxB []) tB = some (.ins CW dxB []) := upd_same
    generalize upd (upd H3 dxB (.own tB)) tB (.ins CW dxB []) = H4 at k4 e4 ⊢
    refine ⟨tB, dxB, rfl, e4, fun H5 bB caB daB gaB haB k5 fB1 fB2 fB3 fB4 fB5 htB5 => ⟨rfl, ?_⟩⟩
    have k35 : Kp [] H3 H5 := k4.hide k5 fun m hm => .inr (by rw [List.mem_singleton.mp hm]; exact htB)
    have k15 := k13.trans k35
    have htA5 := htA3.kp0 k35
    have hd5 := hd1.kp0 k15
    have hT5 := k15.tabs (k1.tabs hT)
    obtain ⟨A, hA⟩ : ∃ A : Tw, A = ⟨tA, bA, caA, daA, gaA, haA⟩ := ⟨_, rfl⟩
    obtain ⟨B, hB⟩ : ∃ B : Tw, B = ⟨tB, bB, caB, daB, gaB, haB⟩ := ⟨_, rfl⟩
    have ta5 : TA P w K CB CO CW H5 A [] [] := by rw [hA]; exact htA5
    have tb5 : TA P w K CB CO CW H5 B [] [] := by rw [hB]; exact htB5
    have nAB : ∀ z ∈ fpT A [], z ∉ fpT B [] := fun z hz q => by
      have h3 : z ∉ [tB, bB, caB, daB, gaB, haB] := fun r => by
        have o3 := htA3.occ (show z ∈ fp tA bA caA daA gaA haA [] by rw [hA] at hz; exact hz)
        obtain ⟨o, n, e⟩ := o3
        simp only [List.mem_cons, List.not_mem_nil, or_false] at r
        have fr : ∀ {y : Addr}, Fr H4 y → z ≠ y := fun {y} f => ne_of_none e (k4.free f)
        rcases r with r | r | r | r | r | r
        · exact ne_of_none e htB r
        · exact fr fB1 r
        · exact fr fB2 r
        · exact fr fB3 r
        · exact fr fB4 r
        · exact fr fB5 r
      rw [hB] at q
      exact h3 (by simpa [fpT, fp, own] using q)
    have nFX : ∀ z ∈ [d, c], z ∉ fpT A [] ∧ z ∉ fpT B [] := fun z hz => by
      obtain ⟨ne, xs', i', tt, bb, h1, h2, _⟩ := hd1
      have oz : ∃ o, H1 z = some o := by
        simp only [List.mem_cons, List.not_mem_nil, or_false] at hz
        rcases hz with rfl | rfl
        · exact ⟨_, h1⟩
        · exact ⟨_, h2⟩
      obtain ⟨o, e⟩ := oz
      have fr : ∀ {y : Addr}, Fr H2 y → z ≠ y := fun {y} f => ne_of_none e (k2.free f)
      have fr4 : ∀ {y : Addr}, Fr H4 y → z ≠ y := fun {y} f => ne_of_none e (k13.free (k4.free f))
      refine ⟨fun q => ?_, fun q => ?_⟩
      · rw [hA] at q
        have q' : z ∈ [tA, bA, caA, daA, gaA, haA] := by simpa [fpT, fp, own] using q
        simp only [List.mem_cons, List.not_mem_nil, or_false] at q'
        rcases q' with r | r | r | r | r | r
        · exact ne_of_none e htA r
        · exact fr fA1 r
        · exact fr fA2 r
        · exact fr fA3 r
        · exact fr fA4 r
        · exact fr fA5 r
      · rw [hB] at q
        have q' : z ∈ [tB, bB, caB, daB, gaB, haB] := by simpa [fpT, fp, own] using q
        simp only [List.mem_cons, List.not_mem_nil, or_false] at q'
        rcases q' with r | r | r | r | r | r
        · exact ne_of_none e (k13.free htB) r
        · exact fr4 fB1 r
        · exact fr4 fB2 r
        · exact fr4 fB3 r
        · exact fr4 fB4 r
        · exact fr4 fB5 r
    obtain ⟨dxa, taA, obA⟩ := htA5.ob
    obtain ⟨dxb, taB, obB⟩ := htB5.ob
    obtain ⟨dxc, bkA⟩ := htA5.bk.ob
    obtain ⟨dxd, bkB⟩ := htB5.bk.ob
    have nbb : bA ≠ bB := fun e => nAB bA (by rw [hA]; simp) (by rw [hB, e]; simp)
    walk_at "tb"
    refine ⟨⟨_, _, bkA⟩, ?_⟩
    walk_at "tb"
    walk_at "tb"
    refine ⟨CB, bA, bB, _, _, _, _, rfl, rfl, bkA, bkB, DB, ?_⟩
    rw [if_neg Bool.false_ne_true, decide_eq_false nbb]
    walk_at "rx"
    refine ⟨_, _, obA, rfl, tA, bA, caA, daA, gaA, haA, [], [], rfl, htA5, by simp, fun H6 p6 ys6 k6 pm6 so6 hn6 e6 => ⟨by decide, fun p7 hp7 => ?_⟩⟩
    have ey : ys6 = [] := pm6.eq_nil
    rw [ey] at e6
    have k67 : Kp [] H6 (upd H6 p7 (.lst [])) := Kp.refl.new hp7
    refine .inr ⟨p6, p7, [], false, rfl, .inr ⟨rfl, SqL.of (k67.at e6 (by simp)), SqL.of upd_same⟩, fun x hx => (by cases hx), by simp, fun H8 k8 => ?_⟩
    walk_at "rx"
    intro lh hlh lo hlo lk hlk
    have k58 : Kp [] H5 H8 := (k6.trans k67).trans k8
    have e9 : upd (upd (upd H8 lh (.dK [])) lo (.dK [])) lk (.dK []) lk = some (.dK []) := upd_same
    have e9o : upd (upd (upd H8 lh (.dK [])) lo (.dK [])) lk (.dK []) lo = some (.dK []) := by rw [upd_ne (ne_of_none upd_same hlk), upd_same]
    have nlo : lh ≠ lo := ne_of_none upd_same hlo
    have nlk : lo ≠ lk := ne_of_none upd_same hlk
    have e8h : upd (upd H8 lh (.dK [])) lo (.dK []) lh = some (.dK []) := by rw [upd_ne nlo, upd_same]
    have nhk : lh ≠ lk := ne_of_none e8h hlk
    have e9h : upd (upd (upd H8 lh (.dK [])) lo (.dK [])) lk (.dK []) lh = some (.dK []) := by rw [upd_ne nhk, e8h]
    have fr8 : Fr H8 lh ∧ Fr H8 lo ∧ Fr H8 lk := by
      refine ⟨hlh, ?_, ?_⟩
      · rw [upd_ne (Ne.symm nlo)] at hlo
        exact hlo
      · rw [upd_ne (Ne.symm nlk), upd_ne (Ne.symm nhk)] at hlk
        exact hlk
    have k89 : Kp [] H8 (upd (upd (upd H8 lh (.dK [])) lo (.dK [])) lk (.dK [])) := ((Kp.refl.new hlh).new hlo).new hlk
    generalize upd (upd (upd H8 lh (.dK [])) lo (.dK [])) lk (.dK []) = H9 at e9 e9o e9h k89 ⊢
    have k59 := k58.trans k89
    subst hA hB
    have S9 : LSt P w K CB CO CW T8 H9 d c lh lo lk ⟨tA, bA, caA, daA, gaA, haA⟩ ⟨tB, bB, caB, daB, gaB, haB⟩ 0 0 [] [] [] [] := by
      have ta8 := ta5.kp0 k58
      have tb8 := tb5.kp0 k58
      refine ⟨hd5.kp0 k59, ta5.kp0 k59, tb5.kp0 k59, e9h, e9o, e9, k59.tabs hT5, fun z hz => ?_, fun z hz => ?_, nAB, nlo, nhk, nlk, fun r hr => (by cases hr), fun l p h => (by cases h), fun l h => (by cases h rfl), fun r hr => (by cases hr), by simp, by simp, by simp, fun r hr => (by cases hr), by simp⟩
      · simp only [List.mem_cons, List.not_mem_nil, or_false] at hz
        rcases hz with rfl | rfl | rfl | rfl | rfl
        · exact (nFX _ (by simp)).1
        · exact (nFX _ (by simp)).1
        · exact ta8.fr fr8.1
        · exact ta8.fr fr8.2.1
        · exact ta8.fr fr8.2.2
      · simp only [List.mem_cons, List.not_mem_nil, or_false] at hz
        rcases hz with rfl | rfl | rfl | rfl | rfl
        · exact (nFX _ (by simp)).2
        · exact (nFX _ (by simp)).2
        · exact tb8.fr fr8.1
        · exact tb8.fr fr8.2.1
        · exact tb8.fr fr8.2.2
    refine spDraw_mk S9.dk (by omega) (by decide) (by decide) fun H10 r10 k10 hd10 r0 r1 => ?_
    have S10 := S9.deck k10.w hd10 (k10.tabs S9.tab)
    refine ⟨r10, rfl, by omega, by omega, ?_⟩
    obtain ⟨Pv, hPv⟩ : ∃ Pv : Nat → L2.St → Hp → Prop, ∀ i σ H', Pv i σ H' ↔ ((∃ n ps rs rb hk, LSt P w K CB CO CW T8 H' d c lh lo lk ⟨tA, bA, caA, daA, gaA, haA⟩ ⟨tB, bB, caB, daB, gaB, haB⟩ n (2 * i) ps rs rb hk ∧ n ≤ 100 + i * 100 ∧ (0 < i → ps ≠ [])) ∧ ∃ o1 o2 o3 o4, σ = [some (V.ref a), some (V.ref d), some (V.ref tA), some (V.ref tB), some (V.ref lh), some (V.ref lo), some (V.ref lk), o1, o2, o3, o4]) := ⟨_, fun _ _ _ => Iff.rfl⟩
    refine for_rng Pv ((hPv _ _ _).mpr ⟨⟨_, _, _, _, _, S10, by omega, fun h => absurd h (by omega)⟩, _, _, _, _, rfl⟩) (fun i σ H11 hi h11 => ?_) fun σ H11 h11 => ?_
    · obtain ⟨⟨n, ps, rs, rb, hk, S, hn, hne⟩, o1, o2, o3, o4, rfl⟩ := (hPv _ _ _).mp h11
      walk_at "rx"
      have hi8 : i ≤ 7 := by omega
      have hn2 : n ≤ 800 := ar1 hn hi8
      have S1 := S.mono (Nat.le_succ (2 * i))
      have fx : ∀ {z : Addr}, z ∈ [d, c, lh] → z ∈ [d, c, lh, lo, lk] := fun {z} hz => by simp at hz ⊢; rcases hz with h | h | h <;> simp [h]
      have fy : ∀ {z : Addr}, z ∈ [d, c, lo] → z ∈ [d, c, lh, lo, lk] := fun {z} hz => by simp at hz ⊢; rcases hz with h | h | h <;> simp [h]
      have l1 := S.l1
      have l2 := S.l2
      have l3 := S.l3
      have l5 := S.l5
      refine ⟨d, c, n, tA, bA, caA, daA, gaA, haA, lh, ps, rs, rfl, S.dk, ar2 (j := 10) hn2 (by decide), S.ta, ar3 l1 hi8, S.eh, S.tab, fun z hz => S.fa z (fx hz), fun H12 rs' kw1 hT1 hd1' ht1' e1' ne1 or1 => ?_⟩
      have hl1 : rs'.length ≤ 2 * i + 1 := by
        rcases or1 with rfl | ⟨l, a', h0, rfl, _⟩
        · omega
        · rw [List.length_append, List.length_singleton]
          omega
      have S2 := S1.builtA kw1 hT1 hd1' ht1' e1' or1 hl1
      walk_at "rx"
      refine ⟨d, c, _, tB, bB, caB, daB, gaB, haB, lo, [], rb, rfl, S2.dk, ar2 (n := n) (j := 20) hn2 (by decide), S2.tb, ar3 l2 hi8, S2.eo, S2.tab, fun z hz => S2.fb z (fy hz), fun H13 rb' kw2 hT2 hd2' ht2' e2' ne2 or2 => ?_⟩
      have hl2 : rb'.length ≤ 2 * i + 1 := by
        rcases or2 with rfl | ⟨l, a', h0, rfl, _⟩
        · omega
        · rw [List.length_append, List.length_singleton]
          omega
      have S3 := S2.builtB kw2 hT2 hd2' ht2' e2' or2 hl2
      walk_at "rx"
      refine ⟨_, .inl S3.eh, labs rs', by rw [List.map_map, List.map_map]; rfl, by rw [List.length_map]; omega, fun ys p14 pm14 so14 hn14 => ?_⟩
      have k14 : Kp [] H13 (upd H13 p14 (.lst (ys.map V.str))) := Kp.refl.new hn14
      have e14 : upd H13 p14 (.lst (ys.map V.str)) p14 = some (.lst (ys.map V.str)) := upd_same
      have eh14 := k14.at S3.eh (by simp)
      have S4 := S3.deck (k14.w.mono (by simp)) (S3.dk.kp0 k14) (k14.tabs S3.tab)
      generalize upd H13 p14 (.lst (ys.map V.str)) = H14 at k14 e14 eh14 S4 ⊢
      have lys : ys.length = rs'.length := by rw [pm14.length_eq, List.length_map]
      have pos : 0 < rs'.length := List.length_pos_iff.mpr ne1
      refine ⟨_, eh14, ?_⟩
      rw [List.length_map]
      refine spDraw_mk S4.dk (by omega) (by omega) (by omega) fun H15 r15 k15' hd15 q0 q1 => ?_
      have S5 := S4.deck k15'.w hd15 (k15'.tabs S4.tab)
      have ndp : p14 ≠ d := by
        obtain ⟨ne, xs', i', tt, bb, h1, h2, _⟩ := S3.dk
        exact (ne_of_none h1 hn14).symm
      have e15 := k15'.at e14 (by simpa using ndp)
      have hrl : r15.toNat < ys.length := by omega
      refine ixL (SqL.of e15) (v := .str ys[r15.toNat]) ?_ ?_
      · have at15 := atI_nat (xs := ys.map V.str) (j := r15.toNat) (v := V.str ys[r15.toNat]) (by simp [hrl])
        have er : ((r15.toNat : Nat) : Int) = r15 := by omega
        rwa [er] at at15
      obtain ⟨r, hr1, elb⟩ : ∃ r ∈ rs', r.lab = ys[r15.toNat] := List.mem_map.mp (pm14.mem_iff.mp (List.getElem_mem hrl))
      rw [← elb]
      have hg15 := DGet.k (k := Sum.inr r.lab) S5.eh
      rw [val_hm_some S5.ta.nl hr1] at hg15
      obtain ⟨dxh, nn5, sa, la, oa, pa, hoh⟩ := (S5.ta.hs r hr1).ob
      refine ⟨_, hg15, r.a, rfl, _, _, hoh, rfl, ?_⟩
      refine spDraw_mk S5.dk (by omega) (by decide) (by decide) fun H16 r16 k16 hd16 q2 q3 => ?_
      have S6 := S5.deck k16.w hd16 (k16.tabs S5.tab)
      have oT : okT (iS r16) = true := by
        have h4 : r16 = 0 ∨ r16 = 1 ∨ r16 = 2 ∨ r16 = 3 := by omega
        rcases h4 with rfl | rfl | rfl | rfl <;> decide +kernel
      have lg : r16.natAbs.log2 < 1920 := by
        have h3 : r16.natAbs < 2 ^ 60 := by omega
        have h4 := PySem.Flt.log2_lt_of (by decide) h3
        omega
      refine ⟨r16, rfl, lg, by decide, fun px hpx => ⟨by decide, fun py hpy => ?_⟩⟩
      have k17 : Kp [] H16 (upd (upd H16 px (.tup [.str "here", .str (iS r16)])) py (.tup [.str "leaf", .ref px])) := (Kp.refl.new hpx).new hpy
      have hct : CtAt K (upd (upd H16 px (.tup [.str "here", .str (iS r16)])) py (.tup [.str "leaf", .ref px])) py (iS r16) := ⟨px, .inl (.inl upd_same), .inl (.inl (by rw [upd_ne (ne_of_none upd_same hpy), upd_same]))⟩
      have S7 := S6.deck k17.nil.w (S6.dk.kp0 k17) (k17.tabs S6.tab)
      have hpy17 : Kp [] H16 (upd (upd H16 px (.tup [.str "here", .str (iS r16)])) py (.tup [.str "leaf", .ref px])) := k17
      generalize upd (upd H16 px (.tup [.str "here", .str (iS r16)])) py (.tup [.str "leaf", .ref px]) = H17 at k17 hct S7 ⊢
      have h4ns : r.ns.length ≤ 2 * i + 1 := S7.l4 r hr1
      refine ⟨r.a, bA, r.hh, caA, daA, gaA, py, r.ns, ps, _, rfl, S7.ta.hs r hr1, S7.ta.bk, hct, oT, by have := ar3 l3 hi8; omega, by omega, fun m ps2 H18 k18 hm hps hmc hbk18 hs18 => ?_⟩
      have M18 : ∀ z ∈ [caA, daA, gaA, r.a, r.hh], z ∈ fpT (⟨tA, bA, caA, daA, gaA, haA⟩ : Tw) rs' := fun z hz => by
        obtain ⟨m1, m2⟩ := mem_own hr1
        simp only [List.mem_cons, List.not_mem_nil, or_false] at hz
        rcases hz with rfl | rfl | rfl | rfl | rfl
        · simp
        · simp
        · simp
        · exact List.mem_append_right _ m1
        · exact List.mem_append_right _ m2
      have ek18 := k18.at S7.ek (fun q => S7.fa lk (by simp) (M18 lk q))
      refine ⟨.inl ⟨hk, .inl ek18⟩, by decide, fun pe hpe => ?_⟩
      have k19 : Kp [] H18 (upd H18 pe (.lst [])) := Kp.refl.new hpe
      have ep19 : upd H18 pe (.lst []) pe = some (.lst []) := upd_same
      have ek19 := k19.at ek18 (by simp)
      generalize upd H18 pe (.lst []) = H19 at k19 ep19 ek19 ⊢
      have hg19 := DGet.k (k := Sum.inr r.lab) ek19
      have old : ∃ (l : Addr) (zs : List Int), (valV hk (Sum.inr r.lab)).getD (V.ref pe) = .ref l ∧ H19 l = some (.lst (zs.map V.int)) ∧ zs.Perm (r.ns.map fun k => ((k : Nat) : Int)) := by
        rcases S7.hl r hr1 with ⟨v, hn⟩ | ⟨pq, yq, v, eq, pmq, pwq⟩
        · exact ⟨pe, [], by rw [v]; rfl, ep19, by rw [hn]; exact .nil⟩
        · refine ⟨pq, yq, by rw [v]; rfl, k19.at (k18.at eq ?_) (by simp), pmq⟩
          have h5 := S7.hp _ pq v
          obtain ⟨dx7, nn7, sa7, la7, oa7, pa7, hoh7⟩ := (S7.ta.hs r hr1).ob
          simp only [List.mem_cons, List.not_mem_nil, or_false, not_or] at h5 ⊢
          exact ⟨h5.2.1, h5.2.2, ne_of eq S7.ta.bk.gi.at_ ndo_ne_lst.symm, ne_of eq hoh7 (by intro z; cases z), ne_of eq (S7.ta.hs r hr1).he (by intro z; cases z)⟩
      obtain ⟨l, zs, el, ezs, pmz⟩ := old
      have lzs : zs.length ≤ 2 * i + 1 := by rw [pmz.length_eq, List.length_map]; exact h4ns
      refine ⟨_, hg19, by decide, fun p2 hp2 => ⟨l, el, ?_⟩⟩
      have ez2 : upd H19 p2 (.lst [V.int ((m : Nat) : Int)]) l = some (.lst (zs.map V.int)) := by rw [upd_ne (ne_of_none ezs hp2)]; exact ezs
      have ep2 : upd H19 p2 (.lst [V.int ((m : Nat) : Int)]) p2 = some (.lst [V.int ((m : Nat) : Int)]) := upd_same
      have k20 : Kp [] H19 (upd H19 p2 (.lst [V.int ((m : Nat) : Int)])) := Kp.refl.new hp2
      generalize upd H19 p2 (.lst [V.int ((m : Nat) : Int)]) = H20 at ez2 ep2 k20 ⊢
      refine ⟨_, ez2, _, ep2, by rw [List.length_map, sizeLine_eq]; simp only [List.length_cons, List.length_nil]; omega, fun p3 hp3 => ?_⟩
      have ec : zs.map V.int ++ [V.int ((m : Nat) : Int)] = (zs ++ [((m : Nat) : Int)]).map V.int := by rw [List.map_append]; rfl
      rw [ec]
      have e3 : upd H20 p3 (.lst ((zs ++ [((m : Nat) : Int)]).map V.int)) p3 = some (.lst ((zs ++ [((m : Nat) : Int)]).map V.int)) := upd_same
      have k21 : Kp [] H20 (upd H20 p3 (.lst ((zs ++ [((m : Nat) : Int)]).map V.int))) := Kp.refl.new hp3
      generalize upd H20 p3 (.lst ((zs ++ [((m : Nat) : Int)]).map V.int)) = H21 at e3 k21 ⊢
      have ln3 : (zs ++ [((m : Nat) : Int)]).length ≤ 2 * i + 2 := by rw [List.length_append, List.length_singleton]; omega
      refine ⟨p3, zs ++ [((m : Nat) : Int)], rfl, SqL.of e3, by omega, fun sa3 cc hsa hcl => ?_⟩
      have k22 : Kp [] H21 (upd H21 sa3 (SetO w sa3 (fun j => decide (j ∈ zs ++ [((m : Nat) : Int)])) cc)) := Kp.refl.new hsa
      have e22 : upd H21 sa3 (SetO w sa3 (fun j => decide (j ∈ zs ++ [((m : Nat) : Int)])) cc) sa3 = some (SetO w sa3 (fun j => decide (j ∈ zs ++ [((m : Nat) : Int)])) cc) := upd_same
      generalize upd H21 sa3 (SetO w sa3 (fun j => decide (j ∈ zs ++ [((m : Nat) : Int)])) cc) = H22 at k22 e22 ⊢
      refine ⟨sa3, _, cc, rfl, e22, by omega, fun ns2 p4 pw2 mem2 ln2 hp4 => ?_⟩
      have k23 : Kp [] H22 (upd H22 p4 (.lst (ns2.map V.int))) := Kp.refl.new hp4
      have e23 : upd H22 p4 (.lst (ns2.map V.int)) p4 = some (.lst (ns2.map V.int)) := upd_same
      have k1923 : Kp [] H18 (upd H22 p4 (.lst (ns2.map V.int))) := ((((k19.trans k20).trans k21).trans k22).trans k23)
      have ek23 := k1923.at ek18 (by simp)
      have f4 : Fr H17 p4 := k18.free ((((k19.trans k20).trans k21).trans k22).free hp4)
      generalize upd H22 p4 (.lst (ns2.map V.int)) = H23 at k23 e23 k1923 ek23 ⊢
      refine ⟨_, DPut.k (k := Sum.inr r.lab) ek23 (by rw [sizeLine_eq]; omega), ?_⟩
      have e24 : upd H23 lk (.dK (putK hk (Sum.inr r.lab) (.ref p4))) lk = some (.dK (putK hk (Sum.inr r.lab) (.ref p4))) := upd_same
      have k24 : Kp [lk] H23 (upd H23 lk (.dK (putK hk (Sum.inr r.lab) (.ref p4)))) := Kp.refl.put ek23 (mu_of trivial) (by simp)
      have n4 : p4 ≠ lk := (ne_of_none S7.ek f4).symm
      have e24p := k24.at e23 (by simpa using n4)
      generalize upd H23 lk (.dK (putK hk (Sum.inr r.lab) (.ref p4))) = H24 at e24 k24 e24p ⊢
      have kall : Kp [d, caA, daA, gaA, r.a, r.hh, lk] H17 H24 := ((k18.mono (by simp)).trans k1923.nil).trans (k24.mono (by simp))
      have hdall : Dk K H24 d c _ := (((S7.dk.kp k18 (fun q => S7.fa d (by simp) (M18 d q)) (fun q => S7.fa c (by simp) (M18 c q))).kp0 k1923).kp k24 (by simpa using (S7.dne lk (by simp)).1.symm) (by simpa using (S7.dne lk (by simp)).2.symm))
      have nlk : ∀ z ∈ fpT (⟨tA, bA, caA, daA, gaA, haA⟩ : Tw) rs', z ≠ lk := fun z hz e => S7.fa lk (by simp) (e ▸ hz)
      have hb24 : BkAt P w K CB H24 bA caA daA gaA ps2 := (hbk18.kp0 k1923).kp k24 (by simpa using nlk bA (by simp)) (by simpa using nlk caA (by simp)) (by simpa using nlk daA (by simp)) (by simpa using nlk gaA (by simp))
      have hs24 := (hs18.kp k1923 (by simp) (by simp)).kp k24 (by simpa using nlk r.a (List.mem_append_right _ (mem_own hr1).1)) (by simpa using nlk r.hh (List.mem_append_right _ (mem_own hr1).2))
      have lps : ps.length ≤ ps2.length ∧ ps2.length ≤ ps.length + 1 := by
        rcases hps with rfl | ⟨rfl, _⟩
        · omega
        · rw [List.length_append, List.length_singleton]
          omega
      have pm24 : ns2.Perm ((if m ∈ r.ns then r.ns else r.ns ++ [m]).map fun k => ((k : Nat) : Int)) := by
        have nd1 : ns2.Nodup := pw2.imp fun h => Int.ne_of_lt h
        have nd2 : ((if m ∈ r.ns then r.ns else r.ns ++ [m]).map fun k => ((k : Nat) : Int)).Nodup := List.pairwise_map.mpr (hs24.nd.imp fun h z => h (Int.ofNat.inj z))
        refine (List.perm_ext_iff_of_nodup nd1 nd2).mpr fun k => ?_
        rw [mem2, decide_eq_true_eq, List.mem_append, List.mem_singleton, pmz.mem_iff]
        by_cases hmn : m ∈ r.ns
        · rw [if_pos hmn]
          refine ⟨fun h => h.elim id fun h => ?_, .inl⟩
          rw [h]
          exact List.mem_map.mpr ⟨m, hmn, rfl⟩
        · rw [if_neg hmn, List.map_append, List.mem_append]
          simp
      have ln24 : (if m ∈ r.ns then r.ns else r.ns ++ [m]).length ≤ 2 * i + 1 + 1 := by
        split
        · omega
        · rw [List.length_append, List.length_singleton]
          omega
      have S24 := S7.wrote hr1 kall hdall hb24 hs24 e24 f4 e24p pm24 (pw2.imp fun h => Int.le_of_lt h) lps.1 (fun x hx => by
        split at hx
        · exact Nat.lt_of_lt_of_le (S7.ta.nn r hr1 x hx) lps.1
        · rcases List.mem_append.mp hx with hx | hx
          · exact Nat.lt_of_lt_of_le (S7.ta.nn r hr1 x hx) lps.1
          · rw [List.mem_singleton.mp hx]
            exact hm) (by omega) ln24
      obtain ⟨dx24, ta24, ob24⟩ := S24.ta.ob
      refine ⟨_, _, ob24, rfl, tA, bA, caA, daA, gaA, haA, ps2, _, rfl, S24.ta, by have := S24.l1; omega, fun H25 p25 ys25 k25 pm25 so25 hn25 e25 => ⟨.inl ⟨rfl, _, SqL.of e25⟩, p25, _, rfl, rfl, e25, ?_⟩⟩
      have k26 : Kp [] H24 (upd H25 p25 (.lst [])) := k25.late hn25 fun u hu => by
        rw [e25] at hu
        cases hu
        exact mu_of trivial
      refine (hPv _ _ _).mpr ⟨⟨_, _, _, _, _, S24.deck k26.nil.w (S24.dk.kp0 k26) (k26.tabs S24.tab), by omega, fun _ => ?_⟩, _, _, _, _, rfl⟩
      rintro rfl
      simp at hm
    · obtain ⟨⟨n, ps, rs, rb, hk, S, hn, hne⟩, o1, o2, o3, o4, rfl⟩ := (hPv _ _ _).mp h11
      have hn2 : n ≤ 900 := by omega
      have hps0 : 0 < ps.length := List.length_pos_iff.mpr (hne (by omega))
      have l1 := S.l1
      have l2 := S.l2
      have c8 : (1 + r10).toNat ≤ 8 := by omega
      obtain ⟨dxa1, taA1, obA1⟩ := S.ta.ob
      obtain ⟨dxb1, taB1, obB1⟩ := S.tb.ob
      obtain ⟨dxc1, bkA1⟩ := S.ta.bk.ob
      obtain ⟨dxd1, bkB1⟩ := S.tb.bk.ob
      walk_at "rx"
      walk_at "tb"
      refine ⟨bB, _, _, rfl, bkB1, bB, caB, daB, gaB, [], rfl, S.tb.bk, 0, rfl, by decide, ?_⟩
      walk_at "rx"
      walk_at "tb"
      refine ⟨_, _, bkA1, rfl, bA, caA, daA, gaA, ps, 0, rfl, S.ta.bk, hps0, ?_⟩
      walk_at "rx"
      refine ⟨by decide, by decide, ?_⟩
      obtain ⟨Pv2, hPv2⟩ : ∃ Pv : Nat → L2.St → Hp → Prop, ∀ i σ H', Pv i σ H' ↔ ((∃ n, LSt P w K CB CO CW T8 H' d c lh lo lk ⟨tA, bA, caA, daA, gaA, haA⟩ ⟨tB, bB, caB, daB, gaB, haB⟩ n (2 * (1 + r10).toNat) ps rs rb hk ∧ n ≤ 1000 + i * 100) ∧ ∃ o1 o2 o3 o4, σ = [some (V.ref a), some (V.ref d), some (V.ref tA), some (V.ref tB), some (V.ref lh), some (V.ref lo), some (V.ref lk), o1, o2, o3, o4]) := ⟨_, fun _ _ _ => Iff.rfl⟩
      refine for_rng Pv2 ((hPv2 _ _ _).mpr ⟨⟨_, S, by omega⟩, _, _, _, _, rfl⟩) (fun j σ H12 hj h12 => ?_) fun σ H12 h12 => ?_
      · obtain ⟨⟨n2, S2, hn3⟩, o5, o6, o7, o8, rfl⟩ := (hPv2 _ _ _).mp h12
        have hj2 : j ≤ 1 := by
          have : j < 2 := hj
          omega
        walk_at "rx"
        refine spG_mk S2.dk (by omega) fun H13 v13 k13' hd13 hv13 => ?_
        obtain ⟨l, rfl, hl⟩ := hv13
        have S3 := S2.deck k13'.w hd13 (k13'.tabs S2.tab)
        have hll := okL_len hl
        have hcl := cutS_length l none (some 6)
        obtain ⟨y, hy⟩ : ∃ y : Str, y = Str.ofString "zz" ++ cutS l none (some 6) := ⟨_, rfl⟩
        have lzz : (Str.ofString "zz").length = 2 := by decide +kernel
        refine ⟨l, rfl, by rw [sizeLine_eq]; omega, _, rfl, by rw [lzz, sizeLine_eq]; omega, by decide, fun p hp => ?_⟩
        rw [← hy]
        have k14 : Kp [] H13 (upd H13 p (.tup [.str (Str.ofString "NoHouse"), .str y])) := Kp.refl.new hp
        have e14 : upd H13 p (.tup [.str (Str.ofString "NoHouse"), .str y]) p = some (.tup [.str (Str.ofString "NoHouse"), .str y]) := upd_same
        have S4 := S3.deck k14.nil.w (S3.dk.kp0 k14) (k14.tabs S3.tab)
        generalize upd H13 p (.tup [.str (Str.ofString "NoHouse"), .str y]) = H14 at k14 e14 S4 ⊢
        refine ⟨_, DGet.k (k := Sum.inr y) S4.eh, ?_⟩
        by_cases hm : y ∈ labs rs
        · obtain ⟨r, hr1, er⟩ := List.mem_map.mp hm
          have hv : valV (hmK rs) (Sum.inr y) = some (.ref r.a) := er ▸ val_hm_some S4.ta.nl hr1
          rw [hv]
          walk_at "rx"
          exact (hPv2 _ _ _).mpr ⟨⟨_, S4, by omega⟩, _, _, _, _, rfl⟩
        · rw [val_hm_none hm]
          walk_at "rx"
          refine why_mk (l := y) S4.tab R0 (by decide) (fun H15 Q1 E1 kw L => ?_) (fun H15 p2 kw hT2 hp2 => ?_)
          · have ht := S4.ta.kw kw (by simp)
            obtain ⟨dx5, ta5', ob5⟩ := ht.ob
            walk_at "rx"
            exact ⟨_, _, ob5, rfl, tA, bA, caA, daA, gaA, haA, ps, rs, _, rfl, ht, hm, L⟩
          · refine .inr ⟨p2, p, [.str (Str.ofString "NoHouse"), .str y], true, rfl, .inl ⟨rfl, .inl (.inl hp2), .inl (.inl (kw.tups _ _ e14))⟩, fun x hx => ?_, (by show 2 ≤ 100; decide), fun H16 k16 => ?_⟩
            · simp only [List.mem_cons, List.not_mem_nil, or_false] at hx
              rcases hx with rfl | rfl <;> exact .inr ⟨_, rfl⟩
            · walk_at "rx"
              have kk := kw.trans k16.w
              exact (hPv2 _ _ _).mpr ⟨⟨_, S4.deck kk.nil (S4.dk.kw kk (by simp) (by simp)) (k16.tabs hT2), by omega⟩, _, _, _, _, rfl⟩
      · obtain ⟨⟨n2, S2, hn3⟩, o5, o6, o7, o8, rfl⟩ := (hPv2 _ _ _).mp h12
        walk_at "rx"
        refine ⟨tA, bA, caA, daA, gaA, haA, lh, lk, ps, rs, hk, rfl, S2.ta, by omega, fun r hr => by have := S2.l4 r hr; omega, S2.eh, S2.ek, S2.hl, fun H13 k13' => ?_⟩
        walk_at "rx"
        intro p hp
        have k14 : Kp [] H13 (upd H13 p (.dK [])) := Kp.refl.new hp
        have kk := k13'.trans k14
        exact ⟨tB, bB, caB, daB, gaB, haB, lo, p, [], rb, [], rfl, S2.tb.kp0 kk, by omega, fun r hr => by rw [S2.nb r hr]; exact Nat.zero_le _, kk.at S2.eo (by simp), upd_same, fun r hr => .inl ⟨rfl, S2.nb r hr⟩, fun H15 k15 => hq H15⟩
end
end Kq
set_option Elab.async false
set_option linter.all false
set_option maxRecDepth 100000
set_option maxHeartbeats 0
namespace Fw
open PySem PySem.Spec PyProof.Rows L2
/-! ### what the head tells beyond the facts -/
section
variable {K : PySem.W.Frag} {C : Addr}
def oexB (K : PySem.W.Frag) (C : Addr) : Bool := (match K.lookup C with
  | some ⟨.type t, _, .cls cd, sl⟩ => decide (t = "type") && (match cd.mro, sl.toList with
    | .ref C' :: bm, [_, _, _, _, some (.builtin n), _] => decide (C' = C) && (decide (n = "ValueError.__new__") && (!cd.hasDel && (cd.hasDict && PySem.HandSPX.refsVE bm)))
    | _, _ => false)
  | _ => false) && (He.eqO (PySem.W.findIn K (.ref C) "__setattr__") (some (some (.builtin "object.__setattr__"))) && (decide (PySem.W.subIn K (.ref C) (.type "BaseException") = some true) && (decide (PySem.W.typeIn K (.ref C) = some (.type "type")) && PySem.W.keepIn K (.ref C))))
theorem oexB_ok (h : oexB K C = true) : OexC K C := by
  obtain ⟨h1, h⟩ := He.ba h
  obtain ⟨h2, h⟩ := He.ba h
  obtain ⟨h3, h⟩ := He.ba h
  obtain ⟨h4, h5⟩ := He.ba h
  refine ⟨?_, He.eqO_ok h2, of_decide_eq_true h3, of_decide_eq_true h4, h5⟩
  split at h1
  · rename_i t dd cd sl ho
    obtain ⟨g1, g2⟩ := He.ba h1
    obtain rfl := of_decide_eq_true g1
    split at g2
    · rename_i C' bm k0 k1 k2 k3 n k5 hm hs
      obtain ⟨a1, g2⟩ := He.ba g2
      obtain ⟨a2, g2⟩ := He.ba g2
      obtain ⟨a3, g2⟩ := He.ba g2
      obtain ⟨a4, a5⟩ := He.ba g2
      obtain rfl := of_decide_eq_true a1
      obtain rfl := of_decide_eq_true a2
      obtain ⟨nm, bs, mro, ns, qn, hd, sn, sub, ab, col, del⟩ := cd
      dsimp only at hm a3 a4
      subst hm a4
      have hdel : del = false := by simpa using a3
      subst hdel
      obtain ⟨l⟩ := sl
      simp only at hs
      subst hs
      exact ⟨nm, qn, ns, bs, bm, sn, sub, ab, col, dd, k0, k1, k2, k3, k5, ho, a5⟩
    · cases g2
  · cases h1
/-- an instance's class as isinstance sees it -/
def clsB (K : PySem.W.Frag) (C : Addr) : Bool := He.eqO (PySem.W.findIn K (.ref C) "__class__") (some (some (.builtin "object.__class__"))) && (decide (PySem.W.specialIn K (.builtin "object.__class__") "__get__" = some (some (.builtin "getset_descriptor.__get__"))) &&
  (decide (PySem.W.takesIn K (.builtin "object.__class__") = some true) && decide (PySem.W.mroIn K C (.type "object") = some true)))
def insB (K : PySem.W.Frag) (C : Addr) : Bool := clsB K C && decide (PySem.W.kitOne K (.ref C) (.ref C) = some true)
theorem insB_ok (c : Cls K C) (h : insB K C = true) : C8.InsC K C := by
  obtain ⟨h, h5⟩ := He.ba h
  obtain ⟨h1, h⟩ := He.ba h
  obtain ⟨h2, h⟩ := He.ba h
  obtain ⟨h3, h4⟩ := He.ba h
  exact ⟨c, He.eqO_ok h1, of_decide_eq_true h2, of_decide_eq_true h3, of_decide_eq_true h4, of_decide_eq_true h5⟩
def eqB (K : PySem.W.Frag) (C : Addr) : Bool := decide (PySem.W.mroIn K C (.type "object") = some true) && (He.eqO (PySem.W.findIn K (.ref C) "__eq__") (some (some (.builtin "object.__eq__"))) && He.eqO (PySem.W.findIn K (.ref C) "__ne__") (some (some (.builtin "object.__ne__"))))
theorem eqB_ok (h : eqB K C = true) : DefEq K C := by
  obtain ⟨h1, h⟩ := He.ba h
  obtain ⟨h2, h3⟩ := He.ba h
  exact ⟨of_decide_eq_true h1, He.eqO_ok h2, He.eqO_ok h3⟩
def excB (K : PySem.W.Frag) (C : Addr) : Bool := xfB K C && clsB K C
theorem excB_ok (h : excB K C = true) : L2.ExcC K C := by
  obtain ⟨h1, h⟩ := He.ba h
  have x := xfB_ok h1
  obtain ⟨a1, h⟩ := He.ba h
  obtain ⟨a2, h⟩ := He.ba h
  obtain ⟨a3, a4⟩ := He.ba h
  exact ⟨x.ga, x.gg, x.exC, x.hdC, He.eqO_ok a1, of_decide_eq_true a2, of_decide_eq_true a3, of_decide_eq_true a4⟩
/-- C.m is the def itself -/
def clmB (K : PySem.W.Frag) (C : Addr) (m : Str) : Bool := PySem.W.readsIn K C (.type "type") && (decide (PySem.W.specialIn K (.ref C) "__getattribute__" = some (some (.builtin "type.__getattribute__"))) && (match PySem.W.findCls K (.ref C) (.type "type") m with
  | some (.val (.ref f)) => decide (f = He.ma K C m)
  | _ => false))
theorem clmB_ok {mg : Str → Option Value} {x m : Str} (g : mg x = some (.ref C)) (M : Meth K C m (He.ma K C m)) (h : clmB K C m = true) : ClsA K mg x C m := by
  obtain ⟨h1, h⟩ := He.ba h
  obtain ⟨h2, h3⟩ := He.ba h
  refine ⟨g, .type "type", He.ma K C m, ⟨h1, of_decide_eq_true h2⟩, ?_, M⟩
  split at h3
  · rename_i f e
    rw [e, of_decide_eq_true h3]
  · cases h3
/-! ### the head's objects, and the statics -/
theorem saysS {fa : List He.Fa} {fn : List He.DefD} {ts : List He.Tab} {tf : List He.Defn} {ex : PySem.W.Frag → Bool} {w : World} {h : Heap} {as : List Addr} (e : ((He.obsT fa fn ts (He.frT h.get? as), ex (He.frT h.get? as) && He.tabsB h.get? tf (He.frT h.get? as)) : He.AlX) = He.valX fn ts w) :
    He.SaysX fa fn ts tf ex w h (He.frT h.get? as) := by
  obtain ⟨h1, h2⟩ := He.ba (show (ex (He.frT h.get? as) && He.tabsB h.get? tf (He.frT h.get? as)) = true from congrArg Prod.snd e)
  have one : ∀ q ∈ tf, PySem.W.codeHdIn (He.frT h.get? as) (He.cT (He.frT h.get? as) q).1 (He.cT (He.frT h.get? as) q).2 = true ∧ ∃ o, h.get? (He.cT (He.frT h.get? as) q).2 = some o ∧ He.emptyTab o = true := fun q hq => by
    obtain ⟨h3, h4⟩ := He.ba (List.all_eq_true.mp h2 q hq)
    cases z : h.get? (He.cT (He.frT h.get? as) q).2 with
    | none => rw [z] at h4; cases h4
    | some o => rw [z] at h4; exact ⟨h3, o, rfl, h4⟩
  refine ⟨congrArg Prod.fst e, h1, fun q hq => (one q hq).1, fun q hq => ?_, fun q hq => ?_⟩
  · obtain ⟨_, o, z, y⟩ := one q hq
    exact He.frT_none z y
  · obtain ⟨_, o, z, y⟩ := one q hq
    rw [z, He.emptyTab_eq y]
def obsS (n : Nat) (fa : List He.Fa) (fn : List He.DefD) (ts : List He.Tab) (tf : List He.Defn) (ex : PySem.W.Frag → Bool) (g : Addr → Option Obj) : He.AlX :=
  (He.obsT fa fn ts (He.frT g (cStatics :: He.asD g n)), ex (He.frT g (cStatics :: He.asD g n)) && He.tabsB g tf (He.frT g (cStatics :: He.asD g n)))
def hookS (n : Nat) (fa : List He.Fa) (fn : List He.DefD) (ts : List He.Tab) (tf : List He.Defn) (ex : PySem.W.Frag → Bool) : PySem.W.Hook where
  α := He.AlX
  obs := fun s => obsS n fa fn ts tf ex s.heap.get?
  val := fun w => He.valX fn ts w
  says := fun w h => ∃ K : PySem.W.Frag, K.In h ∧ He.SaysX fa fn ts tf ex w h K
  of := fun _ _ e => ⟨_, He.frT_in, saysS e⟩
  keeps := fun _ _ _ ⟨K, hK, c⟩ k => ⟨K, hK.keeps k, c.t, c.more, c.hd, c.out, fun q hq => k _ _ (c.empty q hq)⟩
theorem obsS_eq {n : Nat} {fa : List He.Fa} {fn : List He.DefD} {ts : List He.Tab} {tf : List He.Defn} {ex : PySem.W.Frag → Bool} {g : Addr → Option Obj} {s : Shared} (h : ∀ a, g a = s.heap.get? a) : obsS n fa fn ts tf ex g = (hookS n fa fn ts tf ex).obs s := by
  obtain rfl : g = s.heap.get? := funext h
  rfl
theorem code_of {p : He.Defn} {x q : Str} {params : Arguments} {body : List Stmt} {scope : Scope} {dvs : List V} {kws : List (Str × V)} {fd : FuncData} (F : FunD K x q params body scope dvs kws (He.fAd K p) fd) : fd.code = .ref (He.codeOf K p) := by
  obtain ⟨oc, od, dV, kV, doc, pm, an, cdv, ct, osl, rfl, lk, hcd, _, _⟩ := F.ex
  obtain ⟨c, e⟩ := He.codeIn_ref hcd
  have e2 : (PySem.W.fnOf x q params body scope dV kV doc pm an cdv ct).code = Value.ref c := e
  rw [He.codeOf_eq lk e2]
  exact e2
end
end Fw
namespace Kq
open PySem PySem.Spec PyProof.Rows L2 Fw
def dN : Nat → Str
  | 0 => "NoHouse"
  | 1 => "Taken"
  | 2 => "NoTalk"
  | 3 => "TooMany"
  | 4 => "NoMark"
  | 5 => "Broken"
  | 6 => "Lack"
  | _ => "NoName"
abbrev dA (K : PySem.W.Frag) (i : Nat) : Addr := He.ga K (dN i)
def rowB (K : PySem.W.Frag) (C : Addr) (j : Nat) : Bool := ((List.range 8).all fun i => decide (PySem.W.kitOne K (.ref C) (.ref (dA K i)) = some (decide (i = j)))) && (decide (PySem.W.kitOne K (.ref C) (.type "ValueError") = some true) && excB K C)
theorem rowB_ok {K : PySem.W.Frag} {C CH : Addr} {j : Nat} (h : rowB K C j = true) (m : PySem.W.exmOne K (.ref C) (.ref CH) = some true) (n : PySem.W.findIn K (.ref C) "label" = some none) : Row K (dA K) CH C j := by
  obtain ⟨h1, h⟩ := He.ba h
  obtain ⟨h2, h3⟩ := He.ba h
  exact ⟨fun i hi => of_decide_eq_true (List.all_eq_true.mp h1 i (List.mem_range.mpr hi)), of_decide_eq_true h2, m, excB_ok h3, xfB_ok (He.ba h3).1, n⟩
def tfs : List He.Defn := [("_law_built", none), ("law", none)]
abbrev tb1 (K : PySem.W.Frag) : Addr := (He.cT K ("_law_built", none)).2
abbrev tb2 (K : PySem.W.Frag) : Addr := (He.cT K ("law", none)).2
abbrev tT (K : PySem.W.Frag) : List (Addr × Str) := [(tb1 K, qb), (tb2 K, ql)]
def exB (K : PySem.W.Frag) : Bool := rowB K (He.ga K "NoHouse") 0 && (rowB K (He.ga K "Taken") 1 && (oexB K (He.ga K "NoHouse") && (oexB K (He.ga K "Taken") && (insB K (He.ga K "House") && (insB K (He.ga K "Book") && (eqB K (He.ga K "House") && (eqB K (He.ga K "Book") && (clmB K (He.ga K "Store") "__init__" && !decide (tb1 K = tb2 K)))))))))
/-! ### the facts -/
def d_is_int : He.DefD := ⟨("is_int", none), "is_int", "is_int", defArgs s_is_int, defBody s_is_int, defScope s_is_int, [.int 0], []⟩
def d_is_text : He.DefD := ⟨("is_text", none), "is_text", "is_text", defArgs s_is_text, defBody s_is_text, defScope s_is_text, [.int 40], []⟩
def d_are_rows : He.DefD := ⟨("are_rows", none), "are_rows", "are_rows", defArgs s_are_rows, defBody s_are_rows, defScope s_are_rows, [], []⟩
def d_is_name : He.DefD := ⟨("is_name", none), "is_name", "is_name", defArgs s_is_name, defBody s_is_name, defScope s_is_name, [], []⟩
def d_depth_of : He.DefD := ⟨("depth_of", none), "depth_of", "depth_of", defArgs s_depth_of, defBody s_depth_of, defScope s_depth_of, [], []⟩
def d_is_content : He.DefD := ⟨("is_content", none), "is_content", "is_content", defArgs s_is_content, defBody s_is_content, defScope s_is_content, [], []⟩
def d_l_deck : He.DefD := ⟨("_law_deck", none), "_law_deck", "_law_deck", defArgs s_l_deck, defBody s_l_deck, defScope s_l_deck, [], []⟩
def d_l_mixed : He.DefD := ⟨("_law_mixed", none), "_law_mixed", "_law_mixed", defArgs s_l_mixed, defBody s_l_mixed, defScope s_l_mixed, [], []⟩
def d_l_draw : He.DefD := ⟨("_law_draw", none), "_law_draw", "_law_draw", defArgs s_l_draw, defBody s_l_draw, defScope s_l_draw, [], []⟩
def d_l_label : He.DefD := ⟨("_law_label", none), "_law_label", "_law_label", defArgs s_l_label, defBody s_l_label, defScope s_l_label, [], []⟩
def d_l_alike : He.DefD := ⟨("_law_alike", none), "_law_alike", "_law_alike", defArgs s_l_alike, defBody s_l_alike, defScope s_l_alike, [], []⟩
def d_l_town_why : He.DefD := ⟨("_law_town_why", none), "_law_town_why", "_law_town_why", defArgs s_l_town_why, defBody s_l_town_why, defScope s_l_town_why, [], []⟩
def d_l_built : He.DefD := ⟨("_law_built", none), "_law_built", "_law_built", defArgs s_l_built, defBody s_l_built, defScope s_l_built, [], []⟩
def d_l_stands : He.DefD := ⟨("_law_stands", none), "_law_stands", "_law_stands", defArgs s_l_stands, defBody s_l_stands, defScope s_l_stands, [], []⟩
def d_law : He.DefD := ⟨("law", none), "law", "law", defArgs s_law, defBody s_law, defScope s_law, [], []⟩
def m_Book_init : He.DefD := ⟨("Book", some "__init__"), "__init__", "Book.__init__", defArgs s_Book___init__, defBody s_Book___init__, defScope s_Book___init__, [], []⟩
def m_Book_len : He.DefD := ⟨("Book", some "__len__"), "__len__", "Book.__len__", defArgs s_Book___len__, defBody s_Book___len__, defScope s_Book___len__, [], []⟩
def m_Book_named : He.DefD := ⟨("Book", some "named"), "named", "Book.named", defArgs s_Book_named, defBody s_Book_named, defScope s_Book_named, [], []⟩
def m_Book_thing : He.DefD := ⟨("Book", some "thing"), "thing", "Book.thing", defArgs s_Book_thing, defBody s_Book_thing, defScope s_Book_thing, [], []⟩
def m_Book_kind : He.DefD := ⟨("Book", some "kind"), "kind", "Book.kind", defArgs s_Book_kind, defBody s_Book_kind, defScope s_Book_kind, [], []⟩
def m_Store_init : He.DefD := ⟨("Store", some "__init__"), "__init__", "Store.__init__", defArgs s_Store___init__, defBody s_Store___init__, defScope s_Store___init__, [], []⟩
def m_House_init : He.DefD := ⟨("House", some "__init__"), "__init__", "House.__init__", defArgs s_House___init__, defBody s_House___init__, defScope s_House___init__, [], []⟩
def m_House_put : He.DefD := ⟨("House", some "put"), "put", "Store.put", defArgs s_Store_put, defBody s_Store_put, defScope s_Store_put, [], []⟩
def m_House_write : He.DefD := ⟨("House", some "write"), "write", "Store.write", defArgs s_Store_write, defBody s_Store_write, defScope s_Store_write, [], []⟩
def m_House_held : He.DefD := ⟨("House", some "held"), "held", "Store.held", defArgs s_Store_held, defBody s_Store_held, defScope s_Store_held, [], []⟩
def m_Town_init : He.DefD := ⟨("Town", some "__init__"), "__init__", "Town.__init__", defArgs s_Town___init__, defBody s_Town___init__, defScope s_Town___init__, [], []⟩
def m_Town_build : He.DefD := ⟨("Town", some "build"), "build", "Town.build", defArgs s_Town_build, defBody s_Town_build, defScope s_Town_build, [], []⟩
def m_Town_house : He.DefD := ⟨("Town", some "house"), "house", "Town.house", defArgs s_Town_house, defBody s_Town_house, defScope s_Town_house, [], []⟩
def m_Town_labels : He.DefD := ⟨("Town", some "labels"), "labels", "Town.labels", defArgs s_Town_labels, defBody s_Town_labels, defScope s_Town_labels, [], []⟩
def m_Town_sweep : He.DefD := ⟨("Town", some "sweep"), "sweep", "Town.sweep", defArgs s_Town_sweep, defBody s_Town_sweep, defScope s_Town_sweep, [], []⟩
def m_NoHouse_init : He.DefD := ⟨("NoHouse", some "__init__"), "__init__", "NoHouse.__init__", defArgs s_NoHouse___init__, defBody s_NoHouse___init__, defScope s_NoHouse___init__, [], []⟩
def m_Taken_init : He.DefD := ⟨("Taken", some "__init__"), "__init__", "Taken.__init__", defArgs s_Taken___init__, defBody s_Taken___init__, defScope s_Taken___init__, [], []⟩
def fn : List He.DefD := [d_is_int, d_is_text, d_are_rows, d_is_name, d_depth_of, d_is_content, d_l_deck, d_l_mixed, d_l_draw, d_l_label, d_l_alike, d_l_town_why, d_l_built, d_l_stands, d_law] ++ [m_Book_init, m_Book_len, m_Book_named, m_Book_thing, m_Book_kind, m_Store_init, m_House_init, m_House_put, m_House_write, m_House_held, m_Town_init, m_Town_build, m_Town_house, m_Town_labels, m_Town_sweep, m_NoHouse_init, m_Taken_init]
def fa0 : List He.Fa := [.glo "is_int", .glo "is_text", .glo "are_rows", .glo "is_name", .glo "depth_of", .glo "is_content", .glo "_law_deck", .glo "_law_mixed", .glo "_law_draw", .glo "_law_label", .glo "_law_alike", .glo "_law_town_why", .glo "_law_built", .glo "_law_stands", .glo "law", .glo "NoHouse", .glo "Taken", .glo "NoTalk", .glo "TooMany", .glo "NoMark", .glo "Broken", .glo "Lack", .glo "NoName", .glo "HouseError", .glo "Book", .glo "Store", .glo "House", .glo "Town", .free "len", .free "isinstance"]
def fa1 : List He.Fa := [.free "all", .free "str", .free "int", .free "bool", .free "tuple", .free "list", .free "range", .free "sorted", .free "set", .free "ValueError", .int "MOST" 400, .str "LETTERS" sNum, .str "SIGNS" sSig, .cls "Book", .cls "House", .cls "Town", .cls "Store", .mkr "Book", .mkr "House", .mkr "Town", .noat "Book" "contents", .noat "Book" "depths", .noat "Book" "given", .noat "House" "book", .noat "House" "here", .noat "House" "turns", .noat "House" "stands", .noat "House" "lately", .noat "House" "others", .noat "House" "pinned"]
def fa2 : List He.Fa := [.noat "Town" "book", .noat "Town" "homes", .noat "Town" "talks", .noat "NoHouse" "label", .noat "Taken" "label", .meth "Book" "__init__", .meth "Book" "__len__", .meth "Book" "named", .meth "Book" "thing", .meth "Book" "kind", .meth "Store" "__init__", .meth "House" "__init__", .meth "House" "put", .meth "House" "write", .meth "House" "held", .meth "Town" "__init__", .meth "Town" "build", .meth "Town" "house", .meth "Town" "labels", .meth "Town" "sweep", .meth "NoHouse" "__init__", .meth "Taken" "__init__", .exm "NoHouse" "HouseError" true, .exm "Taken" "HouseError" true]
def fa : List He.Fa := fa0 ++ (fa1 ++ (fa2))
def lo0 : List Str := ["_wall", "HouseError", "NoThing", "NoName", "TooMany", "NoMark", "Lack", "NoHouse", "Taken", "NoTalk", "Broken", "FEW", "SIGNS", "LETTERS", "is_int", "is_text", "is_label", "rise", "are_ints", "rising_ints", "is_pair", "are_rows", "MOST", "DEEP", "Book", "is_name", "is_kind", "is_entry", "is_tree", "depth_of"]
def lo1 : List Str := ["is_version", "is_content", "ALL", "held_parts", "keeping", "Holding", "Store", "House", "Town", "_law_deck", "_law_mixed", "_law_draw", "_law_label", "_law_alike", "_law_town_why", "_law_built", "_law_stands"]
def lo : List Str := lo0 ++ lo1
abbrev R : PySem.W.OpenRow := PySem.W.OpenLaw.row PySem.Challenge.rw_fewasks_k80_houses_of_a_town
abbrev hk : PySem.W.Hook := hookS 5 fa fn [] tfs exB
def ob (s : PySem.W.SharedT) : He.AlX := obsS 5 fa fn [] tfs exB (HandSHeadRun.getT s)
theorem ob_eq (s : PySem.W.SharedT) : ob s = hk.obs s.abs := obsS_eq (HandSHeadRun.getT_eq s)
theorem run0 (w : World) : HandSHeadRun.RunEq R (PySem.W.view R.prog [56]) hk ob 20000 lo (w.withFollow "special-get-raises" false) := by
  intro os
  kernel_rfl
theorem run1 (w : World) : HandSHeadRun.RunEq R (PySem.W.view R.prog [56]) hk ob 20000 lo (w.withFollow "special-get-raises" true) := by
  intro os
  kernel_rfl
theorem run (w : World) : HandSHeadRun.RunEq R (PySem.W.view R.prog [56]) hk ob 20000 lo w := PySem.W.byRow2 "special-get-raises" (P := fun w => HandSHeadRun.RunEq R (PySem.W.view R.prog [56]) hk ob 20000 lo w) run0 run1 w
end Kq
set_option Elab.async false
set_option linter.all false
set_option maxRecDepth 100000
set_option maxHeartbeats 0
namespace Kq
open PySem PySem.Spec PyProof.Rows L2 Fw
theorem facts {P : Program} {w : World} {K : PySem.W.Frag} {h : Heap} {mg : Str → Option Value} {fa0 : Addr} (X : K.In h) (G : h.Ns mainGlobals mg) (hfa : mg ("law" : Str) = some (.ref fa0)) (cc : He.SaysX fa fn [] tfs exB w h K) :
    ∃ fd : FuncData, (∀ (s : Shared) (v : Value), BindsTo s fd ⟨[v], []⟩ [("_law_script", v)]) ∧ ∀ base : Heap, K.In base → base.Ns mainGlobals mg → (∀ p ∈ tfs.map (He.cT K), LamX.TabB base mg p.1 p.2) → FnOk P w K mg base (L2.CX P w) 8 fa0 fd ["_law_script"] (spLaw K (tT K)) := by
  have c : He.SaysD fa fn K := cc.t.d
  have g_NoHouse := He.glo_ok X G (c.fact 15 (f := .glo "NoHouse") rfl)
  have g_Taken := He.glo_ok X G (c.fact 16 (f := .glo "Taken") rfl)
  have g_NoTalk := He.glo_ok X G (c.fact 17 (f := .glo "NoTalk") rfl)
  have g_TooMany := He.glo_ok X G (c.fact 18 (f := .glo "TooMany") rfl)
  have g_NoMark := He.glo_ok X G (c.fact 19 (f := .glo "NoMark") rfl)
  have g_Broken := He.glo_ok X G (c.fact 20 (f := .glo "Broken") rfl)
  have g_Lack := He.glo_ok X G (c.fact 21 (f := .glo "Lack") rfl)
  have g_NoName := He.glo_ok X G (c.fact 22 (f := .glo "NoName") rfl)
  have g_HouseError := He.glo_ok X G (c.fact 23 (f := .glo "HouseError") rfl)
  have g_Book := He.glo_ok X G (c.fact 24 (f := .glo "Book") rfl)
  have g_Store := He.glo_ok X G (c.fact 25 (f := .glo "Store") rfl)
  have g_House := He.glo_ok X G (c.fact 26 (f := .glo "House") rfl)
  have g_Town := He.glo_ok X G (c.fact 27 (f := .glo "Town") rfl)
  obtain ⟨b1, be⟩ := He.ba cc.more
  obtain ⟨b2, be⟩ := He.ba be
  obtain ⟨b3, be⟩ := He.ba be
  obtain ⟨b4, be⟩ := He.ba be
  obtain ⟨b5, be⟩ := He.ba be
  obtain ⟨b6, be⟩ := He.ba be
  obtain ⟨b7, be⟩ := He.ba be
  obtain ⟨b8, be⟩ := He.ba be
  obtain ⟨b9, b10⟩ := He.ba be
  have neT : tb1 K ≠ tb2 K := by simpa using b10
  have c_Book := He.cls_ok (c.fact 43 (f := .cls "Book") rfl)
  have c_House := He.cls_ok (c.fact 44 (f := .cls "House") rfl)
  have c_Town := He.cls_ok (c.fact 45 (f := .cls "Town") rfl)
  have c_Store := He.cls_ok (c.fact 46 (f := .cls "Store") rfl)
  have k_Book := He.mkr_ok (c.fact 47 (f := .mkr "Book") rfl)
  have k_House := He.mkr_ok (c.fact 48 (f := .mkr "House") rfl)
  have k_Town := He.mkr_ok (c.fact 49 (f := .mkr "Town") rfl)
  have T : Txt K w mg (He.ga K "NoHouse") (He.ga K "Book") (He.ga K "HouseError") := ⟨He.free_ok X G (c.fact 28 (f := .free "len") rfl), He.free_ok X G (c.fact 29 (f := .free "isinstance") rfl), He.free_ok X G (c.fact 30 (f := .free "all") rfl), He.free_ok X G (c.fact 31 (f := .free "str") rfl), He.free_ok X G (c.fact 32 (f := .free "int") rfl), He.free_ok X G (c.fact 33 (f := .free "bool") rfl), He.free_ok X G (c.fact 34 (f := .free "tuple") rfl), He.free_ok X G (c.fact 35 (f := .free "list") rfl), He.free_ok X G (c.fact 36 (f := .free "range") rfl), He.free_ok X G (c.fact 37 (f := .free "sorted") rfl), He.free_ok X G (c.fact 38 (f := .free "set") rfl), He.free_ok X G (c.fact 39 (f := .free "ValueError") rfl), He.str_ok X G (c.fact 41 (f := .str "LETTERS" sNum) rfl), He.str_ok X G (c.fact 42 (f := .str "SIGNS" sSig) rfl), He.int_ok X G (c.fact 40 (f := .int "MOST" 400) rfl), g_NoHouse, g_Book, g_HouseError⟩
  have T2 : TxE mg (dA K) := ⟨g_NoHouse, g_Taken, g_NoTalk, g_TooMany, g_NoMark, g_Broken, g_Lack, g_NoName⟩
  have TO : TxO mg (He.ga K "House") := ⟨g_House⟩
  have TB : TxtB K (He.ga K "Book") := ⟨c_Book, He.noat_ok (c.fact 50 (f := .noat "Book" "contents") rfl), He.noat_ok (c.fact 51 (f := .noat "Book" "depths") rfl), He.noat_ok (c.fact 52 (f := .noat "Book" "given") rfl)⟩
  have TH : TxtH K (He.ga K "House") := ⟨c_House, He.noat_ok (c.fact 53 (f := .noat "House" "book") rfl), He.noat_ok (c.fact 54 (f := .noat "House" "here") rfl), He.noat_ok (c.fact 55 (f := .noat "House" "turns") rfl), He.noat_ok (c.fact 56 (f := .noat "House" "stands") rfl), He.noat_ok (c.fact 57 (f := .noat "House" "lately") rfl), He.noat_ok (c.fact 58 (f := .noat "House" "others") rfl), He.noat_ok (c.fact 59 (f := .noat "House" "pinned") rfl)⟩
  have TW : TxtW K (He.ga K "Town") := ⟨c_Town, He.noat_ok (c.fact 60 (f := .noat "Town" "book") rfl), He.noat_ok (c.fact 61 (f := .noat "Town" "homes") rfl), He.noat_ok (c.fact 62 (f := .noat "Town" "talks") rfl)⟩
  have R0 : Row K (dA K) (He.ga K "HouseError") (He.ga K "NoHouse") 0 := rowB_ok b1 (He.exm_ok (c.fact 82 (f := .exm "NoHouse" "HouseError" true) rfl)) (He.noat_ok (c.fact 63 (f := .noat "NoHouse" "label") rfl))
  have R1 : Row K (dA K) (He.ga K "HouseError") (He.ga K "Taken") 1 := rowB_ok b2 (He.exm_ok (c.fact 83 (f := .exm "Taken" "HouseError" true) rfl)) (He.noat_ok (c.fact 64 (f := .noat "Taken" "label") rfl))
  have IH := insB_ok c_House b5
  have IB := insB_ok c_Book b6
  have DO := eqB_ok b7
  have DB := eqB_ok b8
  obtain ⟨fd_is_int, F_is_int⟩ := c.def_ 0 (d := d_is_int) rfl
  have g_is_int := He.glo_ok X G (c.fact 0 (f := .glo "is_int") rfl)
  have A_is_int : Atd K mg "is_int" s_is_int ["thing", "least"] [.int 0] := by
    obtain ⟨ds, hv, hb⟩ := FunD.binds1 (ps := ["thing", "least"]) F_is_int 1 0 (by intro z; cases z) rfl (fun T0 kV doc pm an cdv ct us its h1 h2 => by
      match us, its, h1, h2 with
      | [u0], [i0], _, _ => exact ⟨_, rfl, rfl⟩)
    exact ⟨_, _, ds, F_is_int, g_is_int, hb, hv⟩
  obtain ⟨fd_is_text, F_is_text⟩ := c.def_ 1 (d := d_is_text) rfl
  have g_is_text := He.glo_ok X G (c.fact 1 (f := .glo "is_text") rfl)
  have A_is_text : Atd K mg "is_text" s_is_text ["thing", "most"] [.int 40] := by
    obtain ⟨ds, hv, hb⟩ := FunD.binds1 (ps := ["thing", "most"]) F_is_text 1 0 (by intro z; cases z) rfl (fun T0 kV doc pm an cdv ct us its h1 h2 => by
      match us, its, h1, h2 with
      | [u0], [i0], _, _ => exact ⟨_, rfl, rfl⟩)
    exact ⟨_, _, ds, F_is_text, g_is_text, hb, hv⟩
  obtain ⟨fd_are_rows, F_are_rows⟩ := c.def_ 2 (d := d_are_rows) rfl
  have g_are_rows := He.glo_ok X G (c.fact 2 (f := .glo "are_rows") rfl)
  have b_are_rows := F_are_rows.bindsN (ps := ["thing"]) fun _ _ _ _ _ _ us hl => match us, hl with | [_], _ => rfl
  have A_are_rows : At K mg "are_rows" s_are_rows ["thing"] := ⟨_, _, F_are_rows, g_are_rows, b_are_rows⟩
  obtain ⟨fd_is_name, F_is_name⟩ := c.def_ 3 (d := d_is_name) rfl
  have g_is_name := He.glo_ok X G (c.fact 3 (f := .glo "is_name") rfl)
  have b_is_name := F_is_name.bindsN (ps := ["book", "thing"]) fun _ _ _ _ _ _ us hl => match us, hl with | [_, _], _ => rfl
  have A_is_name : At K mg "is_name" s_is_name ["book", "thing"] := ⟨_, _, F_is_name, g_is_name, b_is_name⟩
  obtain ⟨fd_depth_of, F_depth_of⟩ := c.def_ 4 (d := d_depth_of) rfl
  have g_depth_of := He.glo_ok X G (c.fact 4 (f := .glo "depth_of") rfl)
  have b_depth_of := F_depth_of.bindsN (ps := ["book", "content"]) fun _ _ _ _ _ _ us hl => match us, hl with | [_, _], _ => rfl
  have A_depth_of : At K mg "depth_of" s_depth_of ["book", "content"] := ⟨_, _, F_depth_of, g_depth_of, b_depth_of⟩
  obtain ⟨fd_is_content, F_is_content⟩ := c.def_ 5 (d := d_is_content) rfl
  have g_is_content := He.glo_ok X G (c.fact 5 (f := .glo "is_content") rfl)
  have b_is_content := F_is_content.bindsN (ps := ["book", "thing"]) fun _ _ _ _ _ _ us hl => match us, hl with | [_, _], _ => rfl
  have A_is_content : At K mg "is_content" s_is_content ["book", "thing"] := ⟨_, _, F_is_content, g_is_content, b_is_content⟩
  obtain ⟨fd_l_deck, F_l_deck⟩ := c.def_ 6 (d := d_l_deck) rfl
  have g_l_deck := He.glo_ok X G (c.fact 6 (f := .glo "_law_deck") rfl)
  have b_l_deck := F_l_deck.bindsN (ps := ["_law_script"]) fun _ _ _ _ _ _ us hl => match us, hl with | [_], _ => rfl
  have A_l_deck : At K mg "_law_deck" s_l_deck ["_law_script"] := ⟨_, _, F_l_deck, g_l_deck, b_l_deck⟩
  obtain ⟨fd_l_mixed, F_l_mixed⟩ := c.def_ 7 (d := d_l_mixed) rfl
  have g_l_mixed := He.glo_ok X G (c.fact 7 (f := .glo "_law_mixed") rfl)
  have b_l_mixed := F_l_mixed.bindsN (ps := ["_law_cell", "_law_turn"]) fun _ _ _ _ _ _ us hl => match us, hl with | [_, _], _ => rfl
  have A_l_mixed : At K mg "_law_mixed" s_l_mixed ["_law_cell", "_law_turn"] := ⟨_, _, F_l_mixed, g_l_mixed, b_l_mixed⟩
  obtain ⟨fd_l_draw, F_l_draw⟩ := c.def_ 8 (d := d_l_draw) rfl
  have g_l_draw := He.glo_ok X G (c.fact 8 (f := .glo "_law_draw") rfl)
  have b_l_draw := F_l_draw.bindsN (ps := ["_law_deck_here", "_law_many"]) fun _ _ _ _ _ _ us hl => match us, hl with | [_, _], _ => rfl
  have A_l_draw : At K mg "_law_draw" s_l_draw ["_law_deck_here", "_law_many"] := ⟨_, _, F_l_draw, g_l_draw, b_l_draw⟩
  obtain ⟨fd_l_label, F_l_label⟩ := c.def_ 9 (d := d_l_label) rfl
  have g_l_label := He.glo_ok X G (c.fact 9 (f := .glo "_law_label") rfl)
  have b_l_label := F_l_label.bindsN (ps := ["_law_deck_here"]) fun _ _ _ _ _ _ us hl => match us, hl with | [_], _ => rfl
  have A_l_label : At K mg "_law_label" s_l_label ["_law_deck_here"] := ⟨_, _, F_l_label, g_l_label, b_l_label⟩
  obtain ⟨fd_l_alike, F_l_alike⟩ := c.def_ 10 (d := d_l_alike) rfl
  have g_l_alike := He.glo_ok X G (c.fact 10 (f := .glo "_law_alike") rfl)
  have b_l_alike := F_l_alike.bindsN (ps := ["_law_found", "_law_due"]) fun _ _ _ _ _ _ us hl => match us, hl with | [_, _], _ => rfl
  have A_l_alike : At K mg "_law_alike" s_l_alike ["_law_found", "_law_due"] := ⟨_, _, F_l_alike, g_l_alike, b_l_alike⟩
  obtain ⟨fd_l_town_why, F_l_town_why⟩ := c.def_ 11 (d := d_l_town_why) rfl
  have g_l_town_why := He.glo_ok X G (c.fact 11 (f := .glo "_law_town_why") rfl)
  have b_l_town_why := F_l_town_why.bindsN (ps := ["_law_deed"]) fun _ _ _ _ _ _ us hl => match us, hl with | [_], _ => rfl
  have A_l_town_why : At K mg "_law_town_why" s_l_town_why ["_law_deed"] := ⟨_, _, F_l_town_why, g_l_town_why, b_l_town_why⟩
  obtain ⟨fd_l_built, F_l_built⟩ := c.def_ 12 (d := d_l_built) rfl
  have g_l_built := He.glo_ok X G (c.fact 12 (f := .glo "_law_built") rfl)
  have b_l_built := F_l_built.bindsN (ps := ["_law_deck_here", "_law_town", "_law_homes"]) fun _ _ _ _ _ _ us hl => match us, hl with | [_, _, _], _ => rfl
  obtain ⟨fd_l_stands, F_l_stands⟩ := c.def_ 13 (d := d_l_stands) rfl
  have g_l_stands := He.glo_ok X G (c.fact 13 (f := .glo "_law_stands") rfl)
  have b_l_stands := F_l_stands.bindsN (ps := ["_law_town", "_law_homes", "_law_held"]) fun _ _ _ _ _ _ us hl => match us, hl with | [_, _, _], _ => rfl
  have A_l_stands : At K mg "_law_stands" s_l_stands ["_law_town", "_law_homes", "_law_held"] := ⟨_, _, F_l_stands, g_l_stands, b_l_stands⟩
  obtain ⟨fd_law, F_law⟩ := c.def_ 14 (d := d_law) rfl
  have g_law := He.glo_ok X G (c.fact 14 (f := .glo "law") rfl)
  have b_law := F_law.bindsN (ps := ["_law_script"]) fun _ _ _ _ _ _ us hl => match us, hl with | [_], _ => rfl
  obtain ⟨fm_Book_init, FM_Book_init⟩ := c.def_ 15 (d := m_Book_init) rfl
  have mt_Book_init := He.meth_ok (c.fact 65 (f := .meth "Book" "__init__") rfl)
  have bm_Book_init := FM_Book_init.bindsN (ps := ["self"]) fun _ _ _ _ _ _ us hl => match us, hl with | [_], _ => rfl
  have AM_Book_init : AtM K (He.ga K "Book") "__init__" "Book.__init__" s_Book___init__ ["self"] := ⟨_, _, FM_Book_init, c_Book, mt_Book_init, bm_Book_init⟩
  obtain ⟨fm_Book_len, FM_Book_len⟩ := c.def_ 16 (d := m_Book_len) rfl
  have mt_Book_len := He.meth_ok (c.fact 66 (f := .meth "Book" "__len__") rfl)
  have bm_Book_len := FM_Book_len.bindsN (ps := ["self"]) fun _ _ _ _ _ _ us hl => match us, hl with | [_], _ => rfl
  have AM_Book_len : AtM K (He.ga K "Book") "__len__" "Book.__len__" s_Book___len__ ["self"] := ⟨_, _, FM_Book_len, c_Book, mt_Book_len, bm_Book_len⟩
  obtain ⟨fm_Book_named, FM_Book_named⟩ := c.def_ 17 (d := m_Book_named) rfl
  have mt_Book_named := He.meth_ok (c.fact 67 (f := .meth "Book" "named") rfl)
  have bm_Book_named := FM_Book_named.bindsN (ps := ["self", "content"]) fun _ _ _ _ _ _ us hl => match us, hl with | [_, _], _ => rfl
  have AM_Book_named : AtM K (He.ga K "Book") "named" "Book.named" s_Book_named ["self", "content"] := ⟨_, _, FM_Book_named, c_Book, mt_Book_named, bm_Book_named⟩
  obtain ⟨fm_Book_thing, FM_Book_thing⟩ := c.def_ 18 (d := m_Book_thing) rfl
  have mt_Book_thing := He.meth_ok (c.fact 68 (f := .meth "Book" "thing") rfl)
  have bm_Book_thing := FM_Book_thing.bindsN (ps := ["self", "name"]) fun _ _ _ _ _ _ us hl => match us, hl with | [_, _], _ => rfl
  have AM_Book_thing : AtM K (He.ga K "Book") "thing" "Book.thing" s_Book_thing ["self", "name"] := ⟨_, _, FM_Book_thing, c_Book, mt_Book_thing, bm_Book_thing⟩
  obtain ⟨fm_Book_kind, FM_Book_kind⟩ := c.def_ 19 (d := m_Book_kind) rfl
  have mt_Book_kind := He.meth_ok (c.fact 69 (f := .meth "Book" "kind") rfl)
  have bm_Book_kind := FM_Book_kind.bindsN (ps := ["self", "name"]) fun _ _ _ _ _ _ us hl => match us, hl with | [_, _], _ => rfl
  have AM_Book_kind : AtM K (He.ga K "Book") "kind" "Book.kind" s_Book_kind ["self", "name"] := ⟨_, _, FM_Book_kind, c_Book, mt_Book_kind, bm_Book_kind⟩
  obtain ⟨fm_Store_init, FM_Store_init⟩ := c.def_ 20 (d := m_Store_init) rfl
  have mt_Store_init := He.meth_ok (c.fact 70 (f := .meth "Store" "__init__") rfl)
  have bm_Store_init := FM_Store_init.bindsN (ps := ["self", "book"]) fun _ _ _ _ _ _ us hl => match us, hl with | [_, _], _ => rfl
  have AM_Store_init : AtM K (He.ga K "Store") "__init__" "Store.__init__" s_Store___init__ ["self", "book"] := ⟨_, _, FM_Store_init, c_Store, mt_Store_init, bm_Store_init⟩
  obtain ⟨fm_House_init, FM_House_init⟩ := c.def_ 21 (d := m_House_init) rfl
  have mt_House_init := He.meth_ok (c.fact 71 (f := .meth "House" "__init__") rfl)
  have bm_House_init := FM_House_init.bindsN (ps := ["self", "book"]) fun _ _ _ _ _ _ us hl => match us, hl with | [_, _], _ => rfl
  have AM_House_init : AtM K (He.ga K "House") "__init__" "House.__init__" s_House___init__ ["self", "book"] := ⟨_, _, FM_House_init, c_House, mt_House_init, bm_House_init⟩
  obtain ⟨fm_House_put, FM_House_put⟩ := c.def_ 22 (d := m_House_put) rfl
  have mt_House_put := He.meth_ok (c.fact 72 (f := .meth "House" "put") rfl)
  have bm_House_put := FM_House_put.bindsN (ps := ["self", "name"]) fun _ _ _ _ _ _ us hl => match us, hl with | [_, _], _ => rfl
  have AM_House_put : AtM K (He.ga K "House") "put" "Store.put" s_Store_put ["self", "name"] := ⟨_, _, FM_House_put, c_House, mt_House_put, bm_House_put⟩
  obtain ⟨fm_House_write, FM_House_write⟩ := c.def_ 23 (d := m_House_write) rfl
  have mt_House_write := He.meth_ok (c.fact 73 (f := .meth "House" "write") rfl)
  have bm_House_write := FM_House_write.bindsN (ps := ["self", "content"]) fun _ _ _ _ _ _ us hl => match us, hl with | [_, _], _ => rfl
  have AM_House_write : AtM K (He.ga K "House") "write" "Store.write" s_Store_write ["self", "content"] := ⟨_, _, FM_House_write, c_House, mt_House_write, bm_House_write⟩
  obtain ⟨fm_House_held, FM_House_held⟩ := c.def_ 24 (d := m_House_held) rfl
  have mt_House_held := He.meth_ok (c.fact 74 (f := .meth "House" "held") rfl)
  have bm_House_held := FM_House_held.bindsN (ps := ["self"]) fun _ _ _ _ _ _ us hl => match us, hl with | [_], _ => rfl
  have AM_House_held : AtM K (He.ga K "House") "held" "Store.held" s_Store_held ["self"] := ⟨_, _, FM_House_held, c_House, mt_House_held, bm_House_held⟩
  obtain ⟨fm_Town_init, FM_Town_init⟩ := c.def_ 25 (d := m_Town_init) rfl
  have mt_Town_init := He.meth_ok (c.fact 75 (f := .meth "Town" "__init__") rfl)
  have bm_Town_init := FM_Town_init.bindsN (ps := ["self"]) fun _ _ _ _ _ _ us hl => match us, hl with | [_], _ => rfl
  have AM_Town_init : AtM K (He.ga K "Town") "__init__" "Town.__init__" s_Town___init__ ["self"] := ⟨_, _, FM_Town_init, c_Town, mt_Town_init, bm_Town_init⟩
  obtain ⟨fm_Town_build, FM_Town_build⟩ := c.def_ 26 (d := m_Town_build) rfl
  have mt_Town_build := He.meth_ok (c.fact 76 (f := .meth "Town" "build") rfl)
  have bm_Town_build := FM_Town_build.bindsN (ps := ["self", "label"]) fun _ _ _ _ _ _ us hl => match us, hl with | [_, _], _ => rfl
  have AM_Town_build : AtM K (He.ga K "Town") "build" "Town.build" s_Town_build ["self", "label"] := ⟨_, _, FM_Town_build, c_Town, mt_Town_build, bm_Town_build⟩
  obtain ⟨fm_Town_house, FM_Town_house⟩ := c.def_ 27 (d := m_Town_house) rfl
  have mt_Town_house := He.meth_ok (c.fact 77 (f := .meth "Town" "house") rfl)
  have bm_Town_house := FM_Town_house.bindsN (ps := ["self", "label"]) fun _ _ _ _ _ _ us hl => match us, hl with | [_, _], _ => rfl
  have AM_Town_house : AtM K (He.ga K "Town") "house" "Town.house" s_Town_house ["self", "label"] := ⟨_, _, FM_Town_house, c_Town, mt_Town_house, bm_Town_house⟩
  obtain ⟨fm_Town_labels, FM_Town_labels⟩ := c.def_ 28 (d := m_Town_labels) rfl
  have mt_Town_labels := He.meth_ok (c.fact 78 (f := .meth "Town" "labels") rfl)
  have bm_Town_labels := FM_Town_labels.bindsN (ps := ["self"]) fun _ _ _ _ _ _ us hl => match us, hl with | [_], _ => rfl
  have AM_Town_labels : AtM K (He.ga K "Town") "labels" "Town.labels" s_Town_labels ["self"] := ⟨_, _, FM_Town_labels, c_Town, mt_Town_labels, bm_Town_labels⟩
  obtain ⟨fm_Town_sweep, FM_Town_sweep⟩ := c.def_ 29 (d := m_Town_sweep) rfl
  have mt_Town_sweep := He.meth_ok (c.fact 79 (f := .meth "Town" "sweep") rfl)
  have bm_Town_sweep := FM_Town_sweep.bindsN (ps := ["self", "label"]) fun _ _ _ _ _ _ us hl => match us, hl with | [_, _], _ => rfl
  have AM_Town_sweep : AtM K (He.ga K "Town") "sweep" "Town.sweep" s_Town_sweep ["self", "label"] := ⟨_, _, FM_Town_sweep, c_Town, mt_Town_sweep, bm_Town_sweep⟩
  obtain ⟨fm_NoHouse_init, FM_NoHouse_init⟩ := c.def_ 30 (d := m_NoHouse_init) rfl
  have mt_NoHouse_init := He.meth_ok (c.fact 80 (f := .meth "NoHouse" "__init__") rfl)
  have bm_NoHouse_init := FM_NoHouse_init.bindsN (ps := ["self", "label"]) fun _ _ _ _ _ _ us hl => match us, hl with | [_, _], _ => rfl
  have AX_NoHouse : AtX K mg "NoHouse" (He.ga K "NoHouse") "label" "NoHouse.__init__" s_NoHouse___init__ ["self", "label"] := ⟨⟨oexB_ok b3, He.noat_ok (c.fact 63 (f := .noat "NoHouse" "label") rfl)⟩, g_NoHouse, _, _, FM_NoHouse_init, mt_NoHouse_init.at_, beq_iff_eq.mp mt_NoHouse_init.fn, bm_NoHouse_init⟩
  obtain ⟨fm_Taken_init, FM_Taken_init⟩ := c.def_ 31 (d := m_Taken_init) rfl
  have mt_Taken_init := He.meth_ok (c.fact 81 (f := .meth "Taken" "__init__") rfl)
  have bm_Taken_init := FM_Taken_init.bindsN (ps := ["self", "label"]) fun _ _ _ _ _ _ us hl => match us, hl with | [_, _], _ => rfl
  have AX_Taken : AtX K mg "Taken" (He.ga K "Taken") "label" "Taken.__init__" s_Taken___init__ ["self", "label"] := ⟨⟨oexB_ok b4, He.noat_ok (c.fact 64 (f := .noat "Taken" "label") rfl)⟩, g_Taken, _, _, FM_Taken_init, mt_Taken_init.at_, beq_iff_eq.mp mt_Taken_init.fn, bm_Taken_init⟩
  have S_Store := clmB_ok g_Store mt_Store_init b9
  have e := hfa.symm.trans g_law
  cases e
  have b := FunD.bindsA (ps := ["_law_script"]) F_law fun _ _ _ _ _ _ us hl => match us, hl with | [_], _ => rfl
  refine ⟨fd_law, fun s v => b s [v] rfl, fun base _ _ hTB => ?_⟩
  have TB1 := hTB (He.cT K ("_law_built", none)) (List.mem_map_of_mem (by simp [tfs]))
  have TB2 := hTB (He.cT K ("law", none)) (List.mem_map_of_mem (by simp [tfs]))
  have A_l_built : AtL K mg base "_law_built" s_l_built ["_law_deck_here", "_law_town", "_law_homes"] (tb1 K) := ⟨_, _, _, F_l_built, g_l_built, b_l_built, code_of (p := ("_law_built", none)) F_l_built, TB1⟩
  have A_law : AtL K mg base "law" s_law ["_law_script"] (tb2 K) := ⟨_, _, _, F_law, g_law, b_law, code_of (p := ("law", none)) F_law, TB2⟩
  have G_is_int := ok_is_int (P := P) (base := base) T A_is_int
  have G_is_text := ok_is_text (P := P) (base := base) T A_is_text
  have G_are_rows := ok_are_rows T A_are_rows G_is_text
  have G_deck := ok_deck (P := P) (base := base) T A_l_deck
  have G_mixed := ok_mixed (P := P) (base := base) T A_l_mixed
  have G_draw := ok_draw T A_l_draw G_mixed
  have G_label := ok_label T A_l_label G_draw
  have G_is_name := ok_is_name T TB A_is_name G_is_int
  have G_depth_of := ok_depth_of (P := P) (base := base) T A_depth_of
  have G_is_content := ok_is_content T A_is_content G_are_rows
  have N_init := ok_bk_init (P := P) (base := base) T TB AM_Book_init
  have N_len := ok_bk_len (P := P) (base := base) T TB AM_Book_len
  have N_named := ok_named T TB AM_Book_named G_is_content G_depth_of
  have N_thing := ok_thing T TB AM_Book_thing G_is_name
  have N_kind := ok_kind T TB AM_Book_kind N_thing
  have C_Book := Dfm.made N_init k_Book g_Book
  have N_st := ok_st_init (P := P) (base := base) T TH AM_Store_init
  have N_hs := ok_hs_init (P := P) (base := base) T TH AM_House_init S_Store N_st
  have C_House := Dfm.made N_hs k_House g_House
  have N_put := ok_put T TH AM_House_put G_is_name
  have N_held := ok_held (P := P) (base := base) T TH AM_House_held
  have N_write := ok_write T TH AM_House_write N_named N_put
  have X_NoHouse : ExF P w K mg base "NoHouse" (He.ga K "NoHouse") "label" := AX_NoHouse.ok ⟨rfl, rfl, rfl, by decide +kernel, rfl, by decide +kernel, by decide +kernel⟩ rfl (.inl rfl) (.inl rfl)
  have X_Taken : ExF P w K mg base "Taken" (He.ga K "Taken") "label" := AX_Taken.ok ⟨rfl, rfl, rfl, by decide +kernel, rfl, by decide +kernel, by decide +kernel⟩ rfl (.inl rfl) (.inl rfl)
  have N_tn := ok_tn_init (P := P) (base := base) (CO := He.ga K "House") T TB TW AM_Town_init C_Book
  have C_Town := Dfm.made N_tn k_Town g_Town
  have N_build := ok_build T TB TH TW AM_Town_build C_House X_Taken
  have N_house := ok_house (CB := He.ga K "Book") (CO := He.ga K "House") T TW AM_Town_house X_NoHouse
  have N_labels := ok_labels (P := P) (base := base) (CB := He.ga K "Book") (CO := He.ga K "House") T TW AM_Town_labels
  have N_sweep := ok_sweep T TW AM_Town_sweep N_house
  have G_al0 := ok_alike0 T A_l_alike (At.no (P := P) (w := w) (base := base) A_l_alike sc_l_alike)
  have G_al1 := ok_alike1 T A_l_alike G_al0
  have G_alike : Dfn P w K mg base 3 "_law_alike" ["_law_found", "_law_due"] (spAl K) := (G_al0.mono (by decide)).or (j := 0) G_al1
  have WD := why_of A_l_town_why
  have hu1 : ∀ p ∈ tT K, p.1 = tb1 K → p.2 = qb := fun p hp e => by
    simp only [List.mem_cons, List.not_mem_nil, or_false] at hp
    rcases hp with rfl | rfl
    · rfl
    · exact absurd e.symm neT
  have hu2 : ∀ p ∈ tT K, p.1 = tb2 K → p.2 = ql := fun p hp e => by
    simp only [List.mem_cons, List.not_mem_nil, or_false] at hp
    rcases hp with rfl | rfl
    · exact absurd e neT
    · rfl
  have G_built := ok_built T T2 TO TW IH DO R0 R1 (T8 := tT K) (by simp) hu1 A_l_built WD G_label G_alike N_build N_house
  have G_stands := ok_stands T TH TW DO DB A_l_stands G_alike N_labels N_house N_held
  have all := ok_law T T2 TB TH TW IB DO DB R0 (T8 := tT K) (by simp) hu2 A_law WD G_deck G_draw G_label G_alike G_built G_stands C_Town N_labels N_write N_len N_kind N_sweep
  obtain ⟨f', fd', hF, hm', hk', hb', oc', od', osl', hl'⟩ := all.ex
  rw [hfa] at hm'
  cases hm'
  obtain ⟨oc, od, dV, kV, doc, pm, an, cdv, ct, osl, e1, lk, _⟩ := F_law.ex
  have lk2 : K.lookup (He.ga K "law") = some ⟨oc, od, .func fd_law, osl⟩ := lk
  rw [lk2] at hl'
  cases hl'
  exact hF
end Kq
open PySem PySem.W PySem.Calls PyProof.Rows
theorem PySem.Challenge.cw_fewasks_k80_houses_of_a_town_holds : PySem.Challenge.rw_fewasks_k80_houses_of_a_town.Holds := by
  w_on; o_law
  refine HandSHeadRun.head_any (r := OpenLaw.row PySem.Challenge.rw_fewasks_k80_houses_of_a_town) (q := view (OpenLaw.row PySem.Challenge.rw_fewasks_k80_houses_of_a_town).prog [56]) (H := Kq.hk) (ob := Kq.ob) (M := 20000) (loose := Kq.lo) (d := HandSHeadRun.topDef (OpenLaw.row PySem.Challenge.rw_fewasks_k80_houses_of_a_town).prog 56) (kwd := []) Kq.ob_eq
    (by kernel_rfl) (fun s => by kernel_rfl) Kq.run (by kernel_rfl) (by kernel_rfl) (by kernel_rfl) (by rfl) (by first | assumption | decide +kernel) (by decide +kernel) ⟨rfl, rfl, rfl, rfl, rfl, by decide +kernel⟩ ?hw ?hc
  case hw => w_witness2
  case hc =>
    refine LamX.walk_ofTsE (l := PySem.Challenge.rw_fewasks_k80_houses_of_a_town) (n := 63) (k := 8) (x := "_law_script") (CX := fun w => L2.CX PySem.Challenge.rw_fewasks_k80_houses_of_a_town.prog w) rfl (by decide) (by kernel_rfl) ⟨rfl, by decide, by decide⟩ ?F (fun w H s e s' z => ?_)
    · intro w mg fa h Y G hmg0
      obtain ⟨K, KX, c⟩ := Y
      have hmg : mg ("law" : PySem.Str) = some (.ref fa) := by
        have e : (HandSHeadRun.topDef (OpenLaw.row PySem.Challenge.rw_fewasks_k80_houses_of_a_town).prog 56).name = ("law" : PySem.Str) := by kernel_rfl
        rw [← e]
        exact hmg0
      obtain ⟨fd, hb, hF⟩ := Kq.facts (P := (PySem.Challenge.rw_fewasks_k80_houses_of_a_town).prog) (w := w) KX G hmg c
      have mp : ∀ {φ : PySem.Addr × PySem.Addr → Prop}, (∀ p ∈ Kq.tfs, φ (He.cT K p)) → ∀ p ∈ Kq.tfs.map (He.cT K), φ p := fun hφ p hp => by
        obtain ⟨q, hq, rfl⟩ := List.mem_map.mp hp
        exact hφ q hq
      refine ⟨K, KX, fd, Kq.tfs.map (He.cT K), Kq.spLaw K (Kq.tT K), mp (φ := fun p => h.get? p.2 = _) c.empty, mp (φ := fun p => K.lookup p.2 = none) c.out, mp (φ := fun p => PySem.W.CodeHd h p.1 p.2) fun p hp => PySem.W.codeHd_of_K KX (c.hd p hp), hb, fun H a ns hl _ hT hS => ⟨a, ns, rfl, hS, by omega, fun p hp => ?_, fun _ => rfl⟩, hF⟩
      simp only [Kq.tT, List.mem_cons, List.not_mem_nil, or_false] at hp
      rcases hp with rfl | rfl
      · exact LamX.TabS.nil (hT (He.cT K ("_law_built", none)) (List.mem_map_of_mem (by simp [Kq.tfs])))
      · exact LamX.TabS.nil (hT (He.cT K ("law", none)) (List.mem_map_of_mem (by simp [Kq.tfs])))
    · obtain ⟨_, _, _, _, _, _, _, _, _, _, _, _, z⟩ := z
      exact z
