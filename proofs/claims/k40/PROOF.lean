import PyProof.Rows.All
import Wide.All
import OpenK.AllK
import Wide.FinOn
import HandS.ForMost
import HandS.Flow
import KE.KExcSuper
import KE.KExcIs
import KE.KExcInit
import KE.KTryMore
import HandS.Exc
import HandS.IsInst
import HandS.TupAny
import HandS.TupMul
import HandS.Steps
import HandS.Conv
import HandS.Codes
import HandS.StrMore
import HandS.Style
import HandS.Walk
import PyProof.ReprRoads
import PyProof.StrLawsRepr
import KE.GoesMore
import PyProof.StrLawsIn
import HandS.ExcValue
import HandS.SetFor
import PyProof.EqKinds
import HandS.Lambda
import KE.KNestM
import HandS.Property
import HandS.Defaults
import HandS.OwnEq
import HandS.NoneIn
import PyProof.InstEq
import KE.KOpsOwn
import HandS.SlotsOwn
import HandS.Wide
import HandS.More
import HandS.Head2
import HandS.HeadHook4
import PySem.Challenge.RW_headerfold_k40_moments_refused
set_option Elab.async false
set_option linter.all false
set_option maxRecDepth 100000
set_option maxHeartbeats 4000000
namespace Hf
open PySem L2 PySem.Spec PyProof.Rows

/-! ### calls where nothing is being shown (repr's own guard list is known) -/
structure RG (k : Nat) (A : Around) : Prop where
  rm : Room k A
  gd : A.guards = some []
theorem RG.mono {j k : Nat} {A : Around} (r : RG k A) (h : j ≤ k) : RG j A := ⟨r.rm.mono h, r.gd⟩
theorem RG.deeper {k : Nat} {A : Around} (r : RG (k + 1) A) (env : Env) : RG k (A.deeper env) := ⟨r.rm.deeper env, r.gd⟩
structure FnG (P : Program) (w : World) (K : PySem.W.Frag) (mg : Str → Option Value) (base : Heap) (CX : CXT) (k : Nat) (f : Addr) (fd : FuncData) (ps : List Str) (sp : Sp) : Prop where
  many : ∀ xs H Q E, sp xs H Q E → xs.length = ps.length
  go : ∀ (A : Around) (outer : List Env) (s : Shared) (H : Hp) (args : Args) (us : List Value) (xs : List V) (Q : VK) (E : XK), RG k A → Env0 P w K mg base A outer s H → BindsTo s fd args (ps.zip us) →
    Vals xs us → sp xs H Q E → codeAny (model P w) A (.call (.ref f) args) (CR CX outer P w H s Q E) s
section
variable {P : Program} {w : World} {K : PySem.W.Frag} {mg : Str → Option Value} {base : Heap}
theorem FnG.mono {CX : CXT} {j k : Nat} {f : Addr} {fd : FuncData} {ps : List Str} {sp : Sp} (F : FnG P w K mg base CX j f fd ps sp) (h : j ≤ k) : FnG P w K mg base CX k f fd ps sp :=
  ⟨F.many, fun A outer s H args us xs Q E r => F.go A outer s H args us xs Q E (r.mono h)⟩
theorem FnG.imp {CX : CXT} {k : Nat} {f : Addr} {fd : FuncData} {ps : List Str} {sp sp' : Sp} (F : FnG P w K mg base CX k f fd ps sp) (h : ∀ xs H Q E, sp' xs H Q E → sp xs H Q E) : FnG P w K mg base CX k f fd ps sp' :=
  ⟨fun xs H Q E q => F.many xs H Q E (h _ _ _ _ q), fun A outer s H args us xs Q E r e0 b v q => F.go A outer s H args us xs Q E r e0 b v (h _ _ _ _ q)⟩
/-- a def of the text, by its body -/
theorem fnG_of {CX : CXT} {k : Nat} {f : Addr} {name qual : Str} {pa : Arguments} {bd : List Stmt} {sc : Scope} {dV kV doc pm cdv ct oc : Value} {an od : Option Addr} {osl : Array (Option Value)} {N ps : List Str} {sp : Sp}
    (lk : K.lookup f = some ⟨oc, od, .func (PySem.W.fnOf name qual pa bd sc dV kV doc pm an cdv ct), osl⟩) (hcd : PySem.W.codeIn K cdv qual = true) (S : FnScope N ps sc) (many : ∀ xs H Q E, sp xs H Q E → xs.length = ps.length)
    (hb : ∀ (A : Around) (outer : List Env) (s : Shared) (H : Hp) (xs : List V) (Q : VK) (E : XK), RG k (A.deeper (envOfC qual sc s.heap.objs.size f cdv)) → sp xs H Q E →
      ∃ t, PSs (cxOf CX P w K mg base N qual sc f cdv A outer s H E) bd t ∧ t { nx := fun _ H' => Q .non H', rt := Q } (start N xs) H) :
    FnG P w K mg base CX (k + 1) f (PySem.W.fnOf name qual pa bd sc dV kV doc pm an cdv ct) ps sp := by
  refine ⟨many, ?_⟩
  intro A outer s H args us xs Q E r e0 bt rv q
  have n1 := many _ _ _ _ q
  have kin : K.In s.heap := e0.mod.kin.keeps (fun b o z => (e0.bs b o z).1)
  have lim : s.heap.NoLimit := e0.mod.nolimit.keeps (fun b o z => (e0.bs b o z).1)
  have kinds : ∀ y ∈ ps.zip us, sc.names.lookup y.1 = some .local ∨ (sc.names.lookup y.1 = some .cell ∧ ((cellsFrom (s.heap.objs.size + 1) sc.names []).lookup y.1).isSome = true) := by
    rintro ⟨n, v⟩ hy
    rcases S.par n (List.of_mem_zip hy).1 with z | z
    · left; exact z
    · right; exact ⟨z, PySem.W.cellsFrom_some _ _ _ (.inl z)⟩
  refine codeAny_call_function r.rm.depth (kin _ _ lk) rfl S.co S.gen rfl (PySem.W.codeRec_of kin hcd) (bt _ _ _ _ ?_)
  refine wpAny_newFunctionEnv_cells S.kind kinds ?_
  intro env he s1 x
  subst he
  refine ⟨lim.keeps x.toInCall.keep, codeAny_func ?_⟩
  obtain ⟨t, ht, hq⟩ := hb A outer s H xs Q E (r.deeper _) q
  have I := inv_start (CX := CX) (E := E) (qual := qual) (f := f) (cd := cdv) S r.rm.hd e0 n1 rv x
  refine wpAny_mono (ht.run [] s1 (start N xs) H _ I hq) ?_ (fun e s' z => z)
  intro fl s' z
  match fl, z with
  | .ret u, ⟨v, σ', H', J, rv', q'⟩ => exact ⟨v, H', J.os, J.bare, J.base, J.hok, rv', q'⟩
  | .next, ⟨σ', H', J, q'⟩ => exact ⟨V.non, H', J.os, J.bare, J.base, J.hok, rfl, q'⟩
  | .brk, ⟨_, _, _, q'⟩ => exact q'.elim
  | .cont, ⟨_, _, _, q'⟩ => exact q'.elim
/-- .. that lets no exception out -/
theorem okG {x qual : Str} {st : Stmt} {f : Addr} {fd : FuncData} {N ps : List Str} {k : Nat} {sp : Sp} (F : Fun K x qual st f fd) (S : FnScope N ps (defScope st)) (many : ∀ xs H Q E, sp xs H Q E → xs.length = ps.length)
    (hb : ∀ (cdv : Value) (A : Around) (outer : List Env) (s : Shared) (H : Hp) (xs : List V) (Q : VK) (E : XK), RG k (A.deeper (envOfC qual (defScope st) s.heap.objs.size f cdv)) → sp xs H Q E →
      ∃ t, PSs (cxOf CX0 P w K mg base N qual (defScope st) f cdv A outer s H E).nox (defBody st) t ∧ t { nx := fun _ H' => Q .non H', rt := Q } (start N xs) H) : FnG P w K mg base CX0 (k + 1) f fd ps sp := by
  obtain ⟨oc, od, kV, doc, pm, an, cdv, ct, osl, rfl, lk, hcd⟩ := F.ex
  refine fnG_of lk hcd S many ?_
  intro A outer s H xs Q E r q
  obtain ⟨t, h, z⟩ := hb cdv A outer s H xs Q E r q
  exact ⟨t, h.nox, z⟩
end

/-! ### calls by name -/
/-- how n positional values and the keywords ks come to the parameters -/
def Bnd (st : Stmt) (x qual : Str) (ps : List Str) (n : Nat) (ks : List Str) (g : {α : Type} → List α → List α → List α) : Prop :=
  ∀ (kV doc pm : Value) (an : Option Addr) (cdv ct : Value) (us ws : List Value), us.length = n → ws.length = ks.length →
    bindArgs (PySem.W.fnOf x qual (defArgs st) (defBody st) (defScope st) .none kV doc pm an cdv ct) ⟨us, ks.zip ws⟩ = pure (ps.zip (g us ws)) ∧ (g us ws).length = ps.length
/-- g is a shuffle: it hands on what stands in pairs -/
def Shuf (n m : Nat) (g : {α : Type} → List α → List α → List α) : Prop :=
  ∀ (xs : List V) (us : List Value) (zs : List V) (ws : List Value), Vals xs us → Vals zs ws → us.length = n → ws.length = m → Vals (g xs zs) (g us ws)
def tCallG (n m : Nat) (sp : Sp) (g : List V → List V → List V) (t tk : TA) : TE := fun σ H Q => t σ H fun xs H1 => tk σ H1 fun zs H2 => xs.length = n ∧ zs.length = m ∧ sp (g xs zs) H2 Q E0
/-- a def of the module under its name, with its promise -/
structure Df (P : Program) (w : World) (K : PySem.W.Frag) (mg : Str → Option Value) (base : Heap) (k : Nat) (x : Str) (st : Stmt) (ps : List Str) (sp : Sp) : Prop where
  ex : ∃ (f : Addr) (fd : FuncData), mg x = some (.ref f) ∧ Fun K x x st f fd ∧ FnG P w K mg base CX0 k f fd ps sp
section
variable {X : Cx} {k j n m : Nat} {ps ks : List Str} {sp : Sp} {x : Str} {st : Stmt} {p pos : Pos} {e : Expr} {es : List Expr} {kws : List Keyword} {t tk : TA} {g : {α : Type} → List α → List α → List α}
theorem goG {qual : Str} {pins : List (Addr × Obj)} {σ : L2.St} {H : Hp} {s : Shared} {Q : VK} {f : Addr} {fd : FuncData} {us ws : List Value} {xs zs : List V} (F : FnG X.prog X.w X.K X.mg X.base CX0 k f fd ps sp) (U : Fun X.K x qual st f fd)
    (hr : RG k X.A) (hb : Bnd st x qual ps n ks g) (hs : Shuf n ks.length g) (I : Inv X pins σ H s) (r : Vals xs us) (rz : Vals zs ws) (hn : xs.length = n) (hm : zs.length = ks.length) (q : sp (g xs zs) H Q E0) :
    wpAny (model X.prog X.w) X.A (call (.ref f) us (ks.zip ws)) (EP X pins σ Q) X.xe s := by
  obtain ⟨oc, od, kV, doc, pm, an, cdv, ct, osl, rfl, lk, hcd⟩ := U.ex
  have l1 : us.length = n := r.length ▸ hn
  have l2 : ws.length = ks.length := rz.length ▸ hm
  refine wpAny_call (codeAny_mono (F.go X.A X.stack s H ⟨us, ks.zip ws⟩ (g us ws) (g xs zs) Q E0 hr I.env0 (.of_eq (hb kV doc pm an cdv ct us ws l1 l2).1) (hs _ _ _ _ r rz l1 l2) q) ?_)
  intro res s' z
  match res, z with
  | .error e, z => exact z.elim
  | .ok (.ret u), z => exact I.after z
  | .ok .next, z => exact z.elim
  | .ok .brk, z => exact z.elim
  | .ok .cont, z => exact z.elim
theorem pe_callG (D : Df X.prog X.w X.K X.mg X.base k x st ps sp) (hr : RG j X.A) (hj : k ≤ j) (hb : Bnd st x x ps n ks g) (hs : Shuf n ks.length g) (ha : PA X (e :: es) t) (hkw : PK X kws tk) (hg : Gl X x := by rfl)
    (hall : (backToKw pos (keywordEach kws X.env)).all (·.1.isSome) = true := by rfl) (hks : (backToKw pos (keywordEach kws X.env)).filterMap (·.1) = ks := by rfl) (hdb : (x == ("__debug__" : Str)) = false := by decide)
    (he : starEach (e :: es) X.env = (false, eval e X.env) :: starEach es X.env := by rfl) (hpl : ((backTo pos (starEach (e :: es) X.env)).any (·.1) || (backToKw pos (keywordEach kws X.env)).any (·.1.isNone)) = false := by rfl) :
    PE X (.Call (.Name x p) (e :: es) kws pos) (tCallG n ks.length sp (fun a b => g a b) t tk) := by
  obtain ⟨f, fd, hm, U, F⟩ := D.ex
  refine ⟨?_⟩
  intro pins s σ H Q I h
  refine wpAny_Call_Name_kw (ld_glob I hg hm ?_ hdb)
  refine PySem.W.callWith_KW (h₀ := X.base) I.ok.mod.kin U.kp hall ?_ hpl he
  refine thn (ha.run pos pins s σ H _ I h) ?_
  rintro us s1 ⟨xs, H1, I1, r, q⟩
  refine thn (hkw.run pos pins s1 σ H1 _ I1 q) ?_
  rintro ws s2 ⟨zs, H2, I2, rz, q1, q2, q3⟩
  refine ⟨I2.kIn, ?_⟩
  rw [hks]
  exact goG F U (hr.mono hj) hb hs I2 r rz q1 q2 q3
theorem pe_callG0 (D : Df X.prog X.w X.K X.mg X.base k x st ps sp) (hr : RG j X.A) (hj : k ≤ j) (hb : Bnd st x x ps 0 ks g) (hs : Shuf 0 ks.length g) (hkw : PK X kws tk) (hg : Gl X x := by rfl)
    (hall : (backToKw pos (keywordEach kws X.env)).all (·.1.isSome) = true := by rfl) (hks : (backToKw pos (keywordEach kws X.env)).filterMap (·.1) = ks := by rfl) (hdb : (x == ("__debug__" : Str)) = false := by decide)
    (hpl : ((backTo pos (starEach [] X.env)).any (·.1) || (backToKw pos (keywordEach kws X.env)).any (·.1.isNone)) = false := by rfl) :
    PE X (.Call (.Name x p) [] kws pos) (tCallG 0 ks.length sp (fun a b => g a b) tNil tk) := by
  obtain ⟨f, fd, hm, U, F⟩ := D.ex
  refine ⟨?_⟩
  intro pins s σ H Q I h
  refine wpAny_Call_Name_kw (ld_glob I hg hm ?_ hdb)
  refine PySem.W.callWith_KW0 (h₀ := X.base) I.ok.mod.kin U.kp hall ?_ hpl
  refine thn (hkw.run pos pins s σ H _ I h) ?_
  rintro ws s2 ⟨zs, H2, I2, rz, q1, q2, q3⟩
  refine ⟨I2.kIn, ?_⟩
  rw [hks]
  exact goG F U (hr.mono hj) hb hs I2 .nil rz q1 q2 q3
end
/-! ### how many values -/
theorem vals_0 {xs : List V} {us : List Value} (r : Vals xs us) (h : us.length = 0) : xs = [] ∧ us = [] := by
  cases r with
  | nil => exact ⟨rfl, rfl⟩
  | cons _ _ => exact nomatch h
theorem vals_S {n : Nat} {xs : List V} {us : List Value} (r : Vals xs us) (h : us.length = n + 1) : ∃ x u xs' us', xs = x :: xs' ∧ us = u :: us' ∧ RelV x u ∧ Vals xs' us' ∧ us'.length = n := by
  cases r with
  | nil => exact nomatch h
  | cons a b => exact ⟨_, _, _, _, rfl, rfl, a, b, Nat.succ.inj h⟩
end Hf

set_option Elab.async false
set_option linter.all false
set_option maxRecDepth 100000
set_option maxHeartbeats 4000000
namespace Hf
open PySem L2 PySem.Spec PyProof.Rows

/-! ### the end of a law -/
theorem lawG {P : Program} {w : World} {K : PySem.W.Frag} {mg mb : Str → Option Value} {k : Nat} {fa a : Addr} {fd : FuncData} {x : Str} {sp : Sp} {s₁ : Shared} {vs : List Value} {ns : List Int}
    (kin : K.In s₁.heap) (gl : s₁.heap.Ns mainGlobals mg) (bl : s₁.heap.Ns builtinsNs mb) (bb : ∀ x : Str, x ≠ "__name__" → mb x = bootBuiltins x) (lim : s₁.heap.NoLimit) (gn : s₁.gens = #[])
    (oa : s₁.heap.get? a = some { cls := .type "list", data := .seq vs.toArray }) (it : IntsAre vs ns) (sz : ns.length ≤ sizeLine) (rm : RG k callerA)
    (F : ∀ base : Heap, K.In base → base.Ns mainGlobals mg → FnG P w K mg base CX0 k fa fd [x] sp) (bd : ∀ (s : Shared) (u : Value), BindsTo s fd ⟨[u], []⟩ [(x, u)])
    (top : ∀ H : Hp, Only H → SqL K H a (ns.map V.int) → sp [.ref a] H (fun v _ => v = .bl true) E0) :
    codeAny (model P w) callerA (.call (.ref fa) ⟨[.ref a], []⟩) (fun r s' => r = .ok (.ret (.bool true)) ∧ OldK s₁.heap s'.heap ∧ s'.os = s₁.os ∧ AllBare s'.gens) s₁ := by
  have rv : Vals (ns.map V.int) vs := vals_ints it
  have n1 : vs.length = ns.length := it.length
  -- one abstract heap, in which at most the script is told
  have one : ∀ H : Hp, Only H → SqL K H a (ns.map V.int) → HOk P w H s₁.heap → (∀ b, H b ≠ none → b = a) → (H a ≠ none → K.lookup a = none) →
      codeAny (model P w) callerA (.call (.ref fa) ⟨[.ref a], []⟩) (fun r s' => r = .ok (.ret (.bool true)) ∧ OldK s₁.heap s'.heap ∧ s'.os = s₁.os ∧ AllBare s'.gens) s₁ := by
    intro H only seq hok at_a k_a
    have dictFree : ∀ b o es ep, s₁.heap.get? b = some o → o.data = .dict es ep → H b = none := by
      intro b o es ep ho hd
      refine Classical.byContradiction (fun hn => ?_)
      have eb := at_a b hn
      subst eb
      rw [oa] at ho
      have ho' := Option.some.inj ho
      subst ho'
      exact nomatch hd
    have nsOf : ∀ b m, s₁.heap.Ns b m → (hidT s₁.heap H).Ns b m := by
      rintro b m ⟨o, es, ep, h1, h2, h3⟩
      exact ⟨o, es, ep, hidT_get h1 (dictFree b o es ep h1 h2), h2, h3⟩
    have kinB : K.In (hidT s₁.heap H) := by
      intro b o hb
      refine hidT_get (kin b o hb) (Classical.byContradiction (fun hn => ?_))
      have eb := at_a b hn
      subst eb
      rw [k_a hn] at hb
      exact nomatch hb
    have md : Mod K mg (hidT s₁.heap H) := by
      obtain ⟨mc, c1, c2⟩ := lim
      exact ⟨kinB, nsOf _ _ gl, ⟨mb, nsOf _ _ bl, bb⟩, ⟨mc, nsOf _ _ c1, c2⟩⟩
    have e0 : Env0 P w K mg (hidT s₁.heap H) callerA [] s₁ H := ⟨rfl, md, fun b o z => of_hidT z, Nat.le_of_eq (hidT_size _ _), trivial, fun b hb => (List.not_mem_nil hb).elim, hok, .of_eq gn⟩
    refine codeAny_mono ((F _ kinB (nsOf _ _ gl)).go callerA [] s₁ H ⟨[.ref a], []⟩ [.ref a] [.ref a] _ _ rm e0 (bd s₁ (.ref a)) (.cons rfl .nil) (top H only seq)) ?_
    intro r s' z
    match r, z with
    | .error e, z => exact z.elim
    | .ok .next, z => exact z.elim
    | .ok .brk, z => exact z.elim
    | .ok .cont, z => exact z.elim
    | .ok (.ret u), ⟨v, H', os, bare, un, hok', rr, ev⟩ =>
      have ev' : v = .bl true := ev
      subst ev'
      have eu : u = Value.bool true := rr
      subst eu
      refine ⟨rfl, OldK.of_keep (fun b o hb => ?_), os, bare⟩
      cases q : H b with
      | none => exact un.keep b o hb q (fun z => (List.not_mem_nil z).elim) (fun z => (List.not_mem_nil z).elim)
      | some u =>
        rcases only b with z | ⟨ob, xs, z⟩
        · rw [q] at z; exact nomatch z
        · obtain ⟨e1, _⟩ := hok b _ z
          obtain ⟨e2, _⟩ := hok' b _ (un.frzs b ob _ z)
          rw [hb] at e1
          have e1' := Option.some.inj e1
          subst e1'
          exact e2
  by_cases hk : K.lookup a = none
  · refine one (fun b => if b = a then some (.frz { cls := .type "list", data := .seq vs.toArray } (.lst (ns.map V.int))) else none) ?_ ?_ ?_ ?_ (fun _ => hk)
    · intro b
      by_cases hb : b = a
      · right; exact ⟨_, _, if_pos hb⟩
      · left; exact if_neg hb
    · left; right; exact ⟨_, if_pos rfl⟩
    · intro b u z
      by_cases hb : b = a
      · subst hb
        have z' := Option.some.inj ((if_pos rfl).symm.trans z)
        subst z'
        exact ⟨oa, by rw [List.length_map]; exact sz, vs, _, rv, oa⟩
      · exact nomatch ((if_neg hb).symm.trans z)
    · intro b z
      exact Classical.byContradiction fun hb => z (if_neg hb)
  · obtain ⟨o, ho⟩ := Option.ne_none_iff_exists'.mp hk
    have eo := kin a o ho
    rw [oa] at eo
    have eo' := Option.some.inj eo
    subst eo'
    refine one (fun _ => none) (fun _ => .inl rfl) (.inr ⟨_, vs.toArray, _, ho, rfl, rfl, rfl, by rw [List.size_toArray, n1]; exact sz, by simpa using rv⟩) (fun _ _ z => nomatch z) (fun _ z => (z rfl).elim) (fun z => (z rfl).elim)
theorem walkG {l : PySem.W.OpenLaw} {n k : Nat} {q : Program} {loose : List Str} {XP : (Str → Option Value) → Heap → Prop} {YP : World → Heap → Prop} {d : DefRec} {K : Params → PySem.W.Frag} {sp : World → Sp} {x : Str}
    (hn : l.most = some n) (hn2 : n ≤ sizeLine) (hdf : d.params.defaults = []) (rm : RG k callerA) (hY : ∀ (w : World) (h : Heap), YP w h → (K w.params).In h)
    (F : ∀ (w : World) (mg : Str → Option Value) (fa : Addr) (h : Heap), (K w.params).In h → h.Ns mainGlobals mg → mg d.name = some (.ref fa) →
      ∃ fd : FuncData, (∀ (s : Shared) (u : Value), BindsTo s fd ⟨[u], []⟩ [(x, u)]) ∧ ∀ base : Heap, (K w.params).In base → base.Ns mainGlobals mg → FnG l.prog w (K w.params) mg base CX0 k fa fd [x] (sp w))
    (top : ∀ (w : World) (H : Hp) (a : Addr) (ns : List Int), ns.length ≤ n → Only H → SqL (K w.params) H a (ns.map V.int) → sp w [.ref a] H (fun v _ => v = .bl true) E0) :
    PySem.W.WalkO q loose XP YP l.row.toRowW d [] (fun f vs => PySem.call f vs) := by
  refine Att.attach_call hn hdf ?_
  intro w s₀ s₁ mg mb fa o pm cd doc a vs ns G Y ho hd hcd hmg hobj hints hlen hg
  have kin := hY w _ Y
  obtain ⟨fd, hb, hF⟩ := F w mg fa _ kin G.T.g hmg
  exact lawG kin G.T.g G.T.b G.T.builtins G.T.nolimit hg hobj hints (Nat.le_trans hlen hn2) rm hF hb (fun H hO hS => top w H a ns hlen hO hS)


/-! ### repr of data -/
mutual
theorem dp_plain {K : PySem.W.Frag} {H : Hp} : ∀ (d : PyData) (v : V), Dp K H v d → d.hasDict = false
  | .none, _, _ => by simp only [PyData.hasDict]
  | .bool _, _, _ => by simp only [PyData.hasDict]
  | .int _, _, _ => by simp only [PyData.hasDict]
  | .str _, _, _ => by simp only [PyData.hasDict]
  | .list ds, _, .lst _ ha => by
    simp only [PyData.hasDict]
    exact dps_plain ds _ ha
  | .tuple ds, _, .tup _ ha => by
    simp only [PyData.hasDict]
    exact dps_plain ds _ ha
theorem dps_plain {K : PySem.W.Frag} {H : Hp} : ∀ (ds : List PyData) (vs : List V), DpAll K H vs ds → PyData.hasDictAll ds = false
  | [], _, _ => by simp only [PyData.hasDictAll]
  | d :: ds, _, .cons h1 h2 => by
    simp only [PyData.hasDictAll, dp_plain d _ h1, dps_plain ds _ h2, Bool.or_self]
end
def Shows (d : PyData) : Prop := d.showable = true ∧ d.depth ≤ 40 ∧ d.shown.length ≤ sizeLine
def rRepr (K : PySem.W.Frag) : List V → Hp → VK → Prop := fun vs H Q => ∃ v d, vs = [v] ∧ Dp K H v d ∧ Shows d ∧ Q (.str d.shown) H
theorem call_repr {X : Cx} {k : Nat} (hr : RG k X.A) : CallR X (.builtin "repr") (rRepr X.K) := by
  intro pins s σ H xs us Q I r h
  obtain ⟨v, d, rfl, hd, ⟨h1, h2, h3⟩, q⟩ := h
  cases r with
  | cons rv rn =>
    rename_i u us'
    cases rn
    obtain ⟨as, rd⟩ := Dp.reads I d v u hd rv
    have hu : X.A.units + 64 < cLine := hr.rm.units
    have nd := PyData.noDict_hsm (as := as) (dp_plain d v hd)
    cases rd with
    | none =>
      simp only [PyData.shown] at q
      exact P.repr_of_none ⟨.str _, H, I.tok _, ⟨_, rfl⟩, q⟩
    | bool b =>
      simp only [PyData.shown] at q
      exact P.repr_of_bool ⟨.str _, H, I.tok _, ⟨_, rfl⟩, q⟩
    | int i t =>
      simp only [PyData.shown] at q
      exact P.repr_of_int (by simpa [PyData.showable] using h1) ⟨.str _, H, I.tok _, ⟨_, rfl⟩, q⟩
    | str x t =>
      simp only [PyData.shown] at q h3
      exact P.repr_of_str ⟨.str _, H, I.tok _, ⟨_, rfl⟩, q⟩ h3
    | list a b c e =>
      exact repr_of_reads' (.list a b c e) h1 nd hr.gd (by omega) (fun _ _ z => z) (fun h' u' tk kp => ⟨.str _, H, I.kept kp, ⟨_, rfl⟩, q⟩) h3
    | tuple a b c e =>
      exact repr_of_reads' (.tuple a b c e) h1 nd hr.gd (by omega) (fun _ _ z => z) (fun h' u' tk kp => ⟨.str _, H, I.kept kp, ⟨_, rfl⟩, q⟩) h3
    | dict a b c e f => cases hd
end Hf

set_option Elab.async false
set_option linter.all false
set_option maxRecDepth 100000
set_option maxHeartbeats 4000000
namespace Hf
open PySem L2 PySem.Spec PyProof.Rows
open PySem.HandSPX (excO)

/-! ### own exceptions: class X(F) over a built-in B, whose __init__ hands a text to super() and keeps its argument -/
def xArgs (fld : Str) (p1 p2 : Pos) : Arguments := { posonlyargs := [], args := [{ arg := "self", annotation := none, pos := p1 }, { arg := fld, annotation := none, pos := p2 }], vararg := none, kwonlyargs := [], kw_defaults := [], kwarg := none, defaults := [] }
def xBody (fld txt : Str) (r0 r1 r2 r3 r4 r5 r6 r7 r8 r9 : Pos) : List Stmt :=
  [.Expr (.Call (.Attribute (.Call (.Name "super" r0) [] [] r1) "__init__" r2) [.Constant (.str txt) 0 r3] [] r4) r5, .Assign [.Attribute (.Name "self" r6) fld r7] (.Name fld r8) r9]
def xScope (fld : Str) : Scope := { kind := .function, names := [(PySem.Str.ofString "self", .local), (fld, .local), (PySem.Str.ofString "__class__", .free), (PySem.Str.ofString "super", .globalImplicit)], isGenerator := false, isCoroutine := false, more := [] }
/-- the call super().__init__(txt), at its places in the text -/
def XCall (txt : Str) (r0 r1 r2 r3 r4 : Pos) : Prop := ∀ env : Env, eval (.Call (.Attribute (.Call (.Name "super" r0) [] [] r1) "__init__" r2) [.Constant (.str txt) 0 r3] [] r4) env = (do
  let ov ← attributeBase (.Call (.Name "super" r0) [] [] r1) "__init__" env (eval (.Call (.Name "super" r0) [] [] r1) env)
  standAt r2.atName
  let (f, first) ← holding [ov] (getMethod ov "__init__" (do return (← importBound (.Call (.Name "super" r0) [] [] r1) env).getD true))
  callWith r4 f first (backTo r4 (starEach [.Constant (.str txt) 0 r3] env)) [])
example : XCall "a" ⟨7, 8, 7, 13⟩ ⟨7, 8, 7, 15⟩ ⟨7, 8, 7, 24⟩ ⟨7, 25, 7, 37⟩ ⟨7, 8, 7, 38⟩ := fun _ => rfl
/-- a built-in exception class, as a base -/
structure XBase (B newId initId : String) (bm : List Value) : Prop where
  fb : ExcBaseFacts B newId initId bm
  kx : PySem.W.KxsFacts B initId
  sf : StoreFacts B bm "object.__setattr__" "object"
theorem xb_VE : XBase "ValueError" "ValueError.__new__" "ValueError.__init__" [.type "ValueError", .type "Exception", .type "BaseException", .type "object"] := ⟨F.excBase_ValueError, PySem.W.kxs_ValueError, F.store_ValueError⟩
theorem xb_RE : XBase "RuntimeError" "RuntimeError.__new__" "RuntimeError.__init__" [.type "RuntimeError", .type "Exception", .type "BaseException", .type "object"] := ⟨F.excBase_RuntimeError, PySem.W.kxs_RuntimeError, F.store_RuntimeError⟩
theorem xb_LE : XBase "LookupError" "LookupError.__new__" "LookupError.__init__" [.type "LookupError", .type "Exception", .type "BaseException", .type "object"] := ⟨F.excBase_LookupError, PySem.W.kxs_LookupError, F.store_LookupError⟩
/-- what the text says of the exception's class at C and of its __init__ at fI -/
structure XTxt (P : Program) (K : PySem.W.Frag) (fld : Str) (C fI : Addr) : Prop where
  cls : ∃ B newId initId bmB, XBase B newId initId bmB ∧ PySem.W.excInitIn K C bmB newId = true ∧ PySem.W.excOver K C bmB = true ∧ PySem.W.ks_superIn K C C "__init__" = some (some (.builtin initId)) ∧ PySem.W.subIn K (.ref C) (.type B) = some true
  sa : PySem.W.findIn K (.ref C) "__setattr__" = some (some (.builtin "object.__setattr__"))
  tk : PySem.W.takerIn K C fld = some none
  hd : PySem.W.hasDictIn K C = true
  iC : PySem.W.findIn K (.ref C) "__init__" = some (some (.ref fI))
  tI : PySem.W.typeIn K (.ref fI) = some (.type "function")
  mC : PySem.W.mroIn K C (.ref C) = some true
  nsu : PySem.W.nsIn K mainGlobals "super" = some none
  nop : PySem.W.nsIn K cStatics "thirdparty.any" = some none
  top : (P.main.scope.names.lookup ("super" : Str)).isSome = false
  nf : (fld == ("__debug__" : Str)) = false ∧ fld ≠ "self" ∧ (xScope fld).names.lookup fld = some .local ∧ (xScope fld).names.lookup ("__class__" : Str) = some .free ∧ (xScope fld).names.lookup ("super" : Str) = some .globalImplicit
  fn : ∃ (oc : Value) (od : Option Addr) (doc pm : Value) (an : Option Addr) (cda : Addr) (ct : Value) (osl : Array (Option Value)) (qual txt : Str) (cc : Addr) (p1 p2 r0 r1 r2 r3 r4 r5 r6 r7 r8 r9 : Pos)
    (ccl cl : Value) (cdd cld : Option Addr) (vs : Array Value) (ccs csl : Array (Option Value)) (file : Str) (tf : Tok),
    K.lookup fI = some ⟨oc, od, .func (PySem.W.ksFn "__init__" qual (xArgs fld p1 p2) (xBody fld txt r0 r1 r2 r3 r4 r5 r6 r7 r8 r9) (xScope fld) .none .none doc pm an (.ref cda) ct cc), osl⟩ ∧ PySem.W.codeIn K (.ref cda) qual = true ∧
    K.lookup cda = some ⟨ccl, cdd, .fields vs, ccs⟩ ∧ vs[2]? = some (.str file tf) ∧ ((P.main.file : Str) == file) = true ∧ K.lookup cc = some ⟨cl, cld, .cell (some (.ref C)), csl⟩ ∧ txt.length ≤ 1000 ∧ XCall txt r0 r1 r2 r3 r4 ∧
    (∀ a b, bindArgs (PySem.W.ksFn "__init__" qual (xArgs fld p1 p2) (xBody fld txt r0 r1 r2 r3 r4 r5 r6 r7 r8 r9) (xScope fld) .none .none doc pm an (.ref cda) ct cc) ⟨[a, b], []⟩ = pure [(("self" : Str), a), (fld, b)]) ∧
    ∀ a b, bindArgs (PySem.W.ksFn "__init__" qual (xArgs fld p1 p2) (xBody fld txt r0 r1 r2 r3 r4 r5 r6 r7 r8 r9) (xScope fld) .none .none doc pm an (.ref cda) ct cc) ⟨[a], [(fld, b)]⟩ = pure [(("self" : Str), a), (fld, b)]

section
variable {prog : Program} {w : World} {A : Around} {R : Result → Shared → Prop} {E : Value → Shared → Prop} {K : PySem.W.Frag} {x C : Addr} {hp : Heap} {g : Array GenState} {d : Drawn} {t : Nat} {os : OsState}
/-- the first field laid into an exception that has no dict yet -/
theorem x_store {B newId initId : String} {bm : List Value} {fld : Str} {tk : Tok} {v : Value} {fv : Array Value} (XB : XBase B newId initId bm) (X : K.In hp) (gx : hp.get? x = some { cls := .ref C, data := .fields fv }) (ov : PySem.W.excOver K C bm = true)
    (nt : PySem.W.takerIn K C fld = some none) (dI : PySem.W.hasDictIn K C = true)
    (fin : ∀ h2 tk2 dx, (∀ b o, b ≠ x → hp.get? b = some o → h2.get? b = some o) → hp.objs.size ≤ dx → dx ≠ x → h2.get? x = some { cls := .ref C, dict := some dx, data := .fields fv } → h2.Ns1 dx (fun y => if y = fld then some v else none) → R (.ok (.ret .none)) ⟨h2, g, d, tk2, os⟩) :
    codeAny (model prog w) A (.call (.builtin "object.__setattr__") ⟨[.ref x, .str fld tk, v], []⟩) R ⟨hp, g, d, t, os⟩ := by
  have xlt : x ≠ hp.objs.size := Nat.ne_of_lt (Heap.lt_size gx)
  obtain ⟨cd, ecd, hd⟩ := PySem.W.any_some dI
  have look : PySem.W.Looks (model prog w) hp (classData C) cd := PySem.W.looks_clsIn X ecd
  refine PySem.W.osa_openX (od := none) XB.sf X ⟨gx, rfl, rfl, trivial⟩ ov nt fun b => ?_
  have hd' : cd.hasDict = true := hd
  obtain ⟨n1, n2, n3, n4, n5, n6, n7, n8, n9, n10, n11⟩ := cd
  dsimp only at hd'
  subst hd'
  unfold Builtin.ObjectAttr.storeInOwnDict Builtin.ObjectAttr.ownDictForStores
  repeat (first | (with_reducible refine HandSPX.store_in_new ?_ ?_) | (with_reducible refine wpAny_loadPart_at gx ?_) | (with_reducible refine look.at ?_) | wp_step)
  · refine ⟨_, #[], _, (Heap.get?_update_ne _ _ _ _ xlt.symm).trans (Heap.get?_push_at rfl rfl), rfl, ?_, fun _ => rfl⟩
    intro e he
    exact absurd he (by simp)
  · intro h2 tk2 ns2 sb2
    have gx' : (hp.push { cls := .type "dict", data := .dict #[] }).get? x = some { cls := .ref C, data := .fields fv } := Heap.get?_push_of_some _ gx
    refine fin h2 tk2 hp.objs.size ?_ (Nat.le_refl _) xlt.symm ((sb2.2 x xlt).trans (Heap.get?_update_self _ gx' rfl)) ns2
    intro b o hb ho
    exact (sb2.2 b (Nat.ne_of_lt (Heap.lt_size ho))).trans ((Heap.get?_update_ne _ _ _ _ hb).trans (Heap.get?_push_of_some _ ho))
/-- the bound __init__ of the base called: the args are laid anew -/
theorem x_base {B newId initId : String} {bm : List Value} {u t0 : Addr} {rest : List Value} {Q : Value → Shared → Prop} (XB : XBase B newId initId bm) (X : K.In hp) (q : PySem.W.excInitIn K C bm newId = true) (gx : hp.get? x = some (excO C t0))
    (gu : hp.get? u = some (PySem.W.kxs_mw initId x)) (sz : rest.length ≤ sizeLine) (fin : ∀ h2 t2, (∀ b o, b ≠ x → hp.get? b = some o → h2.get? b = some o) → h2.get? x = some (excO C t2) → Q .none ⟨h2, g, d, t, os⟩) :
    wpAny (model prog w) A (call (.ref u) rest) Q E ⟨hp, g, d, t, os⟩ := by
  obtain ⟨nm, N', qn, bs, bm', hdct, sn, sub, ab, col, dd, k0, k1, k2, k3, k5, gC, _⟩ := PySem.W.excInit_of X q
  refine wpAny_call (codeAny_of_tree ?_)
  show wpAny _ A.in1 (callAny (.ref u) ⟨rest, []⟩) _ _ _
  simp only [callAny]
  refine wpAny_bind (wpAny_load gu ?_)
  simp only [PySem.W.kxs_mw, show (Value.type "method-wrapper" == Value.type "method" || Value.type "method-wrapper" == Value.type "builtin_function_or_method" || Value.type "method-wrapper" == Value.type "method-wrapper") = true by decide, if_true]
  refine PySem.W.KFB.if_so (by decide) (wpAny_bind (PySem.W.check_bound_init XB.fb.toExcCallFacts gC gx rfl (wpAny_bind (wpAny_pure (wpAny_pure ?_)))))
  exact ⟨plainId_quiet XB.fb.init.plain _, codeAny_builtin XB.fb.initEntry (PySem.W.exc_init_tree (cls := .ref C) (t0 := t0) (dv := none) (c2 := .none) (c3 := .none) (b4 := .bool false) gx sz fun h2 a b _ => fin h2 _ a b)⟩
/-- what __init__ leaves of a fresh exception at x -/
structure XEnd (h h2 : Heap) (x C dx t2 : Addr) (fld : Str) (v : Value) : Prop where
  keep : ∀ b o, b ≠ x → h.get? b = some o → h2.get? b = some o
  obj : h2.get? x = some { cls := .ref C, dict := some dx, data := .fields #[.ref t2, .none, .none, .none, .bool false, .none] }
  dbig : h.objs.size ≤ dx
  dne : dx ≠ x
  ns : h2.Ns1 dx (fun y => if y = fld then some v else none)
theorem x_init {fld : Str} {fI t0 : Addr} {v : Value} {args : Args} {mg mb : Str → Option Value} (T : XTxt prog K fld C fI) (X : K.In hp) (lim : hp.NoLimit) (G : hp.Ns mainGlobals mg) (Bn : hp.Ns builtinsNs mb) (hb : mb "super" = bootBuiltins "super")
    (gx : hp.get? x = some (excO C t0)) (nx : K.lookup x = none) (room : A.depth < recursionLimit) (ar : args = ⟨[.ref x, v], []⟩ ∨ args = ⟨[.ref x], [(fld, v)]⟩)
    (fin : ∀ h2 tk2 dx t2, XEnd hp h2 x C dx t2 fld v → R (.ok (.ret .none)) ⟨h2, g, d, tk2, os⟩) :
    codeAny (model prog w) A (.call (.ref fI) args) R ⟨hp, g, d, t, os⟩ := by
  obtain ⟨oc, od, doc, pm, an, cda, ct, osl, qual, txt, cc, p1, p2, r0, r1, r2, r3, r4, r5, r6, r7, r8, r9, ccl, cl, cdd, cld, vs, ccs, csl, file, tf, lk, cod, lc, hvs, hfile, lcell, txl, hcall, hbd⟩ := T.fn
  obtain ⟨B, newId, initId, bm, XB, q, ov, ksu, sB⟩ := T.cls
  obtain ⟨nf1, nf2, nf3, nf4, nf5⟩ := T.nf
  refine ks_codeAny_call_defAt (binds := [(("self" : Str), .ref x), (fld, v)]) room (X _ _ lk) rfl lim (PySem.W.codeRec_of X cod) rfl (BindsTo.of_eq (by rcases ar with e | e <;> rw [e]; exact hbd.1 _ _; exact hbd.2 _ _)) ?_ ?_ (fun h1 hn k => ?_) rfl rfl rfl
  · intro y hy
    simp only [xScope, List.mem_cons, List.not_mem_nil, or_false] at hy
    rcases hy with rfl | rfl | rfl | rfl <;> exact fun z => nomatch z
  · intro y hy
    rcases List.mem_cons.mp hy with rfl | hy
    · rfl
    · rw [List.mem_singleton.mp hy]
      exact nf3
  have X1 : K.In h1 := X.keeps k
  have gx1 := k _ _ gx
  have gI : hp.objs.size < h1.objs.size := hn.lt
  have ms : List.lookup ("self" : Str) [((fld : Str), v), (("self" : Str), Value.ref x)] = some (.ref x) := by
    rw [List.lookup_cons, show (("self" : Str) == fld) = false from beq_eq_false_iff_ne.mpr (Ne.symm nf2), List.lookup_cons, beq_self_eq_true]
  have mf : List.lookup fld [((fld : Str), v), (("self" : Str), Value.ref x)] = some v := by
    rw [List.lookup_cons, beq_self_eq_true]
  have I1 : PySem.W.InstAt h1 x (excO C t0) C none := ⟨gx1, rfl, rfl, trivial⟩
  show _root_.PySem.wpAt _ (A.deeper (PySem.W.ksEnv qual (xScope fld) hp.objs.size fI (.ref cda) cc)) (.func (xBody fld txt r0 r1 r2 r3 r4 r5 r6 r7 r8 r9) (PySem.W.ksEnv qual (xScope fld) hp.objs.size fI (.ref cda) cc))
    (execs (_ :: _) (PySem.W.ksEnv qual (xScope fld) hp.objs.size fI (.ref cda) cc)) _ _ _
  refine ks_wpAt_execs_cons (ks_wpAt_Expr_any ?_)
  refine ks_wpAt_MethodCall ?_ (hcall _)
  refine ks_wpAt_super_base nf5 nf4 (by decide) rfl (X1 _ _ lk) rfl rfl rfl (X1 _ _ lc) rfl hvs hfile T.top ?_
  refine PySem.W.ks_loadName_global rfl nf5 (Calls.loadGlobal_builtin (G.keeps k) ?_ (Bn.keeps k) (hb.trans ?_) ⟨rfl, ?_⟩)
  · exact PySem.W.mg_none_of X G T.nsu
  · first | rfl | kernel_rfl
  refine wpAny_loadName_free rfl nf4 rfl ⟨_, X1 _ _ lcell, rfl⟩ ?_
  refine wpAny_loadName_local rfl rfl hn ms ?_
  obtain ⟨cdD, ecd, _⟩ := PySem.W.any_some T.hd
  obtain ⟨oD, gD, dD⟩ : ∃ oD, h1.get? C = some oD ∧ oD.data = .cls cdD := by
    unfold PySem.W.clsIn at ecd
    split at ecd
    · rename_i c d' cd' sl ho
      cases ecd
      exact ⟨_, X1 _ _ ho, rfl⟩
    · cases ecd
  refine ks_wpAny_isType_cls gD dD ⟨rfl, ?_⟩
  refine ks_wpAny_call_super gD dD gx1 rfl (fun c z => nomatch z) (PySem.W.looks_mroIn X1 T.mC) (fun h3 e3 k3 => ?_)
  have X3 : K.In h3 := X1.keeps k3
  have gx3 := k3 _ _ gx1
  have I3 : PySem.W.InstAt h3 x (excO C t0) C none := ⟨gx3, rfl, rfl, trivial⟩
  have in3 : PySem.W.Looks (model prog w) h3 (isInstance (.ref x) (.type B)) true := I3.type.andThen (PySem.W.looks_subIn X3 sB)
  have xC : x ≠ C := PySem.W.ks_ne X3 I3 ecd
  have ksu' : PySem.W.alongIn K "__init__" ((cdD.mro.dropWhile (· != .ref C)).drop 1) = some (some (.builtin initId)) := by
    unfold PySem.W.ks_superIn at ksu
    rw [ecd] at ksu
    exact ksu
  refine PySem.W.kxs_getMethod XB.kx e3 (PySem.W.looks_opaque X3 T.nop) (l₀ := cdD.mro) (fun A' Q' E' s' k' q' => wpAny_bind ((PySem.W.looks_clsIn X3 ecd) A' _ E' s' k' (wpAny_pure q'))) rfl X3 ksu' in3 xC (by decide) ?_
  show wpAny _ _ (callWith r4 (.ref h3.objs.size) [] ((false, eval (.Constant (.str txt) 0 r3) _) :: backTo r4 (starEach [] _)) []) _ _ _
  have k4 : ∀ b o, h3.get? b = some o → (h3.push (PySem.W.kxs_mw initId x)).get? b = some o := fun b o z => Heap.get?_push_of_some _ z
  have g4 : (h3.push (PySem.W.kxs_mw initId x)).get? h3.objs.size = some (PySem.W.kxs_mw initId x) := Heap.get?_push_at rfl rfl
  refine PySem.W.kxs_callWith (i := initId) (x := x) rfl ?_
  refine Calls.evalArgs_plain (Calls.spliced_cons (wpAny_Constant_str (Calls.spliced_nil ⟨g4, ?_⟩)))
  refine x_base XB (X3.keeps k4) q (k4 _ _ gx3) g4 (by rw [sizeLine_eq]; exact (by decide : 1 ≤ 16777216)) fun h5 t5 k5 e5 => ?_
  -- self.fld = fld
  have a1 : ∀ b o, h1.get? b = some o → (h3.push (PySem.W.kxs_mw initId x)).get? b = some o := fun b o z => k4 _ _ (k3 _ _ z)
  have X5 : K.In h5 := fun b o z => k5 b o (fun y => by rw [y, nx] at z; cases z) (X3.keeps k4 b o z)
  have neL : hp.objs.size ≠ x := Nat.ne_of_gt (Heap.lt_size gx)
  have hn5 : h5.Ns hp.objs.size (fun y => List.lookup y [((fld : Str), v), (("self" : Str), Value.ref x)]) := by
    obtain ⟨oL, es, ep, gL, r⟩ := id hn
    exact ⟨oL, es, ep, k5 _ _ neL (a1 _ _ gL), r⟩
  refine wpAt_of_wpAny ?_
  refine wpAny_execs_cons (plainObj_wpAny_Assign_Attribute ?_)
  refine wpAny_Name (wpAny_loadName_local rfl nf3 hn5 mf ?_) nf1
  refine wpAny_Name (wpAny_loadName_local rfl rfl hn5 ms ?_)
  refine PySem.W.set_plain X5 (ox := excO C t5) (od := none) ⟨e5, rfl, rfl, trivial⟩ T.sa ?_
  refine x_store XB X5 e5 ov T.tk T.hd (fun h6 tk6 dx k6 dn dne e6 n6 => ?_)
  have big : hp.objs.size ≤ h5.objs.size := Nat.le_of_lt hn5.lt
  exact wpAny_execs_nil (fin h6 tk6 dx t5 ⟨fun b o hb z => k6 b o hb (k5 b o hb (a1 b o (k b o z))), e6, Nat.le_trans big dn, dne, n6⟩)
/-- an exception that was made -/
structure XMade (h h2 : Heap) (e C d : Addr) (fld : Str) (v : Value) : Prop where
  keep : ∀ b o, h.get? b = some o → h2.get? b = some o
  new : h.objs.size ≤ e
  obj : ∃ oe vs, h2.get? e = some oe ∧ oe.cls = .ref C ∧ oe.dict = some d ∧ oe.data = .fields vs ∧ vs[1]? = some .none
  dbig : h.objs.size ≤ d
  dne : d ≠ e
  ns : h2.Ns1 d (fun y => if y = fld then some v else none)
theorem x_made {fld : Str} {fI : Addr} {v : Value} {mg mb : Str → Option Value} (T : XTxt prog K fld C fI) (X : K.In hp) (lim : hp.NoLimit) (G : hp.Ns mainGlobals mg) (Bn : hp.Ns builtinsNs mb) (hb : mb "super" = bootBuiltins "super")
    (room : A.depth + 1 < recursionLimit) (fin : ∀ h2 tk2 e dx, XMade hp h2 e C dx fld v → R (.ok (.ret (.ref e))) ⟨h2, g, d, tk2, os⟩) :
    codeAny (model prog w) A (.call (.ref C) ⟨[v], []⟩) R ⟨hp, g, d, t, os⟩ := by
  obtain ⟨B, newId, initId, bm, XB, q, ov, ksu, sB⟩ := T.cls
  obtain ⟨nm, N', qn, bs, bm', hdct, sn, sub, ab, col, dd, k0, k1, k2, k3, k5, gC, hT⟩ := PySem.W.excInit_of X q
  have up : ∀ b o, hp.get? b = some o → ((hp.push (PySem.W.kdv_tup [v])).push (excO C hp.objs.size)).get? b = some o := fun b o z => Heap.get?_push_of_some _ (Heap.get?_push_of_some _ z)
  have gx : ((hp.push (PySem.W.kdv_tup [v])).push (excO C hp.objs.size)).get? (hp.objs.size + 1) = some (excO C hp.objs.size) := by heap_get
  have nx : K.lookup (hp.objs.size + 1) = none := by
    cases z : K.lookup (hp.objs.size + 1) with
    | none => rfl
    | some o => exact absurd (Nat.lt_of_succ_lt (Heap.lt_size (X _ _ z))) (Nat.lt_irrefl _)
  refine HandSPX.call_own XB.fb hT gC (PySem.W.looks_findIn X T.iC) (fun self => PySem.W.bind_fn X self T.tI) (by rw [sizeLine_eq]; exact (by decide : 1 ≤ 16777216)) ?_
  refine x_init T (X.keeps up) (lim.keeps up) (G.keeps up) (Bn.keeps up) hb gx nx (by show A.depth + 1 < recursionLimit; exact room) (.inl rfl) fun h2 tk2 dx t2 Z => ?_
  have sz : ((hp.push (PySem.W.kdv_tup [v])).push (excO C hp.objs.size)).objs.size = hp.objs.size + 1 + 1 := by
    rw [Heap.size_push, Heap.size_push]
  have big := Z.dbig
  rw [sz] at big
  refine ⟨rfl, fin h2 tk2 (hp.objs.size + 1) dx ⟨fun b o z => ?_, Nat.le_succ _, ⟨_, _, Z.obj, rfl, rfl, rfl, rfl⟩, by omega, Z.dne, Z.ns⟩⟩
  exact Z.keep b o (Nat.ne_of_lt (Nat.lt_succ_of_lt (Heap.lt_size z))) (up b o z)
end

/-- what more the class says: its instances' fields are read, isinstance asks them -/
structure XIs (K : PySem.W.Frag) (C : Addr) : Prop where
  ga : PySem.W.findIn K (.ref C) "__getattribute__" = some (some (.builtin "BaseException.__getattribute__"))
  gg : PySem.W.findIn K (.ref C) "__getattr__" = some none
  ex : PySem.W.subIn K (.ref C) (.type "BaseException") = some true
  cl : (PySem.W.clsIn K C).isSome = true
  ca : PySem.W.findIn K (.ref C) "__class__" = some (some (.builtin "object.__class__"))
  sp : PySem.W.specialIn K (.builtin "object.__class__") "__get__" = some (some (.builtin "getset_descriptor.__get__"))
  tk : PySem.W.takesIn K (.builtin "object.__class__") = some true
  mo : PySem.W.mroIn K C (.type "object") = some true
/-- nm is the class cls, by the text -/
def XN (K : PySem.W.Frag) (nm : Str) (cls : Value) : Prop := PySem.W.nsIn K mainGlobals nm = some (some cls)
/-- an own exception class with one field -/
structure XCls (P : Program) (K : PySem.W.Frag) (mg : Str → Option Value) (nm fld : Str) : Prop where
  ex : ∃ C fI, XN K nm (.ref C) ∧ mg nm = some (.ref C) ∧ XTxt P K fld C fI ∧ PySem.W.keepIn K (.ref C) = true ∧ XIs K C ∧ PySem.W.typeIn K (.ref C) = some (.type "type") ∧ PySem.W.findIn K (.ref C) fld = some none
def tMkX (K : PySem.W.Frag) (nm fld : Str) (ta : TA) : L2.St → Hp → XK → Prop := fun σ H Q => ta σ H fun vs H1 => ∃ v, vs = [v] ∧ ∀ cls d, XN K nm cls → H1 d = none → Q cls (some d) (upd H1 d (.xd [(fld, v)]))
theorem relO_x {fld : Str} {v : V} {u : Value} (r : RelV v u) (f : Str) : RelO (List.lookup f [((fld : Str), v)]) (if f = fld then some u else none) := by
  by_cases q : f = fld
  · subst q
    rw [if_pos rfl, List.lookup_cons, beq_self_eq_true]
    exact r
  · rw [if_neg q, List.lookup_cons, beq_eq_false_iff_ne.mpr q]
    trivial
section
variable {X : Cx} {nm fld : Str} {a : Expr} {ta : TA} {p pos : Pos} {k : Nat}
theorem pmk_x (T : XCls X.prog X.K X.mg nm fld) (hr : RG k X.A) (hk : 2 ≤ k) (ha : PA X [a] ta) (hg : Gl X nm := by rfl)
    (he : starEach (a :: []) X.env = (false, eval a X.env) :: starEach [] X.env := by rfl) (hpl : (backTo pos (starEach [] X.env)).any (·.1) = false := by rfl) (hdb : (nm == ("__debug__" : Str)) = false := by decide) :
    PMk X (.Call (.Name nm p) [a] [] pos) (tMkX X.K nm fld ta) := by
  obtain ⟨C, fI, xn, gC, TX, kC, xi, tyC, noN⟩ := T.ex
  intro pins s σ H Q I h
  refine wpAny_Call_Name_kw (ld_glob I hg gC ?_ hdb)
  refine PySem.W.callWith_K (h₀ := X.base) I.ok.mod.kin kC (thn (ha.run pos pins s σ H _ I h) fun us s1 hh => ?_) he hpl
  obtain ⟨vs, H1, I1, r1, v, ev, q1⟩ := hh
  subst ev
  refine ⟨I1.kIn, ?_⟩
  cases r1 with
  | cons rv rn =>
    rename_i v' us'
    cases rn
    show wpAny _ _ (call (.ref C) [v']) _ _ _
    have hlim := I1.nolimit
    obtain ⟨mb, hB, hbb⟩ := I1.mod.blt
    have hG := I1.mod.glob.keeps I1.bk
    have hB' := hB.keeps I1.bk
    obtain ⟨hp, g, dr, tk, os⟩ := s1
    refine wpAny_call (x_made TX I1.kIn hlim hG hB' (hbb _ (by decide)) (by have := hr.rm.depth; have := (hr.rm.mono hk).dp; omega) fun h2 tk2 e d M => ?_)
    show MkP X pins σ Q (.ref e) ⟨h2, g, dr, tk2, os⟩
    obtain ⟨oe, fv, hoe, hc, hd, hdat, h1⟩ := M.obj
    have hns := M.ns
    obtain ⟨G, g1, g2⟩ := restrict h2 fun b => decide (b ≠ e)
    have gk : ∀ b, b ≠ e → G.get? b = h2.get? b := fun b hb => g1 b (decide_eq_true hb)
    have ge : G.get? e = none := g2 e (by simp)
    have old : ∀ b o, hp.get? b = some o → G.get? b = some o := fun b o z => (gk b (Nat.ne_of_lt (Nat.lt_of_lt_of_le (Heap.lt_size z) M.new))).trans (M.keep b o z)
    have ob : ObjOk X.prog X.w (upd H1 d (.xd [((fld : Str), v)])) G d (.xd [((fld : Str), v)]) :=
      ⟨_, hns.at (fun o z => (gk d M.dne).trans z), fun f => relO_x rv f⟩
    have J : Inv X pins σ (upd H1 d (.xd [((fld : Str), v)])) ⟨G, g, dr, tk2, os⟩ := I1.laid (t' := tk2) old M.dbig ob
    refine ⟨e, oe, fv, ⟨G, g, dr, tk2, os⟩, _, .ref C, some d, rfl, J, fun b o z => ?_, ge, hoe, ⟨hc, hd⟩, hdat, h1, ?_, rfl, I1.bare, raises_own xi.ex tyC, q1 _ d xn (I1.hok.fresh M.dbig)⟩
    · by_cases hb : b = e
      · have z' : G.get? b = some o := z
        rw [hb, ge] at z'
        cases z'
      · exact (gk b hb).symm.trans z
    · rw [upd_ne (Ne.symm M.dne)]
      exact I1.hok.fresh M.new
/-- raise X(e) -/
def tRaiseX (K : PySem.W.Frag) (nm fld : Str) (W : WX) (ta : TA) : TS := fun _ σ H => tMkX K nm fld ta σ H fun cls d H' => W cls d σ H'
theorem ps_raiseX {W : WX} {pos2 : Pos} (T : XCls X.prog X.K X.mg nm fld) (hc : X.calm = true) (hr : RG k X.A) (hk : 2 ≤ k) (tk : Takes X W) (ha : PA X [a] ta) (hg : Gl X nm := by rfl)
    (he : starEach (a :: []) X.env = (false, eval a X.env) :: starEach [] X.env := by rfl) (hpl : (backTo pos (starEach [] X.env)).any (·.1) = false := by rfl) (hdb : (nm == ("__debug__" : Str)) = false := by decide) :
    PS X (.Raise (some (.Call (.Name nm p) [a] [] pos)) none pos2) (tRaiseX X.K nm fld W ta) := ps_raise hc tk (pmk_x T hr hk ha hg he hpl hdb)
end

/-! ### defs that may raise, and their calls -/
structure DfX (P : Program) (w : World) (K : PySem.W.Frag) (mg : Str → Option Value) (base : Heap) (k : Nat) (x : Str) (st : Stmt) (ps : List Str) (sp : Sp) : Prop where
  ex : ∃ (f : Addr) (fd : FuncData), mg x = some (.ref f) ∧ Fun K x x st f fd ∧ FnG P w K mg base (L2.CX P w) k f fd ps sp
section
variable {P : Program} {w : World} {K : PySem.W.Frag} {mg : Str → Option Value} {base : Heap}
theorem okX {x qual : Str} {st : Stmt} {f : Addr} {fd : FuncData} {N ps : List Str} {k : Nat} {sp : Sp} (F : Fun K x qual st f fd) (S : FnScope N ps (defScope st)) (many : ∀ xs H Q E, sp xs H Q E → xs.length = ps.length)
    (hb : ∀ (cdv : Value) (A : Around) (outer : List Env) (s : Shared) (H : Hp) (xs : List V) (Q : VK) (E : XK), RG k (A.deeper (envOfC qual (defScope st) s.heap.objs.size f cdv)) → sp xs H Q E →
      ∃ t, PSs (cxOf (L2.CX P w) P w K mg base N qual (defScope st) f cdv A outer s H E) (defBody st) t ∧ t { nx := fun _ H' => Q .non H', rt := Q } (start N xs) H) : FnG P w K mg base (L2.CX P w) (k + 1) f fd ps sp := by
  obtain ⟨oc, od, kV, doc, pm, an, cdv, ct, osl, rfl, lk, hcd⟩ := F.ex
  exact fnG_of lk hcd S many fun A outer s H xs Q E r q => hb cdv A outer s H xs Q E r q
end
def tCallX (n m : Nat) (sp : Sp) (g : List V → List V → List V) (W : WX) (t tk : TA) : TE := fun σ H Q => t σ H fun xs H1 => tk σ H1 fun zs H2 => xs.length = n ∧ zs.length = m ∧ sp (g xs zs) H2 Q (fun cls d H' => W cls d σ H')
section
variable {X : Cx} {W : WX} {k j n m : Nat} {ps ks : List Str} {sp : Sp} {x : Str} {st : Stmt} {p pos : Pos} {e : Expr} {es : List Expr} {kws : List Keyword} {t tk : TA} {g : {α : Type} → List α → List α → List α}
theorem goX {qual : Str} {pins : List (Addr × Obj)} {σ : L2.St} {H : Hp} {s : Shared} {Q : VK} {f : Addr} {fd : FuncData} {us ws : List Value} {xs zs : List V} (tw : Takes X W) (F : FnG X.prog X.w X.K X.mg X.base (L2.CX X.prog X.w) k f fd ps sp) (U : Fun X.K x qual st f fd)
    (hr : RG k X.A) (hb : Bnd st x qual ps n ks g) (hs : Shuf n ks.length g) (I : Inv X pins σ H s) (r : Vals xs us) (rz : Vals zs ws) (hn : xs.length = n) (hm : zs.length = ks.length) (q : sp (g xs zs) H Q (fun cls d H' => W cls d σ H')) :
    wpAny (model X.prog X.w) X.A (call (.ref f) us (ks.zip ws)) (EP X pins σ Q) X.xe s := by
  obtain ⟨oc, od, kV, doc, pm, an, cdv, ct, osl, rfl, lk, hcd⟩ := U.ex
  have l1 : us.length = n := r.length ▸ hn
  have l2 : ws.length = ks.length := rz.length ▸ hm
  refine wpAny_call (codeAny_mono (F.go X.A X.stack s H ⟨us, ks.zip ws⟩ (g us ws) (g xs zs) Q _ hr I.env0 (.of_eq (hb kV doc pm an cdv ct us ws l1 l2).1) (hs _ _ _ _ r rz l1 l2) q) ?_)
  intro res s' z
  match res, z with
  | .error e, z => exact tw _ _ (XE.of_call I (fun cls d H' h => h) z)
  | .ok (.ret u), z => exact I.after z
  | .ok .next, z => exact z.elim
  | .ok .brk, z => exact z.elim
  | .ok .cont, z => exact z.elim
theorem pe_callX (D : DfX X.prog X.w X.K X.mg X.base k x st ps sp) (tw : Takes X W) (hr : RG j X.A) (hj : k ≤ j) (hb : Bnd st x x ps n ks g) (hs : Shuf n ks.length g) (ha : PA X (e :: es) t) (hkw : PK X kws tk) (hg : Gl X x := by rfl)
    (hall : (backToKw pos (keywordEach kws X.env)).all (·.1.isSome) = true := by rfl) (hks : (backToKw pos (keywordEach kws X.env)).filterMap (·.1) = ks := by rfl) (hdb : (x == ("__debug__" : Str)) = false := by decide)
    (he : starEach (e :: es) X.env = (false, eval e X.env) :: starEach es X.env := by rfl) (hpl : ((backTo pos (starEach (e :: es) X.env)).any (·.1) || (backToKw pos (keywordEach kws X.env)).any (·.1.isNone)) = false := by rfl) :
    PE X (.Call (.Name x p) (e :: es) kws pos) (tCallX n ks.length sp (fun a b => g a b) W t tk) := by
  obtain ⟨f, fd, hm, U, F⟩ := D.ex
  refine ⟨?_⟩
  intro pins s σ H Q I h
  refine wpAny_Call_Name_kw (ld_glob I hg hm ?_ hdb)
  refine PySem.W.callWith_KW (h₀ := X.base) I.ok.mod.kin U.kp hall ?_ hpl he
  refine thn (ha.run pos pins s σ H _ I h) ?_
  rintro us s1 ⟨xs, H1, I1, r, q⟩
  refine thn (hkw.run pos pins s1 σ H1 _ I1 q) ?_
  rintro ws s2 ⟨zs, H2, I2, rz, q1, q2, q3⟩
  refine ⟨I2.kIn, ?_⟩
  rw [hks]
  exact goX tw F U (hr.mono hj) hb hs I2 r rz q1 q2 q3
theorem pe_callX0 (D : DfX X.prog X.w X.K X.mg X.base k x st ps sp) (tw : Takes X W) (hr : RG j X.A) (hj : k ≤ j) (hb : Bnd st x x ps 0 ks g) (hs : Shuf 0 ks.length g) (hkw : PK X kws tk) (hg : Gl X x := by rfl)
    (hall : (backToKw pos (keywordEach kws X.env)).all (·.1.isSome) = true := by rfl) (hks : (backToKw pos (keywordEach kws X.env)).filterMap (·.1) = ks := by rfl) (hdb : (x == ("__debug__" : Str)) = false := by decide)
    (hpl : ((backTo pos (starEach [] X.env)).any (·.1) || (backToKw pos (keywordEach kws X.env)).any (·.1.isNone)) = false := by rfl) :
    PE X (.Call (.Name x p) [] kws pos) (tCallX 0 ks.length sp (fun a b => g a b) W tNil tk) := by
  obtain ⟨f, fd, hm, U, F⟩ := D.ex
  refine ⟨?_⟩
  intro pins s σ H Q I h
  refine wpAny_Call_Name_kw (ld_glob I hg hm ?_ hdb)
  refine PySem.W.callWith_KW0 (h₀ := X.base) I.ok.mod.kin U.kp hall ?_ hpl
  refine thn (hkw.run pos pins s σ H _ I h) ?_
  rintro ws s2 ⟨zs, H2, I2, rz, q1, q2, q3⟩
  refine ⟨I2.kIn, ?_⟩
  rw [hks]
  exact goX tw F U (hr.mono hj) hb hs I2 .nil rz q1 q2 q3
end

/-! ### an exception kept as a value -/
/-- at a: an exception of the class cls, its dict at d -/
def ExV (cls : Value) (d : Option Addr) (a : Addr) : HO := .ext fun h => ∃ (oe : Obj) (vs : Array Value), h.get? a = some oe ∧ Zc cls d oe ∧ oe.data = .fields vs
theorem exV_ok {P : Program} {w : World} {H : Hp} {h : Heap} {a : Addr} {cls : Value} {d : Option Addr} {oe : Obj} {vs : Array Value} (e : h.get? a = some oe) (z : Zc cls d oe) (dt : oe.data = .fields vs) : ObjOk P w H h a (ExV cls d a) :=
  ⟨⟨oe, vs, e, z, dt⟩, ⟨oe, e⟩, fun _ _ ⟨o, v, q, r⟩ k => ⟨o, v, k o q, r⟩⟩
theorem Inv.noteX {X : Cx} {pins : List (Addr × Obj)} {σ : L2.St} {H : Hp} {s : Shared} {a : Addr} {cls : Value} {d : Option Addr} {oe : Obj} {vs : Array Value} (I : Inv X pins σ H s) (n0 : X.s_0.heap.get? a = none)
    (ga : s.heap.get? a = some oe) (z : Zc cls d oe) (dt : oe.data = .fields vs) (na : H a = none) (nL : a ≠ X.env.locals) (np : ∀ p ∈ X.pn ++ pins, p.1 ≠ a) : Inv X pins σ (upd H a (ExV cls d a)) s := by
  have ne0 : ∀ b o, X.s_0.heap.get? b = some o → b ≠ a := by
    intro b o e q
    rw [q, n0] at e
    cases e
  have b0 := I.base
  refine ⟨I.ok, I.os, I.bare, ⟨b0.keep, b0.slot, fun b o e n hb => ?_, b0.there, fun b xs e => ?_, fun b o u e => ?_, fun b ps e => ?_⟩, I.loc, I.cell, ?_, fun x c e => ?_, fun p hp => ?_, ?_, I.len⟩
  · rw [upd_ne (ne0 b o e)]
    exact b0.free b o e n hb
  · have q := b0.tups b xs e
    rw [upd_ne (ne_of_none q na)]
    exact q
  · have q := b0.frzs b o u e
    rw [upd_ne (ne_of_none q na)]
    exact q
  · obtain ⟨m, q⟩ := b0.tbls b ps e
    exact ⟨m, by rw [upd_ne (ne_of_none q na)]; exact q⟩
  · rw [upd_ne (Ne.symm nL)]
    exact I.free
  · have nc : c ≠ a := by
      intro q
      obtain ⟨v, oc, hc, hd⟩ := I.cell x c e
      rw [q, ga] at hc
      cases hc
      rw [dt] at hd
      cases hd
    rw [upd_ne nc]
    exact I.freeC x c e
  · obtain ⟨p1, p2, p3, p4, p5⟩ := I.pin p hp
    exact ⟨p1, by rw [upd_ne (np p hp)]; exact p2, p3, p4, p5⟩
  · intro b u e
    by_cases hb : b = a
    · subst hb
      rw [upd_same] at e
      cases e
      exact exV_ok ga z dt
    · rw [upd_ne hb] at e
      refine (I.hok b u e).stay (fun c v _ q => q) (fun c q => ?_) fun c xs q => ?_
      · rw [upd_ne (ne_of_none q na)]
        exact q
      · rw [upd_ne (ne_of_none q na)]
        exact q

/-! ### try: .. except (A, B, C) as e: .., the exception kept behind it -/
theorem flyK {B h h2 : Heap} {l : List Env} {a : Addr} {Z : Obj → Prop} (x : HandSPX.FlyingZ B l a Z h) (k : ∀ b o, h.get? b = some o → h2.get? b = some o) : HandSPX.FlyingZ B l a Z h2 := by
  obtain ⟨q1, q2, q3, oe, vs, T, oT, ts, he, hz, hd, hv, hn, hne, hT, hdT, hf⟩ := x
  exact ⟨fun b o z => k b o (q1 b o z), q2, q3.of_keeps fun b o z _ => ⟨o, k b o z, rfl⟩, oe, vs, T, oT, ts, k _ _ he, hz, hd, hv, hn, hne, k _ _ hT, hdT, hf⟩
/-- what the clause wishes of an exception of the body: its class is one of the three; behind the suite the exception is tracked, and its name (slot i) is gone -/
def wTup (K : PySem.W.Frag) (cs : List Value) (i : Nat) (ts : Addr → Value → Option Addr → TS) (D : Ends) : WX := fun cls d σ H =>
  PySem.W.exmAny K cls cs = some true ∧ ∀ a, H a = none →
    ts a cls d { nx := fun σ' H' => H' a = none ∧ D.nx (σ'.set i none) (upd H' a (ExV cls d a)), rt := fun _ _ => False, bk := fun _ _ => False, ct := fun _ _ => False } (σ.set i (some (.ref a))) H
section
variable {X : Cx} {x1 x2 x3 n : Str} {c1 c2 c3 : Value} {i kk : Nat} {body suite : List Stmt} {b₀ : Stmt} {np1 np2 np3 tp pos pos' : Pos} {tb : WX → TS} {ts : Addr → Value → Option Addr → TS}
theorem ps_try_tup (hs : X.stack = X.env :: X.outer) (hf : X.env.frame = some X.env.locals) (hex : X.ex = []) (hN : X.N.Nodup) (hi : X.N[i]? = some n) (hln : X.env.kindOf n = some .local) (m1 : Names X x1 c1) (m2 : Names X x2 c2) (m3 : Names X x3 c3)
    (hb : ∀ (W : WX) (pn : List (Addr × Obj)) (xe : Value → Shared → Prop), Takes (X.tr pn xe) W → PassesOwn (model X.prog X.w) X.A X.env xe → PSs (X.tr pn xe) body (tb W))
    (hsu : ∀ (a : Addr) (oe : Obj) (cls : Value) (d : Option Addr) (pn : List (Addr × Obj)), Zc cls d oe → (∃ vs, oe.data = .fields vs) → PSs (X.suite a ((a, oe) :: pn)) (b₀ :: suite) (ts a cls d)) :
    PS X (.Try body [.ExceptHandler (some (.Tuple [.Name x1 np1, .Name x2 np2, .Name x3 np3] kk tp)) (some n) (b₀ :: suite) pos'] [] [] pos) (fun D σ H => tb (wTup X.K [c1, c2, c3] i ts D) D σ H) := by
  refine ⟨fun pins s σ H D I h => ?_⟩
  have ok := I.ok
  have hfr : X.A.frames = some (X.env :: X.outer) := by rw [ok.frames, hs]
  have hloc : Loc X.env.scope n := .inl hln
  refine wpAny_Try_except ?_
  refine wpAny_mono ((hb (wTup X.K [c1, c2, c3] i ts D) (X.pn ++ pins) _ (fun u s' xx => ?_) PassesOwn.looking).run [] s σ H D (I.toTry _) h) (fun f s1 hsp => ?_) (fun e s1 he => he)
  · obtain ⟨a, B, sI, pins', σ', H', cls, d, rfl, J', nb, up, sky, na, os, ag, hmat, hyes⟩ := xx
    have J : Inv X pins σ' H' sI := J'.ofTry ok
    have sky' : Sky B (X.env :: X.outer) a (Zc cls d) X.env.locals s'.heap := by rw [← hs]; exact sky
    show wpAny (model X.prog X.w) X.A (noteFrame (.ref a) X.env) _ _ _
    refine Sky.land Zc.steady hfr hf sky' fun h3 fl3 up3 => ?_
    have J3 : Inv X pins σ' H' { s' with heap := h3 } := J.landed nb fl3.1 (up.trans up3) os ag
    obtain ⟨oe3, vs3, he3, hz3, hd3⟩ := fl3.there
    have nfr : a ∉ frs (X.env :: X.outer) := by
      intro hm
      obtain ⟨_, o', e', hnf⟩ := fl3.2.2.1.mem hm
      rw [he3] at e'
      cases e'
      exact hnf _ hd3
    have nL : a ≠ X.env.locals := fun z => nfr (List.mem_filterMap.mpr ⟨X.env, List.mem_cons_self, by rw [hf, z]⟩)
    have nF : a ∉ X.fs := by
      intro hm
      obtain ⟨e, he, q⟩ := List.mem_filterMap.mp hm
      exact nfr (List.mem_filterMap.mpr ⟨e, List.mem_cons_of_mem _ he, q⟩)
    have nI : sI.heap.get? a = none := by
      cases q : sI.heap.get? a with
      | none => rfl
      | some o =>
        have z := nb a o q (by rw [hs]; exact nfr)
        rw [fl3.2.1] at z
        cases z
    have n0 : X.s_0.heap.get? a = none := by
      cases q : X.s_0.heap.get? a with
      | none => rfl
      | some o =>
        obtain ⟨o', z⟩ := J.base.there a o q (by rw [hex]; exact fun z => nomatch z)
        rw [nI] at z
        cases z
    have np : ∀ p ∈ X.pn ++ pins, p.1 ≠ a := by
      intro p hp q
      have z := (J.pin p hp).1
      rw [q, nI] at z
      cases z
    have S3 := J3.suite he3 hd3 na nL nF
    refine wpAny_handleBy_cons (codeAny_handlers_test ?_) (by intro q; cases q)
    have LT : PySem.W.Looks (model X.prog X.w) h3 (typeOf (.ref a)) cls := fun A Q E s k q => wpAny_typeOf_ref (k _ _ he3) (by rw [hz3.1]; exact q)
    have test : ∀ {x : Str} {c : Value} {np : Pos} {Q : Value → Shared → Prop} {E : Value → Shared → Prop}, Names X x c → Q c { s' with heap := h3 } → wpAny (model X.prog X.w) (X.A.mark (some (.ref a))) (eval (.Name x np) X.env) Q E { s' with heap := h3 } := by
      intro x c np Q E hc q
      obtain ⟨hg, hdbg, hm | ⟨hm, hv, hnn⟩⟩ := hc
      · exact ld_glob (X := X.suite a ((a, oe3) :: (X.pn ++ pins))) S3 hg hm q hdbg
      · exact ld_blt (X := X.suite a ((a, oe3) :: (X.pn ++ pins))) S3 hg hm hv q hnn hdbg
    refine wpAny_Tuple (wpAny_items_cons (test m1 (wpAny_items_cons (test m2 (wpAny_items_cons (test m3 (wpAny_items_nil ⟨by size_fits, ?_⟩)))))))
    have kp : ∀ b o, h3.get? b = some o → (h3.push { cls := .type "tuple", data := .seq [c1, c2, c3].toArray }).get? b = some o := fun _ _ z => Heap.get?_push_of_some _ z
    have fl4 := flyK fl3 kp
    have J4 : Inv X pins σ' H' { s' with heap := h3.push { cls := .type "tuple", data := .seq [c1, c2, c3].toArray } } := J.landed nb fl4.1 ((up.trans up3).trans (Heap.UpToSlots.of_keeps kp)) os ag
    refine (PySem.W.exm_tup3 J4.kIn (LT.keeps kp) (Heap.get?_push_size h3 rfl) hmat).here ?_
    refine codeAny_handlers_suite_as ?_
    refine HandSPX.lands_againZ fl4 fun h5 fl5 up5 => ?_
    have J5 : Inv X pins σ' H' { s' with heap := h5 } := J.landed nb fl5.1 (((up.trans up3).trans (Heap.UpToSlots.of_keeps kp)).trans up5) os ag
    obtain ⟨oe5, vs5, he5, hz5, hd5⟩ := fl5.there
    have S5 := J5.suite he5 hd5 na nL nF
    refine store_ok (X := X.suite a ((a, oe5) :: (X.pn ++ pins))) (v := .ref a) S5 hN hi hloc rfl (fun s6 S6 => ?_) (.inr hln)
    refine wpAny_mono ((hsu a oe5 cls d (X.pn ++ pins) hz5 ⟨_, hd5⟩).run [] s6 _ H' _ S6 (hyes a na)) (fun f s7 hsp => ?_) (fun _ _ z => False.elim z)
    match f, hsp with
    | .next, ⟨σ7, H7, S7, hn7, q7⟩ =>
      have g7 := (S7.pin (a, oe5) (List.mem_append_left _ List.mem_cons_self)).1
      have I7 : Inv X pins σ7 H7 s7 := S7.unsuite ok
      have I8 := Inv.noteX I7 n0 g7 hz5 hd5 hn7 nL np
      exact gone_ok I8 hN hi hln fun s9 J9 => ⟨_, _, J9, q7⟩
    | .brk, ⟨_, _, _, q⟩ => exact q.elim
    | .cont, ⟨_, _, _, q⟩ => exact q.elim
    | .ret u, ⟨_, _, _, _, _, q⟩ => exact q.elim
  · match f, hsp with
    | .next, ⟨σ', H', J', q⟩ => exact wpAny_execs_nil ⟨σ', H', J'.ofTry ok, q⟩
    | .brk, ⟨σ', H', J', q⟩ => exact ⟨σ', H', J'.ofTry ok, q⟩
    | .cont, ⟨σ', H', J', q⟩ => exact ⟨σ', H', J'.ofTry ok, q⟩
    | .ret u, ⟨v, σ', H', J', r, q⟩ => exact ⟨v, σ', H', J'.ofTry ok, r, q⟩
end
end Hf

set_option Elab.async false
set_option linter.all false
set_option maxRecDepth 100000
set_option maxHeartbeats 4000000
namespace Hf
open PySem L2 PySem.Spec PyProof.Rows

/-! ### one rule for each operator, whatever the operands are -/
theorem OpR.or {X : Cx} {f : Value → Value → Sem Value} {r1 r2 : R2} (a : OpR X f r1) (b : OpR X f r2) : OpR X f (fun x y H Q => r1 x y H Q ∨ r2 x y H Q) :=
  fun pins s σ H x y v u Q I rx ry h => h.elim (a pins s σ H x y v u Q I rx ry) (b pins s σ H x y v u Q I rx ry)
def rAddI : R2 := rI0 fun i j => .int (i + j)
def rAddT : R2 := fun x y H Q => ∃ i j, x = .str i ∧ y = .str j ∧ i.length + j.length ≤ sizeLine ∧ Q (.str (i ++ j)) H
def rAddL (K : PySem.W.Frag) : R2 := fun x y H Q => ∃ l b xs zs, x = .ref l ∧ y = .ref b ∧ SqL K H l xs ∧ SqL K H b zs ∧ xs.length + zs.length ≤ sizeLine ∧ ∀ p, H p = none → Q (.ref p) (upd H p (.lst (xs ++ zs)))
theorem op_addL {X : Cx} : OpR X (binaryOp .Add) (rAddL X.K) := by
  intro pins s σ H x y v u Q I rx ry h
  obtain ⟨l, b, xs, zs, rfl, rfl, h1, h2, sz, q⟩ := h
  have e1 : v = Value.ref l := rx
  have e2 : u = Value.ref b := ry
  subst e1
  subst e2
  obtain ⟨i1, r1, ⟨o1, n1, g1, c1, d1, t1⟩, _⟩ := I.list h1
  obtain ⟨i2, r2, ⟨o2, n2, g2, c2, d2, t2⟩, _⟩ := I.list h2
  have l1 := r1.length
  have l2 := r2.length
  obtain ⟨k1, e1, dt1, sl1⟩ := o1
  obtain ⟨k2, e2, dt2, sl2⟩ := o2
  simp only at c1 d1 t1 c2 d2 t2
  subst c1 d1 t1 c2 d2 t2
  refine concat_meets ⟨_, g1, rfl⟩ ⟨_, g2, rfl⟩ noFill_list_add seq_list_add PySem.F.slot_list_add PySem.F.entry_list_add (PySem.F.args_list_add_2 _ _)
    (list_addW l b i1.toArray i2.toArray n1 n2 _ _ sl1 sl2 (by rw [List.size_toArray, List.size_toArray]; omega)) ⟨g1, g2, ?_⟩
  rw [show i1.toArray ++ i2.toArray = (i1 ++ i2).toArray by simp]
  exact ⟨.ref _, _, I.lnew (t' := s.toks) (r1.append r2) (by rw [List.length_append]; omega), rfl, q _ I.fresh⟩
def rAddA (K : PySem.W.Frag) : R2 := fun x y H Q => rAddI x y H Q ∨ (rAddT x y H Q ∨ (rAddL K x y H Q ∨ rCatA K x y H Q))
theorem op_addA {X : Cx} : OpR X (binaryOp .Add) (rAddA X.K) := op_add.or (op_add_str.or (op_addL.or op_catA))
def rSubA : R2 := rI0 fun i j => .int (i - j)
def rMulI : R2 := rI CMul fun i j => .int (i * j)
def rMulA (K : PySem.W.Frag) : R2 := fun x y H Q => rMulI x y H Q ∨ rRep x y H Q
theorem op_mulA {X : Cx} : OpR X (binaryOp .Mult) (rMulA X.K) := op_mul.or op_rep
def rDivA : R2 := rI CDiv fun i j => .int (i / j)
def rModA : R2 := rI (fun _ j => 0 < j) fun i j => .int (i % j)
def rPowA : R2 := rI CPow fun i j => .int (i ^ j.toNat)
theorem op_subA {X : Cx} : OpR X (binaryOp .Sub) rSubA := op_sub
theorem op_divA {X : Cx} : OpR X (binaryOp .FloorDiv) rDivA := op_fdiv
theorem op_modA {X : Cx} : OpR X (binaryOp .Mod) rModA := op_mod
theorem op_powA {X : Cx} : OpR X (binaryOp .Pow) rPowA := op_pow
def rEqA (K : PySem.W.Frag) : R2 := fun x y H Q => rEq x y H Q ∨ rEqD K x y H Q
def rNeA (K : PySem.W.Frag) : R2 := fun x y H Q => rNe x y H Q ∨ rNeD K x y H Q
theorem op_eqA {X : Cx} {k : Nat} (hr : RG k X.A) : OpR X (compareOp .Eq) (rEqA X.K) := op_eq.or (op_eqD hr.rm.units)
theorem op_neA {X : Cx} {k : Nat} (hr : RG k X.A) : OpR X (compareOp .NotEq) (rNeA X.K) := op_ne.or (op_neD hr.rm.units)
def rLtA : R2 := fun x y H Q => (∃ i j, x = .int i ∧ y = .int j ∧ Q (.bl (decide (i < j))) H) ∨ (∃ i j, x = .str i ∧ y = .str j ∧ Q (.bl (decide (i.cps.toList < j.cps.toList))) H)
def rLeA : R2 := fun x y H Q => (∃ i j, x = .int i ∧ y = .int j ∧ Q (.bl (decide (i ≤ j))) H) ∨ (∃ i j, x = .str i ∧ y = .str j ∧ Q (.bl (!decide (j.cps.toList < i.cps.toList))) H)
def rGtA : R2 := fun x y H Q => (∃ i j, x = .int i ∧ y = .int j ∧ Q (.bl (decide (j < i))) H) ∨ (∃ i j, x = .str i ∧ y = .str j ∧ Q (.bl (decide (j.cps.toList < i.cps.toList))) H)
def rGeA : R2 := fun x y H Q => (∃ i j, x = .int i ∧ y = .int j ∧ Q (.bl (decide (j ≤ i))) H) ∨ (∃ i j, x = .str i ∧ y = .str j ∧ Q (.bl (!decide (i.cps.toList < j.cps.toList))) H)
theorem op_ltA {X : Cx} : OpR X (compareOp .Lt) rLtA := OpR.or (r1 := rI0 fun i j => .bl (decide (i < j))) op_lt op_lt_str
theorem op_leA {X : Cx} : OpR X (compareOp .LtE) rLeA := OpR.or (r1 := rI0 fun i j => .bl (decide (i ≤ j))) op_le op_le_str
theorem op_gtA {X : Cx} : OpR X (compareOp .Gt) rGtA := OpR.or (r1 := rI0 fun i j => .bl (decide (j < i))) op_gt op_gt_str
theorem op_geA {X : Cx} : OpR X (compareOp .GtE) rGeA := OpR.or (r1 := rI0 fun i j => .bl (decide (j ≤ i))) op_ge op_ge_str
def rInA (K : PySem.W.Frag) : R2 := fun x y H Q => rIn K false x y H Q ∨ rInS x y H Q
def rNotInA (K : PySem.W.Frag) : R2 := fun x y H Q => rIn K true x y H Q ∨ rNotInS x y H Q
theorem op_inA {X : Cx} : OpR X (compareOp .In) (rInA X.K) := op_in_seq.or op_inS
theorem op_notInA {X : Cx} : OpR X (compareOp .NotIn) (rNotInA X.K) := op_notIn_seq.or op_notInS
def rIsA : R2 := rIsN
def rIsNotA : R2 := rNotN
theorem op_isA {X : Cx} : OpR X (compareOp .Is) rIsA := op_isN1
theorem op_isNotA {X : Cx} : OpR X (compareOp .IsNot) rIsNotA := op_notN1
def ipAddA : TIp := fun x y H Q => (∃ i j, x = .int i ∧ y = .int j ∧ Q (.int (i + j)) H) ∨ (∃ i j, x = .str i ∧ y = .str j ∧ i.length + j.length ≤ sizeLine ∧ Q (.str (i ++ j)) H)
theorem ip_addA {X : Cx} : PIp X .Add ipAddA := fun pins s σ H x y v u Q I rx ry h => h.elim (fun h => ip_add pins s σ H x y v u Q I rx ry h) (fun h => iop_add_str pins s σ H x y v u Q I rx ry h)
def ipSubA : TIp := ipI fun i j => i - j
theorem ip_subA {X : Cx} : PIp X .Sub ipSubA := ip_sub
def rLenA (K : PySem.W.Frag) : List V → Hp → VK → Prop := fun xs H Q => ∃ x n, xs = [x] ∧ LenV K x H n ∧ Q (.int n) H
theorem call_lenA {X : Cx} : CallR X (.builtin "len") (rLenA X.K) := call_len

/-! ### readings, one step at a time -/
section
variable {σ : L2.St} {H : Hp} {Q : VK} {K : PySem.W.Frag} {ta tb tc : TE} {v x y : V} {D : Ends} {t u : TS} {tt tu : TT} {i j : Int}
theorem g_var {n : Nat} (h : σ[n]? = some (some v)) (q : Q v H) : tVar n σ H Q := ⟨v, h, q⟩
theorem g_c (q : Q v H) : tC v σ H Q := q
theorem g_op {r : R2} (q : ta σ H fun x H1 => tb σ H1 fun y H2 => r x y H2 Q) : tOp r ta tb σ H Q := q
theorem g_chain {r r' : R2} (q : ta σ H fun x H1 => tb σ H1 fun y H2 => r x y H2 fun z H3 => ∃ k, z = .bl k ∧ if k = true then tc σ H3 fun w H4 => r' y w H4 Q else Q (.bl false) H3) : tChain r r' ta tb tc σ H Q := q
theorem g_test {Q : Bool → Hp → Prop} (q : ta σ H fun x H1 => ∃ k, x = .bl k ∧ Q k H1) : tTest ta σ H Q := q
theorem g_tB {Q : Bool → Hp → Prop} (q : ta σ H fun x H1 => ∃ k, x = .bl k ∧ Q k H1) : tB ta σ H Q := q
theorem g_bl {b : Bool} {P : Bool → Prop} (q : P b) : ∃ k, V.bl b = V.bl k ∧ P k := ⟨b, rfl, q⟩
theorem g_and {Q : Bool → Hp → Prop} (q : tt σ H fun c H1 => if c = true then tu σ H1 Q else Q false H1) : tAnd tt tu σ H Q := q
theorem g_or {Q : Bool → Hp → Prop} (q : tt σ H fun c H1 => if c = true then Q true H1 else tu σ H1 Q) : tOr tt tu σ H Q := q
theorem g_not {Q : Bool → Hp → Prop} (q : tt σ H fun c H1 => Q (!c) H1) : tNot tt σ H Q := q
theorem g_andV (q : ta σ H fun x H1 => ∃ c, x = .bl c ∧ if c = true then tb σ H1 Q else Q (.bl false) H1) : tAndV ta tb σ H Q := q
theorem g_orV (q : ta σ H fun x H1 => ∃ c, x = .bl c ∧ if c = true then Q (.bl true) H1 else tb σ H1 Q) : tOrV ta tb σ H Q := q
theorem g_notV (q : ta σ H fun x H1 => ∃ c, x = .bl c ∧ Q (.bl (!c)) H1) : tNotV ta σ H Q := q
theorem g_ifE (q : tt σ H fun c H1 => if c = true then ta σ H1 Q else tb σ H1 Q) : tIf tt ta tb σ H Q := q
theorem g_seq (q : t { nx := u D, rt := D.rt, bk := D.bk, ct := D.ct } σ H) : tSeq t u D σ H := q
theorem g_asg {n : Nat} (q : ta σ H fun x H1 => D.nx (σ.set n (some x)) H1) : tAsg ta (gName n) D σ H := q
theorem g_ret (q : ta σ H D.rt) : tRet ta D σ H := q
theorem g_ifS (q : tt σ H fun c H1 => if c = true then t D σ H1 else u D σ H1) : tIfS tt t u D σ H := q
theorem g_next (q : D.nx σ H) : tNext D σ H := q
theorem g_drop (q : ta σ H fun _ H1 => D.nx σ H1) : tDrop ta D σ H := q
theorem g_nil {Q : List V → Hp → Prop} (q : Q [] H) : tNil σ H Q := q
theorem g_cons {tr : TA} {Q : List V → Hp → Prop} (q : ta σ H fun x H1 => tr σ H1 fun xs H2 => Q (x :: xs) H2) : tCons ta tr σ H Q := q
theorem g_tup {t : TA} (q : t σ H fun xs H1 => xs.length ≤ sizeLine ∧ ∀ p, H1 p = none → Q (.ref p) (upd H1 p (.tup xs))) : tTup t σ H Q := q
theorem g_lst {t : TA} (q : t σ H fun xs H1 => xs.length ≤ sizeLine ∧ ∀ p, H1 p = none → Q (.ref p) (upd H1 p (.lst xs))) : tLst t σ H Q := q
theorem g_sz {xs : List V} {P : Prop} (h : xs.length ≤ 100000) (q : P) : xs.length ≤ sizeLine ∧ P := ⟨Nat.le_trans h (by decide), q⟩
theorem g_cb {r : List V → Hp → VK → Prop} {t : TA} (q : t σ H fun xs H1 => r xs H1 Q) : tCB r t σ H Q := q
theorem g_callG {n m : Nat} {sp : Sp} {g : List V → List V → List V} {t tk : TA} (q : t σ H fun xs H1 => tk σ H1 fun zs H2 => xs.length = n ∧ zs.length = m ∧ sp (g xs zs) H2 Q E0) : tCallG n m sp g t tk σ H Q := q
theorem g_args {n m : Nat} {xs zs : List V} {P : Prop} (h1 : xs.length = n) (h2 : zs.length = m) (q : P) : xs.length = n ∧ zs.length = m ∧ P := ⟨h1, h2, q⟩
theorem g_spx {sp : Sp} {xs : List V} {E : XK} (q : sp xs H Q E) : sp xs H Q E := q
theorem g_sp {sp : Sp} {xs : List V} (q : sp xs H Q E0) : sp xs H Q E0 := q
theorem g_addI (q : Q (.int (i + j)) H) : rAddA K (.int i) (.int j) H Q := .inl ⟨i, j, rfl, rfl, q⟩
theorem g_addT {a b : Str} (h : a.length + b.length ≤ sizeLine) (q : Q (.str (a ++ b)) H) : rAddA K (.str a) (.str b) H Q := .inr (.inl ⟨a, b, rfl, rfl, h, q⟩)
theorem g_addL {a b : Addr} {xs ys : List V} (h1 : SqL K H a xs) (h2 : SqL K H b ys) (h : xs.length + ys.length ≤ sizeLine) (q : ∀ p, H p = none → Q (.ref p) (upd H p (.lst (xs ++ ys)))) : rAddA K (.ref a) (.ref b) H Q := .inr (.inr (.inl ⟨a, b, xs, ys, rfl, rfl, h1, h2, h, q⟩))
theorem g_sub (q : Q (.int (i - j)) H) : rSubA (.int i) (.int j) H Q := ⟨i, j, rfl, rfl, q⟩
theorem g_mulI (c : CMul i j) (q : Q (.int (i * j)) H) : rMulA K (.int i) (.int j) H Q := .inl ⟨i, j, rfl, rfl, c, q⟩
theorem g_rep {a : Addr} {xs : List V} (h : H a = some (.lst xs)) (h1 : -(2 ^ 63) ≤ j) (h2 : j < 2 ^ 63) (h3 : xs.length * j.toNat ≤ sizeLine) (q : ∀ p, H p = none → Q (.ref p) (upd H p (.lst (List.replicate j.toNat xs).flatten))) : rMulA K (.ref a) (.int j) H Q := .inr ⟨a, j, xs, rfl, rfl, h, h1, h2, h3, q⟩
theorem flat1 {α : Type} (x : α) : ∀ n : Nat, (List.replicate n [x]).flatten = List.replicate n x
  | 0 => rfl
  | n + 1 => by rw [List.replicate_succ, List.flatten_cons, flat1 x n, List.replicate_succ]; rfl
theorem g_rep1 {a : Addr} (h : H a = some (.lst [x])) (h1 : -(2 ^ 63) ≤ j) (h2 : j < 2 ^ 63) (h3 : j.toNat ≤ 1000) (q : ∀ p, H p = none → Q (.ref p) (upd H p (.lst (List.replicate j.toNat x)))) : rMulA K (.ref a) (.int j) H Q :=
  g_rep h h1 h2 (by show 1 * j.toNat ≤ sizeLine; rw [Nat.one_mul]; exact Nat.le_trans h3 (by decide)) (by rw [flat1]; exact q)
theorem g_div (c : CDiv i j) (q : Q (.int (i / j)) H) : rDivA (.int i) (.int j) H Q := ⟨i, j, rfl, rfl, c, q⟩
theorem g_mod (c : 0 < j) (q : Q (.int (i % j)) H) : rModA (.int i) (.int j) H Q := ⟨i, j, rfl, rfl, c, q⟩
theorem g_pow (c : CPow i j) (q : Q (.int (i ^ j.toNat)) H) : rPowA (.int i) (.int j) H Q := ⟨i, j, rfl, rfl, c, q⟩
theorem v_int : decide (V.int i = V.int j) = decide (i = j) := by by_cases h : i = j <;> simp [h]
theorem v_bl {a b : Bool} : decide (V.bl a = V.bl b) = decide (a = b) := by by_cases h : a = b <;> simp [h]
theorem v_str {a b : Str} : decide (V.str a = V.str b) = decide (a = b) := by by_cases h : a = b <;> simp [h]
theorem g_eqI (q : Q (.bl (decide (i = j))) H) : rEqA K (.int i) (.int j) H Q := .inl ⟨rfl, by rw [v_int]; exact q⟩
theorem g_eqB {a b : Bool} (q : Q (.bl (decide (a = b))) H) : rEqA K (.bl a) (.bl b) H Q := .inl ⟨rfl, by rw [v_bl]; exact q⟩
theorem g_eqT {a b : Str} (q : Q (.bl (decide (a = b))) H) : rEqA K (.str a) (.str b) H Q := .inl ⟨rfl, by rw [v_str]; exact q⟩
theorem g_neI (q : Q (.bl (!decide (i = j))) H) : rNeA K (.int i) (.int j) H Q := .inl ⟨rfl, by rw [v_int]; exact q⟩
theorem g_neB {a b : Bool} (q : Q (.bl (!decide (a = b))) H) : rNeA K (.bl a) (.bl b) H Q := .inl ⟨rfl, by rw [v_bl]; exact q⟩
theorem g_neT {a b : Str} (q : Q (.bl (!decide (a = b))) H) : rNeA K (.str a) (.str b) H Q := .inl ⟨rfl, by rw [v_str]; exact q⟩
theorem g_eqD {d e : PyData} (h1 : Dp K H x d) (h2 : Dp K H y e) (s1 : SeqAt.shaped d = true) (s2 : SeqAt.shaped e = true) (q : Q (.bl (PyData.eqv d e)) H) : rEqA K x y H Q := .inr ⟨d, e, h1, h2, s1, s2, q⟩
theorem g_neD {d e : PyData} (h1 : Dp K H x d) (h2 : Dp K H y e) (s1 : SeqAt.shaped d = true) (s2 : SeqAt.shaped e = true) (q : Q (.bl (!PyData.eqv d e)) H) : rNeA K x y H Q := .inr ⟨d, e, h1, h2, s1, s2, q⟩
theorem g_ltI (q : Q (.bl (decide (i < j))) H) : rLtA (.int i) (.int j) H Q := .inl ⟨i, j, rfl, rfl, q⟩
theorem g_leI (q : Q (.bl (decide (i ≤ j))) H) : rLeA (.int i) (.int j) H Q := .inl ⟨i, j, rfl, rfl, q⟩
theorem g_gtI (q : Q (.bl (decide (j < i))) H) : rGtA (.int i) (.int j) H Q := .inl ⟨i, j, rfl, rfl, q⟩
theorem g_geI (q : Q (.bl (decide (j ≤ i))) H) : rGeA (.int i) (.int j) H Q := .inl ⟨i, j, rfl, rfl, q⟩
theorem g_inS {c : Nat} {z : Str} (q : Q (.bl (decide (c ∈ z.cps.toList))) H) : rInA K (.str ⟨#[c]⟩) (.str z) H Q := .inr ⟨c, z, rfl, rfl, q⟩
theorem g_niS {c : Nat} {z : Str} (q : Q (.bl (!decide (c ∈ z.cps.toList))) H) : rNotInA K (.str ⟨#[c]⟩) (.str z) H Q := .inr ⟨c, z, rfl, rfl, q⟩
theorem g_inT {a : Addr} {xs : List V} (h : SqT K H a xs) (h1 : flatV x = true) (h2 : xs.all flatV = true) (q : Q (.bl (inV x xs)) H) : rInA K x (.ref a) H Q := .inl ⟨a, xs, rfl, .inr h, h1, h2, q⟩
theorem g_inL {a : Addr} {xs : List V} (h : SqL K H a xs) (h1 : flatV x = true) (h2 : xs.all flatV = true) (q : Q (.bl (inV x xs)) H) : rInA K x (.ref a) H Q := .inl ⟨a, xs, rfl, .inl h, h1, h2, q⟩
theorem g_ixL {a : Addr} {xs : List V} (h : SqL K H a xs) (h1 : atI xs i = some v) (q : Q v H) : rIx K (.ref a) (.int i) H Q := .inl ⟨a, xs, i, v, rfl, rfl, h, h1, q⟩
theorem g_ixT {a : Addr} {xs : List V} (h : SqT K H a xs) (h1 : atI xs i = some v) (q : Q v H) : rIx K (.ref a) (.int i) H Q := .inr (.inl ⟨a, xs, i, v, rfl, rfl, h, h1, q⟩)
theorem g_ixS {z : Str} {c : Nat} (h : z.length ≤ sizeLine) (h1 : atI z.cps.toList i = some c) (q : Q (.str ⟨#[c]⟩) H) : rIx K (.str z) (.int i) H Q := .inr (.inr ⟨z, i, c, rfl, rfl, h, h1, q⟩)
theorem g_lenT {z : Str} (h : z.length ≤ sizeLine) (q : Q (.int z.length) H) : rLenA K [.str z] H Q := ⟨_, _, rfl, ⟨h, rfl⟩, q⟩
theorem g_lenL {a : Addr} {xs : List V} (h : SqL K H a xs) (q : Q (.int xs.length) H) : rLenA K [.ref a] H Q := ⟨_, _, rfl, .inl ⟨xs, h, rfl⟩, q⟩
theorem g_lenU {a : Addr} {xs : List V} (h : SqT K H a xs) (q : Q (.int xs.length) H) : rLenA K [.ref a] H Q := ⟨_, _, rfl, .inr ⟨xs, h, rfl⟩, q⟩
theorem g_isi {T tn : String} {b : Bool} (ty : TyX K H x (.type tn)) (h : kitB tn T = some b) (q : Q (.bl b) H) : rIsi K [x, .ty T] H Q := ⟨x, .ty T, _, _, b, rfl, .ty T, ty, kit_ty h, q⟩
theorem g_repr {d : PyData} (h : Dp K H v d) (h2 : Shows d) (q : Q (.str d.shown) H) : rRepr K [v] H Q := ⟨v, d, rfl, h, h2, q⟩
theorem g_ite {p A B : Prop} [Decidable p] (h1 : p → A) (h2 : ¬ p → B) : if decide p = true then A else B := by
  by_cases h : p
  · rw [if_pos (decide_eq_true h)]; exact h1 h
  · rw [if_neg (by rw [decide_eq_false h]; exact Bool.false_ne_true)]; exact h2 h
theorem g_iteN {p A B : Prop} [Decidable p] (h1 : p → B) (h2 : ¬ p → A) : if (!decide p) = true then A else B := by
  by_cases h : p
  · rw [if_neg (by rw [decide_eq_true h]; decide)]; exact h1 h
  · rw [if_pos (by rw [decide_eq_false h]; rfl)]; exact h2 h
theorem g_iteT {p A B : Prop} [Decidable p] (h : p) (q : A) : if decide p = true then A else B := by rw [if_pos (decide_eq_true h)]; exact q
theorem g_iteF {p A B : Prop} [Decidable p] (h : ¬ p) (q : B) : if decide p = true then A else B := by rw [if_neg (by rw [decide_eq_false h]; exact Bool.false_ne_true)]; exact q
theorem g_iteNT {p A B : Prop} [Decidable p] (h : ¬ p) (q : A) : if (!decide p) = true then A else B := by rw [if_pos (by rw [decide_eq_false h]; rfl)]; exact q
theorem g_iteNF {p A B : Prop} [Decidable p] (h : p) (q : B) : if (!decide p) = true then A else B := by rw [if_neg (by rw [decide_eq_true h]; decide)]; exact q
theorem g_iteNtt {A B : Prop} (q : B) : if (!true) = true then A else B := q
theorem g_iteNff {A B : Prop} (q : A) : if (!false) = true then A else B := q
theorem g_iteb {b : Bool} {A B : Prop} (h1 : b = true → A) (h2 : b = false → B) : if b = true then A else B := by
  cases b with
  | true => exact h1 rfl
  | false => exact h2 rfl
theorem g_iteNb {b : Bool} {A B : Prop} (h1 : b = false → A) (h2 : b = true → B) : if (!b) = true then A else B := by
  cases b with
  | true => exact h2 rfl
  | false => exact h1 rfl
end
end Hf
namespace Hf
open PySem L2 PySem.Spec PyProof.Rows
/-! ### heaps -/
section
variable {H H1 H2 : Hp} {a p : Addr} {o : HO} {K : PySem.W.Frag} {xs : List V}
theorem Same.at_ (e : Same H H1) (h : H a = some o) : H1 a = some o := e a o h
theorem Same.seqT (e : Same H H1) (h : SqT K H a xs) : SqT K H1 a xs := by
  rcases h with (h | ⟨o, h⟩) | h
  · exact .inl (.inl (e _ _ h))
  · exact .inl (.inr ⟨o, e _ _ h⟩)
  · exact .inr h
theorem Same.upd (hp : H p = none) (e : Same H H1) : Same H (upd H1 p o) := fun b u z => by
  rw [upd_ne (ne_of_none z hp)]
  exact e b u z
theorem seq_new (hp : H p = none) (h : SqL K H a xs) : SqL K (upd H p o) a xs := (Same.upd hp (Same.refl H)).seq h
theorem seqT_new (hp : H p = none) (h : SqT K H a xs) : SqT K (upd H p o) a xs := Same.seqT (Same.upd hp (Same.refl H)) h
theorem free_upd (h : upd H p o a = none) : H a = none := by
  by_cases e : a = p
  · subst e; rw [upd_same] at h; exact nomatch h
  · rw [upd_ne e] at h; exact h
mutual
theorem Same.dp (e : Same H H1) : ∀ (d : PyData) (v : V), Dp K H v d → Dp K H1 v d
  | .none, _, .non => .non
  | .bool _, _, .bl _ => .bl _
  | .int _, _, .int _ => .int _
  | .str _, _, .str _ => .str _
  | .list ds, _, .lst h1 h2 => .lst (e.seq h1) (Same.dps e ds _ h2)
  | .tuple ds, _, .tup h1 h2 => .tup (Same.seqT e h1) (Same.dps e ds _ h2)
theorem Same.dps (e : Same H H1) : ∀ (ds : List PyData) (vs : List V), DpAll K H vs ds → DpAll K H1 vs ds
  | [], _, .nil => .nil
  | d :: ds, _, .cons h1 h2 => .cons (Same.dp e d _ h1) (Same.dps e ds _ h2)
end
end
section
variable {H H1 : Hp} {Q : VK} {v w : V}
/-- the end of a def that leaves all as it was -/
theorem fin {P : Hp → Prop} (k : ∀ H', Same H H' → Q v H') (e : w = v) (s : Same H H1) : Q w H1 := e ▸ k H1 s
theorem finI {i j : Int} (k : ∀ H', Same H H' → Q (.int i) H') (e : j = i) (s : Same H H1) : Q (.int j) H1 := e ▸ k H1 s
theorem finB {b c : Bool} (k : ∀ H', Same H H' → Q (.bl b) H') (e : c = b) (s : Same H H1) : Q (.bl c) H1 := e ▸ k H1 s
theorem finT {b c : Str} (k : ∀ H', Same H H' → Q (.str b) H') (e : c = b) (s : Same H H1) : Q (.str c) H1 := e ▸ k H1 s
end
/-! ### names of the module -/
theorem pe_globE {X : Cx} {x : Str} {v : V} {pos : Pos} (h : ∃ u, X.mg x = some u ∧ RelV v u) (hg : Gl X x := by rfl) (hd : (x == ("__debug__" : Str)) = false := by decide) : PE X (.Name x pos) (tC v) := by
  obtain ⟨u, h1, h2⟩ := h
  exact pe_glob hg h1 h2 hd
/-! ### isinstance against built-in types -/
theorem k_int_int : kitB "int" "int" = some true := by decide +kernel
theorem k_int_bool : kitB "int" "bool" = some false := by decide +kernel
theorem k_bool_bool : kitB "bool" "bool" = some true := by decide +kernel
theorem k_bool_int : kitB "bool" "int" = some true := by decide +kernel
theorem k_str_str : kitB "str" "str" = some true := by decide +kernel
theorem k_str_int : kitB "str" "int" = some false := by decide +kernel
theorem k_int_str : kitB "int" "str" = some false := by decide +kernel
section
variable {H : Hp} {K : PySem.W.Frag} {Q : VK} {i : Int} {b : Bool} {z : Str}
theorem g_isiII (q : Q (.bl true) H) : rIsi K [.int i, .ty "int"] H Q := g_isi (.base (.int _)) k_int_int q
theorem g_isiIB (q : Q (.bl false) H) : rIsi K [.int i, .ty "bool"] H Q := g_isi (.base (.int _)) k_int_bool q
theorem g_isiBB (q : Q (.bl true) H) : rIsi K [.bl b, .ty "bool"] H Q := g_isi (.base (.bl _)) k_bool_bool q
theorem g_isiBI (q : Q (.bl true) H) : rIsi K [.bl b, .ty "int"] H Q := g_isi (.base (.bl _)) k_bool_int q
theorem g_isiSS (q : Q (.bl true) H) : rIsi K [.str z, .ty "str"] H Q := g_isi (.base (.str _)) k_str_str q
theorem g_isiSI (q : Q (.bl false) H) : rIsi K [.str z, .ty "int"] H Q := g_isi (.base (.str _)) k_str_int q
theorem g_isiIS (q : Q (.bl false) H) : rIsi K [.int i, .ty "str"] H Q := g_isi (.base (.int _)) k_int_str q
end
end Hf

set_option Elab.async false
set_option linter.all false
set_option maxRecDepth 100000
set_option maxHeartbeats 4000000
namespace Hf
open PySem L2 PySem.Spec PyProof.Rows
/-! ### loops -/
section
variable {σ : L2.St} {H : Hp} {Q : VK} {K : PySem.W.Frag} {D : Ends} {c : TT} {tb : TS} {wi : TI} {g : TG} {te : TE} {ta : TA} {v : V}
theorem g_name {n : Nat} {Q : L2.St → Hp → Prop} (q : Q (σ.set n (some v)) H) : gName n v σ H Q := q
theorem g_while (W : Nat → L2.St → Hp → Prop) (m : Nat) (h0 : W m σ H)
    (hs : ∀ m σ H, W m σ H → c σ H fun b H1 => if b = true then ∃ N : L2.St → Hp → Prop, (∀ σ' H', N σ' H' → ∃ m', m' < m ∧ W m' σ' H') ∧ tb { D with nx := N, ct := N, bk := D.nx } σ H1 else D.nx σ H1) : tWhile c tb D σ H :=
  ⟨W, ⟨m, h0⟩, hs⟩
theorem g_turn {W : Nat → L2.St → Hp → Prop} {m : Nat} (q : tb { D with nx := fun σ' H' => ∃ m', m' < m ∧ W m' σ' H', ct := fun σ' H' => ∃ m', m' < m ∧ W m' σ' H', bk := D.nx } σ H) :
    ∃ N : L2.St → Hp → Prop, (∀ σ' H', N σ' H' → ∃ m', m' < m ∧ W m' σ' H') ∧ tb { D with nx := N, ct := N, bk := D.nx } σ H := ⟨_, fun _ _ n => n, q⟩
theorem g_for1 (q : ta σ H fun vs H1 => ∃ j : Int, vs = [.int j] ∧ -(2 ^ 62) ≤ j ∧ j < 2 ^ 62 ∧ ∃ W : Nat → Nat → L2.St → Hp → Prop, (∃ m, W 0 m σ H1) ∧ ∀ i m σ H, W i m σ H →
  ((Itr 0 j.toNat).stop i H ∧ D.nx σ H) ∨ ((Itr 0 j.toNat).go i H ∧ ∃ N : L2.St → Hp → Prop, (∀ σ' H', N σ' H' → ∃ m', m' < m ∧ W (i + 1) m' σ' H') ∧ ∀ x H', (Itr 0 j.toNat).yld i H x H' → g x σ H' fun σ2 H2 => tb { D with nx := N, ct := N, bk := D.nx } σ2 H2)) : tFor (iRng1 ta) g tb D σ H := q
theorem g_for2 (q : ta σ H fun vs H1 => ∃ i j : Int, vs = [.int i, .int j] ∧ (-(2 ^ 62) ≤ i ∧ i < 2 ^ 62 ∧ -(2 ^ 62) ≤ j ∧ j < 2 ^ 62) ∧ ∃ W : Nat → Nat → L2.St → Hp → Prop, (∃ m, W 0 m σ H1) ∧ ∀ k m σ H, W k m σ H →
  ((Itr i (j - i).toNat).stop k H ∧ D.nx σ H) ∨ ((Itr i (j - i).toNat).go k H ∧ ∃ N : L2.St → Hp → Prop, (∀ σ' H', N σ' H' → ∃ m', m' < m ∧ W (k + 1) m' σ' H') ∧ ∀ x H', (Itr i (j - i).toNat).yld k H x H' → g x σ H' fun σ2 H2 => tb { D with nx := N, ct := N, bk := D.nx } σ2 H2)) : tFor (iRng2 ta) g tb D σ H := q
end
/-! ### comprehensions whose element is a plain value -/
/-- te gives v, whatever was laid meanwhile -/
def Evs (te : TE) (σ : L2.St) (H : Hp) (v : V) : Prop := ∀ Q : VK, (∀ H', Same H H' → Q v H') → te σ H Q
section
variable {σ : L2.St} {H : Hp} {Q : VK} {K : PySem.W.Frag} {te : TE} {ta : TA} {vs : List Nat} {j : Nat}
theorem range_snoc {α : Type} (n : Nat) (f : Nat → α) : (List.range (n + 1)).map f = (List.range n).map f ++ [f n] := by rw [List.range_succ, List.map_append]; rfl
theorem lc_map {lo : Int} {n : Nat} {Qd : Addr → Hp → Prop} (f : Nat → V) (hn : n ≤ 1000000) (hw : ∀ v, wipe ((wipe σ vs).set j (some v)) vs = wipe σ vs)
    (he : ∀ i : Nat, i < n → ∀ H', Same H H' → Evs te ((wipe σ vs).set j (some (.int (lo + i)))) H' (f i))
    (q : ∀ D H', H D = none → Same H H' → H' D = some (.lst ((List.range n).map f)) → Qd D H') :
    ∀ D, H D = none → ∃ W : Nat → Nat → Hp → Prop, (∃ m, W 0 m (upd H D (.lst []))) ∧ ∀ i m H, W i m H → ((Itr lo n).stop i H ∧ Qd D H) ∨ ((Itr lo n).go i H ∧ ∃ Nx : Hp → Prop, (∀ H', Nx H' → ∃ m', m' < m ∧ W (i + 1) m' H') ∧
      ∀ x H', (Itr lo n).yld i H x H' → gName j x (wipe σ vs) H' fun σ2 H2 => wipe σ2 vs = wipe σ vs ∧ tYes σ2 H2 fun b H3 => if b = true then te σ2 H3 fun y H4 => ∃ acc, H4 D = some (.lst acc) ∧ acc.length < sizeLine ∧ Nx (upd H4 D (.lst (acc ++ [y]))) else Nx H3) := by
  intro D hD
  refine lc_range (lo := lo) (n := n) (fun i H' => Same H H' ∧ H' D = some (.lst ((List.range i).map f))) ⟨Same.upd hD (Same.refl H), upd_same⟩ ?_ (fun H' p => q D H' hD p.1 p.2)
  rintro i H' hi ⟨s, hd⟩
  refine ⟨hw _, ?_⟩
  dsimp only [tYes]
  rw [if_pos rfl]
  refine he i hi H' s _ (fun H2 s2 => ⟨_, s2 D _ hd, ?_, Same.upd hD (Same.trans s s2), ?_⟩)
  · rw [List.length_map, List.length_range]
    exact Nat.lt_of_le_of_lt (Nat.le_trans (Nat.le_of_lt hi) hn) (by decide)
  · rw [range_snoc]
    exact upd_same
theorem g_lc1 {g : TG} {tt : TT} (q : ta σ H fun ws H1 => ∃ j : Int, ws = [.int j] ∧ -(2 ^ 62) ≤ j ∧ j < 2 ^ 62 ∧ ∀ D, H1 D = none → ∃ W : Nat → Nat → Hp → Prop, (∃ m, W 0 m (upd H1 D (.lst []))) ∧ ∀ i m H, W i m H → ((Itr 0 j.toNat).stop i H ∧ Q (.ref D) H) ∨
      ((Itr 0 j.toNat).go i H ∧ ∃ Nx : Hp → Prop, (∀ H', Nx H' → ∃ m', m' < m ∧ W (i + 1) m' H') ∧ ∀ x H', (Itr 0 j.toNat).yld i H x H' → g x (wipe σ vs) H' fun σ2 H2 => wipe σ2 vs = wipe σ vs ∧ tt σ2 H2 fun b H3 =>
        if b = true then te σ2 H3 fun y H4 => ∃ acc, H4 D = some (.lst acc) ∧ acc.length < sizeLine ∧ Nx (upd H4 D (.lst (acc ++ [y]))) else Nx H3)) : tLc (iRng1 ta) g tt te vs σ H Q := q
theorem g_lc2 {g : TG} {tt : TT} (q : ta σ H fun ws H1 => ∃ i j : Int, ws = [.int i, .int j] ∧ (-(2 ^ 62) ≤ i ∧ i < 2 ^ 62 ∧ -(2 ^ 62) ≤ j ∧ j < 2 ^ 62) ∧ ∀ D, H1 D = none → ∃ W : Nat → Nat → Hp → Prop, (∃ m, W 0 m (upd H1 D (.lst []))) ∧ ∀ k m H, W k m H → ((Itr i (j - i).toNat).stop k H ∧ Q (.ref D) H) ∨
      ((Itr i (j - i).toNat).go k H ∧ ∃ Nx : Hp → Prop, (∀ H', Nx H' → ∃ m', m' < m ∧ W (k + 1) m' H') ∧ ∀ x H', (Itr i (j - i).toNat).yld k H x H' → g x (wipe σ vs) H' fun σ2 H2 => wipe σ2 vs = wipe σ vs ∧ tt σ2 H2 fun b H3 =>
        if b = true then te σ2 H3 fun y H4 => ∃ acc, H4 D = some (.lst acc) ∧ acc.length < sizeLine ∧ Nx (upd H4 D (.lst (acc ++ [y]))) else Nx H3)) : tLc (iRng2 ta) g tt te vs σ H Q := q
theorem g_sum {a : Addr} {xs : List V} (ns : List Int) (h : SqL K H a xs) (e : xs = ns.map V.int) (q : Q (.int ns.sum) H) : rSum K [.ref a] H Q := ⟨a, ns, rfl, e ▸ h, q⟩
theorem g_par {i j : Nat} {D : Ends} (q : ta σ H fun vs H1 => ∃ v w, vs = [v, w] ∧ D.nx ((σ.set i (some v)).set j (some w)) H1) : tPar i j ta D σ H := q
theorem g_par3 {i j l : Nat} {D : Ends} (q : ta σ H fun vs H1 => ∃ u v w, vs = [u, v, w] ∧ D.nx (((σ.set i (some u)).set j (some v)).set l (some w)) H1) : tPar3 i j l ta D σ H := q
theorem g_two {v w : V} {P : V → V → Prop} (q : P v w) : ∃ a b, [v, w] = [a, b] ∧ P a b := ⟨v, w, rfl, q⟩
theorem g_three {u v w : V} {P : V → V → V → Prop} (q : P u v w) : ∃ a b c, [u, v, w] = [a, b, c] ∧ P a b c := ⟨u, v, w, rfl, q⟩
end
/-! ### draws -/
def drawK (c : Addr) (a l u : Int) : List (Key × V) := [(.inr "cells", .ref c), (.inr "at", .int a), (.inr "left", .int l), (.inr "used", .int u)]
/-- the state of the draws at d (the cells at c), behind at most n draws -/
def DrawAt (K : PySem.W.Frag) (n : Nat) (H : Hp) (d c : Addr) : Prop :=
  ∃ (ns : List Int) (a l u : Int), H d = some (.dK (drawK c a l u)) ∧ H c = some (.lst (ns.map V.int)) ∧ 0 < ns.length ∧ ns.length ≤ 64 ∧ 0 ≤ a ∧ a ≤ n ∧ 0 ≤ u ∧ u ≤ n
/-- all but d is as it was -/
def Keep (d : Addr) (H H' : Hp) : Prop := ∀ b o, b ≠ d → H b = some o → H' b = some o
theorem Keep.refl (d : Addr) (H : Hp) : Keep d H H := fun _ _ _ h => h
theorem Keep.of {d : Addr} {H H' : Hp} (s : Same H H') : Keep d H H' := fun b o _ h => s b o h
theorem Keep.trans {d : Addr} {H H1 H2 : Hp} (a : Keep d H H1) (b : Keep d H1 H2) : Keep d H H2 := fun c o n h => b c o n (a c o n h)
theorem Keep.same {d : Addr} {H H1 H2 : Hp} (a : Keep d H H1) (b : Same H1 H2) : Keep d H H2 := fun c o n h => b c o (a c o n h)
theorem Keep.set {d : Addr} {H H1 : Hp} {o : HO} (a : Keep d H H1) : Keep d H (upd H1 d o) := fun c u n h => by rw [upd_ne n]; exact a c u n h
theorem Keep.new {d p : Addr} {H H1 : Hp} {o : HO} (hp : H p = none) (a : Keep d H H1) : Keep d H (upd H1 p o) := fun c u n h => by rw [upd_ne (ne_of_none h hp)]; exact a c u n h
def notD : HO → Bool
  | .dK _ => false
  | .frz _ u => notD u
  | _ => true
section
variable {K : PySem.W.Frag} {n m : Nat} {H H1 : Hp} {d a p c : Addr} {o : HO} {xs : List V}
theorem DrawAt.ne (D : DrawAt K n H d c) (h : H a = some o) (no : notD o = true) : a ≠ d := fun e => by
  obtain ⟨ns, x, l, u, hd, _⟩ := D
  rw [e, hd] at h
  have h' := Option.some.inj h
  subst h'
  exact Bool.false_ne_true no
theorem Keep.at_ (k : Keep d H H1) (D : DrawAt K n H d c) (h : H a = some o) (no : notD o = true := by with_unfolding_all rfl) : H1 a = some o := k a o (D.ne h no) h
theorem Keep.seq (k : Keep d H H1) (D : DrawAt K n H d c) (h : SqL K H a xs) : SqL K H1 a xs := by
  rcases h with (h | ⟨o, h⟩) | h
  · exact .inl (.inl (k.at_ D h))
  · exact .inl (.inr ⟨o, k.at_ D h⟩)
  · exact .inr h
theorem Keep.seqT (k : Keep d H H1) (D : DrawAt K n H d c) (h : SqT K H a xs) : SqT K H1 a xs := by
  rcases h with (h | ⟨o, h⟩) | h
  · exact .inl (.inl (k.at_ D h))
  · exact .inl (.inr ⟨o, k.at_ D h⟩)
  · exact .inr h
theorem Keep.free (k : Keep d H H1) (h : H1 a = none) (D1 : DrawAt K m H1 d c) : H a = none := by
  cases e : H a with
  | none => rfl
  | some o =>
    by_cases q : a = d
    · obtain ⟨ns, x, l, u, hd, _⟩ := D1
      rw [q, hd] at h
      exact nomatch h
    · rw [k a o q e] at h
      exact nomatch h
theorem DrawAt.same (s : Same H H1) (D : DrawAt K n H d c) : DrawAt K n H1 d c := by
  obtain ⟨ns, x, l, u, hd, hs, r⟩ := D
  exact ⟨ns, x, l, u, s _ _ hd, s _ _ hs, r⟩
theorem DrawAt.new (hp : H p = none) (D : DrawAt K n H d c) : DrawAt K n (upd H p o) d c := DrawAt.same (Same.upd hp (Same.refl H)) D
theorem DrawAt.put (D : DrawAt K n H d c) (h1 : p ≠ d) (h2 : p ≠ c) : DrawAt K n (upd H p o) d c := by
  obtain ⟨ns, x, l, u, hd, hs, r⟩ := D
  exact ⟨ns, x, l, u, by rw [upd_ne (Ne.symm h1)]; exact hd, by rw [upd_ne (Ne.symm h2)]; exact hs, r⟩
theorem DrawAt.off (D : DrawAt K n H d c) (hp : H p = none) : p ≠ d ∧ p ≠ c := by
  obtain ⟨ns, x, l, u, hd, hs, r⟩ := D
  exact ⟨Ne.symm (ne_of_none hd hp), Ne.symm (ne_of_none hs hp)⟩
theorem DrawAt.mono (h : n ≤ m) (D : DrawAt K n H d c) : DrawAt K m H d c := by
  obtain ⟨ns, x, l, u, hd, hs, h1, h2, h3, h4, h5, h6⟩ := D
  exact ⟨ns, x, l, u, hd, hs, h1, h2, h3, by omega, h5, by omega⟩
end
theorem DrawAt.up {K : PySem.W.Frag} {n m : Nat} {H : Hp} {d c : Addr} (D : DrawAt K n H d c) (h : n ≤ m) : DrawAt K m H d c := D.mono h
section
variable {H H1 : Hp} {a p d : Addr} {o u : HO}
theorem Same.new (hp : H1 p = none) (s : Same H H1) : Same H (L2.upd H1 p o) := Same.trans s (Same.upd hp (Same.refl H1))
theorem Keep.fresh (hp : H1 p = none) (s : Keep d H H1) : Keep d H (upd H1 p o) := s.same (Same.upd hp (Same.refl H1))
theorem upd_new (hp : H p = none) (h : H a = some u) : upd H p o a = some u := by rw [upd_ne (ne_of_none h hp)]; exact h
theorem upd_off (n : a ≠ p) (h : H a = some u) : upd H p o a = some u := by rw [upd_ne n]; exact h
end
theorem dk_cells {c : Addr} {a l u : Int} : valV (drawK c a l u) (Sum.inr "cells") = some (.ref c) := rfl
theorem dk_at {c : Addr} {a l u : Int} : valV (drawK c a l u) (Sum.inr "at") = some (.int a) := rfl
theorem dk_left {c : Addr} {a l u : Int} : valV (drawK c a l u) (Sum.inr "left") = some (.int l) := rfl
theorem dk_used {c : Addr} {a l u : Int} : valV (drawK c a l u) (Sum.inr "used") = some (.int u) := rfl
theorem pk_at {c : Addr} {a l u b : Int} : putK (drawK c a l u) (Sum.inr "at") (.int b) = drawK c b l u := rfl
theorem pk_left {c : Addr} {a l u b : Int} : putK (drawK c a l u) (Sum.inr "left") (.int b) = drawK c a b u := rfl
theorem pk_used {c : Addr} {a l u b : Int} : putK (drawK c a l u) (Sum.inr "used") (.int b) = drawK c a l b := rfl
/-- what d[s] = v asks, d in the slot n -/
def DPutAt (σ : L2.St) (n : Nat) (s : Str) (v : V) (H : Hp) (P : Hp → Prop) : Prop := tVar n σ H fun x H2 => tC (.str s) σ H2 fun y H3 => ∃ a H4, x = .ref a ∧ DPut H3 a y v H4 ∧ P H4
section
variable {σ : L2.St} {H : Hp} {Q : VK} {d c : Addr} {a l u b : Int} {td ty tv : TE} {D : Ends}
theorem g_dcells {n : Nat} (hv : σ[n]? = some (some (.ref d))) (h : H d = some (.dK (drawK c a l u))) (q : Q (.ref c) H) : tDGet (tVar n) (tC (.str "cells")) σ H Q := ⟨_, hv, d, _, rfl, dk_cells ▸ DGet.k (k := Sum.inr "cells") h, q⟩
theorem g_dat {n : Nat} (hv : σ[n]? = some (some (.ref d))) (h : H d = some (.dK (drawK c a l u))) (q : Q (.int a) H) : tDGet (tVar n) (tC (.str "at")) σ H Q := ⟨_, hv, d, _, rfl, dk_at ▸ DGet.k (k := Sum.inr "at") h, q⟩
theorem g_dleft {n : Nat} (hv : σ[n]? = some (some (.ref d))) (h : H d = some (.dK (drawK c a l u))) (q : Q (.int l) H) : tDGet (tVar n) (tC (.str "left")) σ H Q := ⟨_, hv, d, _, rfl, dk_left ▸ DGet.k (k := Sum.inr "left") h, q⟩
theorem g_dused {n : Nat} (hv : σ[n]? = some (some (.ref d))) (h : H d = some (.dK (drawK c a l u))) (q : Q (.int u) H) : tDGet (tVar n) (tC (.str "used")) σ H Q := ⟨_, hv, d, _, rfl, dk_used ▸ DGet.k (k := Sum.inr "used") h, q⟩
theorem g_dput {n : Nat} {s : Str} (q : tv σ H fun v H1 => DPutAt σ n s v H1 (D.nx σ)) : sDPut (tVar n) (tC (.str s)) tv D σ H := q
theorem g_pat {n : Nat} {P : Hp → Prop} (hv : σ[n]? = some (some (.ref d))) (h : H d = some (.dK (drawK c a l u))) (q : P (upd H d (.dK (drawK c b l u)))) : DPutAt σ n "at" (.int b) H P := ⟨_, hv, d, _, rfl, DPut.k (k := Sum.inr "at") h (by show 4 < sizeLine; decide), q⟩
theorem g_pleft {n : Nat} {P : Hp → Prop} (hv : σ[n]? = some (some (.ref d))) (h : H d = some (.dK (drawK c a l u))) (q : P (upd H d (.dK (drawK c a b u)))) : DPutAt σ n "left" (.int b) H P := ⟨_, hv, d, _, rfl, DPut.k (k := Sum.inr "left") h (by show 4 < sizeLine; decide), q⟩
theorem g_pused {n : Nat} {P : Hp → Prop} (hv : σ[n]? = some (some (.ref d))) (h : H d = some (.dK (drawK c a l u))) (q : P (upd H d (.dK (drawK c a l b)))) : DPutAt σ n "used" (.int b) H P := ⟨_, hv, d, _, rfl, DPut.k (k := Sum.inr "used") h (by show 4 < sizeLine; decide), q⟩
end
theorem at_ints {ns : List Int} {i : Int} (h0 : 0 ≤ i) (h1 : i < ns.length) : ∃ x, atI (ns.map V.int) i = some (.int x) ∧ ns[i.toNat]? = some x := by
  have hl : i.toNat < ns.length := by omega
  refine ⟨ns[i.toNat], ?_, List.getElem?_eq_getElem hl⟩
  obtain ⟨m, rfl⟩ : ∃ m : Nat, i = (m : Int) := ⟨i.toNat, by omega⟩
  refine atI_nat ?_
  have h2 : m < ns.length := by omega
  rw [List.getElem?_map, List.getElem?_eq_getElem h2]
  rfl
/-- a comprehension over a range whose element draws -/
theorem lc_draw {K : PySem.W.Frag} {lo : Int} {n : Nat} {σ : L2.St} {H1 : Hp} {te : TE} {vs : List Nat} {j : Nat} {d c : Addr} {Qd : Addr → Hp → Prop} (PV : V → Prop) (m : Nat → Nat) (hn : n ≤ 1000000) (hw : ∀ v, wipe ((wipe σ vs).set j (some v)) vs = wipe σ vs)
    (D0 : DrawAt K (m 0) H1 d c)
    (he : ∀ i : Nat, i < n → ∀ H', Keep d H1 H' → DrawAt K (m i) H' d c → ∀ Q : VK, (∀ H2 y, Keep d H' H2 → DrawAt K (m (i + 1)) H2 d c → PV y → Q y H2) → te ((wipe σ vs).set j (some (.int (lo + i)))) H' Q)
    (q : ∀ D H' ys, H1 D = none → Keep d H1 H' → DrawAt K (m n) H' d c → H' D = some (.lst ys) → ys.length = n → (∀ y ∈ ys, PV y) → Qd D H') :
    ∀ D, H1 D = none → ∃ W : Nat → Nat → Hp → Prop, (∃ m, W 0 m (upd H1 D (.lst []))) ∧ ∀ i m H, W i m H → ((Itr lo n).stop i H ∧ Qd D H) ∨ ((Itr lo n).go i H ∧ ∃ Nx : Hp → Prop, (∀ H', Nx H' → ∃ m', m' < m ∧ W (i + 1) m' H') ∧
      ∀ x H', (Itr lo n).yld i H x H' → gName j x (wipe σ vs) H' fun σ2 H2 => wipe σ2 vs = wipe σ vs ∧ tYes σ2 H2 fun b H3 => if b = true then te σ2 H3 fun y H4 => ∃ acc, H4 D = some (.lst acc) ∧ acc.length < sizeLine ∧ Nx (upd H4 D (.lst (acc ++ [y]))) else Nx H3) := by
  intro D hD
  refine lc_range (lo := lo) (n := n) (fun i H' => ∃ ys, H' D = some (.lst ys) ∧ ys.length = i ∧ (∀ y ∈ ys, PV y) ∧ DrawAt K (m i) H' d c ∧ Keep d H1 H') ⟨[], upd_same, rfl, (fun y hy => nomatch hy), D0.new hD, Keep.fresh hD (Keep.refl _ _)⟩ ?_ ?_
  · rintro i H' hi ⟨ys, hy, hl, hp, Dr, kp⟩
    refine ⟨hw _, ?_⟩
    dsimp only [tYes]
    rw [if_pos rfl]
    refine he i hi H' kp Dr _ (fun H2 y k2 D2 py => ⟨ys, k2.at_ Dr hy, ?_, ys ++ [y], upd_same, ?_, ?_, D2.put (D0.off hD).1 (D0.off hD).2, fun b o n h => ?_⟩)
    · rw [hl]
      exact Nat.lt_of_le_of_lt (Nat.le_trans (Nat.le_of_lt hi) hn) (by decide)
    · rw [List.length_append, hl]; rfl
    · intro z hz
      rcases List.mem_append.mp hz with h | h
      · exact hp z h
      · rw [List.mem_singleton.mp h]; exact py
    · rw [upd_ne (ne_of_none h hD)]
      exact k2 b o n (kp b o n h)
  · rintro H' ⟨ys, hy, hl, hp, Dr, kp⟩
    exact q D H' ys hD kp Dr hy hl hp
theorem g_pc {tk tv : TE} {r : List (TE × TE)} {σ : L2.St} {H : Hp} {Q : List (V × V) → Hp → Prop} (q : tk σ H fun k H1 => tv σ H1 fun v H2 => tPairs r σ H2 fun ps H3 => Q ((k, v) :: ps) H3) : tPairs ((tk, tv) :: r) σ H Q := q
theorem g_pn {σ : L2.St} {H : Hp} {Q : List (V × V) → Hp → Prop} (q : Q [] H) : tPairs [] σ H Q := q
end Hf

set_option Elab.async false
set_option linter.all false
set_option maxRecDepth 100000
set_option maxHeartbeats 4000000
namespace Hf
open PySem L2 PySem.Spec PyProof.Rows
/-! ### how long a shown datum is, at most -/
structure Sh (n k : Nat) (d : PyData) : Prop where
  s : d.showable = true
  k : d.depth ≤ k
  n : d.shown.length ≤ n
  c : d.canLay0 = true
structure Shs (n k : Nat) (ds : List PyData) : Prop where
  s : PyData.showableAll ds = true
  k : PyData.depthAll ds ≤ k
  n : ((PyData.shownAll ds).map (·.length)).sum + 2 * (PyData.shownAll ds).length ≤ n
  c : PyData.canLayAll0 ds = true
theorem Sh.non : Sh 4 0 .none := ⟨by simp only [PyData.showable], by simp only [PyData.depth]; omega, by simp only [PyData.shown]; decide, by simp only [PyData.canLay0]⟩
theorem Sh.bl (b : Bool) : Sh 5 0 (.bool b) := ⟨by simp only [PyData.showable], by simp only [PyData.depth]; omega, by simp only [PyData.shown]; cases b <;> decide, by simp only [PyData.canLay0]⟩
theorem Sh.int {i : Int} (h : i.natAbs < 10 ^ 40) : Sh 41 0 (.int i) := by
  have h2 : i.natAbs.log2 < 1920 := by
    by_cases z : i.natAbs = 0
    · rw [z]; decide
    · exact (Nat.log2_lt z).mpr (Nat.lt_of_lt_of_le h (Nat.le_trans (show 10 ^ 40 ≤ 2 ^ 140 by decide) (Nat.pow_le_pow_right (by decide) (by decide))))
  refine ⟨by simp only [PyData.showable]; exact decide_eq_true h2, by simp only [PyData.depth]; omega, ?_, ?_⟩
  · simp only [PyData.shown]
    have q := int_text_length_le10 (a := i) (k := 40) (by omega) h
    show (Str.ofString (toString i)).length ≤ 41
    have e : (Str.ofString (toString i)).length = (toString i).length := PySem.ofString_length _
    omega
  · simp only [PyData.canLay0]
theorem Sh.list {n k : Nat} {ds : List PyData} (h : Shs n k ds) : Sh (n + 3) (k + 1) (.list ds) :=
  ⟨by simp only [PyData.showable]; exact h.s, by simp only [PyData.depth]; have := h.k; omega, by simp only [PyData.shown]; have := h.n; have := listText_len_le (PyData.shownAll ds); omega, by simp only [PyData.canLay0]; exact h.c⟩
theorem Sh.tup {n k : Nat} {ds : List PyData} (h : Shs n k ds) : Sh (n + 3) (k + 1) (.tuple ds) :=
  ⟨by simp only [PyData.showable]; exact h.s, by simp only [PyData.depth]; have := h.k; omega, by simp only [PyData.shown]; have := h.n; have := tupleText_len_le (PyData.shownAll ds); omega, by simp only [PyData.canLay0]; exact h.c⟩
theorem Shs.nil : Shs 0 0 [] := ⟨by simp only [PyData.showableAll], by simp only [PyData.depthAll]; omega, by simp only [PyData.shownAll]; decide, by simp only [PyData.canLayAll0]⟩
theorem Shs.cons {n m k l : Nat} {d : PyData} {ds : List PyData} (a : Sh n k d) (b : Shs m l ds) : Shs (n + m + 2) (k + l) (d :: ds) := by
  refine ⟨by simp only [PyData.showableAll, a.s, b.s, Bool.and_self], ?_, ?_, by simp only [PyData.canLayAll0, a.c, b.c, Bool.and_self]⟩
  · simp only [PyData.depthAll]
    have := a.k
    have := b.k
    omega
  · simp only [PyData.shownAll, List.map_cons, List.sum_cons, List.length_cons]
    have := a.n
    have := b.n
    omega
theorem Sh.shows {n k : Nat} {d : PyData} (h : Sh n k d) (hn : n ≤ 1000000) (hk : k ≤ 40) : Shows d := ⟨h.s, Nat.le_trans h.k hk, Nat.le_trans h.n (Nat.le_trans hn (by decide))⟩
theorem Sh.shaped {n k : Nat} {d : PyData} (h : Sh n k d) (hk : k ≤ 60) : SeqAt.shaped d = true := by
  unfold SeqAt.shaped
  rw [h.c, decide_eq_true (Nat.le_trans h.k (by omega : k ≤ 64))]
  rfl
/-- two values that are the same datum -/
theorem g_eqS {H : Hp} {K : PySem.W.Frag} {Q : VK} {x y : V} {d : PyData} {n k : Nat} (h1 : Dp K H x d) (h2 : Dp K H y d) (s : Sh n k d) (hk : k ≤ 60) (q : Q (.bl true) H) : rEqA K x y H Q :=
  g_eqD h1 h2 (s.shaped hk) (s.shaped hk) (by rw [SeqAt.eqv_refl d s.c]; exact q)
theorem g_neS {H : Hp} {K : PySem.W.Frag} {Q : VK} {x y : V} {d : PyData} {n k : Nat} (h1 : Dp K H x d) (h2 : Dp K H y d) (s : Sh n k d) (hk : k ≤ 60) (q : Q (.bl false) H) : rNeA K x y H Q :=
  g_neD h1 h2 (s.shaped hk) (s.shaped hk) (by rw [SeqAt.eqv_refl d s.c]; exact q)
theorem g_reprS {H : Hp} {K : PySem.W.Frag} {Q : VK} {v : V} {d : PyData} {n k : Nat} (h : Dp K H v d) (s : Sh n k d) (hn : n ≤ 1000000) (hk : k ≤ 40) (q : Q (.str d.shown) H) : rRepr K [v] H Q := g_repr h (s.shows hn hk) q
theorem at_all {xs : List V} {i : Int} (P : V → Prop) (all : ∀ v ∈ xs, P v) (h0 : 0 ≤ i) (h1 : i < xs.length) : ∃ v, atI xs i = some v ∧ P v := by
  obtain ⟨m, rfl⟩ : ∃ m : Nat, i = (m : Int) := ⟨i.toNat, by omega⟩
  have h2 : m < xs.length := by omega
  exact ⟨xs[m], atI_nat (List.getElem?_eq_getElem h2), all _ (List.getElem_mem h2)⟩
theorem g_ixA {K : PySem.W.Frag} {H : Hp} {Q : VK} {a : Addr} {i : Int} {xs : List V} (P : V → Prop) (h : SqL K H a xs) (all : ∀ v ∈ xs, P v) (h0 : 0 ≤ i) (h1 : i < xs.length) (q : ∀ v, P v → Q v H) : rIx K (.ref a) (.int i) H Q := by
  obtain ⟨v, hv, pv⟩ := at_all P all h0 h1
  exact g_ixL h hv (q v pv)
section
variable {K : PySem.W.Frag} {σ : L2.St} {H : Hp} {Q : L2.St → Hp → Prop} {a : Addr} {xs : List V} {te : TE} {g : TG} {D : Ends} {v : V} {n : Nat} {t : TGs}
theorem g_asgG (q : te σ H fun x H1 => g x σ H1 D.nx) : tAsg te g D σ H := q
theorem g_gtup (h : SqT K H a xs) (hl : xs.length = n) (q : t xs σ H Q) : gTup K n t (.ref a) σ H Q := ⟨a, xs, rfl, h, hl, q⟩
theorem g_gnil (q : Q σ H) : gNil [] σ H Q := ⟨rfl, q⟩
theorem g_gcons (q : g v σ H fun σ' H' => t xs σ' H' Q) : gCons g t (v :: xs) σ H Q := ⟨v, xs, rfl, q⟩
theorem g_retN (q : D.rt .non H) : tRet (tC .non) D σ H := q
end
theorem dps_ints {K : PySem.W.Frag} {H : Hp} : ∀ xs : List Int, DpAll K H (xs.map V.int) (xs.map PyData.int)
  | [] => .nil
  | x :: xs => .cons (.int x) (dps_ints xs)
theorem shs_ints : ∀ xs : List Int, (∀ x ∈ xs, x.natAbs < 10 ^ 40) → Shs (43 * xs.length) 0 (xs.map PyData.int)
  | [], _ => Shs.nil
  | x :: xs, h => by
    have a := Shs.cons (Sh.int (h x List.mem_cons_self)) (shs_ints xs fun y hy => h y (List.mem_cons_of_mem _ hy))
    rw [List.length_cons, show 43 * (xs.length + 1) = 41 + 43 * xs.length + 2 by omega]
    exact a
theorem g_i1 {i : Int} {P : Int → Prop} (q : P i) : ∃ j : Int, [V.int i] = [V.int j] ∧ P j := ⟨i, rfl, q⟩
theorem g_i2 {i j : Int} {P : Int → Int → Prop} (q : P i j) : ∃ a b : Int, [V.int i, V.int j] = [V.int a, V.int b] ∧ P a b := ⟨i, j, rfl, q⟩
theorem g_neMap {K : PySem.W.Frag} {H : Hp} {Q : VK} {a b : Addr} (g : Nat → Int) (n : Nat) (h1 : SqL K H a ((List.range n).map fun i => V.int (g i))) (h2 : SqL K H b ((List.range n).map fun i => V.int (g i))) (hb : ∀ i, i < n → (g i).natAbs < 10 ^ 40)
    (q : Q (.bl false) H) : rNeA K (.ref a) (.ref b) H Q := by
  have e : (List.range n).map (fun i => V.int (g i)) = ((List.range n).map g).map V.int := by rw [List.map_map]; rfl
  rw [e] at h1 h2
  refine g_neS (Dp.lst h1 (dps_ints _)) (Dp.lst h2 (dps_ints _)) (Sh.list (shs_ints _ ?_)) (by omega) q
  intro x hx
  obtain ⟨i, hi, rfl⟩ := List.mem_map.mp hx
  exact hb i (List.mem_range.mp hi)
end Hf

set_option Elab.async false
set_option linter.all false
set_option maxRecDepth 100000
set_option maxHeartbeats 4000000
namespace Hf
open PySem L2 PySem.Spec PyProof.Rows
/-! ### signs and texts -/
/-- the codes of a text -/
abbrev cs (z : Str) : List Nat := z.cps.toList
def sg (c : Nat) : V := .str ⟨#[c]⟩
theorem cs_len (z : Str) : (cs z).length = z.length := by show z.cps.toList.length = z.cps.size; simp
theorem cs_app (a b : Str) : cs (a ++ b) = cs a ++ cs b := by
  show (a.cps ++ b.cps).toList = _
  simp
theorem len_app (a b : Str) : (a ++ b).length = a.length + b.length := by
  show (a.cps ++ b.cps).size = _
  rw [Array.size_append]
  rfl
theorem str_ext {a b : Str} (h : cs a = cs b) : a = b := by
  cases a; cases b
  have h' : Array.toList _ = Array.toList _ := h
  exact congrArg Str.mk (Array.toList_inj.mp h')
/-- at most n signs, all of them below 128 -/
def As (n : Nat) (z : Str) : Prop := z.length ≤ n ∧ ∀ c ∈ cs z, c < 128
theorem As.of {n : Nat} {z : Str} (h : z.length ≤ n) (k : ∀ c ∈ cs z, c < 128) : As n z := ⟨h, k⟩
theorem As.mono {n m : Nat} {z : Str} (h : As n z) (l : n ≤ m) : As m z := ⟨Nat.le_trans h.1 l, h.2⟩
theorem As.app {n m : Nat} {a b : Str} (h : As n a) (k : As m b) : As (n + m) (a ++ b) :=
  ⟨by rw [len_app]; have := h.1; have := k.1; omega, fun c hc => by rw [cs_app] at hc; rcases List.mem_append.mp hc with z | z; exact h.2 c z; exact k.2 c z⟩
theorem As.line {n : Nat} {z : Str} (h : As n z) (l : n ≤ 1000000) : z.length ≤ sizeLine := Nat.le_trans h.1 (Nat.le_trans l (by decide))
theorem As.line2 {n m : Nat} {a b : Str} (h : As n a) (k : As m b) (l : n + m ≤ 1000000) : a.length + b.length ≤ sizeLine := by
  have := h.1
  have := k.1
  exact Nat.le_trans (by omega : _ ≤ 1000000) (by decide)
/-! ### comprehensions over what stands still, with a plain test and a plain element -/
/-- tt says b, whatever was laid meanwhile -/
def Tst (tt : TT) (σ : L2.St) (H : Hp) (b : Bool) : Prop := ∀ Q : Bool → Hp → Prop, (∀ H', Same H H' → Q b H') → tt σ H Q
theorem tst_yes {σ : L2.St} {H : Hp} : Tst tYes σ H true := fun Q q => q H (Same.refl H)
section
variable {σ : L2.St} {H : Hp} {Q : VK} {K : PySem.W.Frag} {te : TE} {tt : TT} {ta : TA} {vs : List Nat} {j : Nat} {J : It} {G : Hp → Prop} {D : Ends} {g : TG} {tb : TS}
theorem lc_pure {xs : List V} {Qd : Addr → Hp → Prop} (w : Walk J xs.length G (YAt xs)) (hG : ∀ H', Same H H' → G H') (p : V → Bool) (f : V → V) (hn : xs.length ≤ 1000000) (hw : ∀ v, wipe ((wipe σ vs).set j (some v)) vs = wipe σ vs)
    (ht : ∀ x, x ∈ xs → ∀ H', Same H H' → Tst tt ((wipe σ vs).set j (some x)) H' (p x))
    (he : ∀ x, x ∈ xs → p x = true → ∀ H', Same H H' → Evs te ((wipe σ vs).set j (some x)) H' (f x))
    (q : ∀ D H', H D = none → Same H H' → H' D = some (.lst ((xs.filter p).map f)) → Qd D H') :
    ∀ D, H D = none → ∃ W : Nat → Nat → Hp → Prop, (∃ m, W 0 m (upd H D (.lst []))) ∧ ∀ i m H, W i m H → (J.stop i H ∧ Qd D H) ∨ (J.go i H ∧ ∃ Nx : Hp → Prop, (∀ H', Nx H' → ∃ m', m' < m ∧ W (i + 1) m' H') ∧
      ∀ x H', J.yld i H x H' → gName j x (wipe σ vs) H' fun σ2 H2 => wipe σ2 vs = wipe σ vs ∧ tt σ2 H2 fun b H3 => if b = true then te σ2 H3 fun y H4 => ∃ acc, H4 D = some (.lst acc) ∧ acc.length < sizeLine ∧ Nx (upd H4 D (.lst (acc ++ [y]))) else Nx H3) := by
  intro D hD
  refine lc_it w (fun i H' => Same H H' ∧ H' D = some (.lst (((xs.take i).filter p).map f))) ⟨Same.upd hD (Same.refl H), upd_same⟩ (fun i H' _ h => hG H' h.1) ?_ (fun H' h => q D H' hD h.1 (by rw [h.2, List.take_length]))
  rintro i x H0 H' hi ⟨s, hd⟩ ⟨rfl, hx⟩
  have mem : x ∈ xs := List.mem_of_getElem? hx
  have tk : xs.take (i + 1) = xs.take i ++ [x] := by rw [List.take_succ, hx]; rfl
  refine ⟨hw _, ?_⟩
  refine ht x mem H' s _ (fun H2 s2 => ?_)
  cases hp : p x with
  | false =>
    rw [if_neg Bool.false_ne_true]
    refine ⟨Same.trans s s2, ?_⟩
    rw [tk, List.filter_append, show [x].filter p = [] by simp [hp], List.append_nil]
    exact s2 _ _ hd
  | true =>
    rw [if_pos rfl]
    refine he x mem hp H2 (Same.trans s s2) _ (fun H3 s3 => ⟨_, s3 _ _ (s2 _ _ hd), ?_, Same.upd hD (Same.trans (Same.trans s s2) s3), ?_⟩)
    · rw [List.length_map]
      have a := List.length_filter_le p (xs.take i)
      have b : (xs.take i).length ≤ xs.length := by rw [List.length_take]; omega
      have c : 1000000 < sizeLine := by decide
      omega
    · rw [upd_same, tk, List.filter_append, List.map_append, show [x].filter p = [x] by simp [hp]]
      rfl
theorem walk_sg {z : Str} : Walk (Its z) ((cs z).map sg).length (fun _ => True) (YAt ((cs z).map sg)) := by
  have e : ((cs z).map sg).length = z.cps.size := by simp
  rw [e]
  refine (walk_str (z := z)).mono (fun _ h => h) (fun i H x H' hi _ y => ⟨y.1, ?_⟩)
  obtain ⟨_, c, hc, rfl⟩ := y
  rw [List.getElem?_map, Array.getElem?_toList, hc]
  rfl
theorem lc_str {z : Str} {Qd : Addr → Hp → Prop} (p : Nat → Bool) (f : Nat → V) (hn : z.length ≤ 1000000) (hw : ∀ v, wipe ((wipe σ vs).set j (some v)) vs = wipe σ vs)
    (ht : ∀ c, c ∈ cs z → ∀ H', Same H H' → Tst tt ((wipe σ vs).set j (some (.str ⟨#[c]⟩))) H' (p c))
    (he : ∀ c, c ∈ cs z → p c = true → ∀ H', Same H H' → Evs te ((wipe σ vs).set j (some (.str ⟨#[c]⟩))) H' (f c))
    (q : ∀ D H', H D = none → Same H H' → H' D = some (.lst (((cs z).filter p).map f)) → Qd D H') :
    ∀ D, H D = none → ∃ W : Nat → Nat → Hp → Prop, (∃ m, W 0 m (upd H D (.lst []))) ∧ ∀ i m H, W i m H → ((Its z).stop i H ∧ Qd D H) ∨ ((Its z).go i H ∧ ∃ Nx : Hp → Prop, (∀ H', Nx H' → ∃ m', m' < m ∧ W (i + 1) m' H') ∧
      ∀ x H', (Its z).yld i H x H' → gName j x (wipe σ vs) H' fun σ2 H2 => wipe σ2 vs = wipe σ vs ∧ tt σ2 H2 fun b H3 => if b = true then te σ2 H3 fun y H4 => ∃ acc, H4 D = some (.lst acc) ∧ acc.length < sizeLine ∧ Nx (upd H4 D (.lst (acc ++ [y]))) else Nx H3) := by
  let un : V → Nat := fun v => match v with | .str y => y.cps.toList.headD 0 | _ => 0
  have us : ∀ c, un (sg c) = c := fun c => rfl
  refine lc_pure (Qd := Qd) (walk_sg (z := z)) (fun _ _ => True.intro) (fun v => p (un v)) (fun v => f (un v)) (by simp only [List.length_map]; rw [cs_len]; exact hn) hw ?_ ?_ ?_
  · intro x hx
    obtain ⟨c, hc, rfl⟩ := List.mem_map.mp hx
    exact ht c hc
  · intro x hx hp
    obtain ⟨c, hc, rfl⟩ := List.mem_map.mp hx
    exact he c hc hp
  · intro D H' hD s h
    refine q D H' hD s ?_
    rw [h, List.filter_map, List.map_map]
    rfl
/-- over a text in the slot n -/
theorem g_lcS {n : Nat} {z : Str} (hv : σ[n]? = some (some (.str z))) (p : Nat → Bool) (f : Nat → V) (hn : z.length ≤ 1000000) (hw : ∀ v, wipe ((wipe σ vs).set j (some v)) vs = wipe σ vs)
    (ht : ∀ c, c ∈ cs z → ∀ H', Same H H' → Tst tt ((wipe σ vs).set j (some (.str ⟨#[c]⟩))) H' (p c))
    (he : ∀ c, c ∈ cs z → p c = true → ∀ H', Same H H' → Evs te ((wipe σ vs).set j (some (.str ⟨#[c]⟩))) H' (f c))
    (q : ∀ D H', H D = none → Same H H' → H' D = some (.lst (((cs z).filter p).map f)) → Q (.ref D) H') : tLc (iStr (tVar n)) (gName j) tt te vs σ H Q :=
  ⟨_, hv, z, rfl, lc_str (Qd := fun D H => Q (.ref D) H) p f hn hw ht he q⟩
theorem g_lcE {t0 : TE} (q : t0 σ H fun v H1 => ∃ z, v = V.str z ∧ ∀ D, H1 D = none → ∃ W : Nat → Nat → Hp → Prop, (∃ m, W 0 m (upd H1 D (.lst []))) ∧ ∀ i m H, W i m H →
      ((Its z).stop i H ∧ Q (.ref D) H) ∨ ((Its z).go i H ∧ ∃ Nx : Hp → Prop, (∀ H', Nx H' → ∃ m', m' < m ∧ W (i + 1) m' H') ∧ ∀ x H', (Its z).yld i H x H' → g x (wipe σ vs) H' fun σ2 H2 => wipe σ2 vs = wipe σ vs ∧ tt σ2 H2 fun b H3 =>
        if b = true then te σ2 H3 fun y H4 => ∃ acc, H4 D = some (.lst acc) ∧ acc.length < sizeLine ∧ Nx (upd H4 D (.lst (acc ++ [y]))) else Nx H3)) : tLc (iStr t0) g tt te vs σ H Q := q
theorem g_forE {t0 : TE} (q : t0 σ H fun v H1 => ∃ a, v = V.ref a ∧ (∃ xs, SqL K H1 a xs) ∧ ∃ W : Nat → Nat → L2.St → Hp → Prop, (∃ m, W 0 m σ H1) ∧ ∀ i m σ H, W i m σ H →
      ((Itl K a).stop i H ∧ D.nx σ H) ∨ ((Itl K a).go i H ∧ ∃ N : L2.St → Hp → Prop, (∀ σ' H', N σ' H' → ∃ m', m' < m ∧ W (i + 1) m' σ' H') ∧ ∀ x H', (Itl K a).yld i H x H' → g x σ H' fun σ2 H2 => tb { D with nx := N, ct := N, bk := D.nx } σ2 H2)) : tFor (iList K t0) g tb D σ H := q
theorem for_lst {a : Addr} {xs : List V} (Pv : Nat → L2.St → Hp → Prop) (h : SqL K H a xs) (h0 : Pv 0 σ H) (hl : ∀ i σ' H', i ≤ xs.length → Pv i σ' H' → SqL K H' a xs)
    (hs : ∀ i x σ' H', i < xs.length → xs[i]? = some x → Pv i σ' H' → tb { D with nx := Pv (i + 1), ct := Pv (i + 1), bk := D.nx } (σ'.set j (some x)) H') (hd : ∀ σ' H', Pv xs.length σ' H' → D.nx σ' H') :
    (∃ xs, SqL K H a xs) ∧ ∃ W : Nat → Nat → L2.St → Hp → Prop, (∃ m, W 0 m σ H) ∧ ∀ i m σ H, W i m σ H →
      ((Itl K a).stop i H ∧ D.nx σ H) ∨ ((Itl K a).go i H ∧ ∃ N : L2.St → Hp → Prop, (∀ σ' H', N σ' H' → ∃ m', m' < m ∧ W (i + 1) m' σ' H') ∧ ∀ x H', (Itl K a).yld i H x H' → gName j x σ H' fun σ2 H2 => tb { D with nx := N, ct := N, bk := D.nx } σ2 H2) := by
  refine ⟨⟨xs, h⟩, for_it walk_list Pv h0 hl ?_ hd⟩
  rintro i x σ' H1 H' hi p ⟨rfl, hx⟩
  exact hs i x σ' H' hi hx p
/-- over a list in the slot n -/
theorem g_lcL {n : Nat} {a : Addr} {xs : List V} (hv : σ[n]? = some (some (.ref a))) (h : SqL K H a xs) (p : V → Bool) (f : V → V) (hn : xs.length ≤ 1000000) (hw : ∀ v, wipe ((wipe σ vs).set j (some v)) vs = wipe σ vs)
    (ht : ∀ x, x ∈ xs → ∀ H', Same H H' → Tst tt ((wipe σ vs).set j (some x)) H' (p x))
    (he : ∀ x, x ∈ xs → p x = true → ∀ H', Same H H' → Evs te ((wipe σ vs).set j (some x)) H' (f x))
    (q : ∀ D H', H D = none → Same H H' → H' D = some (.lst ((xs.filter p).map f)) → Q (.ref D) H') : tLc (iList K (tVar n)) (gName j) tt te vs σ H Q :=
  ⟨_, hv, a, rfl, ⟨xs, h⟩, lc_pure (Qd := fun D H => Q (.ref D) H) walk_list (fun _ s => s.seq h) p f hn hw ht he q⟩
theorem flt_all {α : Type} (xs : List α) : xs.filter (fun _ => true) = xs := List.filter_eq_self.mpr fun _ _ => rfl
theorem g_lcS1 {n : Nat} {z : Str} (hv : σ[n]? = some (some (.str z))) (f : Nat → V) (hn : z.length ≤ 1000000) (hw : ∀ v, wipe ((wipe σ vs).set j (some v)) vs = wipe σ vs)
    (he : ∀ c, c ∈ cs z → ∀ H', Same H H' → Evs te ((wipe σ vs).set j (some (.str ⟨#[c]⟩))) H' (f c))
    (q : ∀ D H', H D = none → Same H H' → H' D = some (.lst ((cs z).map f)) → Q (.ref D) H') : tLc (iStr (tVar n)) (gName j) tYes te vs σ H Q :=
  g_lcS hv (fun _ => true) f hn hw (fun _ _ _ _ => tst_yes) (fun c hc _ => he c hc) (fun D H' hD s h => q D H' hD s (by rw [h, flt_all]))
theorem g_lcL1 {n : Nat} {a : Addr} {xs : List V} (hv : σ[n]? = some (some (.ref a))) (h : SqL K H a xs) (f : V → V) (hn : xs.length ≤ 1000000) (hw : ∀ v, wipe ((wipe σ vs).set j (some v)) vs = wipe σ vs)
    (he : ∀ x, x ∈ xs → ∀ H', Same H H' → Evs te ((wipe σ vs).set j (some x)) H' (f x))
    (q : ∀ D H', H D = none → Same H H' → H' D = some (.lst (xs.map f)) → Q (.ref D) H') : tLc (iList K (tVar n)) (gName j) tYes te vs σ H Q :=
  g_lcL hv h (fun _ => true) f hn hw (fun _ _ _ _ => tst_yes) (fun x hx _ => he x hx) (fun D H' hD s h => q D H' hD s (by rw [h, flt_all]))
/-- a for over a text in the slot n -/
theorem g_forS {n : Nat} {z : Str} {j : Nat} (hv : σ[n]? = some (some (.str z))) (Pv : Nat → L2.St → Hp → Prop) (h0 : Pv 0 σ H)
    (hs : ∀ i c σ' H', i < z.length → (cs z)[i]? = some c → Pv i σ' H' → tb { D with nx := Pv (i + 1), ct := Pv (i + 1), bk := D.nx } (σ'.set j (some (.str ⟨#[c]⟩))) H') (hd : ∀ σ' H', Pv z.length σ' H' → D.nx σ' H') : tFor (iStr (tVar n)) (gName j) tb D σ H := by
  refine ⟨_, hv, z, rfl, for_it walk_str Pv h0 (fun _ _ _ _ _ => True.intro) ?_ hd⟩
  rintro i x σ' H1 H' hi p ⟨rfl, c, hc, rfl⟩
  exact hs i c σ' H' hi (by rw [Array.getElem?_toList]; exact hc) p
theorem g_forL {n : Nat} {a : Addr} {xs : List V} {j : Nat} (hv : σ[n]? = some (some (.ref a))) (h : SqL K H a xs) (Pv : Nat → L2.St → Hp → Prop) (h0 : Pv 0 σ H) (hl : ∀ i σ' H', i ≤ xs.length → Pv i σ' H' → SqL K H' a xs)
    (hs : ∀ i x σ' H', i < xs.length → xs[i]? = some x → Pv i σ' H' → tb { D with nx := Pv (i + 1), ct := Pv (i + 1), bk := D.nx } (σ'.set j (some x)) H') (hd : ∀ σ' H', Pv xs.length σ' H' → D.nx σ' H') : tFor (iList K (tVar n)) (gName j) tb D σ H := by
  refine ⟨_, hv, a, rfl, ⟨xs, h⟩, for_it walk_list Pv h0 hl ?_ hd⟩
  rintro i x σ' H1 H' hi p ⟨rfl, hx⟩
  exact hs i x σ' H' hi hx p
end
section
variable {σ : L2.St} {H : Hp} {Q : VK} {K : PySem.W.Frag} {i : Int} {x y : V}
theorem g_any {a : Addr} {xs : List V} (bs : List Bool) (h : SqL K H a xs) (e : xs = bs.map V.bl) (q : Q (.bl (bs.any id)) H) : rAny K [.ref a] H Q := ⟨a, bs, rfl, e ▸ h, q⟩
theorem g_all {a : Addr} {xs : List V} (bs : List Bool) (h : SqL K H a xs) (e : xs = bs.map V.bl) (q : Q (.bl (bs.all id)) H) : rAll K [.ref a] H Q := ⟨a, bs, rfl, e ▸ h, q⟩
/-- one sign, however it is written -/
theorem g_inC {s z : Str} {c : Nat} (e : s = ⟨#[c]⟩) (q : Q (.bl (decide (c ∈ cs z))) H) : rInA K (.str s) (.str z) H Q := .inr ⟨c, z, by rw [e], rfl, q⟩
theorem g_niC {s z : Str} {c : Nat} (e : s = ⟨#[c]⟩) (q : Q (.bl (!decide (c ∈ cs z))) H) : rNotInA K (.str s) (.str z) H Q := .inr ⟨c, z, by rw [e], rfl, q⟩
theorem lt1 (a b : Nat) : ([a] < [b]) ↔ a < b := by simp [List.cons_lt_cons_iff]
theorem g_leC {s t : Str} {a b : Nat} (e : s = ⟨#[a]⟩) (f : t = ⟨#[b]⟩) (q : Q (.bl (decide (a ≤ b))) H) : rLeA (.str s) (.str t) H Q := by
  subst e f
  refine .inr ⟨_, _, rfl, rfl, ?_⟩
  have z : (!decide ((#[b] : Array Nat).toList < (#[a] : Array Nat).toList)) = decide (a ≤ b) := by
    show (!decide ([b] < [a])) = decide (a ≤ b)
    by_cases h : b < a
    · rw [decide_eq_true ((lt1 b a).mpr h), decide_eq_false (by omega)]; rfl
    · rw [decide_eq_false (fun k => h ((lt1 b a).mp k)), decide_eq_true (by omega)]; rfl
  rw [z]
  exact q
theorem g_ltC {s t : Str} {a b : Nat} (e : s = ⟨#[a]⟩) (f : t = ⟨#[b]⟩) (q : Q (.bl (decide (a < b))) H) : rLtA (.str s) (.str t) H Q := by
  subst e f
  refine .inr ⟨_, _, rfl, rfl, ?_⟩
  have z : decide ((#[a] : Array Nat).toList < (#[b] : Array Nat).toList) = decide (a < b) := by
    show decide ([a] < [b]) = decide (a < b)
    by_cases h : a < b
    · rw [decide_eq_true ((lt1 a b).mpr h), decide_eq_true h]
    · rw [decide_eq_false (fun k => h ((lt1 a b).mp k)), decide_eq_false h]
  rw [z]
  exact q
end
section
variable {σ : L2.St} {H : Hp} {Q : VK} {K : PySem.W.Frag} {i : Int} {x y : V} {ta tb : TE}
theorem g_un {r : V → Hp → VK → Prop} (q : ta σ H fun x H1 => r x H1 Q) : tUn r ta σ H Q := q
theorem g_neg (q : Q (.int (-i)) H) : rU (fun i => .int (-i)) (.int i) H Q := ⟨i, rfl, q⟩
theorem g_m0 {r : V → List V → Hp → VK → Prop} (q : ta σ H fun x H1 => (∃ a, x = .str a) ∧ r x [] H1 Q) : tM0 r ta σ H Q := q
theorem g_m1 {r : V → List V → Hp → VK → Prop} (q : ta σ H fun x H1 => (∃ a, x = .str a) ∧ tb σ H1 fun y H2 => r x [y] H2 Q) : tM1 r ta tb σ H Q := q
theorem g_str {z : Str} {P : Prop} (q : P) : (∃ a, V.str z = .str a) ∧ P := ⟨⟨z, rfl⟩, q⟩
theorem g_sl {r : V → Option Int → Option Int → Hp → VK → Prop} {tl th : TO} (q : ta σ H fun x H1 => tl σ H1 fun l H2 => th σ H2 fun u H3 => r x l u H3 Q) : tSl r ta tl th σ H Q := q
theorem g_part {Q : Option Int → Hp → Prop} (q : ta σ H fun x H1 => ∃ i, x = .int i ∧ Q (some i) H1) : tPart ta σ H Q := q
theorem g_nopart {Q : Option Int → Hp → Prop} (q : Q none H) : tNoPart σ H Q := q
theorem g_isint {P : Int → Prop} (q : P i) : ∃ j, V.int i = .int j ∧ P j := ⟨i, rfl, q⟩
theorem g_slS {z : Str} {lo hi : Option Int} (h : z.length ≤ sizeLine) (q : Q (.str (cutS z lo hi)) H) : rSlS (.str z) lo hi H Q := ⟨z, rfl, h, q⟩
end
theorem As.cut {n : Nat} {z : Str} {lo hi : Option Int} (h : As n z) : As n (cutS z lo hi) := by
  have e : cs (cutS z lo hi) = ((cs z).drop (HT.sIx z.length 0 lo)).take (HT.sIx z.length z.length hi - HT.sIx z.length 0 lo) := by simp [cutS]
  refine ⟨?_, fun c hc => ?_⟩
  · rw [← cs_len, e, List.length_take, List.length_drop]
    have := h.1
    have := cs_len z
    omega
  · rw [e] at hc
    exact h.2 c (List.mem_of_mem_drop (List.mem_of_mem_take hc))
/-! ### rules within a comprehension -/
theorem opK {X : Cx} {f : Value → Value → Sem Value} {r : PySem.W.Frag → R2} {K : PySem.W.Frag} (h : X.K = K) (o : OpR X f (r X.K)) : OpR X f (r K) := h ▸ o
theorem callK {X : Cx} {v : Value} {r : PySem.W.Frag → List V → Hp → VK → Prop} {K : PySem.W.Frag} (h : X.K = K) (o : CallR X v (r X.K)) : CallR X v (r K) := h ▸ o
theorem ixK {X : Cx} {r : PySem.W.Frag → R2} {K : PySem.W.Frag} (h : X.K = K) (o : IxR X (r X.K)) : IxR X (r K) := h ▸ o
/-! ### things of any kind -/
theorem tyx_same {K : PySem.W.Frag} {H H1 : Hp} (e : Same H H1) {v : V} {t : Value} (h : TyX K H v t) : TyX K H1 v t := by
  cases h with
  | base b =>
    refine .base ?_
    cases b with
    | non => exact .non
    | bl x => exact .bl x
    | int i => exact .int i
    | str x => exact .str x
    | flt x => exact .flt x
    | lst h => exact .lst (e _ _ h)
    | frz h => exact .frz (e _ _ h)
    | tup h => exact .tup (e _ _ h)
    | dK h => exact .dK (e _ _ h)
    | dT h => exact .dT (e _ _ h)
    | ins h a b c d f => exact .ins (e _ _ h) a b c d f
  | byt b => exact .byt b
  | set h => exact .set (e _ _ h)
  | kList h c => exact .kList h c
  | kTuple h c => exact .kTuple h c
  | kDict h c => exact .kDict h c
  | fTuple h => exact .fTuple (e _ _ h)
  | fDict h => exact .fDict (e _ _ h)
theorem tyx_keep {K : PySem.W.Frag} {H H1 : Hp} {d : Addr} (e : Keep d H H1) {v : V} {t : Value} (nv : v ≠ .ref d) (h : TyX K H v t) : TyX K H1 v t := by
  have nd : ∀ {a : Addr}, V.ref a ≠ .ref d → a ≠ d := fun n q => n (congrArg V.ref q)
  cases h with
  | base b =>
    refine .base ?_
    cases b with
    | non => exact .non
    | bl x => exact .bl x
    | int i => exact .int i
    | str x => exact .str x
    | flt x => exact .flt x
    | lst h => exact .lst (e _ _ (nd nv) h)
    | frz h => exact .frz (e _ _ (nd nv) h)
    | tup h => exact .tup (e _ _ (nd nv) h)
    | dK h => exact .dK (e _ _ (nd nv) h)
    | dT h => exact .dT (e _ _ (nd nv) h)
    | ins h a b c d f => exact .ins (e _ _ (nd nv) h) a b c d f
  | byt b => exact .byt b
  | set h => exact .set (e _ _ (nd nv) h)
  | kList h c => exact .kList h c
  | kTuple h c => exact .kTuple h c
  | kDict h c => exact .kDict h c
  | fTuple h => exact .fTuple (e _ _ (nd nv) h)
  | fDict h => exact .fDict (e _ _ (nd nv) h)
/-! ### isinstance, by the type -/
theorem k_NoneType_str : kitB "NoneType" "str" = some false := by decide +kernel
theorem k_NoneType_int : kitB "NoneType" "int" = some false := by decide +kernel
theorem k_NoneType_bool : kitB "NoneType" "bool" = some false := by decide +kernel
theorem k_NoneType_tuple : kitB "NoneType" "tuple" = some false := by decide +kernel
theorem k_NoneType_list : kitB "NoneType" "list" = some false := by decide +kernel
theorem k_NoneType_dict : kitB "NoneType" "dict" = some false := by decide +kernel
theorem k_bool_str : kitB "bool" "str" = some false := by decide +kernel
theorem k_bool_tuple : kitB "bool" "tuple" = some false := by decide +kernel
theorem k_bool_list : kitB "bool" "list" = some false := by decide +kernel
theorem k_bool_dict : kitB "bool" "dict" = some false := by decide +kernel
theorem k_tuple_str : kitB "tuple" "str" = some false := by decide +kernel
theorem k_tuple_int : kitB "tuple" "int" = some false := by decide +kernel
theorem k_tuple_bool : kitB "tuple" "bool" = some false := by decide +kernel
theorem k_tuple_tuple : kitB "tuple" "tuple" = some true := by decide +kernel
theorem k_tuple_list : kitB "tuple" "list" = some false := by decide +kernel
theorem k_tuple_dict : kitB "tuple" "dict" = some false := by decide +kernel
theorem k_list_str : kitB "list" "str" = some false := by decide +kernel
theorem k_list_int : kitB "list" "int" = some false := by decide +kernel
theorem k_list_bool : kitB "list" "bool" = some false := by decide +kernel
theorem k_list_tuple : kitB "list" "tuple" = some false := by decide +kernel
theorem k_list_list : kitB "list" "list" = some true := by decide +kernel
theorem k_list_dict : kitB "list" "dict" = some false := by decide +kernel
theorem k_dict_str : kitB "dict" "str" = some false := by decide +kernel
theorem k_dict_int : kitB "dict" "int" = some false := by decide +kernel
theorem k_dict_bool : kitB "dict" "bool" = some false := by decide +kernel
theorem k_dict_tuple : kitB "dict" "tuple" = some false := by decide +kernel
theorem k_dict_list : kitB "dict" "list" = some false := by decide +kernel
theorem k_dict_dict : kitB "dict" "dict" = some true := by decide +kernel
theorem k_int_tuple : kitB "int" "tuple" = some false := by decide +kernel
theorem k_int_list : kitB "int" "list" = some false := by decide +kernel
theorem k_int_dict : kitB "int" "dict" = some false := by decide +kernel
theorem k_str_bool : kitB "str" "bool" = some false := by decide +kernel
theorem k_str_tuple : kitB "str" "tuple" = some false := by decide +kernel
theorem k_str_list : kitB "str" "list" = some false := by decide +kernel
theorem k_str_dict : kitB "str" "dict" = some false := by decide +kernel
theorem g_append {K : PySem.W.Frag} {σ : L2.St} {H : Hp} {Q : VK} {t : TA} {n : Nat} {l : Addr} {xs : List V} (hv : σ[n]? = some (some (.ref l))) (h : H l = some (.lst xs))
    (q : t σ H fun ys H1 => rAppend (.ref l) ys H1 Q) : tBM K "list" rAppend (tVar n) t σ H Q :=
  ⟨_, hv, .inl ⟨rfl, xs, SqL.of h⟩, q⟩
theorem g_app {H : Hp} {Q : VK} {l : Addr} {xs : List V} {y : V} (h : H l = some (.lst xs)) (z : xs.length ≤ 100000) (q : Q .non (upd H l (.lst (xs ++ [y])))) : rAppend (.ref l) [y] H Q :=
  ⟨l, xs, y, rfl, rfl, h, Nat.lt_of_le_of_lt z (by decide), q⟩
theorem Same.put {H H1 : Hp} {l : Addr} {o : HO} (h : H l = none) (s : Same H H1) : Same H (L2.upd H1 l o) := fun b u n => by
  rw [upd_ne (ne_of_none n h)]
  exact s b u n
def rJoin (K : PySem.W.Frag) : V → List V → Hp → VK → Prop := fun x xs H Q => ∃ a p, ∃ ys : List Str, x = .str a ∧ xs = [.ref p] ∧ (SqL K H p (ys.map V.str) ∨ SqT K H p (ys.map V.str)) ∧ (ys.map (·.length)).sum + ys.length * a.length ≤ 16777216 ∧ Q (.str (Txt.join a ys)) H
theorem pe_joinA {X : Cx} {o e : Expr} {to te : TE} {apos pos : Pos} (ho : PE X o to) (he : PE X e te) (hs : starEach [e] X.env = [(false, eval e X.env)] := by rfl) (hbase : attributeBase o "join" X.env (eval o X.env) = eval o X.env := by rfl) (hline : (apos.endLine == pos.line) = true := by rfl) :
    PE X (.Call (.Attribute o "join" apos) [e] [] pos) (tM1 (rJoin X.K) to te) := pe_join ho he hs hbase hline
/-! ### signs that are written -/
theorem sg_c10 : Str.ofString "\n" = ⟨#[10]⟩ := by decide +kernel
theorem sg_c32 : Str.ofString " " = ⟨#[32]⟩ := by decide +kernel
theorem sg_c33 : Str.ofString "!" = ⟨#[33]⟩ := by decide +kernel
theorem sg_c34 : Str.ofString "\"" = ⟨#[34]⟩ := by decide +kernel
theorem sg_c35 : Str.ofString "#" = ⟨#[35]⟩ := by decide +kernel
theorem sg_c36 : Str.ofString "$" = ⟨#[36]⟩ := by decide +kernel
theorem sg_c37 : Str.ofString "%" = ⟨#[37]⟩ := by decide +kernel
theorem sg_c38 : Str.ofString "&" = ⟨#[38]⟩ := by decide +kernel
theorem sg_c39 : Str.ofString "'" = ⟨#[39]⟩ := by decide +kernel
theorem sg_c40 : Str.ofString "(" = ⟨#[40]⟩ := by decide +kernel
theorem sg_c41 : Str.ofString ")" = ⟨#[41]⟩ := by decide +kernel
theorem sg_c42 : Str.ofString "*" = ⟨#[42]⟩ := by decide +kernel
theorem sg_c43 : Str.ofString "+" = ⟨#[43]⟩ := by decide +kernel
theorem sg_c44 : Str.ofString "," = ⟨#[44]⟩ := by decide +kernel
theorem sg_c45 : Str.ofString "-" = ⟨#[45]⟩ := by decide +kernel
theorem sg_c46 : Str.ofString "." = ⟨#[46]⟩ := by decide +kernel
theorem sg_c47 : Str.ofString "/" = ⟨#[47]⟩ := by decide +kernel
theorem sg_c48 : Str.ofString "0" = ⟨#[48]⟩ := by decide +kernel
theorem sg_c49 : Str.ofString "1" = ⟨#[49]⟩ := by decide +kernel
theorem sg_c50 : Str.ofString "2" = ⟨#[50]⟩ := by decide +kernel
theorem sg_c51 : Str.ofString "3" = ⟨#[51]⟩ := by decide +kernel
theorem sg_c52 : Str.ofString "4" = ⟨#[52]⟩ := by decide +kernel
theorem sg_c53 : Str.ofString "5" = ⟨#[53]⟩ := by decide +kernel
theorem sg_c54 : Str.ofString "6" = ⟨#[54]⟩ := by decide +kernel
theorem sg_c55 : Str.ofString "7" = ⟨#[55]⟩ := by decide +kernel
theorem sg_c56 : Str.ofString "8" = ⟨#[56]⟩ := by decide +kernel
theorem sg_c57 : Str.ofString "9" = ⟨#[57]⟩ := by decide +kernel
theorem sg_c58 : Str.ofString ":" = ⟨#[58]⟩ := by decide +kernel
theorem sg_c59 : Str.ofString ";" = ⟨#[59]⟩ := by decide +kernel
theorem sg_c60 : Str.ofString "<" = ⟨#[60]⟩ := by decide +kernel
theorem sg_c61 : Str.ofString "=" = ⟨#[61]⟩ := by decide +kernel
theorem sg_c62 : Str.ofString ">" = ⟨#[62]⟩ := by decide +kernel
theorem sg_c63 : Str.ofString "?" = ⟨#[63]⟩ := by decide +kernel
theorem sg_c64 : Str.ofString "@" = ⟨#[64]⟩ := by decide +kernel
theorem sg_c65 : Str.ofString "A" = ⟨#[65]⟩ := by decide +kernel
theorem sg_c66 : Str.ofString "B" = ⟨#[66]⟩ := by decide +kernel
theorem sg_c67 : Str.ofString "C" = ⟨#[67]⟩ := by decide +kernel
theorem sg_c68 : Str.ofString "D" = ⟨#[68]⟩ := by decide +kernel
theorem sg_c69 : Str.ofString "E" = ⟨#[69]⟩ := by decide +kernel
theorem sg_c70 : Str.ofString "F" = ⟨#[70]⟩ := by decide +kernel
theorem sg_c71 : Str.ofString "G" = ⟨#[71]⟩ := by decide +kernel
theorem sg_c72 : Str.ofString "H" = ⟨#[72]⟩ := by decide +kernel
theorem sg_c73 : Str.ofString "I" = ⟨#[73]⟩ := by decide +kernel
theorem sg_c74 : Str.ofString "J" = ⟨#[74]⟩ := by decide +kernel
theorem sg_c75 : Str.ofString "K" = ⟨#[75]⟩ := by decide +kernel
theorem sg_c76 : Str.ofString "L" = ⟨#[76]⟩ := by decide +kernel
theorem sg_c77 : Str.ofString "M" = ⟨#[77]⟩ := by decide +kernel
theorem sg_c78 : Str.ofString "N" = ⟨#[78]⟩ := by decide +kernel
theorem sg_c79 : Str.ofString "O" = ⟨#[79]⟩ := by decide +kernel
theorem sg_c80 : Str.ofString "P" = ⟨#[80]⟩ := by decide +kernel
theorem sg_c81 : Str.ofString "Q" = ⟨#[81]⟩ := by decide +kernel
theorem sg_c82 : Str.ofString "R" = ⟨#[82]⟩ := by decide +kernel
theorem sg_c83 : Str.ofString "S" = ⟨#[83]⟩ := by decide +kernel
theorem sg_c84 : Str.ofString "T" = ⟨#[84]⟩ := by decide +kernel
theorem sg_c85 : Str.ofString "U" = ⟨#[85]⟩ := by decide +kernel
theorem sg_c86 : Str.ofString "V" = ⟨#[86]⟩ := by decide +kernel
theorem sg_c87 : Str.ofString "W" = ⟨#[87]⟩ := by decide +kernel
theorem sg_c88 : Str.ofString "X" = ⟨#[88]⟩ := by decide +kernel
theorem sg_c89 : Str.ofString "Y" = ⟨#[89]⟩ := by decide +kernel
theorem sg_c90 : Str.ofString "Z" = ⟨#[90]⟩ := by decide +kernel
theorem sg_c91 : Str.ofString "[" = ⟨#[91]⟩ := by decide +kernel
theorem sg_c92 : Str.ofString "\\" = ⟨#[92]⟩ := by decide +kernel
theorem sg_c93 : Str.ofString "]" = ⟨#[93]⟩ := by decide +kernel
theorem sg_c94 : Str.ofString "^" = ⟨#[94]⟩ := by decide +kernel
theorem sg_c95 : Str.ofString "_" = ⟨#[95]⟩ := by decide +kernel
theorem sg_c96 : Str.ofString "`" = ⟨#[96]⟩ := by decide +kernel
theorem sg_c97 : Str.ofString "a" = ⟨#[97]⟩ := by decide +kernel
theorem sg_c98 : Str.ofString "b" = ⟨#[98]⟩ := by decide +kernel
theorem sg_c99 : Str.ofString "c" = ⟨#[99]⟩ := by decide +kernel
theorem sg_c100 : Str.ofString "d" = ⟨#[100]⟩ := by decide +kernel
theorem sg_c101 : Str.ofString "e" = ⟨#[101]⟩ := by decide +kernel
theorem sg_c102 : Str.ofString "f" = ⟨#[102]⟩ := by decide +kernel
theorem sg_c103 : Str.ofString "g" = ⟨#[103]⟩ := by decide +kernel
theorem sg_c104 : Str.ofString "h" = ⟨#[104]⟩ := by decide +kernel
theorem sg_c105 : Str.ofString "i" = ⟨#[105]⟩ := by decide +kernel
theorem sg_c106 : Str.ofString "j" = ⟨#[106]⟩ := by decide +kernel
theorem sg_c107 : Str.ofString "k" = ⟨#[107]⟩ := by decide +kernel
theorem sg_c108 : Str.ofString "l" = ⟨#[108]⟩ := by decide +kernel
theorem sg_c109 : Str.ofString "m" = ⟨#[109]⟩ := by decide +kernel
theorem sg_c110 : Str.ofString "n" = ⟨#[110]⟩ := by decide +kernel
theorem sg_c111 : Str.ofString "o" = ⟨#[111]⟩ := by decide +kernel
theorem sg_c112 : Str.ofString "p" = ⟨#[112]⟩ := by decide +kernel
theorem sg_c113 : Str.ofString "q" = ⟨#[113]⟩ := by decide +kernel
theorem sg_c114 : Str.ofString "r" = ⟨#[114]⟩ := by decide +kernel
theorem sg_c115 : Str.ofString "s" = ⟨#[115]⟩ := by decide +kernel
theorem sg_c116 : Str.ofString "t" = ⟨#[116]⟩ := by decide +kernel
theorem sg_c117 : Str.ofString "u" = ⟨#[117]⟩ := by decide +kernel
theorem sg_c118 : Str.ofString "v" = ⟨#[118]⟩ := by decide +kernel
theorem sg_c119 : Str.ofString "w" = ⟨#[119]⟩ := by decide +kernel
theorem sg_c120 : Str.ofString "x" = ⟨#[120]⟩ := by decide +kernel
theorem sg_c121 : Str.ofString "y" = ⟨#[121]⟩ := by decide +kernel
theorem sg_c122 : Str.ofString "z" = ⟨#[122]⟩ := by decide +kernel
theorem sg_c123 : Str.ofString "{" = ⟨#[123]⟩ := by decide +kernel
theorem sg_c124 : Str.ofString "|" = ⟨#[124]⟩ := by decide +kernel
theorem sg_c125 : Str.ofString "}" = ⟨#[125]⟩ := by decide +kernel
theorem sg_c126 : Str.ofString "~" = ⟨#[126]⟩ := by decide +kernel
section
variable {σ : L2.St} {H : Hp} {Q : VK} {K : PySem.W.Frag} {i : Int}
theorem g_ixSA {n : Nat} {z : Str} (hz : As n z) (hn : n ≤ 1000000) (h0 : 0 ≤ i) (h1 : i < z.length) (q : ∀ c, c ∈ cs z → Q (.str ⟨#[c]⟩) H) : rIx K (.str z) (.int i) H Q := by
  obtain ⟨m, rfl⟩ : ∃ m : Nat, i = (m : Int) := ⟨i.toNat, by omega⟩
  have h2 : m < (cs z).length := by rw [cs_len]; omega
  exact g_ixS (hz.line hn) (atI_nat (List.getElem?_eq_getElem h2)) (q _ (List.getElem_mem h2))
theorem strs_of : ∀ ys : List V, (∀ y ∈ ys, ∃ s, y = V.str s ∧ As 1 s) → ∃ ss : List Str, ys = ss.map V.str ∧ ∀ s ∈ ss, As 1 s
  | [], _ => ⟨[], rfl, fun _ h => nomatch h⟩
  | y :: ys, h => by
    obtain ⟨s, rfl, hs⟩ := h y List.mem_cons_self
    obtain ⟨ss, rfl, hss⟩ := strs_of ys fun z hz => h z (List.mem_cons_of_mem _ hz)
    exact ⟨s :: ss, rfl, fun z hz => by rcases List.mem_cons.mp hz with e | e; exact e ▸ hs; exact hss z e⟩
theorem as_join : ∀ ss : List Str, (∀ s ∈ ss, As 1 s) → As ss.length (Str.join (Str.ofString "") ss)
  | [], _ => ⟨by decide, fun c hc => nomatch hc⟩
  | [x], h => h x List.mem_cons_self
  | x :: y :: r, h => by
    have a := h x List.mem_cons_self
    have b := as_join (y :: r) fun z hz => h z (List.mem_cons_of_mem _ hz)
    have e0 : As 0 (Str.ofString "") := ⟨by decide, by decide⟩
    have k := (a.app e0).app b
    have e : 1 + 0 + (y :: r).length = (x :: y :: r).length := by simp only [List.length_cons]; omega
    rw [e] at k
    exact k
theorem len_sum : ∀ ss : List Str, (∀ s ∈ ss, As 1 s) → (ss.map (·.length)).sum ≤ ss.length
  | [], _ => Nat.le_refl _
  | x :: r, h => by
    have a := (h x List.mem_cons_self).1
    have b := len_sum r fun z hz => h z (List.mem_cons_of_mem _ hz)
    simp only [List.map_cons, List.sum_cons, List.length_cons]
    omega
theorem g_join0 {p : Addr} {ys : List V} (h : SqL K H p ys) (all : ∀ y ∈ ys, ∃ s, y = V.str s ∧ As 1 s) (hl : ys.length ≤ 1000) (q : ∀ z, As ys.length z → Q (.str z) H) : rJoin K (.str (Str.ofString "")) [.ref p] H Q := by
  obtain ⟨ss, rfl, hs⟩ := strs_of ys all
  refine ⟨_, p, ss, rfl, rfl, .inl h, ?_, q _ ?_⟩
  · have a := len_sum ss hs
    rw [List.length_map] at hl
    rw [show (Str.ofString "").length = 0 by decide]
    omega
  · rw [List.length_map, TL.join_eq]
    exact as_join ss hs
theorem dps_sg : ∀ ys : List Nat, DpAll K H (ys.map sg) (ys.map fun c => PyData.str ⟨#[c]⟩)
  | [] => .nil
  | _ :: ys => .cons (.str _) (dps_sg ys)
theorem lay_sg : ∀ ys : List Nat, (∀ c ∈ ys, c < 128) → PyData.canLayAll0 (ys.map fun c => PyData.str ⟨#[c]⟩) = true
  | [], _ => by simp only [List.map_nil, PyData.canLayAll0]
  | c :: ys, h => by
    have a := h c List.mem_cons_self
    have b := lay_sg ys fun z hz => h z (List.mem_cons_of_mem _ hz)
    simp only [List.map_cons, PyData.canLayAll0, b, Bool.and_true, PyData.canLay0]
    show (#[c] : Array Nat).all (· < 0x110000) = true
    simp
    omega
theorem dep_sg : ∀ ys : List Nat, PyData.depthAll (ys.map fun c => PyData.str ⟨#[c]⟩) = 0
  | [] => by simp only [List.map_nil, PyData.depthAll]
  | c :: ys => by simp only [List.map_cons, PyData.depthAll, dep_sg ys, PyData.depth]; rfl
theorem g_eqNil {a b : Addr} {ys : List Nat} (h1 : SqL K H a (ys.map sg)) (hy : ∀ c ∈ ys, c < 128) (h2 : SqL K H b []) (q : Q (.bl ys.isEmpty) H) : rEqA K (.ref a) (.ref b) H Q := by
  refine g_eqD (d := .list (ys.map fun c => .str ⟨#[c]⟩)) (e := .list []) (Dp.lst h1 (dps_sg ys)) (Dp.lst h2 .nil) ?_ ?_ ?_
  · unfold SeqAt.shaped
    simp only [PyData.canLay0, PyData.depth, lay_sg ys hy, dep_sg]
    decide
  · decide
  · cases ys with
    | nil => exact q
    | cons c r => exact q
end
end Hf

set_option Elab.async false
set_option linter.all false
set_option maxRecDepth 100000
set_option maxHeartbeats 4000000
namespace Hf
open PySem L2 PySem.Spec PyProof.Rows

/-! ### repr of data with empty dicts in it -/
mutual
inductive Rq (h : Heap) : Value → PyData → Prop
  | non : Rq h .none .none
  | bl (b : Bool) : Rq h (.bool b) (.bool b)
  | int (i : Int) (t : Tok) : Rq h (.int i t) (.int i)
  | str (x : Str) (t : Tok) : Rq h (.str x t) (.str x)
  | lst {a : Addr} {o : Obj} {vs : Array Value} {n : Nat} {xs : List PyData} : h.get? a = some o → o.cls = .type "list" → o.data = .seq vs n → RqAll h vs.toList xs → Rq h (.ref a) (.list xs)
  | tup {a : Addr} {o : Obj} {vs : Array Value} {n : Nat} {xs : List PyData} : h.get? a = some o → o.cls = .type "tuple" → o.data = .seq vs n → RqAll h vs.toList xs → Rq h (.ref a) (.tuple xs)
  | dct {a : Addr} {o : Obj} {n : Nat} : h.get? a = some o → o.cls = .type "dict" → o.data = .dict #[] n → (a == sysModules) = false → Rq h (.ref a) (.dict [])
inductive RqAll (h : Heap) : List Value → List PyData → Prop
  | nil : RqAll h [] []
  | cons {v : Value} {vs : List Value} {d : PyData} {ds : List PyData} : Rq h v d → RqAll h vs ds → RqAll h (v :: vs) (d :: ds)
end
mutual
theorem Rq.reads {h : Heap} : ∀ {v : Value} {d : PyData}, Rq h v d → ∃ as, Reads h v d as
  | _, _, .non => ⟨_, .none⟩
  | _, _, .bl b => ⟨_, .bool b⟩
  | _, _, .int i t => ⟨_, .int i t⟩
  | _, _, .str x t => ⟨_, .str x t⟩
  | _, _, .lst g c e r => by
    obtain ⟨as, q⟩ := RqAll.reads r
    exact ⟨_, .list g c e q⟩
  | _, _, .tup g c e r => by
    obtain ⟨as, q⟩ := RqAll.reads r
    exact ⟨_, .tuple g c e q⟩
  | _, _, .dct g c e _ => ⟨_, .dict g c e .nil .nil⟩
theorem RqAll.reads {h : Heap} : ∀ {vs : List Value} {ds : List PyData}, RqAll h vs ds → ∃ as, ReadsAll h vs ds as
  | _, _, .nil => ⟨_, .nil⟩
  | _, _, .cons r rs => by
    obtain ⟨as, q⟩ := Rq.reads r
    obtain ⟨bs, p⟩ := RqAll.reads rs
    exact ⟨_, .cons q p⟩
end
section
variable {prog : Program} {w : World} {h : Heap}
theorem apart {a : Addr} {d : PyData} {as bs : List Addr} {n : Nat} (r : Reads h (.ref a) d as) (lt : n < d.depth) (b : ReadAtMost h n bs) : a ∉ bs ∧ ReadAtMost h d.depth (a :: bs) :=
  ⟨not_mem_of_deeper r lt b, ReadAtMost.cons r (Nat.le_of_lt lt) b⟩
mutual
theorem Rq.shows : ∀ {v : Value} {d : PyData}, Rq h v d → d.showable = true → d.shown.length ≤ sizeLine → ∃ bs, ReadAtMost h d.depth bs ∧ ReprK prog w bs h d.depth v d.shown
  | _, _, .non, _, _ => ⟨[], (fun _ z => nomatch z), by simp only [PyData.shown]; exact .of_is ReprIs.none _ _ _⟩
  | _, _, .bl b, _, _ => ⟨[], (fun _ z => nomatch z), by simp only [PyData.shown]; exact .of_is (ReprIs.bool b) _ _ _⟩
  | _, _, .int i t, s, _ => ⟨[], (fun _ z => nomatch z), by simp only [PyData.shown]; exact .of_is (ReprIs.int t (by simpa [PyData.showable] using s)) _ _ _⟩
  | _, _, .str x t, _, z => ⟨[], (fun _ z => nomatch z), by simp only [PyData.shown]; exact .of_is (ReprIs.str x t (by simpa only [PyData.shown] using z)) _ _ _⟩
  | _, _, .lst (a := a) (vs := vs) (xs := xs) g c e r, s, z => by
    have sz : (listText (PyData.shownAll xs)).length ≤ sizeLine := by simpa only [PyData.shown] using z
    obtain ⟨bs, ba, k⟩ := RqAll.shows r (by simpa [PyData.showable] using s) (fun t m => Nat.le_trans (listText_mem_le m) sz)
    obtain ⟨as, q⟩ := RqAll.reads r
    obtain ⟨p1, p2⟩ := apart (.list g c e q) (by simp only [PyData.depth]; omega) ba
    refine ⟨a :: bs, p2, ?_⟩
    simp only [PyData.depth, PyData.shown]
    obtain ⟨l⟩ := vs
    cases l with
    | nil =>
      have r' : RqAll h [] xs := r
      cases r'
      simp only [PyData.shownAll, listText_nil]
      exact ReprK.listEmpty g c e
    | cons x l => exact ReprK.list g c e p1 (by simpa using k.length_eq) (fun i y f => k.item i y (by simpa using f))
  | _, _, .tup (a := a) (xs := xs) g c e r, s, z => by
    have sz : (tupleText (PyData.shownAll xs)).length ≤ sizeLine := by simpa only [PyData.shown] using z
    obtain ⟨bs, ba, k⟩ := RqAll.shows r (by simpa [PyData.showable] using s) (fun t m => Nat.le_trans (tupleText_mem_le m) sz)
    obtain ⟨as, q⟩ := RqAll.reads r
    obtain ⟨p1, p2⟩ := apart (.tuple g c e q) (by simp only [PyData.depth]; omega) ba
    refine ⟨a :: bs, p2, ?_⟩
    simp only [PyData.depth, PyData.shown]
    exact ReprK.tuple g c e p1 k
  | _, _, .dct (a := a) g c e n, _, _ => by
    have rd : Reads h (.ref a) (.dict []) _ := .dict g c e .nil .nil
    refine ⟨[a], fun b m => ?_, ?_⟩
    · rw [List.mem_singleton.mp m]
      exact ⟨_, _, rd, Nat.le_refl _⟩
    · simp only [PyData.depth, PyData.depthKv, PyData.shown, PyData.shownKv]
      exact ReprK.dict (as := []) g c e n (fun z => nomatch z) .nil
theorem RqAll.shows : ∀ {vs : List Value} {ds : List PyData}, RqAll h vs ds → PyData.showableAll ds = true → (∀ t ∈ PyData.shownAll ds, t.length ≤ sizeLine) → ∃ bs, ReadAtMost h (PyData.depthAll ds) bs ∧ ReprAllK prog w bs h (PyData.depthAll ds) vs (PyData.shownAll ds)
  | _, _, .nil, _, _ => ⟨[], (fun _ z => nomatch z), by simp only [PyData.shownAll]; exact .nil⟩
  | _, _, .cons (d := d) (ds := ds) r rs, s, z => by
    obtain ⟨s1, s2⟩ : d.showable = true ∧ PyData.showableAll ds = true := by simpa [PyData.showableAll] using s
    obtain ⟨b1, m1, k1⟩ := Rq.shows r s1 (z _ (by simp only [PyData.shownAll]; exact List.mem_cons_self))
    obtain ⟨b2, m2, k2⟩ := RqAll.shows rs s2 (fun t m => z t (by simp only [PyData.shownAll]; exact List.mem_cons_of_mem _ m))
    have u1 : d.depth ≤ PyData.depthAll (d :: ds) := by simp only [PyData.depthAll]; exact Nat.le_max_left _ _
    have u2 : PyData.depthAll ds ≤ PyData.depthAll (d :: ds) := by simp only [PyData.depthAll]; exact Nat.le_max_right _ _
    refine ⟨b1 ++ b2, (m1.mono u1).append (m2.mono u2), ?_⟩
    simp only [PyData.shownAll]
    exact .cons ((k1.more fun b q => List.mem_append_left _ q).level_le u1) (k2.more_le (fun b q => List.mem_append_right _ q) u2)
end
/-- repr(v), whatever it is -/
theorem rq_repr {A : Around} {E : Value → Shared → Prop} {s : Shared} {Q : Value → Shared → Prop} {v : Value} {d : PyData} (r : Rq s.heap v d) (sh : d.showable = true) (gd : A.guards = some []) (un : A.units + (d.depth + 1) < cLine) (sz : d.shown.length ≤ sizeLine)
    (fin : ∀ h' u tk, (∀ b o, s.heap.get? b = some o → h'.get? b = some o) → Q (.str d.shown u) { s with heap := h', toks := tk }) : wpAny (model prog w) A (call (.builtin "repr") [v]) Q E s := by
  cases r with
  | non =>
    simp only [PyData.shown] at fin
    exact P.repr_of_none (fin s.heap _ _ fun _ _ z => z)
  | bl b =>
    simp only [PyData.shown] at fin
    exact P.repr_of_bool (fin s.heap _ _ fun _ _ z => z)
  | int i t =>
    simp only [PyData.shown] at fin
    exact P.repr_of_int (by simpa [PyData.showable] using sh) (fin s.heap _ _ fun _ _ z => z)
  | str x t =>
    simp only [PyData.shown] at fin sz
    exact P.repr_of_str (fin s.heap _ _ fun _ _ z => z) sz
  | @lst a o vs n xs g c e r =>
    have sz' : (listText (PyData.shownAll xs)).length ≤ sizeLine := by simpa only [PyData.shown] using sz
    obtain ⟨bs, ba, k⟩ := RqAll.shows (prog := prog) (w := w) r (by simpa [PyData.showable] using sh) (fun t m => Nat.le_trans (listText_mem_le m) sz')
    obtain ⟨as, q⟩ := RqAll.reads r
    obtain ⟨p1, _⟩ := apart (.list g c e q) (by simp only [PyData.depth]; omega) ba
    simp only [PyData.depth] at un
    simp only [PyData.shown] at fin
    refine call_repr_slot (by omega) ⟨o, g, c⟩ F.slot_list_repr.toG ?_
    obtain ⟨l⟩ := vs
    cases l with
    | nil =>
      have r' : RqAll s.heap [] xs := r
      cases r'
      simp only [PyData.shownAll, listText_nil] at fin
      exact call_list_repr_empty ⟨o, g, c⟩ g e ⟨_, _, rfl, fin s.heap _ _ fun _ _ z => z⟩
    | cons x l =>
      exact call_list_reprK g c e p1 (by simpa using k.length_eq) (fun i y f => k.item i y (by simpa using f)) gd (fun b _ => Clear.nil b) (by show A.units + 1 + _ < cLine; omega) (fun _ _ z => z) (fun h' u tk z => ⟨_, _, rfl, fin h' u tk z⟩) sz'
  | @tup a o vs n xs g c e r =>
    have sz' : (tupleText (PyData.shownAll xs)).length ≤ sizeLine := by simpa only [PyData.shown] using sz
    obtain ⟨bs, ba, k⟩ := RqAll.shows (prog := prog) (w := w) r (by simpa [PyData.showable] using sh) (fun t m => Nat.le_trans (tupleText_mem_le m) sz')
    obtain ⟨as, q⟩ := RqAll.reads r
    obtain ⟨p1, _⟩ := apart (.tuple g c e q) (by simp only [PyData.depth]; omega) ba
    simp only [PyData.depth] at un
    simp only [PyData.shown] at fin
    exact call_repr_slot (by omega) ⟨o, g, c⟩ F.slot_tuple_repr (call_tuple_reprK g c e p1 k gd (fun b _ => Clear.nil b) (by show A.units + 1 + _ < cLine; omega) (fun _ _ z => z) (fun h' u tk z => ⟨_, _, rfl, fin h' u tk z⟩) sz')
  | @dct a o n g c e ne =>
    simp only [PyData.depth, PyData.depthKv] at un
    simp only [PyData.shown, PyData.shownKv] at fin sz
    exact call_repr_slot (by omega) ⟨o, g, c⟩ F.slot_dict_repr (call_dict_reprK (as := []) (d := 0) g c e ne (fun z => nomatch z) .nil gd (fun b _ => Clear.nil b) (by show A.units + 1 + _ < cLine; omega) (fun _ _ z => z) (fun h' u tk z => ⟨_, _, rfl, fin h' u tk z⟩) sz)
end

/-! the same, of abstract values -/
mutual
inductive Dq (K : PySem.W.Frag) (H : Hp) : V → PyData → Prop
  | non : Dq K H .non .none
  | bl (b : Bool) : Dq K H (.bl b) (.bool b)
  | int (i : Int) : Dq K H (.int i) (.int i)
  | str (x : Str) : Dq K H (.str x) (.str x)
  | lst {a : Addr} {xs : List V} {ds : List PyData} : SqL K H a xs → DqAll K H xs ds → Dq K H (.ref a) (.list ds)
  | tup {a : Addr} {xs : List V} {ds : List PyData} : SqT K H a xs → DqAll K H xs ds → Dq K H (.ref a) (.tuple ds)
  | dct {a : Addr} : H a = some (.dK []) → Dq K H (.ref a) (.dict [])
inductive DqAll (K : PySem.W.Frag) (H : Hp) : List V → List PyData → Prop
  | nil : DqAll K H [] []
  | cons {v : V} {vs : List V} {d : PyData} {ds : List PyData} : Dq K H v d → DqAll K H vs ds → DqAll K H (v :: vs) (d :: ds)
end
section
variable {X : Cx} {pins : List (Addr × Obj)} {σ : L2.St} {H : Hp} {s : Shared}
mutual
theorem Dq.rq (I : Inv X pins σ H s) : ∀ {v : V} {d : PyData} {u : Value}, Dq X.K H v d → RelV v u → Rq s.heap u d
  | _, _, _, .non, r => by
    cases r
    exact .non
  | _, _, _, .bl b, r => by
    cases r
    exact .bl b
  | _, _, _, .int i, r => by
    obtain ⟨t, rfl⟩ := r
    exact .int i t
  | _, _, _, .str x, r => by
    obtain ⟨t, rfl⟩ := r
    exact .str x t
  | _, _, _, .lst q a, r => by
    cases r
    obtain ⟨its, rv, ⟨o, n, ho, hc, _, hd⟩, _⟩ := I.list q
    exact .lst ho hc hd (DqAll.rq I a rv)
  | _, _, _, .tup q a, r => by
    cases r
    obtain ⟨its, rv, ⟨o, ho, hc, n, hd⟩, _⟩ := I.tuple q
    exact .tup ho hc hd (DqAll.rq I a rv)
  | _, _, _, .dct q, r => by
    cases r
    obtain ⟨_, ne, vs, kv, dd⟩ := dk_of I.hok q
    cases kv
    obtain ⟨o, es, ep, ho, hc, hd, _, hp, _⟩ := dd
    have e0 : es = #[] := by
      obtain ⟨l⟩ := es
      cases l with
      | nil => rfl
      | cons e l => cases hp
    subst e0
    exact .dct ho hc.1 hd ne
theorem DqAll.rq (I : Inv X pins σ H s) : ∀ {vs : List V} {ds : List PyData} {us : List Value}, DqAll X.K H vs ds → Vals vs us → RqAll s.heap us ds
  | _, _, _, .nil, r => by
    cases r
    exact .nil
  | _, _, _, .cons q qs, r => by
    cases r with
    | cons r1 r2 => exact .cons (Dq.rq I q r1) (DqAll.rq I qs r2)
end
end

/-! ### sizes -/
structure Sz (n k : Nat) (d : PyData) : Prop where
  s : d.showable = true
  k : d.depth ≤ k
  n : d.shown.length ≤ n
structure Szs (n k : Nat) (ds : List PyData) : Prop where
  s : PyData.showableAll ds = true
  k : PyData.depthAll ds ≤ k
  n : ((PyData.shownAll ds).map (·.length)).sum + 2 * (PyData.shownAll ds).length ≤ n
theorem Sz.of {n k : Nat} {d : PyData} (h : Sh n k d) : Sz n k d := ⟨h.s, h.k, h.n⟩
theorem Szs.of {n k : Nat} {ds : List PyData} (h : Shs n k ds) : Szs n k ds := ⟨h.s, h.k, h.n⟩
theorem Sz.non : Sz 4 0 .none := .of .non
theorem Sz.bl (b : Bool) : Sz 5 0 (.bool b) := .of (.bl b)
theorem Sz.int {i : Int} (h : i.natAbs < 10 ^ 40) : Sz 41 0 (.int i) := .of (.int h)
theorem Sz.str {z : Str} {n : Nat} (h : z.length ≤ n) (c : ∀ x ∈ z.cps.toList, x < 128) : Sz (10 * n + 2) 0 (.str z) := by
  refine ⟨by simp only [PyData.showable], by simp only [PyData.depth]; omega, ?_⟩
  simp only [PyData.shown]
  have q := StrLaws.reprText_len z (fun x hx => Nat.lt_of_lt_of_le (c x hx) (by decide))
  omega
theorem Sz.list {n k : Nat} {ds : List PyData} (h : Szs n k ds) : Sz (n + 3) (k + 1) (.list ds) :=
  ⟨by simp only [PyData.showable]; exact h.s, by simp only [PyData.depth]; have := h.k; omega, by simp only [PyData.shown]; have := h.n; have := listText_len_le (PyData.shownAll ds); omega⟩
theorem Sz.tup {n k : Nat} {ds : List PyData} (h : Szs n k ds) : Sz (n + 3) (k + 1) (.tuple ds) :=
  ⟨by simp only [PyData.showable]; exact h.s, by simp only [PyData.depth]; have := h.k; omega, by simp only [PyData.shown]; have := h.n; have := tupleText_len_le (PyData.shownAll ds); omega⟩
theorem Sz.dct : Sz 2 1 (.dict []) := ⟨by simp only [PyData.showable, PyData.showableKv], by simp only [PyData.depth, PyData.depthKv]; omega, by simp only [PyData.shown, PyData.shownKv]; decide +kernel⟩
theorem Szs.nil : Szs 0 0 [] := .of .nil
theorem Szs.cons {n m k l : Nat} {d : PyData} {ds : List PyData} (a : Sz n k d) (b : Szs m l ds) : Szs (n + m + 2) (max k l) (d :: ds) := by
  refine ⟨by simp only [PyData.showableAll, a.s, b.s, Bool.and_self], ?_, ?_⟩
  · simp only [PyData.depthAll]
    have := a.k
    have := b.k
    omega
  · simp only [PyData.shownAll, List.map_cons, List.sum_cons, List.length_cons]
    have := a.n
    have := b.n
    omega
theorem Szs.map {α : Type} {f : α → PyData} {n k : Nat} : ∀ {xs : List α}, (∀ x ∈ xs, Sz n k (f x)) → Szs ((n + 2) * xs.length) k (xs.map f)
  | [], _ => ⟨by simp only [List.map_nil, PyData.showableAll], by simp only [List.map_nil, PyData.depthAll]; omega, by simp only [List.map_nil, PyData.shownAll]; simp⟩
  | x :: xs, h => by
    have q := Szs.cons (h x List.mem_cons_self) (Szs.map fun y hy => h y (List.mem_cons_of_mem _ hy))
    have e : (n + 2) * (x :: xs).length = n + (n + 2) * xs.length + 2 := by
      rw [List.length_cons, Nat.mul_succ]
      omega
    rw [e, List.map_cons]
    rw [Nat.max_self] at q
    exact q
/-- repr, over data with empty dicts, too -/
def rReprQ (K : PySem.W.Frag) : List V → Hp → VK → Prop := fun vs H Q => ∃ v d, vs = [v] ∧ Dq K H v d ∧ Shows d ∧ Q (.str d.shown) H
theorem call_reprQ {X : Cx} {k : Nat} (hr : RG k X.A) : CallR X (.builtin "repr") (rReprQ X.K) := by
  intro pins s σ H xs us Q I r h
  obtain ⟨v, d, rfl, hd, ⟨h1, h2, h3⟩, q⟩ := h
  cases r with
  | cons rv rn =>
    rename_i u us'
    cases rn
    have hu : X.A.units + 64 < cLine := hr.rm.units
    exact rq_repr (Dq.rq I hd rv) h1 hr.gd (by omega) h3 fun h' u tk kp => ⟨.str _, H, I.kept kp, ⟨_, rfl⟩, q⟩
theorem g_reprQ {H : Hp} {K : PySem.W.Frag} {Q : VK} {v : V} {d : PyData} {n k : Nat} (h : Dq K H v d) (s : Sz n k d) (hn : n ≤ 1000000) (hk : k ≤ 40) (q : Q (.str d.shown) H) : rReprQ K [v] H Q :=
  ⟨v, d, rfl, h, ⟨s.s, Nat.le_trans s.k hk, Nat.le_trans s.n (Nat.le_trans hn (by decide))⟩, q⟩
mutual
theorem Dq.of {K : PySem.W.Frag} {H : Hp} : ∀ {v : V} {d : PyData}, Dp K H v d → Dq K H v d
  | _, _, .non => .non
  | _, _, .bl b => .bl b
  | _, _, .int i => .int i
  | _, _, .str x => .str x
  | _, _, .lst h a => .lst h (DqAll.of a)
  | _, _, .tup h a => .tup h (DqAll.of a)
theorem DqAll.of {K : PySem.W.Frag} {H : Hp} : ∀ {vs : List V} {ds : List PyData}, DpAll K H vs ds → DqAll K H vs ds
  | _, _, .nil => .nil
  | _, _, .cons a b => .cons (Dq.of a) (DqAll.of b)
end
mutual
theorem Dq.same {K : PySem.W.Frag} {H H' : Hp} (s : Same H H') : ∀ {v : V} {d : PyData}, Dq K H v d → Dq K H' v d
  | _, _, .non => .non
  | _, _, .bl b => .bl b
  | _, _, .int i => .int i
  | _, _, .str x => .str x
  | _, _, .lst h a => .lst (Same.seq s h) (DqAll.same s a)
  | _, _, .tup h a => .tup (Same.seqT s h) (DqAll.same s a)
  | _, _, .dct h => .dct (s _ _ h)
theorem DqAll.same {K : PySem.W.Frag} {H H' : Hp} (s : Same H H') : ∀ {vs : List V} {ds : List PyData}, DqAll K H vs ds → DqAll K H' vs ds
  | _, _, .nil => .nil
  | _, _, .cons a b => .cons (Dq.same s a) (DqAll.same s b)
end
mutual
theorem dp_same {K : PySem.W.Frag} {H H' : Hp} (s : Same H H') : ∀ {v : V} {d : PyData}, Dp K H v d → Dp K H' v d
  | _, _, .non => .non
  | _, _, .bl b => .bl b
  | _, _, .int i => .int i
  | _, _, .str x => .str x
  | _, _, .lst h a => .lst (Same.seq s h) (dps_same s a)
  | _, _, .tup h a => .tup (Same.seqT s h) (dps_same s a)
theorem dps_same {K : PySem.W.Frag} {H H' : Hp} (s : Same H H') : ∀ {vs : List V} {ds : List PyData}, DpAll K H vs ds → DpAll K H' vs ds
  | _, _, .nil => .nil
  | _, _, .cons a b => .cons (dp_same s a) (dps_same s b)
end
theorem g_neZ {H : Hp} {K : PySem.W.Frag} {Q : VK} {x y : V} {d : PyData} {n k : Nat} (h1 : Dp K H x d) (h2 : Dp K H y d) (c : d.canLay0 = true) (s : Sz n k d) (hk : k ≤ 60) (q : Q (.bl false) H) : rNeA K x y H Q := by
  have sh : SeqAt.shaped d = true := by
    unfold SeqAt.shaped
    rw [c, decide_eq_true (Nat.le_trans s.k (by omega : k ≤ 64))]
    rfl
  exact g_neD h1 h2 sh sh (by rw [SeqAt.eqv_refl d c]; exact q)
theorem g_eqZ {H : Hp} {K : PySem.W.Frag} {Q : VK} {x y : V} {d : PyData} {n k : Nat} (h1 : Dp K H x d) (h2 : Dp K H y d) (c : d.canLay0 = true) (s : Sz n k d) (hk : k ≤ 60) (q : Q (.bl true) H) : rEqA K x y H Q := by
  have sh : SeqAt.shaped d = true := by
    unfold SeqAt.shaped
    rw [c, decide_eq_true (Nat.le_trans s.k (by omega : k ≤ 64))]
    rfl
  exact g_eqD h1 h2 sh sh (by rw [SeqAt.eqv_refl d c]; exact q)
theorem cl_map {α : Type} {f : α → PyData} (h : ∀ x, (f x).canLay0 = true) : ∀ xs : List α, PyData.canLayAll0 (xs.map f) = true
  | [] => by simp only [List.map_nil, PyData.canLayAll0]
  | x :: xs => by simp only [List.map_cons, PyData.canLayAll0, h x, cl_map h xs, Bool.and_self]
theorem Sz.mono {n m k l : Nat} {d : PyData} (h : Sz n k d) (a : n ≤ m) (b : k ≤ l) : Sz m l d := ⟨h.s, Nat.le_trans h.k b, Nat.le_trans h.n a⟩
theorem Dq.new {K : PySem.W.Frag} {H : Hp} {p : Addr} {u : HO} {v : V} {d : PyData} (n : H p = none) (h : Dq K H v d) : Dq K (upd H p u) v d := Dq.same (Same.upd n (Same.refl H)) h
end Hf

set_option Elab.async false
set_option linter.all false
set_option maxRecDepth 100000
set_option maxHeartbeats 4000000
namespace Hf
open PySem L2 PySem.Spec PyProof.Rows

/-! ### enumerate(text) -/
/-- the signs of x, each in a new pair with its place -/
def IteS (x : Str) : It := ⟨fun i _ => i < x.cps.size, fun i H v H' => ∃ T c, v = .ref T ∧ H T = none ∧ x.cps[i]? = some c ∧ H' = upd H T (.tup [.int (i : Nat), .str ⟨#[c]⟩]), fun i _ => i = x.cps.size⟩
theorem turn_enumS {P : Program} {w : World} {K : PySem.W.Frag} {elts : List Expr} {kk : Nat} {tpos : Pos} (x : Str) (t : Tok) (e it : Addr) :
    Turn P w K (.Tuple elts kk tpos) (IteS x) [e, it] e (fun i h => (∃ old, IsEnum h e it ((i : Nat) : Int) old) ∧ h.IsStrIter it (strIterType x) x t i ∧ e ≠ it) where
  mem := by simp
  obj := by
    rintro i h ⟨⟨old, he⟩, ⟨o, ho, hc, hd⟩, _⟩ b hb
    rcases List.mem_cons.mp hb with z | z
    · rw [z]
      exact ⟨_, he, fun v q => nomatch q⟩
    · rw [List.mem_singleton.mp z]
      exact ⟨o, ho, fun v q => by rw [hd] at q; cases q⟩
  keep := by
    rintro i h h' ⟨⟨old, he⟩, ⟨o, ho, r⟩, hne⟩ k
    exact ⟨⟨old, k e (by simp) _ he⟩, ⟨o, k it (by simp) o ho, r⟩, hne⟩
  item := by
    intro X hP hw hK hc i pins s σ H E I hf st hg
    subst hP hw hK
    obtain ⟨⟨old, he⟩, hit, hne⟩ := st
    have lt_e : e < s.heap.objs.size := Heap.lt_size he
    have lt_it : it < s.heap.objs.size := by
      obtain ⟨o, z, _⟩ := id hit
      exact Heap.lt_size z
    have D := Draws.text (prog := X.prog) (w := X.w) (A := X.A.in1) (I.ok.hd hc) it x t
    refine wpAny_pyNext_enum_itemD D he hit hg hne (by simpa using hne) fun v h' tk hv ho hit' hT hsz hk => ?_
    obtain ⟨c, u, hcx, rfl⟩ := hv
    refine ⟨_, rfl, wpAny_letOwnedTupleGo_enum (s := { s with heap := h', toks := tk + 1 }) ho fun h'' he' sb => ?_⟩
    have gT : h''.get? s.heap.objs.size = some { cls := .type "tuple", data := .seq #[.int i tk, .str ⟨#[c]⟩ u] } := (sb.2 _ (Nat.ne_of_gt lt_e)).trans hT
    have new : ObjOk X.prog X.w (upd H s.heap.objs.size (.tup [.int (i : Nat), .str ⟨#[c]⟩])) h'' s.heap.objs.size (.tup [.int (i : Nat), .str ⟨#[c]⟩]) :=
      ⟨by show 2 ≤ sizeLine; decide, [.int i tk, .str ⟨#[c]⟩ u], .cons ⟨_, rfl⟩ (.cons ⟨_, rfl⟩ .nil), ⟨_, gT, rfl, _, rfl⟩⟩
    have I1 : Inv X pins σ (upd H s.heap.objs.size (.tup [.int (i : Nat), .str ⟨#[c]⟩])) { s with heap := h'', toks := tk + 1 } :=
      I.turnedNew (ch := [e, it]) (fun b ob hb q => (sb.2 b (fun z => hb (by simp [z]))).trans (hk b ob (fun z => hb (by simp [z])) (fun z => hb (by simp [z])) q)) hf (Nat.le_refl _) new
    refine ⟨.ref s.heap.objs.size, _, I1, rfl, ⟨_, c, rfl, I.hok.fresh (Nat.le_refl _), hcx, rfl⟩, ⟨⟨.str ⟨#[c]⟩ u, ?_⟩, ?_, hne⟩, fun b hb => ?_⟩
    · have e1 : ((i + 1 : Nat) : Int) = (i : Int) + 1 := by omega
      rw [e1]
      exact he'
    · obtain ⟨o, z, r⟩ := hit'
      exact ⟨o, (sb.2 it (Ne.symm hne)).trans z, r⟩
    · have lt_b : b < s.heap.objs.size := by
        rcases List.mem_cons.mp hb with z | z
        · rw [z]
          exact lt_e
        · rw [List.mem_singleton.mp z]
          exact lt_it
      rw [upd_ne (Nat.ne_of_lt lt_b)]
      exact (hf b hb).1
  done := by
    intro X hP hw hK hc i pins s σ H E I hf st hg
    subst hP hw hK
    obtain ⟨⟨old, he⟩, hit, hne⟩ := st
    have hi : i = x.cps.size := hg
    subst hi
    obtain ⟨f0, f1, f2, f3, f4, f5⟩ := hf it (by simp)
    have D := Draws.text (prog := X.prog) (w := X.w) (A := X.A.in1) (I.ok.hd hc) it x t
    exact wpAny_pyNext_enum_endD D he hit fun h' eb => ⟨rfl, I.turned (t' := s.toks) (fun b o hb q => eb b o hb q) f0 f1 f3 f4 f5⟩
  self := fun A i s Q E st h => by
    obtain ⟨⟨_, he⟩, _⟩ := st
    exact wpAny_pyIter_enum he h
def iEnumS (ta : TA) : TI := fun σ H R => ta σ H fun vs H1 => ∃ x, vs = [.str x] ∧ R (IteS x) H1
theorem pi_enumS {X : Cx} {e : Expr} {ta : TA} {p pos tpos : Pos} {elts : List Expr} {kk : Nat} (hg : Gl X "enumerate") (hm : X.mg "enumerate" = none) (ha : PA X [e] ta) (hs : starEach [e] X.env = [(false, eval e X.env)] := by rfl) :
    PI X (.Tuple elts kk tpos) (.Call (.Name "enumerate" p) [e] [] pos) (iEnumS ta) := by
  refine ⟨fun pins s σ H R I h => ?_⟩
  refine Call_ (ld_blt I hg hm boot_enumerate (PyProof.Rows.callWith_type1 (thn (ha.run pos pins s σ H _ I h) fun us s1 ⟨vs, H1, I1, r1, x, ev, q⟩ => ?_) hs rfl))
  subst ev
  cases r1 with
  | cons r rr =>
    cases rr
    obtain ⟨t, rfl⟩ := r
    refine call_enumerate_str fun h' he hit hsz hk => wpAny_pyIter_enum he ?_
    have I2 : Inv X pins σ H1 { s1 with heap := h' } := I1.kept (t' := s1.toks) hk
    refine ⟨s1.heap.objs.size + 1, [s1.heap.objs.size + 1, s1.heap.objs.size], _, _, H1, rfl, I2, turn_enumS x t (s1.heap.objs.size + 1) s1.heap.objs.size, ⟨⟨.none, he⟩, hit, Nat.succ_ne_self _⟩, fun b hb => ?_, q⟩
    have hle : s1.heap.objs.size ≤ b := by
      rcases List.mem_cons.mp hb with z | z
      · rw [z]
        exact Nat.le_add_right _ _
      · rw [List.mem_singleton.mp z]
        exact Nat.le_refl _
    exact I1.fpOk hle (I1.hok.fresh hle)
theorem walk_enumS {z : Str} : Walk (IteS z) z.cps.size (fun _ => True) (fun i H v H' => ∃ T c, v = .ref T ∧ H T = none ∧ z.cps[i]? = some c ∧ H' = upd H T (.tup [.int (i : Nat), .str ⟨#[c]⟩])) :=
  ⟨fun _ _ hi _ => hi, fun _ _ => rfl, fun _ _ _ _ _ _ y => y⟩
section
variable {σ : L2.St} {H : Hp} {D : Ends} {tb : TS} {K : PySem.W.Frag}
/-- for j, m in enumerate(the text in the slot n) -/
theorem g_forES {n j m N : Nat} {z : Str} (hN : 2 = N) (hv : σ[n]? = some (some (.str z))) (Pv : Nat → L2.St → Hp → Prop) (h0 : Pv 0 σ H)
    (hs : ∀ i c σ' H1 H' T, i < z.length → (cs z)[i]? = some c → Pv i σ' H1 → H1 T = none → H' = upd H1 T (.tup [.int (i : Nat), .str ⟨#[c]⟩]) →
      tb { D with nx := Pv (i + 1), ct := Pv (i + 1), bk := D.nx } ((σ'.set j (some (.int (i : Nat)))).set m (some (.str ⟨#[c]⟩))) H')
    (hd : ∀ σ' H', Pv z.length σ' H' → D.nx σ' H') : tFor (iEnumS (tCons (tVar n) tNil)) (gTup K N (gCons (gName j) (gCons (gName m) gNil))) tb D σ H := by
  subst hN
  refine ⟨_, hv, z, rfl, for_it walk_enumS Pv h0 (fun _ _ _ _ _ => True.intro) ?_ hd⟩
  rintro i x σ' H1 H' hi p ⟨T, c, rfl, hT, hc, e⟩
  refine ⟨T, _, rfl, .inl (.inl (by rw [e]; exact upd_same)), rfl, _, _, rfl, _, _, rfl, rfl, ?_⟩
  exact hs i c σ' H1 H' T hi (by rw [Array.getElem?_toList]; exact hc) p hT e
end

theorem takesN {X : Cx} : Takes X (fun _ _ _ _ => False) := fun _ _ ⟨_, _, _, _, _, _, _, _, _, _, _, _, _, _, _, _, z⟩ => z.elim
/-! ### an exception held as a value -/
/-- the class cls has instances with the field fld -/
def XFld (K : PySem.W.Frag) (cls : Value) (fld : Str) : Prop := ∃ C, cls = .ref C ∧ XIs K C ∧ PySem.W.findIn K (.ref C) fld = some none ∧ PySem.W.hasDictIn K C = true
theorem XCls.fld {P : Program} {K : PySem.W.Frag} {mg : Str → Option Value} {nm fld : Str} {cls : Value} (T : XCls P K mg nm fld) (h : XN K nm cls) : XFld K cls fld := by
  obtain ⟨C, fI, xn, gC, TX, kC, xi, tyC, noN⟩ := T.ex
  have e := xn.symm.trans h
  simp only [Option.some.injEq] at e
  subst e
  exact ⟨C, rfl, xi, noN, TX.hd⟩
theorem XCls.nm {P : Program} {K : PySem.W.Frag} {mg : Str → Option Value} {nm fld : Str} (T : XCls P K mg nm fld) : ∃ C, XN K nm (.ref C) ∧ mg nm = some (.ref C) := by
  obtain ⟨C, fI, xn, gC, _⟩ := T.ex
  exact ⟨C, xn, gC⟩
/-- at a: an exception of the class cls whose only field fld is v -/
def XAt (H : Hp) (a : Addr) (cls : Value) (fld : Str) (v : V) : Prop := ∃ d, H a = some (ExV cls (some d) a) ∧ H d = some (.xd [(fld, v)])
theorem XAt.same {H H' : Hp} {a : Addr} {cls : Value} {fld : Str} {v : V} (h : XAt H a cls fld v) (s : Same H H') : XAt H' a cls fld v := by
  obtain ⟨d, h1, h2⟩ := h
  exact ⟨d, s _ _ h1, s _ _ h2⟩
def tXv (K : PySem.W.Frag) (fld : Str) (te : TE) : TE := fun σ H Q => te σ H fun x H1 => ∃ a cls v, x = .ref a ∧ XAt H1 a cls fld v ∧ XFld K cls fld ∧ Q v H1
theorem instX {X : Cx} {pins : List (Addr × Obj)} {σ : L2.St} {H : Hp} {s : Shared} {a C : Addr} {fld : Str} {v : V} (I : Inv X pins σ H s) (h : XAt H a (.ref C) fld v) :
    ∃ oe od u, PySem.W.InstAt s.heap a oe C (some od) ∧ PySem.W.lookIn fld od = some (some u) ∧ RelV v u := by
  obtain ⟨d, h1, h2⟩ := h
  obtain ⟨⟨oe, vs, go, ⟨z1, z2⟩, dt⟩, _, _⟩ := I.hok a _ h1
  have hx : ObjOk X.prog X.w H s.heap d (.xd [((fld : Str), v)]) := I.hok d _ h2
  obtain ⟨mA, hns, hr⟩ := hx
  obtain ⟨od, ho, hl⟩ := lookIn_ns hns
  have l : List.lookup fld [((fld : Str), v)] = some v := by rw [List.lookup_cons, beq_self_eq_true]
  obtain ⟨u, hu, ru⟩ := RelO.some_of (v := v) (o := mA fld) (by rw [← l]; exact hr fld)
  exact ⟨oe, od, u, ⟨go, z1, by unfold PySem.W.notCls; rw [dt] <;> rfl, by rw [z2]; exact ho⟩, by rw [hl, hu], ru⟩
section
variable {X : Cx} {e : Expr} {te : TE} {pos : Pos} {fld : Str}
theorem pe_xv (he : PE X e te) (hb : attributeBase e fld X.env (eval e X.env) = eval e X.env := by rfl) : PE X (.Attribute e fld pos) (tXv X.K fld te) := by
  refine ⟨fun pins s σ H Q I h => ?_⟩
  refine attr_of hb (thn (he.run pins s σ H _ I h) fun u s1 hh => ?_)
  obtain ⟨x, H1, I1, rx, a, cls, v, ex, xa, ⟨C, ec, xi, no, hd⟩, q⟩ := hh
  subst ex ec
  obtain rfl : u = Value.ref a := rx
  obtain ⟨oe, od, u, J, lk, ru⟩ := instX I1 xa
  exact HandSPX.exc_get I1.kIn J xi.ga xi.gg xi.ex (PySem.W.findObj_own hd no rfl lk) (handed_of ru) ⟨v, H1, I1.tok _, ru, q⟩
/-- isinstance(e, c), e such an exception, c a class -/
def rIsX (K : PySem.W.Frag) : List V → Hp → VK → Prop := fun xs H Q => ∃ (a C : Addr) (f : Str) (v c : V) (cv : Value) (b : Bool), xs = [.ref a, c] ∧ XAt H a (.ref C) f v ∧ XIs K C ∧ (∀ u, RelV c u → u = cv) ∧ PySem.W.kitOne K (.ref C) cv = some b ∧ Q (.bl b) H
theorem call_isX : CallR X (.builtin "isinstance") (rIsX X.K) := by
  intro pins s σ H xs us Q I r h
  obtain ⟨a, C, f, v, c, cv, b, rfl, xa, xi, hcv, e, q⟩ := h
  cases r with
  | cons rx rr =>
    cases rr with
    | cons rt rr =>
      cases rr
      cases rx
      have ec := hcv _ rt
      subst ec
      obtain ⟨oe, od, u, J, lk, ru⟩ := instX I xa
      exact PySem.W.kia_one (PySem.W.kitx_exc xi.cl xi.ga xi.gg xi.ex xi.ca xi.sp xi.tk xi.mo) I.kIn J e (fun z => nomatch z) fun tk => ⟨.bl b, H, I.kept (t' := tk) fun _ _ z => z, rfl, q⟩
end
section
variable {K : PySem.W.Frag} {H : Hp} {Q : VK} {σ : L2.St}
theorem g_isXC {a C C' : Addr} {f : Str} {v : V} {b : Bool} (xa : XAt H a (.ref C) f v) (xi : XIs K C) (k : PySem.W.kitOne K (.ref C) (.ref C') = some b) (q : Q (.bl b) H) : rIsX K [.ref a, .ref C'] H Q :=
  ⟨a, C, f, v, .ref C', .ref C', b, rfl, xa, xi, fun u r => r, k, q⟩
theorem g_isXT {a C : Addr} {T : String} {f : Str} {v : V} {b : Bool} (xa : XAt H a (.ref C) f v) (xi : XIs K C) (k : PySem.W.kitOne K (.ref C) (.type T) = some b) (q : Q (.bl b) H) : rIsX K [.ref a, .ty T] H Q :=
  ⟨a, C, f, v, .ty T, .type T, b, rfl, xa, xi, fun u r => r, k, q⟩
theorem g_xv {fld : Str} {te : TE} (q : te σ H fun x H1 => ∃ a cls v, x = .ref a ∧ XAt H1 a cls fld v ∧ XFld K cls fld ∧ Q v H1) : tXv K fld te σ H Q := q
theorem g_callX {n m : Nat} {sp : Sp} {g : List V → List V → List V} {W : WX} {t tk : TA} (q : t σ H fun xs H1 => tk σ H1 fun zs H2 => xs.length = n ∧ zs.length = m ∧ sp (g xs zs) H2 Q (fun cls d H' => W cls d σ H')) : tCallX n m sp g W t tk σ H Q := q
theorem g_raiseX {nm fld : Str} {W : WX} {ta : TA} {D : Ends} (q : ta σ H fun vs H1 => ∃ v, vs = [v] ∧ ∀ cls d, XN K nm cls → H1 d = none → W cls d σ (upd H1 d (.xd [(fld, v)]))) : tRaiseX K nm fld W ta D σ H := q
end
theorem As.sign {n i c : Nat} {z : Str} (h : As n z) (hc : (cs z)[i]? = some c) : As 1 (⟨#[c]⟩ : Str) :=
  As.of (Nat.le_refl _) (fun x hx => by
    have e : x = c := by simpa [cs] using hx
    rw [e]
    exact h.2 c (List.mem_of_getElem? hc))
theorem g_exc1 {v : V} {P : V → Prop} (q : P v) : ∃ y, [v] = [y] ∧ P y := ⟨v, rfl, q⟩
/-! ### further readings -/
section
variable {K : PySem.W.Frag} {H : Hp} {Q : VK} {σ : L2.St} {D : Ends} {te : TE} {ta : TA} {ti : TIp} {tb : TS}
theorem g_aug {i : Nat} {x : V} (hv : σ[i]? = some (some x)) (q : te σ H fun y H1 => ti x y H1 fun z H2 => D.nx (σ.set i (some z)) H2) : tAug i te ti D σ H := ⟨x, hv, q⟩
theorem g_iaddT {a b : Str} (h : a.length + b.length ≤ sizeLine) (q : Q (.str (a ++ b)) H) : ipAddA (.str a) (.str b) H Q := .inr ⟨a, b, rfl, rfl, h, q⟩
theorem g_iaddI {a b : Int} (q : Q (.int (a + b)) H) : ipAddA (.int a) (.int b) H Q := .inl ⟨a, b, rfl, rfl, q⟩
theorem g_then {k : V → Hp → VK → Prop} (q : te σ H fun x H' => k x H' Q) : tThen te k σ H Q := q
theorem g_tupL {a : Addr} {xs : List V} (h : SqL K H a xs) (q : ∀ p, H p = none → Q (.ref p) (upd H p (.tup xs))) : kTup K (.ref a) H Q := .inl ⟨a, xs, rfl, h, q⟩
theorem g_tupT {a : Addr} {xs : List V} (h : SqT K H a xs) (q : Q (.ref a) H) : kTup K (.ref a) H Q := .inr ⟨a, xs, rfl, h, q⟩
theorem g_revL (q : te σ H fun x H1 => ∃ a xs, x = .ref a ∧ SqL K H1 a xs ∧ ∀ p, H1 p = none → Q (.ref p) (upd H1 p (.lst xs.reverse))) : tRevL K te σ H Q := q
def rCntS (x : V) (xs : List V) (H : Hp) (Q : VK) : Prop := ∃ a b, x = .str a ∧ xs = [.str b] ∧ Q (.int (Txt.count a b)) H
theorem mt_countS {X : Cx} : MtR X "str.count" rCntS := mt_count
theorem g_cntS {n : Nat} {z : Str} {t : TA} (hv : σ[n]? = some (some (.str z))) (q : t σ H fun ys H1 => rCntS (.str z) ys H1 Q) : tBM K "str" rCntS (tVar n) t σ H Q := ⟨_, hv, rfl, q⟩
theorem g_cnt1 {a b : Str} (q : Q (.int (Txt.count a b)) H) : rCntS (.str a) [.str b] H Q := ⟨a, b, rfl, rfl, q⟩
/-- for j in range(lo, .., -1), n turns -/
theorem for_dn {lo : Int} {n j : Nat} (Pv : Nat → L2.St → Hp → Prop) (h0 : Pv 0 σ H) (hs : ∀ i σ' H', i < n → Pv i σ' H' → tb { D with nx := Pv (i + 1), ct := Pv (i + 1), bk := D.nx } (σ'.set j (some (.int (lo - (i : Nat))))) H') (hd : ∀ σ' H', Pv n σ' H' → D.nx σ' H') :
    ∃ W : Nat → Nat → L2.St → Hp → Prop, (∃ m, W 0 m σ H) ∧ ∀ i m σ H, W i m σ H →
      ((Itc lo (-1) n).stop i H ∧ D.nx σ H) ∨ ((Itc lo (-1) n).go i H ∧ ∃ N : L2.St → Hp → Prop, (∀ σ' H', N σ' H' → ∃ m', m' < m ∧ W (i + 1) m' σ' H') ∧ ∀ x H', (Itc lo (-1) n).yld i H x H' → gName j x σ H' fun σ2 H2 => tb { D with nx := N, ct := N, bk := D.nx } σ2 H2) := by
  refine for_it walk_rangeC Pv h0 (fun _ _ _ _ _ => True.intro) ?_ hd
  rintro i x σ' H1 H' hi p ⟨rfl, rfl⟩
  have e : lo + (i : Nat) * (-1) = lo - (i : Nat) := by omega
  show gName j (.int (lo + (i : Nat) * (-1))) σ' _ _
  rw [e]
  exact hs i σ' _ hi p
theorem g_for3 {g : TG} (q : ta σ H fun vs H1 => ∃ (i j c : Int) (n : Nat), vs = [.int i, .int j, .int c] ∧ RgC i j c n ∧ ∃ W : Nat → Nat → L2.St → Hp → Prop, (∃ m, W 0 m σ H1) ∧ ∀ k m σ H, W k m σ H →
    ((Itc i c n).stop k H ∧ D.nx σ H) ∨ ((Itc i c n).go k H ∧ ∃ N : L2.St → Hp → Prop, (∀ σ' H', N σ' H' → ∃ m', m' < m ∧ W (k + 1) m' σ' H') ∧ ∀ x H', (Itc i c n).yld k H x H' → g x σ H' fun σ2 H2 => tb { D with nx := N, ct := N, bk := D.nx } σ2 H2)) : tFor (iRng3 ta) g tb D σ H := q
end
section
variable {K : PySem.W.Frag} {H : Hp} {Q : VK} {a : Addr}
theorem g_isRN (q : Q (.bl false) H) : rIsA (.ref a) .non H Q := ⟨rfl, by
  have e : decide (V.ref a = V.non) = false := decide_eq_false (fun z => nomatch z)
  rw [e]
  exact q⟩
theorem g_isNN (q : Q (.bl true) H) : rIsA .non .non H Q := ⟨rfl, q⟩
end
theorem XN.inj {K : PySem.W.Frag} {nm : Str} {c c2 : Value} (h : XN K nm c) (k : XN K nm c2) : c = c2 := by
  have e := h.symm.trans k
  simp only [Option.some.injEq] at e
  exact e
theorem XCls.is {P : Program} {K : PySem.W.Frag} {mg : Str → Option Value} {nm fld : Str} {C : Addr} (T : XCls P K mg nm fld) (h : XN K nm (.ref C)) : XIs K C := by
  obtain ⟨C', fI, xn, gC, TX, kC, xi, tyC, noN⟩ := T.ex
  cases XN.inj xn h
  exact xi
theorem XAt.new {H : Hp} {a d : Addr} {cls : Value} {fld : Str} {v : V} (na : upd H d (.xd [(fld, v)]) a = none) : XAt (upd (upd H d (.xd [(fld, v)])) a (ExV cls (some d) a)) a cls fld v :=
  ⟨d, upd_same, upd_off (fun e => by rw [e, upd_same] at na; cases na) upd_same⟩
/-! ### comprehensions whose element is a new object -/
inductive Fa2 {α β : Type} (P : α → β → Prop) : List α → List β → Prop
  | nil : Fa2 P [] []
  | cons {a : α} {b : β} {as : List α} {bs : List β} : P a b → Fa2 P as bs → Fa2 P (a :: as) (b :: bs)
section
variable {α β : Type} {P P' : α → β → Prop}
theorem Fa2.mono (h : ∀ a b, P a b → P' a b) : ∀ {as : List α} {bs : List β}, Fa2 P as bs → Fa2 P' as bs
  | _, _, .nil => .nil
  | _, _, .cons p r => .cons (h _ _ p) (Fa2.mono h r)
theorem Fa2.snoc {a : α} {b : β} (p : P a b) : ∀ {as : List α} {bs : List β}, Fa2 P as bs → Fa2 P (as ++ [a]) (bs ++ [b])
  | _, _, .nil => .cons p .nil
  | _, _, .cons q r => .cons q (Fa2.snoc p r)
theorem Fa2.len : ∀ {as : List α} {bs : List β}, Fa2 P as bs → as.length = bs.length
  | _, _, .nil => rfl
  | _, _, .cons _ r => congrArg (· + 1) (Fa2.len r)
end
section
variable {K : PySem.W.Frag} {H : Hp} {Q : VK} {σ : L2.St} {te t0 : TE} {vs : List Nat} {j : Nat} {tt : TT} {g : TG}
theorem lc_relL {a : Addr} {xs : List V} {Qd : Addr → Hp → Prop} (PV : Addr → V → V → Hp → Prop) (h : SqL K H a xs) (hn : xs.length ≤ 1000000) (hw : ∀ v, wipe ((wipe σ vs).set j (some v)) vs = wipe σ vs)
    (hst : ∀ D x y H1 H2, PV D x y H1 → (∀ b o, b ≠ D → H1 b = some o → H2 b = some o) → PV D x y H2)
    (he : ∀ x, x ∈ xs → ∀ D H1, H D = none → Same H H1 → (∃ acc, H1 D = some (.lst acc)) → ∀ Q : VK, (∀ y H2, Same H1 H2 → PV D x y H2 → Q y H2) → te ((wipe σ vs).set j (some x)) H1 Q)
    (q : ∀ D H' ys, H D = none → Same H H' → H' D = some (.lst ys) → Fa2 (fun x y => PV D x y H') xs ys → Qd D H') :
    (∃ xs, SqL K H a xs) ∧ ∀ D, H D = none → ∃ W : Nat → Nat → Hp → Prop, (∃ m, W 0 m (upd H D (.lst []))) ∧ ∀ i m H, W i m H → ((Itl K a).stop i H ∧ Qd D H) ∨ ((Itl K a).go i H ∧ ∃ Nx : Hp → Prop, (∀ H', Nx H' → ∃ m', m' < m ∧ W (i + 1) m' H') ∧
      ∀ x H', (Itl K a).yld i H x H' → gName j x (wipe σ vs) H' fun σ2 H2 => wipe σ2 vs = wipe σ vs ∧ tYes σ2 H2 fun b H3 => if b = true then te σ2 H3 fun y H4 => ∃ acc, H4 D = some (.lst acc) ∧ acc.length < sizeLine ∧ Nx (upd H4 D (.lst (acc ++ [y]))) else Nx H3) := by
  refine ⟨⟨xs, h⟩, fun D hD => ?_⟩
  refine lc_it walk_list (fun i H' => Same H H' ∧ ∃ ys, H' D = some (.lst ys) ∧ Fa2 (fun x y => PV D x y H') (xs.take i) ys) ⟨Same.upd hD (Same.refl H), [], upd_same, .nil⟩ (fun i H' _ k => k.1.seq h) ?_ ?_
  · rintro i x H0 H' hi ⟨s, ys, hd, rl⟩ ⟨rfl, hx⟩
    have mem : x ∈ xs := List.mem_of_getElem? hx
    have tk : xs.take (i + 1) = xs.take i ++ [x] := by rw [List.take_succ, hx]; rfl
    refine ⟨hw _, ?_⟩
    dsimp only [tYes]
    rw [if_pos rfl]
    refine he x mem D _ hD s ⟨ys, hd⟩ _ fun y H2 s2 pv => ⟨ys, s2 D _ hd, ?_, Same.put hD (Same.trans s s2), _, upd_same, ?_⟩
    · have l := rl.len
      rw [List.length_take] at l
      exact Nat.lt_of_le_of_lt (Nat.le_trans (by omega) hn) (by decide)
    · rw [tk]
      have up : ∀ b o, b ≠ D → H2 b = some o → upd H2 D (.lst (ys ++ [y])) b = some o := fun b o hb e => by rw [upd_ne hb]; exact e
      exact Fa2.snoc (P := fun x' y' => PV D x' y' (upd H2 D (.lst (ys ++ [y])))) (hst D x y H2 _ pv up) (rl.mono fun x' y' p => hst D x' y' _ _ (hst D x' y' _ _ p fun b o _ e => s2 b o e) up)
  · rintro H' ⟨s, ys, hd, rl⟩
    rw [List.take_length] at rl
    exact q D H' ys hD s hd rl
theorem g_lcLE (q : t0 σ H fun v H1 => ∃ a, v = V.ref a ∧ (∃ xs, SqL K H1 a xs) ∧ ∀ D, H1 D = none → ∃ W : Nat → Nat → Hp → Prop, (∃ m, W 0 m (upd H1 D (.lst []))) ∧ ∀ i m H, W i m H →
      ((Itl K a).stop i H ∧ Q (.ref D) H) ∨ ((Itl K a).go i H ∧ ∃ Nx : Hp → Prop, (∀ H', Nx H' → ∃ m', m' < m ∧ W (i + 1) m' H') ∧ ∀ x H', (Itl K a).yld i H x H' → g x (wipe σ vs) H' fun σ2 H2 => wipe σ2 vs = wipe σ vs ∧ tt σ2 H2 fun b H3 =>
        if b = true then te σ2 H3 fun y H4 => ∃ acc, H4 D = some (.lst acc) ∧ acc.length < sizeLine ∧ Nx (upd H4 D (.lst (acc ++ [y]))) else Nx H3)) : tLc (iList K t0) g tt te vs σ H Q := q
end
/-! ### what the program's top has left of the error classes -/
section
variable {P : Program} {K : PySem.W.Frag} {h : Heap} {mg : Str → Option Value}
theorem mkX {nm fld : Str} {C fI : Addr} {B newId initId : String} {bmB : List Value} {oc : Value} {od : Option Addr} {doc pm : Value} {an : Option Addr} {cda : Addr} {ct : Value} {osl : Array (Option Value)} {qual txt : Str} {cc : Addr} {p1 p2 r0 r1 r2 r3 r4 r5 r6 r7 r8 r9 : Pos}
    {ccl cl : Value} {cdd cld : Option Addr} {vs : Array Value} {ccs csl : Array (Option Value)} {file : Str} {tf : Tok} (xb : XBase B newId initId bmB) (X : K.In h) (G : h.Ns mainGlobals mg) (a1 : PySem.W.nsIn K mainGlobals nm = some (some (.ref C)))
    (a2 : PySem.W.findIn K (.ref C) "__init__" = some (some (.ref fI)))
    (a3 : K.lookup fI = some ⟨oc, od, .func (PySem.W.ksFn "__init__" qual (xArgs fld p1 p2) (xBody fld txt r0 r1 r2 r3 r4 r5 r6 r7 r8 r9) (xScope fld) .none .none doc pm an (.ref cda) ct cc), osl⟩)
    (a4 : K.lookup cda = some ⟨ccl, cdd, .fields vs, ccs⟩) (a5 : K.lookup cc = some ⟨cl, cld, .cell (some (.ref C)), csl⟩) (a6 : vs[2]? = some (.str file tf)) (b1 : PySem.W.excInitIn K C bmB newId = true) (b2 : PySem.W.excOver K C bmB = true)
    (b3 : PySem.W.ks_superIn K C C "__init__" = some (some (.builtin initId))) (b4 : PySem.W.subIn K (.ref C) (.type B) = some true) (b5 : PySem.W.findIn K (.ref C) "__setattr__" = some (some (.builtin "object.__setattr__"))) (b6 : PySem.W.takerIn K C fld = some none)
    (b7 : PySem.W.hasDictIn K C = true) (b8 : PySem.W.typeIn K (.ref fI) = some (.type "function")) (b9 : PySem.W.mroIn K C (.ref C) = some true) (c1 : PySem.W.nsIn K mainGlobals "super" = some none) (c2 : PySem.W.nsIn K cStatics "thirdparty.any" = some none)
    (c3 : (P.main.scope.names.lookup ("super" : Str)).isSome = false) (c4 : (fld == ("__debug__" : Str)) = false ∧ fld ≠ "self" ∧ (xScope fld).names.lookup fld = some .local ∧ (xScope fld).names.lookup ("__class__" : Str) = some .free ∧ (xScope fld).names.lookup ("super" : Str) = some .globalImplicit)
    (c5 : PySem.W.codeIn K (.ref cda) qual = true) (c6 : ((P.main.file : Str) == file) = true) (c7 : txt.length ≤ 1000) (c8 : XCall txt r0 r1 r2 r3 r4)
    (c9 : ∀ a b, bindArgs (PySem.W.ksFn "__init__" qual (xArgs fld p1 p2) (xBody fld txt r0 r1 r2 r3 r4 r5 r6 r7 r8 r9) (xScope fld) .none .none doc pm an (.ref cda) ct cc) ⟨[a, b], []⟩ = pure [(("self" : Str), a), (fld, b)])
    (c10 : ∀ a b, bindArgs (PySem.W.ksFn "__init__" qual (xArgs fld p1 p2) (xBody fld txt r0 r1 r2 r3 r4 r5 r6 r7 r8 r9) (xScope fld) .none .none doc pm an (.ref cda) ct cc) ⟨[a], [(fld, b)]⟩ = pure [(("self" : Str), a), (fld, b)])
    (d1 : PySem.W.keepIn K (.ref C) = true) (d2 : PySem.W.typeIn K (.ref C) = some (.type "type")) (d3 : PySem.W.findIn K (.ref C) fld = some none) (e1 : PySem.W.findIn K (.ref C) "__getattribute__" = some (some (.builtin "BaseException.__getattribute__")))
    (e2 : PySem.W.findIn K (.ref C) "__getattr__" = some none) (e3 : PySem.W.subIn K (.ref C) (.type "BaseException") = some true) (e4 : (PySem.W.clsIn K C).isSome = true) (e5 : PySem.W.findIn K (.ref C) "__class__" = some (some (.builtin "object.__class__")))
    (e6 : PySem.W.specialIn K (.builtin "object.__class__") "__get__" = some (some (.builtin "getset_descriptor.__get__"))) (e7 : PySem.W.takesIn K (.builtin "object.__class__") = some true) (e8 : PySem.W.mroIn K C (.type "object") = some true) : XCls P K mg nm fld :=
  ⟨C, fI, a1, PySem.W.mg_of X G a1, ⟨⟨B, newId, initId, bmB, xb, b1, b2, b3, b4⟩, b5, b6, b7, a2, b8, b9, c1, c2, c3, c4, ⟨oc, od, doc, pm, an, cda, ct, osl, qual, txt, cc, p1, p2, r0, r1, r2, r3, r4, r5, r6, r7, r8, r9, ccl, cl, cdd, cld, vs, ccs, csl, file, tf, a3, c5, a4, a6, c6, a5, c7, c8, c9, c10⟩⟩,
    d1, ⟨e1, e2, e3, e4, e5, e6, e7, e8⟩, d2, d3⟩
theorem mkN {nm : Str} {C : Addr} (X : K.In h) (G : h.Ns mainGlobals mg) (a1 : PySem.W.nsIn K mainGlobals nm = some (some (.ref C))) : ∃ C, XN K nm (.ref C) ∧ mg nm = some (.ref C) := ⟨C, a1, PySem.W.mg_of X G a1⟩
theorem mkE {nm n1 n2 n3 : Str} {c : Value} {C1 C2 C3 : Addr} (a0 : PySem.W.nsIn K mainGlobals nm = some (some c)) (a1 : PySem.W.nsIn K mainGlobals n1 = some (some (.ref C1))) (a2 : PySem.W.nsIn K mainGlobals n2 = some (some (.ref C2)))
    (a3 : PySem.W.nsIn K mainGlobals n3 = some (some (.ref C3))) (e : PySem.W.exmAny K c [.ref C1, .ref C2, .ref C3] = some true) : ∀ cls C1 C2 C3, XN K nm cls → XN K n1 (.ref C1) → XN K n2 (.ref C2) → XN K n3 (.ref C3) → PySem.W.exmAny K cls [.ref C1, .ref C2, .ref C3] = some true := by
  intro cls D1 D2 D3 h0 h1 h2 h3
  cases XN.inj a0 h0
  cases XN.inj a1 h1
  cases XN.inj a2 h2
  cases XN.inj a3 h3
  exact e
theorem mkI {nm n1 : Str} {C C1 : Addr} {b : Bool} (a0 : PySem.W.nsIn K mainGlobals nm = some (some (.ref C))) (a1 : PySem.W.nsIn K mainGlobals n1 = some (some (.ref C1))) (e : PySem.W.kitOne K (.ref C) (.ref C1) = some b) :
    ∀ C C2, XN K nm (.ref C) → XN K n1 (.ref C2) → PySem.W.kitOne K (.ref C) (.ref C2) = some b := by
  intro D D1 h0 h1
  cases XN.inj a0 h0
  cases XN.inj a1 h1
  exact e
theorem mkIT {nm : Str} {C : Addr} {T : String} {b : Bool} (a0 : PySem.W.nsIn K mainGlobals nm = some (some (.ref C))) (e : PySem.W.kitOne K (.ref C) (.type T) = some b) : ∀ C, XN K nm (.ref C) → PySem.W.kitOne K (.ref C) (.type T) = some b := by
  intro D h0
  cases XN.inj a0 h0
  exact e
end
end Hf

set_option Elab.async false
set_option linter.all false
set_option maxRecDepth 100000
set_option maxHeartbeats 4000000
namespace Hf
open PySem L2 PySem.Spec PyProof.Rows
open PySem.HandSPX (excO)
/-! ### X(fld=e): an own exception made by name, and as a value -/
section
variable {prog : Program} {w : World} {M : Model} {A : Around} {E : Value → Shared → Prop} {R : Result → Shared → Prop} {h : Heap} {g : Array GenState} {d : Drawn} {t : Nat} {os : OsState}
variable {nm q : Str} {C N : Addr} {bs bm bmB : List Value} {hdct : Bool} {sn : List Str} {sub : List Value} {ab : Bool} {col : Option Bool} {dd : Option Addr} {k0 k1 k2 k3 k5 : Option Value} {B newId initId : String} {kw : List (Str × Value)}
theorem kw_check_type {Q : Unit → Shared → Prop} (gC : h.get? C = some (excClassObj nm q C N bs bm hdct sn sub ab col dd k0 k1 k2 k3 k5 newId)) (fin : Q () ⟨h, g, d, t, os⟩) : wpAny M A (checkBuiltinCall "type.__call__" ⟨[.ref C], kw⟩) Q E ⟨h, g, d, t, os⟩ := by
  have f3 := tc_sub
  have hT : (⟨h, g, d, t, os⟩ : Shared).TypeIs (.ref C) "type" := ⟨_, gC, rfl⟩
  simp only [checkBuiltinCall, tc_kind, tc_split]
  repeat (any_goals (first | assumption | (with_reducible refine wpAny_loadPart_at gC ?_) | (with_reducible refine wpAny_onRaise ?_) | (with_reducible refine wpAny_map ?_) | wp_step))
theorem kw_check_new (F : ExcBaseFacts B newId initId bmB) (hT : ∀ X : String, bm.contains (.type X) = bmB.contains (.type X)) {Q : Unit → Shared → Prop}
    (gC : h.get? C = some (excClassObj nm q C N bs bm hdct sn sub ab col dd k0 k1 k2 k3 k5 newId)) (fin : Q () ⟨h, g, d, t, os⟩) : wpAny M A (checkBuiltinCall newId ⟨[.ref C], kw⟩) Q E ⟨h, g, d, t, os⟩ := by
  have isB : (Value.ref C :: bm).contains (.type B) = true := by rw [List.contains_cons, hT, F.hasB, Bool.or_true]
  have star := F.noStar
  simp only [checkBuiltinCall, F.newKind, F.newSplit, F.newRow]
  repeat (first | (refine wpAny_loadPart_at gC ?_) | (refine wpAny_isSubtype_exc gC ?_; rw [isB]) | (refine wpAny_staticBase_exc gC ?_) | (refine wpAny_madeBy_exc gC ?_) | simp only [bne_self_eq_false, Bool.false_eq_true, if_false] | wp_step)
  exact fin
theorem kw_new (F : ExcBaseFacts B newId initId bmB) (hT : ∀ X : String, bm.contains (.type X) = bmB.contains (.type X)) (gC : h.get? C = some (excClassObj nm q C N bs bm hdct sn sub ab col dd k0 k1 k2 k3 k5 newId))
    (fin : R (.ok (.ret (.ref (h.objs.size + 1)))) ⟨(h.push (PySem.W.kdv_tup [])).push (excO C h.objs.size), g, d, t, os⟩) : codeAny (model prog w) A (.builtin newId ⟨[.ref C], kw⟩) R ⟨h, g, d, t, os⟩ := by
  have ends := F.ends
  have c1 : (Value.ref C :: bm).contains (.type B) = true := by rw [List.contains_cons, hT, F.hasB, Bool.or_true]
  have c2 : (Value.ref C :: bm).contains (.type "AttributeError") = false := by rw [List.contains_cons, hT, F.noAttr]; rfl
  have c3 : (Value.ref C :: bm).contains (.type "NameError") = false := by rw [List.contains_cons, hT, F.noName]; rfl
  refine codeAny_builtinAt F.entry ?_
  unfold Builtin.«BaseException.__new__»
  refine _root_.PySem.wpAt_bind ?_
  show _root_.PySem.wpAt _ _ _ (stack >>= _) _ _ _
  refine _root_.PySem.wpAt_bind (_root_.PySem.wpAt_stack fun p below => _root_.PySem.wpAt_of_wpAny ?_)
  wp_walk
  refine _root_.PySem.wpAt_of_wpAny ?_
  rw [F.owner]
  repeat (first | (with_reducible refine wpAny_madeHere_exc F.canon gC ?_) | (with_reducible refine wpAny_loadPart_at gC ?_) | (with_reducible refine wpAny_isSubtype_exc gC ?_; first | rw [c1] | rw [c2] | rw [c3]) | wp_step)
  show R _ _
  rw [Heap.size_push]
  exact fin
theorem kw_type_call (F : ExcBaseFacts B newId initId bmB) (hT : ∀ X : String, bm.contains (.type X) = bmB.contains (.type X)) {fI : Addr} {Q : Fin → Shared → Prop} (gC : h.get? C = some (excClassObj nm q C N bs bm hdct sn sub ab col dd k0 k1 k2 k3 k5 newId))
    (li : PySem.W.Looks (model prog w) h (typeLookup (.ref C) "__init__") (some (.ref fI))) (lb : ∀ self, PySem.W.Looks (model prog w) h (bindSpecial (.ref fI) self) (.ref fI, [self]))
    (fin : codeAny (model prog w) A (.call (.ref fI) ⟨[.ref (h.objs.size + 1)], kw⟩)
      (fun r s' => match r with | .ok (.ret v) => v = .none ∧ Q (.done (.ret (.ref (h.objs.size + 1)))) s' | .ok _ => False | .error e => E e s') ⟨(h.push (PySem.W.kdv_tup [])).push (excO C h.objs.size), g, d, t, os⟩) :
    wpAny (model prog w) A (Builtin.«type.__call__» ⟨[.ref C], kw⟩) Q E ⟨h, g, d, t, os⟩ := by
  repeat (first | (with_reducible refine wpAny_loadPart_at gC ?_) | (with_reducible refine wpAny_madeBy_exc gC ?_) | wp_step)
  refine codeAny_call_builtin_code (Code.quiet_builtin _ F.quiet) (kw_check_new F hT gC ?_)
  refine kw_new F hT gC ?_
  show wpAny _ _ _ _ _ _
  have up : ∀ b o, h.get? b = some o → ((h.push (PySem.W.kdv_tup [])).push (excO C h.objs.size)).get? b = some o := fun b o e => Heap.get?_push_of_some _ (Heap.get?_push_of_some _ e)
  have gC2 := up _ _ gC
  have gx : ((h.push (PySem.W.kdv_tup [])).push (excO C h.objs.size)).get? (h.objs.size + 1) = some (excO C h.objs.size) := by heap_get
  have inC : (Value.ref C :: bm).contains (.ref C) = true := by simp
  have li2 := li.keeps up
  have lb2 := (lb (.ref (h.objs.size + 1))).keeps up
  unfold isInstance
  repeat (first | (with_reducible refine wpAny_loadPart_at gx ?_) | (with_reducible refine wpAny_isSubtype_exc gC2 ?_; rw [inC]) | wp_step)
  show wpAny _ _ (typeLookup (.ref C) _) _ _ _
  refine li2.at (wpAny_holding (wpAny_bind (lb2.at (wpAny_bind (wpAny_call (codeAny_mono fin fun r s' z => ?_))))))
  rcases r with e | (v | _ | _ | _) <;> first | exact z | exact z.elim | skip
  obtain ⟨rfl, z⟩ := z
  first
    | exact wpAny_pure (wpAny_pure z)
    | (wp_walk; exact z)
theorem kw_call_own (F : ExcBaseFacts B newId initId bmB) (hT : ∀ X : String, bm.contains (.type X) = bmB.contains (.type X)) {fI : Addr} (gC : h.get? C = some (excClassObj nm q C N bs bm hdct sn sub ab col dd k0 k1 k2 k3 k5 newId))
    (li : PySem.W.Looks (model prog w) h (typeLookup (.ref C) "__init__") (some (.ref fI))) (lb : ∀ self, PySem.W.Looks (model prog w) h (bindSpecial (.ref fI) self) (.ref fI, [self]))
    (fin : codeAny (model prog w) (A.under (.builtin "type.__call__" ⟨[.ref C], kw⟩)) (.call (.ref fI) ⟨[.ref (h.objs.size + 1)], kw⟩) (PySem.W.InitBack (h.objs.size + 1) R) ⟨(h.push (PySem.W.kdv_tup [])).push (excO C h.objs.size), g, d, t, os⟩) :
    codeAny (model prog w) A (.call (.ref C) ⟨[], kw⟩) R ⟨h, g, d, t, os⟩ := by
  have f1 := tc_lookup
  have f2 := tc_bind (.ref C)
  have hTy : (⟨h, g, d, t, os⟩ : Shared).TypeIs (.ref C) "type" := ⟨_, gC, rfl⟩
  refine codeAny_of_tree ?_
  show wpAny _ _ (callAny (.ref C) _) _ _ _
  repeat (any_goals (first | assumption | (with_reducible refine wpAny_loadPart_at gC ?_) | wp_step))
  refine ⟨rfl, codeAny_call_builtin_at (Code.quiet_builtin _ (by decide +kernel)) entry_typeCall (kw_check_type gC (kw_type_call F hT gC li lb (codeAny_mono fin fun r s' z => ?_)))⟩
  rcases r with e | (v | _ | _ | _) <;> exact z
end
section
variable {prog : Program} {w : World} {A : Around} {R : Result → Shared → Prop} {K : PySem.W.Frag} {C : Addr} {hp : Heap} {g : Array GenState} {d : Drawn} {t : Nat} {os : OsState}
/-- X(v) and X(fld=v) -/
theorem x_madeA {fld : Str} {fI : Addr} {v : Value} {mg mb : Str → Option Value} {args : Args} (T : XTxt prog K fld C fI) (X : K.In hp) (lim : hp.NoLimit) (G : hp.Ns mainGlobals mg) (Bn : hp.Ns builtinsNs mb) (hb : mb "super" = bootBuiltins "super")
    (room : A.depth + 1 < recursionLimit) (ar : args = ⟨[v], []⟩ ∨ args = ⟨[], [(fld, v)]⟩) (fin : ∀ h2 tk2 e dx, XMade hp h2 e C dx fld v → R (.ok (.ret (.ref e))) ⟨h2, g, d, tk2, os⟩) :
    codeAny (model prog w) A (.call (.ref C) args) R ⟨hp, g, d, t, os⟩ := by
  rcases ar with e | e
  · rw [e]
    exact x_made T X lim G Bn hb room fin
  rw [e]
  obtain ⟨B, newId, initId, bm, XB, q, ov, ksu, sB⟩ := T.cls
  obtain ⟨nm, N', qn, bs, bm', hdct, sn, sub, ab, col, dd, k0, k1, k2, k3, k5, gC, hT⟩ := PySem.W.excInit_of X q
  have up : ∀ b o, hp.get? b = some o → ((hp.push (PySem.W.kdv_tup [])).push (excO C hp.objs.size)).get? b = some o := fun b o z => Heap.get?_push_of_some _ (Heap.get?_push_of_some _ z)
  have gx : ((hp.push (PySem.W.kdv_tup [])).push (excO C hp.objs.size)).get? (hp.objs.size + 1) = some (excO C hp.objs.size) := by heap_get
  have nx : K.lookup (hp.objs.size + 1) = none := by
    cases z : K.lookup (hp.objs.size + 1) with
    | none => rfl
    | some o => exact absurd (Nat.lt_of_succ_lt (Heap.lt_size (X _ _ z))) (Nat.lt_irrefl _)
  refine kw_call_own XB.fb hT gC (PySem.W.looks_findIn X T.iC) (fun self => PySem.W.bind_fn X self T.tI) ?_
  refine x_init T (X.keeps up) (lim.keeps up) (G.keeps up) (Bn.keeps up) hb gx nx (by show A.depth + 1 < recursionLimit; exact room) (.inr rfl) fun h2 tk2 dx t2 Z => ?_
  have sz : ((hp.push (PySem.W.kdv_tup [])).push (excO C hp.objs.size)).objs.size = hp.objs.size + 1 + 1 := by
    rw [Heap.size_push, Heap.size_push]
  have big := Z.dbig
  rw [sz] at big
  refine ⟨rfl, fin h2 tk2 (hp.objs.size + 1) dx ⟨fun b o z => ?_, Nat.le_succ _, ⟨_, _, Z.obj, rfl, rfl, rfl, rfl⟩, by omega, Z.dne, Z.ns⟩⟩
  exact Z.keep b o (Nat.ne_of_lt (Nat.lt_succ_of_lt (Heap.lt_size z))) (up b o z)
end
theorem made_inv {X : Cx} {pins : List (Addr × Obj)} {σ : L2.St} {H : Hp} {hp h2 : Heap} {g : Array GenState} {dr : Drawn} {tk tk2 : Nat} {os : OsState} {e C d : Addr} {fld : Str} {v : V} {v' : Value} (I : Inv X pins σ H ⟨hp, g, dr, tk, os⟩) (M : XMade hp h2 e C d fld v') (rv : RelV v v') :
    ∃ H2, Same H H2 ∧ XAt H2 e (.ref C) fld v ∧ Inv X pins σ H2 ⟨h2, g, dr, tk2, os⟩ := by
  obtain ⟨oe, fv, hoe, hc, hd, hdat, h1⟩ := M.obj
  have hns := M.ns
  obtain ⟨G, g1, g2⟩ := restrict h2 fun b => decide (b ≠ e)
  have gk : ∀ b, b ≠ e → G.get? b = h2.get? b := fun b hb => g1 b (decide_eq_true hb)
  have ge : G.get? e = none := g2 e (by simp)
  have old : ∀ b o, hp.get? b = some o → G.get? b = some o := fun b o z => (gk b (Nat.ne_of_lt (Nat.lt_of_lt_of_le (Heap.lt_size z) M.new))).trans (M.keep b o z)
  have ob : ObjOk X.prog X.w (upd H d (.xd [((fld : Str), v)])) G d (.xd [((fld : Str), v)]) := ⟨_, hns.at (fun o z => (gk d M.dne).trans z), fun f => relO_x rv f⟩
  have J : Inv X pins σ (upd H d (.xd [((fld : Str), v)])) ⟨G, g, dr, tk, os⟩ := I.laid (t' := tk) old M.dbig ob
  have nd : H d = none := I.hok.fresh M.dbig
  have ne0 : upd H d (.xd [((fld : Str), v)]) e = none := by
    rw [upd_ne (Ne.symm M.dne)]
    exact I.hok.fresh M.new
  have back : ∀ b o, G.get? b = some o → h2.get? b = some o := fun b o z => by
    by_cases hb : b = e
    · rw [hb, ge] at z
      cases z
    · exact (gk b hb).symm.trans z
  refine ⟨_, ?_, XAt.new ne0, J.laidN (t' := tk2) back ge ne0 (exV_ok hoe ⟨hc, hd⟩ hdat)⟩
  exact Same.trans (Same.upd nd (Same.refl H)) (Same.upd ne0 (Same.refl _))
/-- y is an error of the class nm, its field fld being w -/
def XE (K : PySem.W.Frag) (H : Hp) (w : V) (nm fld : Str) (y : V) : Prop := ∃ a C, y = .ref a ∧ XN K nm (.ref C) ∧ XIs K C ∧ XFld K (.ref C) fld ∧ XAt H a (.ref C) fld w
theorem XE.same {K : PySem.W.Frag} {H H' : Hp} {w : V} {nm fld : Str} {y : V} (s : Same H H') (h : XE K H w nm fld y) : XE K H' w nm fld y := by
  obtain ⟨a, C, e1, e2, e3, e4, e5⟩ := h
  exact ⟨a, C, e1, e2, e3, e4, e5.same s⟩
theorem XE.up {K : PySem.W.Frag} {H H' : Hp} {w : V} {nm fld : Str} {y : V} (h : XE K H w nm fld y) (s : Same H H') : XE K H' w nm fld y := h.same s
theorem g_xe {K : PySem.W.Frag} {H : Hp} {w : V} {nm fld : Str} {y : V} {P : V → Prop} (h : XE K H w nm fld y) (q : P w) : ∃ a cls v, y = .ref a ∧ XAt H a cls fld v ∧ XFld K cls fld ∧ P v := by
  obtain ⟨a, C, e1, e2, e3, e4, e5⟩ := h
  exact ⟨a, _, w, e1, e5, e4, q⟩
/-- an own exception as a value -/
def tMkV (K : PySem.W.Frag) (nm fld : Str) (ta : TA) : TE := fun σ H Q => ta σ H fun vs H1 => ∃ v, vs = [v] ∧ ∀ y H2, Same H1 H2 → XE K H2 v nm fld y → Q y H2
section
variable {X : Cx} {nm fld : Str} {a : Expr} {ta : TA} {p pos : Pos} {k : Nat} {kws : List Keyword}
theorem pe_mkX (T : XCls X.prog X.K X.mg nm fld) (hr : RG k X.A) (hk : 2 ≤ k) (ha : PA X [a] ta) (hg : Gl X nm := by rfl)
    (he : starEach (a :: []) X.env = (false, eval a X.env) :: starEach [] X.env := by rfl) (hpl : (backTo pos (starEach [] X.env)).any (·.1) = false := by rfl) (hdb : (nm == ("__debug__" : Str)) = false := by decide) :
    PE X (.Call (.Name nm p) [a] [] pos) (tMkV X.K nm fld ta) := by
  obtain ⟨C, fI, xn, gC, TX, kC, xi, tyC, noN⟩ := T.ex
  refine ⟨fun pins s σ H Q I h => ?_⟩
  refine wpAny_Call_Name_kw (ld_glob I hg gC ?_ hdb)
  refine PySem.W.callWith_K (h₀ := X.base) I.ok.mod.kin kC (thn (ha.run pos pins s σ H _ I h) fun us s1 hh => ?_) he hpl
  obtain ⟨vs, H1, I1, r1, v, ev, q1⟩ := hh
  subst ev
  refine ⟨I1.kIn, ?_⟩
  cases r1 with
  | cons rv rn =>
    rename_i v' us'
    cases rn
    show wpAny _ _ (call (.ref C) [v']) _ _ _
    have hlim := I1.nolimit
    obtain ⟨mb, hB, hbb⟩ := I1.mod.blt
    have hG := I1.mod.glob.keeps I1.bk
    have hB' := hB.keeps I1.bk
    obtain ⟨hp, g, dr, tk, os⟩ := s1
    refine wpAny_call (x_madeA TX I1.kIn hlim hG hB' (hbb _ (by decide)) (by have := (hr.rm.mono hk).dp; omega) (.inl rfl) fun h2 tk2 e d M => ?_)
    obtain ⟨H2, s2, xa, J⟩ := made_inv (tk2 := tk2) I1 M rv
    exact ⟨.ref e, H2, J, rfl, q1 _ H2 s2 ⟨e, C, rfl, xn, xi, ⟨C, rfl, xi, noN, TX.hd⟩, xa⟩⟩
theorem pe_mkXk (T : XCls X.prog X.K X.mg nm fld) (hr : RG k X.A) (hk : 2 ≤ k) (hkw : PK X kws ta) (hg : Gl X nm := by rfl) (hall : (backToKw pos (keywordEach kws X.env)).all (·.1.isSome) = true := by rfl)
    (hks : (backToKw pos (keywordEach kws X.env)).filterMap (·.1) = [fld] := by rfl) (hdb : (nm == ("__debug__" : Str)) = false := by decide)
    (hpl : ((backTo pos (starEach [] X.env)).any (·.1) || (backToKw pos (keywordEach kws X.env)).any (·.1.isNone)) = false := by rfl) : PE X (.Call (.Name nm p) [] kws pos) (tMkV X.K nm fld ta) := by
  obtain ⟨C, fI, xn, gC, TX, kC, xi, tyC, noN⟩ := T.ex
  refine ⟨fun pins s σ H Q I h => ?_⟩
  refine wpAny_Call_Name_kw (ld_glob I hg gC ?_ hdb)
  refine PySem.W.callWith_KW0 (h₀ := X.base) I.ok.mod.kin kC hall ?_ hpl
  refine thn (hkw.run pos pins s σ H _ I h) ?_
  rintro ws s1 ⟨zs, H1, I1, rz, v, ev, q1⟩
  subst ev
  refine ⟨I1.kIn, ?_⟩
  rw [hks]
  cases rz with
  | cons rv rn =>
    rename_i v' us'
    cases rn
    show wpAny _ _ (call (.ref C) [] [(fld, v')]) _ _ _
    have hlim := I1.nolimit
    obtain ⟨mb, hB, hbb⟩ := I1.mod.blt
    have hG := I1.mod.glob.keeps I1.bk
    have hB' := hB.keeps I1.bk
    obtain ⟨hp, g, dr, tk, os⟩ := s1
    refine wpAny_call (x_madeA TX I1.kIn hlim hG hB' (hbb _ (by decide)) (by have := (hr.rm.mono hk).dp; omega) (.inr rfl) fun h2 tk2 e d M => ?_)
    obtain ⟨H2, s2, xa, J⟩ := made_inv (tk2 := tk2) I1 M rv
    exact ⟨.ref e, H2, J, rfl, q1 _ H2 s2 ⟨e, C, rfl, xn, xi, ⟨C, rfl, xi, noN, TX.hd⟩, xa⟩⟩
end
theorem g_mkV {K : PySem.W.Frag} {H : Hp} {Q : VK} {σ : L2.St} {nm fld : Str} {ta : TA} (q : ta σ H fun vs H1 => ∃ v, vs = [v] ∧ ∀ y H2, Same H1 H2 → XE K H2 v nm fld y → Q y H2) : tMkV K nm fld ta σ H Q := q
/-! ### list.count of truth values -/
def isBl (b : Bool) (v : Value) : Bool := match v with | .bool c => c == b | _ => false
theorem bools_of {us : List Value} : ∀ {bs : List Bool}, Vals (bs.map V.bl) us → us = bs.map Value.bool
  | [], r => by
    cases r
    rfl
  | b :: bs, r => by
    cases r with
    | cons a r =>
      cases a
      rw [bools_of r]
      rfl
theorem cnt_bl (b : Bool) : ∀ bs : List Bool, (bs.map Value.bool).countP (isBl b) = bs.count b
  | [] => rfl
  | c :: bs => by
    rw [List.map_cons, List.countP_cons, List.count_cons, cnt_bl b bs]
    rfl
def rCntB (K : PySem.W.Frag) : V → List V → Hp → VK → Prop := fun x xs H Q => ∃ (p : Addr) (bs : List Bool) (b : Bool), x = .ref p ∧ xs = [.bl b] ∧ SqL K H p (bs.map V.bl) ∧ Q (.int (bs.count b : Nat)) H
theorem mt_lcountB {X : Cx} : MtR X "list.count" (rCntB X.K) := by
  intro pins s σ H x xs v us Q I rx rxs h
  obtain ⟨p, bs, b, rfl, rfl, hs, q⟩ := h
  cases rx
  obtain ⟨u, rfl, ru⟩ := rxs.one
  cases ru
  obtain ⟨its, rv, ⟨⟨cls, dd, data, sl⟩, n, ho, hc, hdn, hd⟩, hlen⟩ := I.list hs
  simp only at hc hd
  subst hc hd
  have e := bools_of rv
  subst e
  refine call_meets PySem.F.slot_list_count ⟨_, ho, rfl⟩ PySem.F.entry_list_count (PySem.F.args_list_count_2 _ _)
    (SeqAt.list_countAt p (bs.map Value.bool).toArray n dd sl (.bool b) (isBl b)) ⟨ho, fun y hy => ?_, ?_⟩
  · have hy' : y ∈ bs.map Value.bool := by simpa using hy
    obtain ⟨c, _, rfl⟩ := List.mem_map.mp hy'
    exact SeqAt.EqAt.bool_bool c b
  · refine ⟨.int (bs.count b : Nat), H, I.tok _, ⟨s.toks, ?_⟩, q⟩
    show Value.int (((bs.map Value.bool).countP (isBl b) : Nat) : Int) s.toks = _
    rw [cnt_bl]
theorem g_cntB {K : PySem.W.Frag} {H : Hp} {Q : VK} {p : Addr} {xs : List V} {b : Bool} (bs : List Bool) (h : SqL K H p xs) (e : xs = bs.map V.bl) (q : Q (.int (bs.count b : Nat)) H) : rCntB K (.ref p) [.bl b] H Q := ⟨p, bs, b, rfl, rfl, e ▸ h, q⟩
/-! ### isinstance(e, (A, B, ..)) -/
def rIsXT (K : PySem.W.Frag) : List V → Hp → VK → Prop := fun xs H Q => ∃ (a C : Addr) (f : Str) (v : V) (tp : Addr) (cs : List V) (cvs : List Value) (b : Bool), xs = [.ref a, .ref tp] ∧ XAt H a (.ref C) f v ∧ XIs K C ∧ SqT K H tp cs ∧ (∀ us, Vals cs us → us = cvs) ∧ PySem.W.kitAny K (.ref C) cvs = some b ∧ Q (.bl b) H
theorem call_isXT {X : Cx} : CallR X (.builtin "isinstance") (rIsXT X.K) := by
  intro pins s σ H xs us Q I r h
  obtain ⟨a, C, f, v, tp, cs, cvs, b, rfl, xa, xi, hs, hcv, e, q⟩ := h
  cases r with
  | cons rx rr =>
    cases rr with
    | cons rt rr =>
      cases rr
      cases rx
      cases rt
      obtain ⟨its, rv, ⟨⟨cls, dd, data, sl⟩, ho, hc, n, hd⟩, hz⟩ := I.tuple hs
      simp only at hc hd
      subst hc hd
      have ec := hcv its rv
      subst ec
      obtain ⟨oe, od, u, J, lk, ru⟩ := instX I xa
      exact PySem.W.kia_tup (PySem.W.kitx_exc xi.cl xi.ga xi.gg xi.ex xi.ca xi.sp xi.tk xi.mo) I.kIn J ho e (fun z => nomatch z) fun tk => ⟨.bl b, H, I.kept (t' := tk) fun _ _ z => z, rfl, q⟩
section
variable {σ : L2.St} {H : Hp} {D : Ends} {tb : TS} {K : PySem.W.Frag}
/-- for j, m in enumerate(the list in the slot n) -/
theorem g_forEL {n j m N : Nat} {a : Addr} {xs : List V} (hN : 2 = N) (hv : σ[n]? = some (some (.ref a))) (h : SqL K H a xs) (Pv : Nat → L2.St → Hp → Prop) (h0 : Pv 0 σ H) (hl : ∀ i σ' H', i ≤ xs.length → Pv i σ' H' → SqL K H' a xs)
    (hs : ∀ i x σ' H1 H' T, i < xs.length → xs[i]? = some x → Pv i σ' H1 → H1 T = none → H' = upd H1 T (.tup [.int (i : Nat), x]) →
      tb { D with nx := Pv (i + 1), ct := Pv (i + 1), bk := D.nx } ((σ'.set j (some (.int (i : Nat)))).set m (some x)) H')
    (hd : ∀ σ' H', Pv xs.length σ' H' → D.nx σ' H') : tFor (iEnum K (tCons (tVar n) tNil)) (gTup K N (gCons (gName j) (gCons (gName m) gNil))) tb D σ H := by
  subst hN
  refine ⟨_, hv, a, xs, rfl, h, for_it walk_enum Pv h0 hl ?_ hd⟩
  rintro i x σ' H1 H' hi p ⟨T, y1, y, rfl, hT, e, hy1, hy⟩
  cases hy1
  refine ⟨T, _, rfl, .inl (.inl (by rw [e]; exact upd_same)), rfl, _, _, rfl, _, _, rfl, rfl, ?_⟩
  exact hs i y σ' H1 H' T hi hy p hT e
end
section
theorem kany_f {K : PySem.W.Frag} {t : Value} : ∀ {cs : List Value}, (∀ c ∈ cs, PySem.W.kitOne K t c = some false) → PySem.W.kitAny K t cs = some false
  | [], _ => rfl
  | c :: r, h => by
    unfold PySem.W.kitAny
    rw [h c List.mem_cons_self]
    exact kany_f fun x hx => h x (List.mem_cons_of_mem _ hx)
/-- no one of the classes in the tuple at tp -/
theorem g_isXno {K : PySem.W.Frag} {H : Hp} {Q : VK} {a C tp : Addr} {f : Str} {w : V} {cs : List V} (cvs : List Value) (xa : XAt H a (.ref C) f w) (xi : XIs K C) (hs : SqT K H tp cs) (hc : ∀ us, Vals cs us → us = cvs) (hn : ∀ c ∈ cvs, PySem.W.kitOne K (.ref C) c = some false) (q : Q (.bl false) H) : rIsXT K [.ref a, .ref tp] H Q :=
  ⟨a, C, f, w, tp, cs, cvs, false, rfl, xa, xi, hs, hc, kany_f hn, q⟩
theorem vals_r2 {a b : Addr} : ∀ us, Vals [.ref a, .ref b] us → us = [.ref a, .ref b] := fun us r => by
  cases r with | cons a r => cases r with | cons b r => cases r; cases a; cases b; rfl
theorem vals_t2 {a b : String} : ∀ us, Vals [.ty a, .ty b] us → us = [.type a, .type b] := fun us r => by
  cases r with | cons a r => cases r with | cons b r => cases r; cases a; cases b; rfl
theorem vals_r4 {a b c d : Addr} : ∀ us, Vals [.ref a, .ref b, .ref c, .ref d] us → us = [.ref a, .ref b, .ref c, .ref d] := fun us r => by
  cases r with | cons a r => cases r with | cons b r => cases r with | cons c r => cases r with | cons d r => cases r; cases a; cases b; cases c; cases d; rfl
theorem kno2 {K : PySem.W.Frag} {t a b : Value} (h1 : PySem.W.kitOne K t a = some false) (h2 : PySem.W.kitOne K t b = some false) : ∀ c ∈ [a, b], PySem.W.kitOne K t c = some false := List.forall_mem_cons.mpr ⟨h1, List.forall_mem_cons.mpr ⟨h2, List.forall_mem_nil _⟩⟩
theorem kno4 {K : PySem.W.Frag} {t a b c d : Value} (h1 : PySem.W.kitOne K t a = some false) (h2 : PySem.W.kitOne K t b = some false) (h3 : PySem.W.kitOne K t c = some false) (h4 : PySem.W.kitOne K t d = some false) : ∀ x ∈ [a, b, c, d], PySem.W.kitOne K t x = some false := List.forall_mem_cons.mpr ⟨h1, List.forall_mem_cons.mpr ⟨h2, kno2 h3 h4⟩⟩
end
theorem g_cntBM {K : PySem.W.Frag} {σ : L2.St} {H : Hp} {Q : VK} {n : Nat} {p : Addr} {xs : List V} {t : TA} (hv : σ[n]? = some (some (.ref p))) (h : SqL K H p xs) (q : t σ H fun ys H1 => rCntB K (.ref p) ys H1 Q) : tBM K "list" (rCntB K) (tVar n) t σ H Q := ⟨_, hv, .inl ⟨rfl, xs, h⟩, q⟩
theorem g_xvA {K : PySem.W.Frag} {H : Hp} {a : Addr} {cls : Value} {fld : Str} {v : V} {P : V → Prop} (xa : XAt H a cls fld v) (xf : XFld K cls fld) (q : P v) : ∃ a' cls' v', V.ref a = .ref a' ∧ XAt H a' cls' fld v' ∧ XFld K cls' fld ∧ P v' := ⟨_, _, _, rfl, xa, xf, q⟩
end Hf

set_option Elab.async false
set_option linter.all false
set_option maxRecDepth 100000
set_option maxHeartbeats 4000000
namespace Hf
open PySem L2 PySem.Spec PyProof.Rows
/-! ### lambdas handed to a def of the text -/
/-- the tables of code objects that are filled by and by, with the names of what is made there -/
class Tb where
  T : List (Addr × Str)
def Tbs [Tb] (H : Hp) : Prop := LamX.Tabs Tb.T H
/-- the call of the parameter in the slot i, which is the function at f -/
def tAct (i : Nat) (f c : Addr) (q : Str) (W : WX) (tl : XK → Hp → VK → Prop) : TE := fun σ H Q => σ[i]? = some (some (.ref f)) ∧ H c = some (LamX.CodeO c q) ∧ tl (fun cls d H' => W cls d σ H') H Q
section
variable {X : Cx} {pins : List (Addr × Obj)} {σ : L2.St} {H : Hp} {s : Shared} {Ng : List Str} {qg : Str} {sg : Scope} {g f c' : Addr} {cdg pm ctv : Value} {params : Arguments} {body : Expr} {scope : Scope} {k i : Nat} {a : Str} {pn : List (Addr × Obj)} {xe : Value → Shared → Prop} {W : WX} {tb : XK → TE} {p1 p2 : Pos}
theorem pe_actG (I : Inv X pins σ H s) (L : LamX.LamS X.env.scope scope)
    (hf : s.heap.get? f = some (PySem.W.kla_obj "<lambda>" (X.env.qual ++ "<lambda>") params body scope (cloFrom X.env.cells scope.names []) pm c' ctv)) (hfn : H f = none) (hfr : f ∉ frs X.stack)
    (hbind : bindArgs (PySem.W.kla_fn "<lambda>" (X.env.qual ++ "<lambda>") params body scope (cloFrom X.env.cells scope.names []) pm (.ref c') ctv) ⟨[], []⟩ = pure [])
    (tk : Takes ((cxOf CX0 X.prog X.w X.K X.mg X.base Ng qg sg g cdg X.A X.stack s H E0).tr pn xe) W) (hr : RG (k + 1) (X.A.deeper (envOfC qg sg s.heap.objs.size g cdg)))
    (hbody : ∀ (B : Around) (out : List Env) (s2 : Shared) (H2 : Hp) (E : XK), RG k (B.deeper (LamX.lamEnv X scope s2.heap.objs.size f c')) → PE (LamX.lamCx X B out s2 H2 E scope f c') body (tb E))
    (hN : Ng[i]? = some a) (hv : Vis sg a) (hd : (a == ("__debug__" : Str)) = false := by decide) (hcd : (a == ("__classdict__" : Str)) = false := by decide) :
    PE ((cxOf CX0 X.prog X.w X.K X.mg X.base Ng qg sg g cdg X.A X.stack s H E0).tr pn xe) (.Call (.Name a p1) [] [] p2) (tAct i f c' (X.env.qual ++ "<lambda>") W fun E H' Q => tb E σ H' Q) := by
  refine ⟨?_⟩
  rintro pz sZ σZ HZ Q IZ ⟨w1, w2, w3⟩
  refine wpAny_Call_Name_kw ?_
  refine thn ((pe_var (pos := p1) (i := i) hN hv hd hcd).run pz sZ σZ HZ (fun v H1 => v = .ref f ∧ H1 = HZ) IZ ⟨.ref f, w1, rfl, rfl⟩) ?_
  rintro u s1 ⟨v, H1, J, rv, ev, eh⟩
  subst ev
  subst eh
  have eu : u = Value.ref f := rv
  subst eu
  have stays := J.base.keep f _ hf hfn hfr (by intro z; cases z)
  refine PySem.W.callWith_F0 ⟨_, _, _, _, stays⟩ ?_
  obtain ⟨⟨oc, us, tq, g1, g2, g3⟩, _⟩ := J.hok c' _ w2
  have main : codeAny (model X.prog X.w) (X.A.deeper (envOfC qg sg s.heap.objs.size g cdg)) (.call (.ref f) ⟨[], []⟩) (CR (L2.CX X.prog X.w) (envOfC qg sg s.heap.objs.size g cdg :: X.stack) X.prog X.w H1 s1 Q fun cls d H' => W cls d σZ H') s1 := by
    refine PySem.W.kla_callFunE hr.rm.depth stays rfl L.co L.gen rfl ⟨c', oc, us, tq, rfl, g1, g2, g3⟩ ?_
    rw [hbind]
    refine wpAny_pure (wpAny_newFunctionEnv (fun y hy => (L.own y hy).2) (by intro y hy; cases hy) ?_ L.kind)
    intro h₁ hns hsb
    refine ⟨J.nolimit.fresh _ hsb, ?_⟩
    have kp : ∀ b o, s1.heap.get? b = some o → h₁.get? b = some o := by
      intro b o e
      exact hsb.extBut b o (Nat.ne_of_lt (Heap.lt_size e)) (Heap.get?_push_of_some _ e)
    have start := LamX.lam_start2 (f := f) (c' := c') (tk := s1.toks + ([] : List (Str × Value)).length) (E := fun cls d H' => W cls d σZ H') I L J.env0 hr.rm.hd J.base hns kp
    refine PySem.W.kla_codeExpr (wpAny_mono ((hbody _ _ s1 H1 _ (hr.deeper _)).run [] _ _ H1 Q start w3) ?_ (fun e s' z => z))
    rintro v s' ⟨w', H', J', rv', q'⟩
    exact ⟨w', H', J'.os, J'.bare, J'.base, J'.hok, rv', q'⟩
  refine wpAny_call (codeAny_mono main ?_)
  intro r s' z
  match r, z with
  | .error e, z => exact tk _ _ (XE.of_call J (fun cls d H' h => h) z)
  | .ok (.ret u), z => exact J.after z
  | .ok .next, z => exact z.elim
  | .ok .brk, z => exact z.elim
  | .ok .cont, z => exact z.elim
end
/-- a def that calls what it got (its one parameter); TT: what it makes of the reading of that call -/
structure Gv (P : Program) (w : World) (K : PySem.W.Frag) (mg : Str → Option Value) (base : Heap) (k : Nat) (x : Str) (st : Stmt) (N : List Str) (a : Str) (TT : (XK → Hp → VK → Prop) → Hp → VK → Prop) : Prop where
  ex : ∃ (g : Addr) (fd : FuncData), mg x = some (.ref g) ∧ Fun K x x st g fd
  sc : FnScope N [a] (defScope st)
  at0 : N[0]? = some a
  vis : Vis (defScope st) a
  nodebug : (a == ("__debug__" : Str)) = false
  noclass : (a == ("__classdict__" : Str)) = false
  go : ∀ (g : Addr) (cdv : Value) (A : Around) (outer : List Env) (s : Shared) (H : Hp) (Q : VK) (f c : Addr) (q : Str) (tl : XK → Hp → VK → Prop), RG (k + 1) (A.deeper (envOfC x (defScope st) s.heap.objs.size g cdv)) →
    (∀ (W : WX) (pn : List (Addr × Obj)) (xe : Value → Shared → Prop) (p1 p2 : Pos), Takes ((cxOf CX0 P w K mg base N x (defScope st) g cdv A outer s H E0).tr pn xe) W → PE ((cxOf CX0 P w K mg base N x (defScope st) g cdv A outer s H E0).tr pn xe) (.Call (.Name a p1) [] [] p2) (tAct 0 f c q W tl)) →
    H c = some (LamX.CodeO c q) → TT tl H Q → ∃ t, PSs (cxOf CX0 P w K mg base N x (defScope st) g cdv A outer s H E0).nox (defBody st) t ∧ t { nx := fun _ H' => Q .non H', rt := Q } (start N [.ref f]) H
def tLamG [Tb] (TT : (XK → Hp → VK → Prop) → Hp → VK → Prop) (t : XK → TE) : TE := fun σ H Q => Tbs H ∧ ∀ H1, LamX.ExtN H H1 → Tbs H1 → TT (fun E H' Q' => t E σ H' Q') H1 Q
section
variable {X : Cx} [Tb] {k j : Nat} {x a : Str} {st : Stmt} {N : List Str} {TT : (XK → Hp → VK → Prop) → Hp → VK → Prop} {c Pt : Addr} {params : Arguments} {body : Expr} {scope : Scope} {t : XK → TE} {p lpos pos : Pos}
theorem one_call {P : Program} {w : World} {K : PySem.W.Frag} {mg : Str → Option Value} {base : Heap} {f : Addr} {x qual : Str} {st : Stmt} {dV kV doc pm cdv ct oc : Value} {an od : Option Addr} {osl : Array (Option Value)} {N ps : List Str} {A : Around} {outer : List Env} {s : Shared} {H : Hp} {args : Args} {us : List Value} {xs : List V} {Q : VK} {k : Nat}
    (lk : K.lookup f = some ⟨oc, od, .func (PySem.W.fnOf x qual (defArgs st) (defBody st) (defScope st) dV kV doc pm an cdv ct), osl⟩) (hcd : PySem.W.codeIn K cdv qual = true) (S : FnScope N ps (defScope st)) (n1 : xs.length = ps.length)
    (r : RG (k + 1) A) (e0 : Env0 P w K mg base A outer s H) (bt : BindsTo s (PySem.W.fnOf x qual (defArgs st) (defBody st) (defScope st) dV kV doc pm an cdv ct) args (ps.zip us)) (rv : Vals xs us)
    (hb : RG k (A.deeper (envOfC qual (defScope st) s.heap.objs.size f cdv)) → ∃ t, PSs (cxOf CX0 P w K mg base N qual (defScope st) f cdv A outer s H E0).nox (defBody st) t ∧ t { nx := fun _ H' => Q .non H', rt := Q } (start N xs) H) :
    codeAny (model P w) A (.call (.ref f) args) (CR CX0 outer P w H s Q E0) s := by
  have kin : K.In s.heap := e0.mod.kin.keeps (fun b o z => (e0.bs b o z).1)
  have lim : s.heap.NoLimit := e0.mod.nolimit.keeps (fun b o z => (e0.bs b o z).1)
  have kinds : ∀ y ∈ ps.zip us, (defScope st).names.lookup y.1 = some .local ∨ ((defScope st).names.lookup y.1 = some .cell ∧ ((cellsFrom (s.heap.objs.size + 1) (defScope st).names []).lookup y.1).isSome = true) := by
    rintro ⟨n, v⟩ hy
    rcases S.par n (List.of_mem_zip hy).1 with z | z
    · left; exact z
    · right; exact ⟨z, PySem.W.cellsFrom_some _ _ _ (.inl z)⟩
  refine codeAny_call_function r.rm.depth (kin _ _ lk) rfl S.co S.gen rfl (PySem.W.codeRec_of kin hcd) (bt _ _ _ _ ?_)
  refine wpAny_newFunctionEnv_cells S.kind kinds ?_
  intro env he s1 x1
  subst he
  refine ⟨lim.keeps x1.toInCall.keep, codeAny_func ?_⟩
  obtain ⟨t, ht, hq⟩ := hb (r.deeper _)
  have I := inv_start (CX := CX0) (E := E0) (qual := qual) (f := f) (cd := cdv) S r.rm.hd e0 n1 rv x1
  refine wpAny_mono (ht.nox.run [] s1 (start N xs) H _ I hq) ?_ (fun e s' z => z)
  intro fl s' z
  match fl, z with
  | .ret u, ⟨v, σ', H', J, rv', q'⟩ => exact ⟨v, H', J.os, J.bare, J.base, J.hok, rv', q'⟩
  | .next, ⟨σ', H', J, q'⟩ => exact ⟨V.non, H', J.os, J.bare, J.base, J.hok, rfl, q'⟩
  | .brk, ⟨_, _, _, q'⟩ => exact q'.elim
  | .cont, ⟨_, _, _, q'⟩ => exact q'.elim
/-- x(lambda: body) -/
theorem pe_lam (G : Gv X.prog X.w X.K X.mg X.base k x st N a TT) (TB : LamX.TabB X.base X.mg c Pt) (hcode : X.env.code = .ref c) (hmT : (Pt, X.env.qual ++ "<lambda>") ∈ Tb.T) (hu : ∀ p ∈ Tb.T, p.1 = Pt → p.2 = X.env.qual ++ "<lambda>")
    (hr : RG j X.A) (hj : k + 2 ≤ j) (L : LamX.LamS X.env.scope scope) (hb : Bnd st x x [a] 1 [] @fun _ us _ => us) (hdef : defaultsOf params X.env = ([], []))
    (hbind : ∀ (q : Str) (cl : List (Str × Addr)) (pm cv ctv : Value), bindArgs (PySem.W.kla_fn "<lambda>" q params body scope cl pm cv ctv) ⟨[], []⟩ = pure [])
    (hbody : ∀ (B : Around) (out : List Env) (s2 : Shared) (H2 : Hp) (E : XK) (f c' : Addr), RG k (B.deeper (LamX.lamEnv X scope s2.heap.objs.size f c')) → PE (LamX.lamCx X B out s2 H2 E scope f c') body (t E))
    (hg : Gl X x := by rfl) (hdb : (x == ("__debug__" : Str)) = false := by decide) :
    PE X (.Call (.Name x p) [.Lambda params body scope lpos] [] pos) (tLamG TT t) := by
  obtain ⟨gf, fd, hm, U⟩ := G.ex
  obtain ⟨oc, od, kV, doc, pm, an, cdv, ct, osl, rfl, lk, hcd⟩ := U.ex
  refine ⟨?_⟩
  rintro pins s σ H Q I ⟨hT, h⟩
  refine wpAny_Call_Name_kw (ld_glob I hg hm ?_ hdb)
  refine PySem.W.callWith_K (h₀ := X.base) I.ok.mod.kin U.kp ?_ (by rfl) (by rfl)
  show wpAny _ _ (spliced ((false, eval (.Lambda params body scope lpos) X.env) :: backTo pos (starEach [] X.env))) _ _ s
  refine Calls.spliced_cons (LamX.lam_make2 I TB hcode hmT hu hT hdef (L.has I.ok) ?_)
  intro f c' pm' ctv H1 s' I1 eN T1 hf hfn hfr hco
  refine Calls.spliced_nil ⟨I1.kIn, ?_⟩
  have ran : codeAny (model X.prog X.w) X.A (.call (.ref gf) ⟨[.ref f], []⟩) (CR CX0 X.stack X.prog X.w H1 s' Q E0) s' := by
    refine one_call (k := k + 1) (us := [.ref f]) (xs := [.ref f]) lk hcd G.sc rfl (hr.mono hj) I1.env0 (.of_eq (hb kV doc pm an cdv ct [.ref f] [] rfl rfl).1) (.cons rfl .nil) ?_
    intro hr'
    exact G.go gf cdv X.A X.stack s' H1 Q f c' (X.env.qual ++ "<lambda>") _ hr' (fun W pn xe p1 p2 tk => pe_actG I1 L hf hfn hfr (hbind _ _ _ _ _) tk hr' (fun B out s2 H2 E r => hbody B out s2 H2 E f c' r) G.at0 G.vis G.nodebug G.noclass) hco (h H1 eN T1)
  refine wpAny_call (codeAny_mono ran ?_)
  intro r s2 z
  match r, z with
  | .error e, z => exact z.elim
  | .ok (.ret u), z => exact I1.after z
  | .ok .next, z => exact z.elim
  | .ok .brk, z => exact z.elim
  | .ok .cont, z => exact z.elim
end
/-! ### heaps in which tables have grown -/
def notT : HO → Bool
  | .tbl _ => false
  | _ => true
/-- nothing but a table may be at p -/
def NoT (H : Hp) (p : Addr) : Prop := ∀ o, H p = some o → notT o = false
section
variable {K : PySem.W.Frag} {H H1 H2 : Hp} {a p d c : Addr} {o : HO} {xs : List V} {n m : Nat}
theorem ExtN.at_ (e : LamX.ExtN H H1) (h : H a = some o) (n : notT o = true := by with_unfolding_all rfl) : H1 a = some o := e a o h fun ps z => by
  rw [z] at n
  cases n
theorem ExtN.seq (e : LamX.ExtN H H1) (h : SqL K H a xs) : SqL K H1 a xs := by
  rcases h with (h | ⟨o, h⟩) | h
  · exact .inl (.inl (ExtN.at_ e h))
  · exact .inl (.inr ⟨o, ExtN.at_ e h⟩)
  · exact .inr h
theorem ExtN.seqT (e : LamX.ExtN H H1) (h : SqT K H a xs) : SqT K H1 a xs := by
  rcases h with (h | ⟨o, h⟩) | h
  · exact .inl (.inl (ExtN.at_ e h))
  · exact .inl (.inr ⟨o, ExtN.at_ e h⟩)
  · exact .inr h
theorem ExtN.draw (e : LamX.ExtN H H1) (D : DrawAt K n H d c) : DrawAt K n H1 d c := by
  obtain ⟨ns, x, l, u, hd, hs, r⟩ := D
  exact ⟨ns, x, l, u, ExtN.at_ e hd, ExtN.at_ e hs, r⟩
theorem ExtN.same (s : Same H H1) : LamX.ExtN H H1 := fun b o h _ => s b o h
theorem ExtN.snoc (e : LamX.ExtN H H1) (s : Same H1 H2) : LamX.ExtN H H2 := fun b o h n => s b o (e b o h n)
theorem ExtN.tr (e : LamX.ExtN H H1) (s : LamX.ExtN H1 H2) : LamX.ExtN H H2 := fun b o h n => s b o (e b o h n) n
theorem NoT.of0 (h : H p = none) : NoT H p := fun o z => by
  rw [h] at z
  cases z
theorem NoT.back (e : LamX.ExtN H H1) (h : NoT H1 p) : NoT H p := fun o z => by
  cases q : notT o with
  | false => rfl
  | true =>
    have z' := ExtN.at_ e z q
    rw [h o z'] at q
    cases q
theorem NoT.backS (e : Same H H1) (h : NoT H1 p) : NoT H p := fun o z => h o (e p o z)
theorem NoT.backU (h : NoT (upd H a o) p) (n : H a = none) : NoT H p := fun u z => by
  by_cases q : p = a
  · rw [q, n] at z
    cases z
  · exact h u (by rw [upd_ne q]; exact z)
theorem ExtN.put (h : NoT H p) (e : LamX.ExtN H H1) : LamX.ExtN H (upd H1 p o) := fun b u z n => by
  by_cases q : b = p
  · subst q
    have y := h u z
    cases u with
    | tbl ps => exact (n ps rfl).elim
    | _ => cases y
  · rw [upd_ne q]
    exact e b u z n
theorem ExtN.new (h : H1 p = none) (e : LamX.ExtN H H1) : LamX.ExtN H (upd H1 p o) := ExtN.put (NoT.back e (NoT.of0 h)) e
variable [Tb]
theorem Tbs.same (s : Same H H1) (t : Tbs H) : Tbs H1 := t.ext s
theorem Tbs.new (hp : H p = none) (t : Tbs H) : Tbs (upd H p o) := t.ext (Same.upd hp (Same.refl H))
theorem codeO_notL {q : Str} {xs : List V} (h : H a = some (LamX.CodeO a q)) (h2 : H p = some (.lst xs)) : a ≠ p := fun e => by
  rw [e, h2] at h
  unfold LamX.CodeO at h
  cases h
/-- a tracked list gets another content -/
theorem Tbs.put {ys : List V} (h : H p = some (.lst xs)) (t : Tbs H) : Tbs (upd H p (.lst ys)) := by
  intro r hr
  obtain ⟨ps, h1, h2, h3⟩ := t r hr
  refine ⟨ps, ?_, h2, fun pos cv hc => ?_⟩
  · rw [upd_ne]
    · exact h1
    · intro e
      rw [e, h] at h1
      cases h1
  · obtain ⟨c0, e1, e2⟩ := h3 pos cv hc
    refine ⟨c0, e1, ?_⟩
    rw [upd_ne (codeO_notL e2 h)]
    exact e2
theorem Tbs.keep (k : Keep d H H1) (D : DrawAt K n H d c) (t : Tbs H) : Tbs H1 := by
  intro r hr
  obtain ⟨ps, h1, h2, h3⟩ := t r hr
  refine ⟨ps, k.at_ D h1, h2, fun pos cv hc => ?_⟩
  obtain ⟨c0, e1, e2⟩ := h3 pos cv hc
  exact ⟨c0, e1, k.at_ D e2⟩
end
/-! ### defs that make lambdas -/
structure FunC (K : PySem.W.Frag) (x qual : Str) (st : Stmt) (f : Addr) (fd : FuncData) (c : Addr) : Prop where
  ex : ∃ (oc : Value) (od : Option Addr) (kV doc pm : Value) (an : Option Addr) (ct : Value) (osl : Array (Option Value)),
    fd = PySem.W.fnOf x qual (defArgs st) (defBody st) (defScope st) .none kV doc pm an (.ref c) ct ∧ K.lookup f = some ⟨oc, od, .func fd, osl⟩ ∧ PySem.W.codeIn K (.ref c) qual = true
  kp : PySem.W.keepIn K (.ref f) = true
theorem FunC.out {K : PySem.W.Frag} {x qual : Str} {st : Stmt} {f : Addr} {fd : FuncData} {c : Addr} (F : FunC K x qual st f fd c) : Fun K x qual st f fd := by
  obtain ⟨oc, od, kV, doc, pm, an, ct, osl, e1, e2, e3⟩ := F.ex
  exact ⟨⟨oc, od, kV, doc, pm, an, _, ct, osl, e1, e2, e3⟩, F.kp⟩
section
variable {P : Program} {w : World} {K : PySem.W.Frag} {mg : Str → Option Value} {base : Heap}
theorem okC {x qual : Str} {st : Stmt} {f c : Addr} {fd : FuncData} {N ps : List Str} {k : Nat} {sp : Sp} (F : FunC K x qual st f fd c) (S : FnScope N ps (defScope st)) (many : ∀ xs H Q E, sp xs H Q E → xs.length = ps.length)
    (hb : ∀ (A : Around) (outer : List Env) (s : Shared) (H : Hp) (xs : List V) (Q : VK) (E : XK), RG k (A.deeper (envOfC qual (defScope st) s.heap.objs.size f (.ref c))) → sp xs H Q E →
      ∃ t, PSs (cxOf CX0 P w K mg base N qual (defScope st) f (.ref c) A outer s H E).nox (defBody st) t ∧ t { nx := fun _ H' => Q .non H', rt := Q } (start N xs) H) : FnG P w K mg base CX0 (k + 1) f fd ps sp := by
  obtain ⟨oc, od, kV, doc, pm, an, ct, osl, rfl, lk, hcd⟩ := F.ex
  refine fnG_of lk hcd S many ?_
  intro A outer s H xs Q E r q
  obtain ⟨t, h, z⟩ := hb A outer s H xs Q E r q
  exact ⟨t, h.nox, z⟩
/-- what the text tells of a def that makes lambdas -/
def MakerAt [Tb] (K : PySem.W.Frag) (mg : Str → Option Value) (base : Heap) (x : Str) (st : Stmt) : Prop :=
  ∃ (f : Addr) (fd : FuncData) (c Pt : Addr), mg x = some (.ref f) ∧ FunC K x x st f fd c ∧ LamX.TabB base mg c Pt ∧ (Pt, x ++ ".<locals>." ++ "<lambda>") ∈ Tb.T ∧ ∀ p ∈ Tb.T, p.1 = Pt → p.2 = x ++ ".<locals>." ++ "<lambda>"
end
/-! ### the end of a law with tables -/
structure IsTab (K : PySem.W.Frag) (mg : Str → Option Value) (h : Heap) (x : Str) (st : Stmt) (p : Addr × Addr) : Prop where
  fn : ∃ (f : Addr) (fd : FuncData), mg x = some (.ref f) ∧ FunC K x x st f fd p.1
  hd : PySem.W.CodeHd h p.1 p.2
  tb : h.get? p.2 = some { cls := .none, data := .fields #[] }
  nl : K.lookup p.2 = none
def noData (o : Obj) : Prop := (∀ vs n, o.data ≠ .seq vs n) ∧ o.data ≠ .fields #[]
theorem lawT {P : Program} {w : World} {K : PySem.W.Frag} {mg mb : Str → Option Value} {k : Nat} {fa a : Addr} {fd : FuncData} {x : Str} {sp : Sp} {s₁ : Shared} {vs : List Value} {ns : List Int} {cs : List (Addr × Addr)}
    (kin : K.In s₁.heap) (gl : s₁.heap.Ns mainGlobals mg) (bl : s₁.heap.Ns builtinsNs mb) (bb : ∀ x : Str, x ≠ "__name__" → mb x = bootBuiltins x) (lim : s₁.heap.NoLimit) (gn : s₁.gens = #[])
    (tabs : ∀ p ∈ cs, s₁.heap.get? p.2 = some { cls := .none, data := .fields #[] }) (tabsK : ∀ p ∈ cs, K.lookup p.2 = none) (heads : ∀ p ∈ cs, PySem.W.CodeHd s₁.heap p.1 p.2)
    (bmod : ∃ (bm : Addr) (ob : Obj), mg "__builtins__" = some (.ref bm) ∧ bm ≠ builtinsNs ∧ s₁.heap.get? bm = some ob ∧ ob.cls = .type "module" ∧ ob.dict = some builtinsNs ∧ ob.data = .plain)
    (oa : s₁.heap.get? a = some { cls := .type "list", data := .seq vs.toArray }) (it : IntsAre vs ns) (sz : ns.length ≤ sizeLine) (rm : RG k callerA)
    (F : ∀ base : Heap, K.In base → base.Ns mainGlobals mg → (∀ p ∈ cs, LamX.TabB base mg p.1 p.2) → FnG P w K mg base CX0 k fa fd [x] sp) (bd : ∀ (s : Shared) (u : Value), BindsTo s fd ⟨[u], []⟩ [(x, u)])
    (top : ∀ H : Hp, (∀ p ∈ cs, H p.2 = some (.tbl #[])) → SqL K H a (ns.map V.int) → sp [.ref a] H (fun v _ => v = .bl true) E0) :
    codeAny (model P w) callerA (.call (.ref fa) ⟨[.ref a], []⟩) (fun r s' => r = .ok (.ret (.bool true)) ∧ OldK s₁.heap s'.heap ∧ s'.os = s₁.os ∧ AllBare s'.gens) s₁ := by
  have rv : Vals (ns.map V.int) vs := vals_ints it
  have n1 : vs.length = ns.length := it.length
  have inT : ∀ b : Addr, b ∈ cs.map (·.2) → s₁.heap.get? b = some { cls := .none, data := .fields #[] } := by
    intro b hb
    obtain ⟨p, hp, rfl⟩ := List.mem_map.mp hb
    exact tabs p hp
  have memT : ∀ p ∈ cs, p.2 ∈ cs.map (·.2) := fun p hp => List.mem_map.mpr ⟨p, hp, rfl⟩
  have aT : a ∉ cs.map (·.2) := by
    intro z
    have q := inT a z
    rw [oa] at q
    injection q with q
    injection q with _ _ q
    cases q
  have one : ∀ H : Hp, (∀ p ∈ cs, H p.2 = some (.tbl #[])) → (∀ b, H b = none ∨ b ∈ cs.map (·.2) ∨ ∃ ob xs, H b = some (.frz ob (.lst xs))) → SqL K H a (ns.map V.int) → HOk P w H s₁.heap → (∀ b, H b ≠ none → b = a ∨ b ∈ cs.map (·.2)) → (H a ≠ none → K.lookup a = none) →
      codeAny (model P w) callerA (.call (.ref fa) ⟨[.ref a], []⟩) (fun r s' => r = .ok (.ret (.bool true)) ∧ OldK s₁.heap s'.heap ∧ s'.os = s₁.os ∧ AllBare s'.gens) s₁ := by
    intro H ht only seq hok at_a k_a
    have off : ∀ b o, s₁.heap.get? b = some o → noData o → H b = none := by
      intro b o ho nd
      refine Classical.byContradiction (fun hn => ?_)
      rcases at_a b hn with eb | eb
      · rw [eb, oa] at ho
        have ho' := Option.some.inj ho
        exact nd.1 vs.toArray _ (by rw [← ho'])
      · rw [inT b eb] at ho
        have ho' := Option.some.inj ho
        exact nd.2 (by rw [← ho'])
    have dictFree : ∀ b o es ep, s₁.heap.get? b = some o → o.data = .dict es ep → H b = none := by
      intro b o es ep ho hd
      refine off b o ho ⟨?_, ?_⟩
      · intro vs n z; rw [hd] at z; cases z
      · intro z; rw [hd] at z; cases z
    have nsOf : ∀ b m, s₁.heap.Ns b m → (hidT s₁.heap H).Ns b m := by
      rintro b m ⟨o, es, ep, h1, h2, h3⟩
      exact ⟨o, es, ep, hidT_get h1 (dictFree b o es ep h1 h2), h2, h3⟩
    have kinB : K.In (hidT s₁.heap H) := by
      intro b o hb
      refine hidT_get (kin b o hb) (Classical.byContradiction (fun hn => ?_))
      rcases at_a b hn with eb | eb
      · subst eb
        rw [k_a hn] at hb
        exact nomatch hb
      · obtain ⟨p, hp, rfl⟩ := List.mem_map.mp eb
        rw [tabsK p hp] at hb
        exact nomatch hb
    have md : Mod K mg (hidT s₁.heap H) := by
      obtain ⟨mc, c1, c2⟩ := lim
      exact ⟨kinB, nsOf _ _ gl, ⟨mb, nsOf _ _ bl, bb⟩, ⟨mc, nsOf _ _ c1, c2⟩⟩
    have tbs : ∀ p ∈ cs, LamX.TabB (hidT s₁.heap H) mg p.1 p.2 := by
      intro p hp
      refine ⟨?_, ?_, ?_⟩
      · obtain ⟨o, us, file, tf, flags, tg, inF, text, tt, e1, r1, r2, r3, r⟩ := heads p hp
        refine ⟨o, us, file, tf, flags, tg, inF, text, tt, hidT_get e1 (off _ o e1 ⟨?_, ?_⟩), r1, r2, r3, r⟩
        · intro vs n z; rw [r2] at z; cases z
        · intro z; rw [r2] at z; cases z; simp at r3
      · obtain ⟨bm, ob, b1, b2, b3, b4, b5, b6⟩ := bmod
        refine ⟨bm, ob, b1, b2, ?_, ?_, hidT_get b3 (off _ ob b3 ⟨?_, ?_⟩), b4, b5, b6⟩
        · intro q
          obtain ⟨o, es, ep, e, hd, _⟩ := gl
          rw [q, e] at b3
          cases b3
          rw [hd] at b6
          cases b6
        · intro q
          rw [q, tabs p hp] at b3
          cases b3
          cases b6
        · intro vs n z; rw [b6] at z; cases z
        · intro z; rw [b6] at z; cases z
      · intro z
        obtain ⟨o, es, ep, e, hd, _⟩ := gl
        rw [z, tabs p hp] at e
        cases e
        cases hd
    have e0 : Env0 P w K mg (hidT s₁.heap H) callerA [] s₁ H := ⟨rfl, md, fun b o z => of_hidT z, Nat.le_of_eq (hidT_size _ _), trivial, fun b hb => (List.not_mem_nil hb).elim, hok, .of_eq gn⟩
    refine codeAny_mono ((F _ kinB (nsOf _ _ gl) tbs).go callerA [] s₁ H ⟨[.ref a], []⟩ [.ref a] [.ref a] _ _ rm e0 (bd s₁ (.ref a)) (.cons rfl .nil) (top H ht seq)) ?_
    intro r s' z
    match r, z with
    | .error e, z => exact z.elim
    | .ok .next, z => exact z.elim
    | .ok .brk, z => exact z.elim
    | .ok .cont, z => exact z.elim
    | .ok (.ret u), ⟨v, H', os, bare, un, hok', rr, ev⟩ =>
      have ev' : v = .bl true := ev
      subst ev'
      have eu : u = Value.bool true := rr
      subst eu
      have others : ∀ b o, b ∉ cs.map (·.2) → s₁.heap.get? b = some o → s'.heap.get? b = some o := by
        intro b o nb hb
        cases q : H b with
        | none => exact un.keep b o hb q (fun z => (List.not_mem_nil z).elim) (fun z => (List.not_mem_nil z).elim)
        | some u =>
          rcases only b with z | z | ⟨ob, xs, z⟩
          · rw [q] at z; exact nomatch z
          · exact (nb z).elim
          · obtain ⟨e1, _⟩ := hok b _ z
            obtain ⟨e2, _⟩ := hok' b _ (un.frzs b ob _ z)
            rw [hb] at e1
            have e1' := Option.some.inj e1
            subst e1'
            exact e2
      have theirs : ∀ p ∈ cs, ∃ more : Array Value, s'.heap.get? p.2 = some { cls := .none, data := .fields more } := by
        intro p hp
        obtain ⟨more, z⟩ := un.tbls p.2 #[] (ht p hp)
        exact ⟨_, hok' p.2 _ z⟩
      refine ⟨rfl, ⟨?_, ?_⟩, os, bare⟩
      · intro b o e
        by_cases hb : b ∈ cs.map (·.2)
        · obtain ⟨p, hp, rfl⟩ := List.mem_map.mp hb
          obtain ⟨more, hm⟩ := theirs p hp
          have e' := (tabs p hp).symm.trans e
          have e'' := Option.some.inj e'
          subst e''
          right; left
          exact ⟨((heads p hp).tab (tabs p hp)).isCodeTable, rfl, #[], more, rfl, by rw [Array.empty_append]; exact hm⟩
        · left
          exact others b o hb e
      · intro b o e
        by_cases hb : b ∈ cs.map (·.2)
        · obtain ⟨p, hp, rfl⟩ := List.mem_map.mp hb
          obtain ⟨more, hm⟩ := theirs p hp
          exact ⟨_, hm⟩
        · exact ⟨o, others b o hb e⟩
  by_cases hk : K.lookup a = none
  · have fT : ∀ b, b ∈ cs.map (·.2) → b ≠ a := fun b hb e => aT (e ▸ hb)
    refine one (fun b => if b = a then some (.frz { cls := .type "list", data := .seq vs.toArray } (.lst (ns.map V.int))) else if b ∈ cs.map (·.2) then some (.tbl #[]) else none) ?_ ?_ ?_ ?_ ?_ (fun _ => hk)
    · intro p hp
      have m := memT p hp
      show (if _ then _ else if _ then _ else _) = _
      rw [if_neg (fT _ m), if_pos m]
    · intro b
      by_cases hb : b = a
      · right; right; exact ⟨_, _, if_pos hb⟩
      · by_cases hc : b ∈ cs.map (·.2)
        · right; left; exact hc
        · left
          show (if _ then _ else if _ then _ else _) = _
          rw [if_neg hb, if_neg hc]
    · left; right; exact ⟨_, if_pos rfl⟩
    · intro b u z
      by_cases hb : b = a
      · subst hb
        have z' := Option.some.inj ((if_pos rfl).symm.trans z)
        subst z'
        exact ⟨oa, by rw [List.length_map]; exact sz, vs, _, rv, oa⟩
      · have z1 := (if_neg hb).symm.trans z
        by_cases hc : b ∈ cs.map (·.2)
        · have z' := Option.some.inj ((if_pos hc).symm.trans z1)
          subst z'
          exact inT b hc
        · exact nomatch ((if_neg hc).symm.trans z1)
    · intro b z
      by_cases hb : b = a
      · left; exact hb
      · by_cases hc : b ∈ cs.map (·.2)
        · right; exact hc
        · refine (z ?_).elim
          show (if _ then _ else if _ then _ else _) = _
          rw [if_neg hb, if_neg hc]
  · obtain ⟨o, ho⟩ := Option.ne_none_iff_exists'.mp hk
    have eo := kin a o ho
    rw [oa] at eo
    have eo' := Option.some.inj eo
    subst eo'
    refine one (fun b => if b ∈ cs.map (·.2) then some (.tbl #[]) else none) (fun p hp => if_pos (memT p hp)) ?_ (.inr ⟨_, vs.toArray, _, ho, rfl, rfl, rfl, by rw [List.size_toArray, n1]; exact sz, by simpa using rv⟩) ?_ ?_ (fun z => (z (if_neg aT)).elim)
    · intro b
      by_cases hc : b ∈ cs.map (·.2)
      · right; left; exact hc
      · left; exact if_neg hc
    · intro b u z
      by_cases hc : b ∈ cs.map (·.2)
      · have z' := Option.some.inj ((if_pos hc).symm.trans z)
        subst z'
        exact inT b hc
      · exact nomatch ((if_neg hc).symm.trans z)
    · intro b z
      by_cases hc : b ∈ cs.map (·.2)
      · right; exact hc
      · exact (z (if_neg hc)).elim
/-- what is known of the law's def at the head's heap -/
def LawT (P : Program) (w : World) (K : PySem.W.Frag) (mg : Str → Option Value) (k n : Nat) (x : Str) (fa : Addr) (h : Heap) : Prop :=
  ∃ (fd : FuncData) (cs : List (Addr × Addr)) (sp : Sp), (∀ p ∈ cs, h.get? p.2 = some { cls := .none, data := .fields #[] } ∧ K.lookup p.2 = none ∧ PySem.W.CodeHd h p.1 p.2) ∧ (∀ (s : Shared) (u : Value), BindsTo s fd ⟨[u], []⟩ [(x, u)]) ∧
    (∀ (H : Hp) (a : Addr) (ns : List Int), ns.length ≤ n → (∀ p ∈ cs, H p.2 = some (.tbl #[])) → SqL K H a (ns.map V.int) → sp [.ref a] H (fun v _ => v = .bl true) E0) ∧
    ∀ base : Heap, K.In base → base.Ns mainGlobals mg → (∀ p ∈ cs, LamX.TabB base mg p.1 p.2) → FnG P w K mg base CX0 k fa fd [x] sp
theorem walkT {l : PySem.W.OpenLaw} {n k : Nat} {q : Program} {loose : List Str} {XP : (Str → Option Value) → Heap → Prop} {YP : World → Heap → Prop} {d : DefRec} {K : Params → PySem.W.Frag} {x : Str}
    (hn : l.most = some n) (hn2 : n ≤ sizeLine) (hdf : d.params.defaults = []) (rm : RG k callerA) (hY : ∀ (w : World) (h : Heap), YP w h → (K w.params).In h)
    (F : ∀ (w : World) (mg : Str → Option Value) (fa : Addr) (h : Heap), YP w h → (K w.params).In h → h.Ns mainGlobals mg → mg d.name = some (.ref fa) → LawT l.prog w (K w.params) mg k n x fa h) :
    PySem.W.WalkO q loose XP YP l.row.toRowW d [] (fun f vs => PySem.call f vs) := by
  refine Att.attach_call hn hdf ?_
  intro w s₀ s₁ mg mb fa o pm cd doc a vs ns G Y ho hd hcd hmg hobj hints hlen hg
  have kin := hY w _ Y
  obtain ⟨fd, cs, sp, hc, hb, ht, hF⟩ := F w mg fa _ Y kin G.T.g hmg
  exact lawT kin G.T.g G.T.b G.T.builtins G.T.nolimit hg (fun p hp => (hc p hp).1) (fun p hp => (hc p hp).2.1) (fun p hp => (hc p hp).2.2) G.T.bmain hobj hints (Nat.le_trans hlen hn2) rm hF hb (fun H h1 h2 => ht H a ns hlen h1 h2)
section
variable {K : PySem.W.Frag} {h : Heap} {mg : Str → Option Value}
theorem mkTab {x : Str} {st : Stmt} {f c Pt : Addr} {oc : Value} {od an : Option Addr} {osl : Array (Option Value)} {kV doc pm ct : Value} {cl : Value} {cdt : Option Addr} {vs : Array Value} {csl : Array (Option Value)} (X : K.In h) (G : h.Ns mainGlobals mg) (a : PySem.W.nsIn K mainGlobals x = some (some (.ref f)))
    (l : K.lookup f = some ⟨oc, od, .func (PySem.W.fnOf x x (defArgs st) (defBody st) (defScope st) .none kV doc pm an (.ref c) ct), osl⟩) (cc : PySem.W.codeIn K (.ref c) x = true) (kk : PySem.W.keepIn K (.ref f) = true)
    (lc : K.lookup c = some ⟨cl, cdt, .fields vs, csl⟩) (lp : vs[11]? = some (.ref Pt)) (hh : PySem.W.codeHdIn K c Pt = true) (ht : h.get? Pt = some { cls := .none, data := .fields #[] }) (nl : K.lookup Pt = none) : IsTab K mg h x st (c, Pt) :=
  ⟨⟨f, _, PySem.W.mg_of X G a, ⟨⟨oc, od, kV, doc, pm, an, ct, osl, rfl, l, cc⟩, kk⟩⟩, PySem.W.codeHd_of_K X hh, ht, nl⟩
end
theorem g_lam [Tb] {TT : (XK → Hp → VK → Prop) → Hp → VK → Prop} {t : XK → TE} {σ : L2.St} {H : Hp} {Q : VK} (h : Tbs H) (q : ∀ H1, LamX.ExtN H H1 → Tbs H1 → TT (fun E H' Q' => t E σ H' Q') H1 Q) : tLamG TT t σ H Q := ⟨h, q⟩
end Hf

set_option Elab.async false
set_option linter.all false
set_option maxRecDepth 100000
set_option maxHeartbeats 4000000
namespace Hf
open PySem L2 PySem.Spec PyProof.Rows
/-! ### what a law's helper is told by calls that may raise; lists of what was told -/
/-- what a raising asks -/
def Rz (K : PySem.W.Frag) (H : Hp) (E : XK) (nm fld : Str) (v : V) : Prop := ∀ cls d H', XN K nm cls → Same H H' → H' d = none → E cls (some d) (upd H' d (.xd [(fld, v)]))
theorem Rz.same {K : PySem.W.Frag} {H H1 : Hp} {E : XK} {nm fld : Str} {v : V} (r : Rz K H E nm fld v) (s : Same H H1) : Rz K H1 E nm fld v := fun cls d H' x s' n => r cls d H' x (Same.trans s s') n
mutual
theorem dqx {K : PySem.W.Frag} {H H1 : Hp} (e : LamX.ExtN H H1) : ∀ {v : V} {d : PyData}, Dq K H v d → Dq K H1 v d
  | _, _, .non => .non
  | _, _, .bl b => .bl b
  | _, _, .int i => .int i
  | _, _, .str z => .str z
  | _, _, .lst h a => .lst (ExtN.seq e h) (dqxs e a)
  | _, _, .tup h a => .tup (ExtN.seqT e h) (dqxs e a)
  | _, _, .dct h => .dct (ExtN.at_ e h)
theorem dqxs {K : PySem.W.Frag} {H H1 : Hp} (e : LamX.ExtN H H1) : ∀ {vs : List V} {ds : List PyData}, DqAll K H vs ds → DqAll K H1 vs ds
  | _, _, .nil => .nil
  | _, _, .cons a b => .cons (dqx e a) (dqxs e b)
end
def SAID : List (Str × Str) := [("BadDate", "date"), ("BadNumber", "number"), ("BadBody", "body"), ("BadContent", "content")]
def SE (K : PySem.W.Frag) (Q : VK) (E1 : XK) : Prop := ∀ cls d v n w H1, (n, w) ∈ SAID → XN K n cls → H1 d = some (.xd [("given", v)]) → (∀ H' p, Same H1 H' → H' p = some (.tup [.str w, v]) → Q (.ref p) H') → E1 cls (some d) H1
def SQ (K : PySem.W.Frag) (Q : VK) (Q1 : VK) : Prop := ∀ v H1, (∀ H' p, Same H1 H' → H1 p = none → H' p = some (.lst [v]) → Q (.ref p) H') → Q1 v H1
def Said (K : PySem.W.Frag) (tl : XK → Hp → VK → Prop) (H : Hp) (Q : VK) : Prop := ∀ E1 Q1 H1, Same H H1 → SE K Q E1 → SQ K Q Q1 → tl E1 H1 Q1
/-- the heap without what stands at l -/
def Hid (H : Hp) (l : Addr) : Hp := fun b => if b = l then none else H b
theorem hid_ne {H : Hp} {l b : Addr} (h : b ≠ l) : Hid H l b = H b := if_neg h
theorem hid_same {H : Hp} {l : Addr} : Same (Hid H l) H := fun b o h => by
  unfold Hid at h
  split at h
  · cases h
  · exact h
theorem hid_upd {H : Hp} {l : Addr} {o : HO} : Hid (upd H l o) l = Hid H l := funext fun b => by
  unfold Hid
  split
  · rfl
  · rename_i h
    rw [upd_ne h]
theorem hid_ext {H0 H : Hp} {l : Addr} (n : NoT H0 l) (e : LamX.ExtN H0 H) : LamX.ExtN H0 (Hid H l) := fun b o h hn => by
  by_cases q : b = l
  · subst q
    have z := n o h
    cases o with
    | tbl ps => exact (hn ps rfl).elim
    | _ => cases z
  · rw [hid_ne q]
    exact e b o h hn
theorem hid_mono {H H1 : Hp} {l : Addr} (e : LamX.ExtN H H1) : LamX.ExtN (Hid H l) (Hid H1 l) := fun b o h hn => by
  by_cases q : b = l
  · subst q
    unfold Hid at h
    rw [if_pos rfl] at h
    cases h
  · rw [hid_ne q] at h ⊢
    exact e b o h hn
theorem hid_seqT {K : PySem.W.Frag} {H : Hp} {l p : Addr} {xs ys : List V} (hl : H l = some (.lst xs)) (h : SqT K H p ys) : SqT K (Hid H l) p ys := by
  rcases h with (h | ⟨o, h⟩) | h
  · exact .inl (.inl (by rw [hid_ne (fun e => by rw [e, hl] at h; cases h)]; exact h))
  · exact .inl (.inr ⟨o, by rw [hid_ne (fun e => by rw [e, hl] at h; cases h)]; exact h⟩)
  · exact .inr h
mutual
/-- no list within -/
def noL : PyData → Bool
  | .list _ => false
  | .tuple ds => noLs ds
  | _ => true
def noLs : List PyData → Bool
  | [] => true
  | d :: ds => noL d && noLs ds
end
mutual
theorem dq_hid {K : PySem.W.Frag} {H : Hp} {l : Addr} {xs : List V} (hl : H l = some (.lst xs)) : ∀ {v : V} {d : PyData}, noL d = true → Dq K H v d → Dq K (Hid H l) v d
  | _, _, _, .non => .non
  | _, _, _, .bl b => .bl b
  | _, _, _, .int i => .int i
  | _, _, _, .str z => .str z
  | _, _, n, .lst h a => by unfold noL at n; cases n
  | _, _, n, .tup h a => .tup (hid_seqT hl h) (dqs_hid hl (by unfold noL at n; exact n) a)
  | _, _, _, .dct h => .dct (by rw [hid_ne (fun e => by rw [e, hl] at h; cases h)]; exact h)
theorem dqs_hid {K : PySem.W.Frag} {H : Hp} {l : Addr} {xs : List V} (hl : H l = some (.lst xs)) : ∀ {vs : List V} {ds : List PyData}, noLs ds = true → DqAll K H vs ds → DqAll K (Hid H l) vs ds
  | _, _, _, .nil => .nil
  | _, _, n, .cons a b => by
    unfold noLs at n
    obtain ⟨n1, n2⟩ := Bool.and_eq_true_iff.mp n
    exact .cons (dq_hid hl n1 a) (dqs_hid hl n2 b)
end
theorem dqs_snoc {K : PySem.W.Frag} {H : Hp} {v : V} {d : PyData} (h : Dq K H v d) : ∀ {vs : List V} {ds : List PyData}, DqAll K H vs ds → DqAll K H (vs ++ [v]) (ds ++ [d])
  | _, _, .nil => .cons h .nil
  | _, _, .cons a b => .cons a (dqs_snoc h b)
/-- at Hc, behind H0, the list l has the items xs, which are the data ds -/
structure Told [Tb] (K : PySem.W.Frag) (H0 Hc : Hp) (l : Addr) (xs : List V) (ds : List PyData) : Prop where
  e : LamX.ExtN H0 Hc
  t : Tbs Hc
  n : NoT H0 l
  hl : Hc l = some (.lst xs)
  d : DqAll K (Hid Hc l) xs ds
section
variable [Tb] {K : PySem.W.Frag} {H0 Hc : Hp} {σ : L2.St} {n : Nat} {l : Addr} {xs : List V} {ds : List PyData} {TT : (XK → Hp → VK → Prop) → Hp → VK → Prop} {t : XK → TE} {D : Ends} {nm w : Str} {v : V} {o : PyData}
theorem Told.dq (T : Told K H0 Hc l xs ds) : Dq K Hc (.ref l) (.list ds) := .lst (SqL.of T.hl) (DqAll.same hid_same T.d)
/-- an item more -/
theorem Told.snoc {H3 : Hp} {y : V} {d : PyData} (T : Told K H0 Hc l xs ds) (e : LamX.ExtN Hc H3) (tb : Tbs H3) (hy : Dq K (Hid H3 l) y d) : Told K H0 (upd H3 l (.lst (xs ++ [y]))) l (xs ++ [y]) (ds ++ [d]) := by
  have hl := ExtN.at_ e T.hl
  exact ⟨ExtN.put T.n (ExtN.tr T.e e), Tbs.put hl tb, T.n, upd_same, by rw [hid_upd]; exact dqs_snoc hy (dqxs (hid_mono e) T.d)⟩
theorem Told.first {H1 H3 : Hp} {y : V} {d : PyData} (e : LamX.ExtN H0 H3) (tb : Tbs H3) (hl : H3 l = none) (hy : Dq K H3 y d) : Told K H0 (upd H3 l (.lst [y])) l [y] [d] := by
  have nt : NoT H0 l := NoT.back e (NoT.of0 hl)
  have hid : Same H3 (Hid (upd H3 l (.lst [y])) l) := fun b o h => by
    have q : b ≠ l := ne_of_none h hl
    rw [hid_ne q, upd_ne q]
    exact h
  exact ⟨ExtN.put nt e, Tbs.new hl tb, nt, upd_same, .cons (Dq.same hid hy) .nil⟩
theorem told_raise (T : Told K H0 Hc l xs ds) (hv : σ[n]? = some (some (.ref l))) (hT : TT = Said K) (m : (nm, w) ∈ SAID) (ho : Dq K H0 v o) (hz : xs.length ≤ 100000)
    (hb : ∀ E1 Q1 H1, LamX.ExtN H0 H1 → Tbs H1 → Rz K H1 E1 nm "given" v → t E1 σ H1 Q1) (q : ∀ H3 p, Told K H0 H3 l (xs ++ [.ref p]) (ds ++ [.tuple [.str w, o]]) → D.nx σ H3) :
    tDrop (tBM K "list" rAppend (tVar n) (tCons (tLamG TT t) tNil)) D σ Hc := by
  subst hT
  refine g_drop (g_append hv T.hl (g_cons (g_lam T.t fun H1 e1 t1 => ?_)))
  intro E1 Q1 H2 s2 hE hQ
  refine hb E1 Q1 H2 (ExtN.snoc (ExtN.tr T.e e1) s2) (Tbs.same s2 t1) fun cls d H' xn s' nd => ?_
  refine hE cls d v nm w _ m xn upd_same fun H3 p s3 hp => ?_
  have e3 : LamX.ExtN Hc H3 := ExtN.snoc (ExtN.snoc (ExtN.snoc e1 s2) (Same.new nd s')) s3
  have t3 : Tbs H3 := Tbs.same s3 (Tbs.same (Same.new nd s') (Tbs.same s2 t1))
  have hl := ExtN.at_ e3 T.hl
  refine g_nil (g_app hl hz (q _ p (T.snoc e3 t3 (.tup (hid_seqT hl (SqT.of hp)) (.cons (.str _) (.cons (dqx (hid_ext T.n (ExtN.tr T.e e3)) ho) .nil))))))
theorem told_ret (T : Told K H0 Hc l xs ds) (hv : σ[n]? = some (some (.ref l))) (hT : TT = Said K) (ho : noL o = true) (hz : xs.length ≤ 100000)
    (hb : ∀ E1 Q1 H1, LamX.ExtN H0 H1 → Tbs H1 → (∀ v H2, Same H1 H2 → Dq K H2 v o → Q1 v H2) → t E1 σ H1 Q1) (q : ∀ H3 p, Told K H0 H3 l (xs ++ [.ref p]) (ds ++ [.list [o]]) → D.nx σ H3) :
    tDrop (tBM K "list" rAppend (tVar n) (tCons (tLamG TT t) tNil)) D σ Hc := by
  subst hT
  refine g_drop (g_append hv T.hl (g_cons (g_lam T.t fun H1 e1 t1 => ?_)))
  intro E1 Q1 H2 s2 hE hQ
  refine hb E1 Q1 H2 (ExtN.snoc (ExtN.tr T.e e1) s2) (Tbs.same s2 t1) fun v H' s' hd => ?_
  refine hQ v H' fun H3 p s3 np hp => ?_
  have e2 : LamX.ExtN Hc H' := ExtN.snoc (ExtN.snoc e1 s2) s'
  have e3 : LamX.ExtN Hc H3 := ExtN.snoc e2 s3
  have t3 : Tbs H3 := Tbs.same s3 (Tbs.same s' (Tbs.same s2 t1))
  have hl2 := ExtN.at_ e2 T.hl
  have hl := ExtN.at_ e3 T.hl
  have pl : p ≠ l := Ne.symm (ne_of_none hl2 np)
  refine g_nil (g_app hl hz (q _ p (T.snoc e3 t3 (.lst (SqL.of (by rw [hid_ne pl]; exact hp)) (.cons (dqx (hid_mono (ExtN.same s3)) (dq_hid hl2 ho hd)) .nil)))))
theorem told_raise0 (e : LamX.ExtN H0 Hc) (tb : Tbs Hc) (hT : TT = Said K) (m : (nm, w) ∈ SAID) (ho : Dq K H0 v o)
    (hb : ∀ E1 Q1 H1, LamX.ExtN H0 H1 → Tbs H1 → Rz K H1 E1 nm "given" v → t E1 σ H1 Q1) (q : ∀ H3 l p, Told K H0 H3 l [.ref p] [.tuple [.str w, o]] → D.nx (σ.set n (some (.ref l))) H3) :
    tAsg (tLst (tCons (tLamG TT t) tNil)) (gName n) D σ Hc := by
  subst hT
  refine g_asg (g_lst (g_cons (g_lam tb fun H1 e1 t1 => ?_)))
  intro E1 Q1 H2 s2 hE hQ
  refine hb E1 Q1 H2 (ExtN.snoc (ExtN.tr e e1) s2) (Tbs.same s2 t1) fun cls d H' xn s' nd => ?_
  refine hE cls d v nm w _ m xn upd_same fun H3 p s3 hp => ?_
  have e3 : LamX.ExtN H0 H3 := ExtN.tr e (ExtN.snoc (ExtN.snoc (ExtN.snoc e1 s2) (Same.new nd s')) s3)
  have t3 : Tbs H3 := Tbs.same s3 (Tbs.same (Same.new nd s') (Tbs.same s2 t1))
  refine g_nil (g_sz (by show 1 ≤ 100000; decide) fun l hl => q _ l p (Told.first (H1 := H3) e3 t3 hl (.tup (SqT.of hp) (.cons (.str _) (.cons (dqx e3 ho) .nil)))))
theorem told_ret0 (e : LamX.ExtN H0 Hc) (tb : Tbs Hc) (hT : TT = Said K)
    (hb : ∀ E1 Q1 H1, LamX.ExtN H0 H1 → Tbs H1 → (∀ v H2, Same H1 H2 → Dq K H2 v o → Q1 v H2) → t E1 σ H1 Q1) (q : ∀ H3 l p, Told K H0 H3 l [.ref p] [.list [o]] → D.nx (σ.set n (some (.ref l))) H3) :
    tAsg (tLst (tCons (tLamG TT t) tNil)) (gName n) D σ Hc := by
  subst hT
  refine g_asg (g_lst (g_cons (g_lam tb fun H1 e1 t1 => ?_)))
  intro E1 Q1 H2 s2 hE hQ
  refine hb E1 Q1 H2 (ExtN.snoc (ExtN.tr e e1) s2) (Tbs.same s2 t1) fun v H' s' hd => ?_
  refine hQ v H' fun H3 p s3 np hp => ?_
  have e3 : LamX.ExtN H0 H3 := ExtN.tr e (ExtN.snoc (ExtN.snoc (ExtN.snoc e1 s2) s') s3)
  have t3 : Tbs H3 := Tbs.same s3 (Tbs.same s' (Tbs.same s2 t1))
  refine g_nil (g_sz (by show 1 ≤ 100000; decide) fun l hl => q _ l p (Told.first (H1 := H3) e3 t3 hl (.lst (SqL.of hp) (.cons (Dq.same s3 hd) .nil))))
end
/-- a goal that is left to the hand -/
structure Held (P : Prop) : Prop where
  mk :: get : P
theorem g_held0 [Tb] {TT : (XK → Hp → VK → Prop) → Hp → VK → Prop} {t : XK → TE} {g : TG} {u : TS} {D : Ends} {σ : L2.St} {H : Hp} (q : Held (tSeq (tAsg (tLst (tCons (tLamG TT t) tNil)) g) u D σ H)) : tSeq (tAsg (tLst (tCons (tLamG TT t) tNil)) g) u D σ H := q.get
theorem m_date : (("BadDate" : Str), ("date" : Str)) ∈ SAID := List.mem_cons_self
theorem m_number : (("BadNumber" : Str), ("number" : Str)) ∈ SAID := List.mem_cons_of_mem _ List.mem_cons_self
theorem m_body : (("BadBody" : Str), ("body" : Str)) ∈ SAID := List.mem_cons_of_mem _ (List.mem_cons_of_mem _ List.mem_cons_self)
theorem m_content : (("BadContent" : Str), ("content" : Str)) ∈ SAID := List.mem_cons_of_mem _ (List.mem_cons_of_mem _ (List.mem_cons_of_mem _ List.mem_cons_self))
theorem endT {P : Program} {w : World} {K : PySem.W.Frag} {mg : Str → Option Value} {fa : Addr} {k : Nat} {x y : Str} {st : Stmt} {sp : Sp} {cs : List (Addr × Addr)} (hmg : mg x = some (.ref fa)) (d : ∃ f, mg x = some (.ref f) ∧ ∃ fd, Fun K x x st f fd)
    (hb : ∀ (kV doc pm : Value) (an : Option Addr) (cdv ct u : Value), bindArgs (PySem.W.fnOf x x (defArgs st) (defBody st) (defScope st) .none kV doc pm an cdv ct) ⟨[u], []⟩ = pure [(y, u)])
    (F : ∀ base : Heap, (∀ p ∈ cs, LamX.TabB base mg p.1 p.2) → Df P w K mg base k x st [y] sp) :
    ∃ fd : FuncData, (∀ (s : Shared) (u : Value), BindsTo s fd ⟨[u], []⟩ [(y, u)]) ∧ ∀ base : Heap, (∀ p ∈ cs, LamX.TabB base mg p.1 p.2) → FnG P w K mg base CX0 k fa fd [y] sp := by
  obtain ⟨f, hm, fd, U⟩ := d
  have e := hmg.symm.trans hm
  cases e
  refine ⟨fd, fun s u => ?_, fun base B => ?_⟩
  · obtain ⟨oc, od, kV, doc, pm, an, cdv, ct, osl, rfl, lk, hcd⟩ := U.ex
    exact .of_eq (hb kV doc pm an cdv ct u)
  · obtain ⟨f', fd', hm', U', F'⟩ := (F base B).ex
    have e' := hmg.symm.trans hm'
    cases e'
    obtain ⟨oc, od, kV, doc, pm, an, cdv, ct, osl, e1, lk, hcd⟩ := U.ex
    obtain ⟨oc', od', kV', doc', pm', an', cdv', ct', osl', e1', lk', hcd'⟩ := U'.ex
    have e2 := lk.symm.trans lk'
    simp only [Option.some.injEq, Obj.mk.injEq, Data.func.injEq] at e2
    rw [e2.2.2.1]
    exact F'
theorem tb_uniq {a : Addr} {q : Str} : ∀ {T : List (Addr × Str)}, (T.map (·.1)).Nodup → (a, q) ∈ T → ∀ p ∈ T, p.1 = a → p.2 = q
  | [], _, m => nomatch m
  | x :: T, nd, m => by
    rw [List.map_cons, List.nodup_cons] at nd
    obtain ⟨n1, n2⟩ := nd
    intro p hp e
    rcases List.mem_cons.mp m with em | m
    · rcases List.mem_cons.mp hp with ep | hp
      · rw [ep, ← em]
      · exact (n1 (List.mem_map.mpr ⟨p, hp, by rw [e, ← em]⟩)).elim
    · rcases List.mem_cons.mp hp with ep | hp
      · exact (n1 (List.mem_map.mpr ⟨(a, q), m, by rw [← ep, e]⟩)).elim
      · exact tb_uniq n2 m p hp e
end Hf

set_option Elab.async false
set_option linter.all false
set_option maxRecDepth 100000
set_option maxHeartbeats 4000000
namespace Hf
open PySem L2 PySem.Spec PyProof.Rows
/-! ### own classes: instances made, their properties, their == and != -/
theorem RG.make {k : Nat} {A : Around} (r : RG (k + 1) A) (C : Addr) (us : List Value) (kw : List (Str × Value)) : RG k (A.under (.builtin "type.__call__" ⟨.ref C :: us, kw⟩)) :=
  ⟨r.rm.make C us kw, by have g := r.gd; first | exact g | (simpa [Around.under, Code.isGuard, guardIds] using g)⟩
theorem RG.in1 {k : Nat} {A : Around} (r : RG (k + 1) A) : RG k A.in1 := ⟨r.rm.in1, by have g := r.gd; first | exact g | (simpa [Around.in1] using g)⟩
/-- C(e, .., k = v, ..): a new instance and its dict, then __init__, which may raise -/
def tMkI (C : Addr) (n m : Nat) (sp : Sp) (gV : List V → List V → List V) (W : WX) (t tk : TA) : TE := fun σ H Q => t σ H fun vs H1 => tk σ H1 fun zs H2 => vs.length = n ∧ zs.length = m ∧
  ∀ x dx, H2 x = none → H2 dx = none → dx ≠ x → sp (gV (.ref x :: vs) zs) (upd (upd H2 dx (.own x)) x (.ins C dx [])) (fun v H3 => v = .non ∧ Q (.ref x) H3) (fun cls d H' => W cls d σ H')
section
variable {X : Cx} {k j n : Nat} {f C : Addr} {fd : FuncData} {ps ks : List Str} {sp : Sp} {x : Str} {p pos : Pos} {e : Expr} {es : List Expr} {kws : List Keyword} {t tk : TA} {g : List Value → List Value → List Value} {gV : List V → List V → List V} {W : WX}
theorem goMk {pins : List (Addr × Obj)} {σ : L2.St} {H : Hp} {s : Shared} {Q : VK} {us ws : List Value} {vs zs : List V} (tw : Takes X W) (M : Mk X.K C f) (F : FnG X.prog X.w X.K X.mg X.base (L2.CX X.prog X.w) k f fd ps sp) (hr : RG (k + 1) X.A) (hb : KBn X.K fd ps (n + 1) ks g gV)
    (I : Inv X pins σ H s) (r : Vals vs us) (rz : Vals zs ws) (l1 : vs.length = n) (l2 : zs.length = ks.length)
    (h : ∀ x dx, H x = none → H dx = none → dx ≠ x → sp (gV (.ref x :: vs) zs) (upd (upd H dx (.own x)) x (.ins C dx [])) (fun v H2 => v = .non ∧ Q (.ref x) H2) (fun cls d H' => W cls d σ H')) :
    wpAny (model X.prog X.w) X.A (call (.ref C) us (ks.zip ws)) (EP X pins σ Q) X.xe s := by
  have hq := h (s.heap.objs.size + 1) s.heap.objs.size (I.hok.fresh (Nat.le_succ _)) (I.hok.fresh (Nat.le_refl _)) (Nat.ne_of_lt (Nat.lt_succ_self _))
  have I2 := Inv.made (C := C) I
  have r1 : Vals (V.ref (s.heap.objs.size + 1) :: vs) (Value.ref (s.heap.objs.size + 1) :: us) := .cons rfl r
  have r2 := hb.rel r1 rz
  have e1 : (Value.ref (s.heap.objs.size + 1) :: us).length = n + 1 := r1.length.symm.trans (congrArg Nat.succ l1)
  have e2 : ws.length = ks.length := rz.length.symm.trans l2
  refine wpAny_call (make_map (f := f) I.kIn M.makes M.init (beq_iff_eq.mp M.fn) (codeAny_mono (F.go _ X.stack _ _ ⟨Value.ref (s.heap.objs.size + 1) :: us, ks.zip ws⟩ (g (Value.ref (s.heap.objs.size + 1) :: us) ws) _ _ _ (hr.make C us (ks.zip ws))
    (I2.env0.make C us (ks.zip ws)) (hb.to _ (Value.ref (s.heap.objs.size + 1) :: us) ws I2.kIn e1 e2) r2 hq) fun r s' hq' => ?_))
  cases r with
  | error e => exact tw _ _ (XE.of_call I2 (fun cls d H' h => h) hq')
  | ok fl =>
    cases fl with
    | ret u =>
      obtain ⟨v, H', I3, rv, ev, q3⟩ := I2.after hq'
      subst ev
      exact ⟨rv, ⟨V.ref (s.heap.objs.size + 1), H', I3, rfl, q3⟩⟩
    | next => exact False.elim hq'
    | brk => exact False.elim hq'
    | cont => exact False.elim hq'
theorem pe_mkI (tw : Takes X W) (M : Mk X.K C f) (F : FnG X.prog X.w X.K X.mg X.base (L2.CX X.prog X.w) k f fd ps sp) (hr : RG j X.A) (hj : k + 1 ≤ j) (hm : X.mg x = some (.ref C)) (hb : KBn X.K fd ps (n + 1) ks g gV)
    (ha : PA X (e :: es) t) (hkw : PK X kws tk) (hg : Gl X x := by rfl) (hall : (backToKw pos (keywordEach kws X.env)).all (·.1.isSome) = true := by rfl) (hks : (backToKw pos (keywordEach kws X.env)).filterMap (·.1) = ks := by rfl)
    (hdb : (x == ("__debug__" : Str)) = false := by decide) (he : starEach (e :: es) X.env = (false, eval e X.env) :: starEach es X.env := by rfl)
    (hpl : ((backTo pos (starEach (e :: es) X.env)).any (·.1) || (backToKw pos (keywordEach kws X.env)).any (·.1.isNone)) = false := by rfl) :
    PE X (.Call (.Name x p) (e :: es) kws pos) (tMkI C n ks.length sp gV W t tk) := by
  refine ⟨fun pins s σ H Q I h => ?_⟩
  refine wpAny_Call_Name_kw (ld_glob I hg hm ?_ hdb)
  refine PySem.W.callWith_KW (h₀ := X.base) I.ok.mod.kin M.kp hall (thn (ha.run pos pins s σ H _ I h) fun us s1 ⟨vs, H1, I1, r, q⟩ => ?_) hpl he
  refine thn (hkw.run pos pins s1 σ H1 _ I1 q) fun ws s2 ⟨zs, H2, I2, rz, l1, l2, q2⟩ => ⟨I2.kIn, ?_⟩
  rw [hks]
  exact goMk tw M F (hr.mono hj) hb I2 r rz l1 l2 q2
theorem pe_mkI0 (tw : Takes X W) (M : Mk X.K C f) (F : FnG X.prog X.w X.K X.mg X.base (L2.CX X.prog X.w) k f fd ps sp) (hr : RG j X.A) (hj : k + 1 ≤ j) (hm : X.mg x = some (.ref C)) (hb : KBn X.K fd ps 1 ks g gV)
    (hkw : PK X kws tk) (hg : Gl X x := by rfl) (hall : (backToKw pos (keywordEach kws X.env)).all (·.1.isSome) = true := by rfl) (hks : (backToKw pos (keywordEach kws X.env)).filterMap (·.1) = ks := by rfl)
    (hdb : (x == ("__debug__" : Str)) = false := by decide)
    (hpl : ((backTo pos (starEach [] X.env)).any (·.1) || (backToKw pos (keywordEach kws X.env)).any (·.1.isNone)) = false := by rfl) :
    PE X (.Call (.Name x p) [] kws pos) (tMkI C 0 ks.length sp gV W tNil tk) := by
  refine ⟨fun pins s σ H Q I h => ?_⟩
  refine wpAny_Call_Name_kw (ld_glob I hg hm ?_ hdb)
  refine PySem.W.callWith_KW0 (h₀ := X.base) I.ok.mod.kin M.kp hall ?_ hpl
  refine thn (hkw.run pos pins s σ H _ I h) ?_
  rintro ws s2 ⟨zs, H2, I2, rz, q1, q2, q3⟩
  refine ⟨I2.kIn, ?_⟩
  rw [hks]
  exact goMk (n := 0) (us := []) tw M F (hr.mono hj) hb I2 .nil rz q1 q2 q3
end
/-! ### properties -/
/-- e.f, a property of the class C whose getter lets nothing out -/
def tPropG (C : Addr) (sp : Sp) (ta : TE) : TE := fun σ H Q => ta σ H fun x H1 => ∃ a dx fs, x = .ref a ∧ H1 a = some (.ins C dx fs) ∧ sp [.ref a] H1 Q E0
section
variable {X : Cx} {k j : Nat} {C p g a dx : Addr} {fs : List (Str × V)} {f : Str} {fd : FuncData} {sp : Sp} {e : Expr} {pos : Pos} {ta : TE}
theorem goPropG {pins : List (Addr × Obj)} {σ : L2.St} {H : Hp} {s : Shared} {Q : VK} {b : Bool} {E' : Value → Shared → Prop} (I : Inv X pins σ H s) (ea : H a = some (.ins C dx fs)) (c : Cls X.K C) (hp : PropOf X.K C f p g)
    (F : FnG X.prog X.w X.K X.mg X.base CX0 k g fd ["self"] sp) (hb : ∀ (s : Shared) (u : Value), BindsTo s fd ⟨[u], []⟩ [(("self" : Str), u)]) (hr : RG (k + 1) X.A) (h : sp [.ref a] H Q E0) :
    wpAny (model X.prog X.w) X.A (getAttr (.ref a) f b) (EP X pins σ Q) E' s := by
  obtain ⟨mA, O, _, _, _, _⟩ := ins_get I.hok ea
  obtain ⟨od, J, _⟩ := O.look
  obtain ⟨rest, hrec⟩ := hp.rec_
  have I1 := I.tok (s.toks + 1)
  have hc : (PySem.W.clsIn X.K C).isSome = true := by
    obtain ⟨cd, hc, _⟩ := PySem.W.any_some c.hd
    rw [hc]
    rfl
  refine PySem.W.get_bind I.kIn J (PySem.W.plainGet_of (c.get f)).1 (PySem.W.findObj_data hc hp.at_ hp.get hp.tak) (PySem.W.plainGet_of (c.get f)).2 (wpAny_call (PySem.W.prop_get (s := { s with toks := s.toks + 1 }) I.kIn hrec ?_))
  refine codeAny_mono (F.go X.A.in1 X.stack { s with toks := s.toks + 1 } H ⟨[.ref a], []⟩ [.ref a] [.ref a] Q E0 hr.in1 I1.env0.in1 (hb _ _) (.cons rfl .nil) h) fun r s' hq => ?_
  cases r with
  | error er => exact False.elim hq
  | ok fl =>
    cases fl with
    | ret u =>
      obtain ⟨v, H', I3, rv, q3⟩ := I1.after hq
      show wpAny _ _ (handedOut u) _ _ _
      rw [PySem.W.handedOut_of (handed_of rv)]
      exact wpAny_pure ⟨v, H', I3, rv, q3⟩
    | next => exact False.elim hq
    | brk => exact False.elim hq
    | cont => exact False.elim hq
theorem pe_propG (he : PE X e ta) (c : Cls X.K C) (hp : PropOf X.K C f p g) (F : FnG X.prog X.w X.K X.mg X.base CX0 k g fd ["self"] sp) (hb : ∀ (s : Shared) (u : Value), BindsTo s fd ⟨[u], []⟩ [(("self" : Str), u)]) (hr : RG j X.A) (hj : k + 1 ≤ j)
    (hab : attributeBase e f X.env (eval e X.env) = eval e X.env := by rfl) : PE X (.Attribute e f pos) (tPropG C sp ta) := by
  refine ⟨fun pins s σ H Q I h => ?_⟩
  refine attr_of hab (thn (he.run pins s σ H _ I h) fun u s1 ⟨x, H1, I1, rx, a, dx, fs, ex, ea, q⟩ => ?_)
  subst ex
  obtain rfl : u = Value.ref a := rx
  exact goPropG I1 ea c hp F hb (hr.mono hj) q
end
/-! ### == and != by an own __eq__ -/
/-- what == asks of an instance: its class's __eq__ at f, which gives True or False -/
def rEqO (P : Program) (w : World) (K : PySem.W.Frag) (mg : Str → Option Value) (base : Heap) (j : Nat) (neg : Bool) : R2 := fun x y H Q =>
  ∃ (a C dx f : Addr) (fs : List (Str × V)) (t : Value) (k : Nat) (fd : FuncData) (sp : Sp), x = .ref a ∧ H a = some (.ins C dx fs) ∧ PySem.W.findIn K (.ref C) "__eq__" = some (some (.ref f)) ∧ PySem.W.isFn K (.ref f) = true ∧
    PySem.W.findIn K (.ref C) "__ne__" = some (some (.builtin "object.__ne__")) ∧ PySem.W.subIn K (.ref C) (.type "object") = some true ∧ FnG P w K mg base CX0 k f fd ["self", "other"] sp ∧ k + 2 ≤ j ∧
    (∀ (s : Shared) (u v : Value), BindsTo s fd ⟨[u, v], []⟩ [(("self" : Str), u), (("other" : Str), v)]) ∧ TyX K H y t ∧ PySem.W.notFirst K C t = true ∧ sp [.ref a, y] H (fun v H' => ∃ b, v = .bl b ∧ Q (.bl (if neg = true then !b else b)) H') E0
section
variable {X : Cx} {j : Nat}
theorem op_eqO (hr : RG j X.A) : OpR X (compareOp .Eq) (rEqO X.prog X.w X.K X.mg X.base j false) := by
  intro pins s σ H x y v u Q I rx ry hq
  obtain ⟨a, C, dx, f, fs, t, k, fd, sp, rfl, ha, hs, hf, _, _, F, hj, hb, ty, nf, q⟩ := hq
  cases rx
  obtain ⟨mA, O, _⟩ := ins_get I.hok ha
  obtain ⟨od, J, _⟩ := O.look
  obtain ⟨m, hF⟩ := I.fr
  obtain ⟨P, Z, p, _⟩ := kit_of I ry ty
  have hr' : RG k X.A := hr.mono (by omega)
  show wpAny (model X.prog X.w) X.A (richCompare .Eq _ u) (EP X pins σ Q) X.xe s
  refine PySem.W.cmp_K (op := .Eq) (tb := t) hr'.rm.units0 hF I.ok.mod.kin J (Z.ty _ _ I.kIn p) nf hs hf ?_
  refine wpAny_call (codeAny_mono (F.go X.A X.stack s H ⟨[.ref a, u], []⟩ [.ref a, u] [.ref a, y] _ E0 hr' I.env0 (hb s _ _) (.cons rfl (.cons ry .nil)) q) fun r s' hq' => ?_)
  cases r with
  | error e => exact False.elim hq'
  | ok fl =>
    cases fl with
    | ret w =>
      obtain ⟨z, H', I', rz, b, ez, q'⟩ := I.after hq'
      subst ez
      cases rz
      exact ⟨.bl b, H', I', rfl, q'⟩
    | next => exact False.elim hq'
    | brk => exact False.elim hq'
    | cont => exact False.elim hq'
end
end Hf
namespace Hf
open PySem L2 PySem.Spec PyProof.Rows PySem.Calls
section
variable {prog : Program} {w : World} {A : Around} {E : Value → Shared → Prop} {K : PySem.W.Frag} {x C f : Addr} {s : Shared} {ox od : Obj} {tb b : Value}
theorem ne_bound {M : Model} {args : List Value} {Q : Option Value → Shared → Prop} (X : K.In s.heap) (I : PySem.W.InstAt s.heap x ox C od) (hs : PySem.W.findIn K (.ref C) "__ne__" = some (some (.builtin "object.__ne__")))
    (h : wpAny M A (call (.builtin "object.__ne__") (.ref x :: args)) (fun v => Q (some v)) E s) : wpAny M A (callSpecialIfBound? (.ref x) "__ne__" args) Q E s := by
  have S := F.cmp_object.ne
  simp only [callSpecialIfBound?, bindSpecialIfBound?]
  refine wpAny_holding (wpAny_bind (wpAny_bind (wpAny_bind (I.type.here ((PySem.W.looks_findIn X hs).here ?_)))))
  simp only [S.bind]
  refine wpAny_bind (wpAny_askSetting (wpAny_ite ?_))
  have fin : wpAny M A (call (.builtin "object.__ne__") ([.ref x] ++ args) >>= fun v => pure (some v)) Q E s := wpAny_bind (wpAny_mono h (fun v s' h' => wpAny_pure h') fun _ _ h' => h')
  split
  · exact wpAny_bind (wpAny_pure (wpAny_pure fin))
  · exact wpAny_tryCatch (wpAny_bind (wpAny_pure (wpAny_pure fin)))
theorem ne_check {M : Model} {rest : List Value} {Q : Unit → Shared → Prop} (ha : argsOk "object.__ne__" ⟨.ref x :: rest, []⟩) (X : K.In s.heap) (I : PySem.W.InstAt s.heap x ox C od) (hb : PySem.W.subIn K (.ref C) (.type "object") = some true) (hq : Q () s) :
    wpAny M A (checkBuiltinCall "object.__ne__" ⟨.ref x :: rest, []⟩) Q E s := by
  simp only [checkBuiltinCall, F.cmpKind_ne, F.cmpSplit_ne]
  refine wpAny_bind ?_
  unfold isInstance
  refine wpAny_bind (I.type.here ?_)
  refine (PySem.W.looks_subIn X hb).here ?_
  simp only [if_true, Bool.not_true, Bool.false_eq_true, if_false]
  cases hsig : Manifest.signature? "object.__ne__" with
  | none => exact wpAny_pure hq
  | some sig =>
    simp only [argsOk, hsig] at ha
    have h2 : Bind.checkArgs "object.__ne__" sig ⟨.ref x :: rest, []⟩ = pure () := ha
    show wpAny M A (Bind.checkArgs "object.__ne__" sig ⟨.ref x :: rest, []⟩) Q E _
    rw [h2]; exact wpAny_pure hq
def NeWant (E : Value → Shared → Prop) (Q : Value → Shared → Prop) (r : Result) (s' : Shared) : Prop := match r with
  | .ok (.ret v) => ∃ c, v = .bool c ∧ Q (.bool (!c)) s'
  | .ok _ => False
  | .error e => E e s'
theorem ne_entry {Q : Fin → Shared → Prop} (X : K.In s.heap) (I : PySem.W.InstAt s.heap x ox C od) (hu : A.units < cLine) (hs : PySem.W.findIn K (.ref C) "__eq__" = some (some (.ref f))) (hf : PySem.W.isFn K (.ref f) = true)
    (h : codeAny (model prog w) A (.call (.ref f) ⟨[.ref x, b], []⟩) (NeWant E fun v s' => Q (.done (.ret v)) s') s) : wpAny (model prog w) A (Builtin.«object.__ne__» ⟨[.ref x, b], []⟩) Q E s := by
  unfold Builtin.«object.__ne__»
  repeat (first | with_reducible refine wpAny_cRoomFor hu ?_ | (with_reducible refine PySem.W.ifBound_K X I hs hf ?_) | wp_step)
  refine codeAny_mono h (fun r s' hv => ?_)
  rcases r with e | (v | _ | _ | _) <;> first | exact hv | exact hv.elim | skip
  obtain ⟨c, rfl, hq⟩ := hv
  repeat (first | wp_step)
  exact hq
theorem ne_K {Q : Value → Shared → Prop} (hu : A.units + 1 < cLine) (X : K.In s.heap) (I : PySem.W.InstAt s.heap x ox C od) (hb : PySem.W.Looks (model prog w) s.heap (typeOf b) tb) (hn : PySem.W.notFirst K C tb = true)
    (he : PySem.W.findIn K (.ref C) "__eq__" = some (some (.ref f))) (hf : PySem.W.isFn K (.ref f) = true) (hne : PySem.W.findIn K (.ref C) "__ne__" = some (some (.builtin "object.__ne__"))) (ho : PySem.W.subIn K (.ref C) (.type "object") = some true)
    (h : codeAny (model prog w) A.in1 (.call (.ref f) ⟨[.ref x, b], []⟩) (NeWant E Q) s) : wpAny (model prog w) A (richCompare .NotEq (.ref x) b) Q E s := by
  have one : wpAny (model prog w) A (tryCompare (.ref x) "__ne__" b) (fun r s' => ∃ v, r = some v ∧ Q v s') E s := by
    unfold tryCompare
    refine wpAny_bind (ne_bound X I hne (wpAny_call (codeAny_call_builtin (F.cmp_object.ne).plain F.cmpEntry_ne (ne_check (F.cmpArgs_ne _ _) X I ho (ne_entry (A := A.in1) X I (by show A.units + 1 < cLine; exact hu) he hf (codeAny_mono h fun r s' z => ?_))))))
    rcases r with e | (v | _ | _ | _) <;> first | exact z | exact z.elim | skip
    obtain ⟨c, rfl, hq⟩ := z
    refine ⟨c, rfl, ?_⟩
    exact wpAny_pure ⟨_, rfl, hq⟩
  unfold richCompare
  simp only [oneThing_ref]
  refine wpAny_holding (wpAny_bind (wpAny_cRoomFor (Nat.lt_of_succ_lt hu) ?_))
  refine wpAny_bind (I.type.here (wpAny_bind (hb.here ?_)))
  split
  · rename_i q
    have e : PySem.W.subIn K tb (.ref C) = some false := by
      rcases Bool.or_eq_true_iff.mp hn with e | e
      · rw [beq_iff_eq.mp e] at q; simp at q
      · exact beq_iff_eq.mp e
    refine wpAny_bind ((PySem.W.looks_subIn X e).here ?_)
    simp only [Bool.false_eq_true, if_false]
    refine wpAny_bind (wpAny_mono one (fun r s' z => ?_) fun _ _ e => e)
    obtain ⟨v, rfl, hq⟩ := z
    exact wpAny_pure hq
  · refine wpAny_bind (wpAny_pure ?_)
    simp only [Bool.false_eq_true, if_false]
    refine wpAny_bind (wpAny_mono one (fun r s' z => ?_) fun _ _ e => e)
    obtain ⟨v, rfl, hq⟩ := z
    exact wpAny_pure hq
end
end Hf
namespace Hf
open PySem L2 PySem.Spec PyProof.Rows
section
variable {X : Cx} {j : Nat}
theorem op_neO (hr : RG j X.A) : OpR X (compareOp .NotEq) (rEqO X.prog X.w X.K X.mg X.base j true) := by
  intro pins s σ H x y v u Q I rx ry hq
  obtain ⟨a, C, dx, f, fs, t, k, fd, sp, rfl, ha, hs, hf, hn, ho, F, hj, hb, ty, nf, q⟩ := hq
  cases rx
  obtain ⟨mA, O, _⟩ := ins_get I.hok ha
  obtain ⟨od, J, _⟩ := O.look
  obtain ⟨P, Z, p, _⟩ := kit_of I ry ty
  have hr' : RG (k + 1) X.A := hr.mono (by omega)
  show wpAny (model X.prog X.w) X.A (richCompare .NotEq _ u) (EP X pins σ Q) X.xe s
  refine ne_K (tb := t) (by have := hr'.rm.units; omega) I.kIn J (Z.ty _ _ I.kIn p) nf hs hf hn ho ?_
  refine codeAny_mono (F.go X.A.in1 X.stack s H ⟨[.ref a, u], []⟩ [.ref a, u] [.ref a, y] _ E0 hr'.in1 I.env0.in1 (hb s _ _) (.cons rfl (.cons ry .nil)) q) fun r s' hq' => ?_
  cases r with
  | error e => exact False.elim hq'
  | ok fl =>
    cases fl with
    | ret w =>
      obtain ⟨z, H', I', rz, b, ez, q'⟩ := I.after hq'
      subst ez
      cases rz
      exact ⟨b, rfl, ⟨.bl (!b), H', I', rfl, q'⟩⟩
    | next => exact False.elim hq'
    | brk => exact False.elim hq'
    | cont => exact False.elim hq'
end
end Hf
namespace Hf
open PySem L2 PySem.Spec PyProof.Rows
def BT : List String := ["int", "str", "bool", "NoneType", "tuple", "list", "dict"]
/-- what the text says of an own class: the name x, its object at C -/
structure OwnC (K : PySem.W.Frag) (mg : Str → Option Value) (x : Str) (C : Addr) : Prop where
  xn : XN K x (.ref C)
  mg : mg x = some (.ref C)
  cl : Cls K C
  ca : PySem.W.findIn K (.ref C) "__class__" = some (some (.builtin "object.__class__"))
  sp : PySem.W.specialIn K (.builtin "object.__class__") "__get__" = some (some (.builtin "getset_descriptor.__get__"))
  tk : PySem.W.takesIn K (.builtin "object.__class__") = some true
  mo : PySem.W.mroIn K C (.type "object") = some true
  mkr : PySem.W.makesIn K C = true
  kp : PySem.W.keepIn K (.ref C) = true
  io : PySem.W.subIn K (.ref C) (.type "object") = some true
  ii : PySem.W.kitOne K (.ref C) (.ref C) = some true
  nf : PySem.W.notFirst K C (.ref C) = true
  bt : ∀ T ∈ BT, PySem.W.kitOne K (.type T) (.ref C) = some false ∧ PySem.W.notFirst K C (.type T) = true ∧ PySem.W.kitOne K (.ref C) (.type T) = some false
theorem OwnC.ty {K : PySem.W.Frag} {mg : Str → Option Value} {x : Str} {C a dx : Addr} {fs : List (Str × V)} {H : Hp} (o : OwnC K mg x C) (h : H a = some (.ins C dx fs)) : TyX K H (.ref a) (.ref C) := .base (.ins h o.cl o.ca o.sp o.tk o.mo)
end Hf
namespace Hf
open PySem L2 PySem.Spec PyProof.Rows
/-! ### methods of the text, with their promises -/
structure DfM (P : Program) (w : World) (K : PySem.W.Frag) (mg : Str → Option Value) (base : Heap) (CX : CXT) (k : Nat) (x m qual : Str) (st : Stmt) (ps : List Str) (dvs : List V) (kws : List (Str × V)) (sp : Sp) : Prop where
  ex : ∀ C, XN K x (.ref C) → ∃ (f : Addr) (fd : FuncData), PySem.W.findIn K (.ref C) m = some (some (.ref f)) ∧ PySem.W.isFn K (.ref f) = true ∧ FunD K m qual (defArgs st) (defBody st) (defScope st) dvs kws f fd ∧ FnG P w K mg base CX k f fd ps sp
structure DfP (P : Program) (w : World) (K : PySem.W.Frag) (mg : Str → Option Value) (base : Heap) (k : Nat) (x m qual : Str) (st : Stmt) (sp : Sp) : Prop where
  ex : ∀ C, XN K x (.ref C) → ∃ (p f : Addr) (fd : FuncData), PropOf K C m p f ∧ FunD K m qual (defArgs st) (defBody st) (defScope st) [] [] f fd ∧ FnG P w K mg base CX0 k f fd ["self"] sp
section
variable {P : Program} {w : World} {K : PySem.W.Frag} {mg : Str → Option Value} {base : Heap}
/-- .. that lets no exception out -/
theorem okD {x qual : Str} {st : Stmt} {f : Addr} {fd : FuncData} {N ps : List Str} {dvs : List V} {kws : List (Str × V)} {k : Nat} {sp : Sp} (F : FunD K x qual (defArgs st) (defBody st) (defScope st) dvs kws f fd) (S : FnScope N ps (defScope st)) (many : ∀ xs H Q E, sp xs H Q E → xs.length = ps.length)
    (hb : ∀ (cdv : Value) (A : Around) (outer : List Env) (s : Shared) (H : Hp) (xs : List V) (Q : VK) (E : XK), RG k (A.deeper (envOfC qual (defScope st) s.heap.objs.size f cdv)) → sp xs H Q E →
      ∃ t, PSs (cxOf CX0 P w K mg base N qual (defScope st) f cdv A outer s H E).nox (defBody st) t ∧ t { nx := fun _ H' => Q .non H', rt := Q } (start N xs) H) : FnG P w K mg base CX0 (k + 1) f fd ps sp := by
  obtain ⟨oc, od, dV, kV, doc, pm, an, cdv, ct, osl, rfl, lk, hcd, hD, hK⟩ := F.ex
  refine fnG_of lk hcd S many ?_
  intro A outer s H xs Q E r q
  obtain ⟨t, h, z⟩ := hb cdv A outer s H xs Q E r q
  exact ⟨t, h.nox, z⟩
/-- .. that may raise -/
theorem okDX {x qual : Str} {st : Stmt} {f : Addr} {fd : FuncData} {N ps : List Str} {dvs : List V} {kws : List (Str × V)} {k : Nat} {sp : Sp} (F : FunD K x qual (defArgs st) (defBody st) (defScope st) dvs kws f fd) (S : FnScope N ps (defScope st)) (many : ∀ xs H Q E, sp xs H Q E → xs.length = ps.length)
    (hb : ∀ (cdv : Value) (A : Around) (outer : List Env) (s : Shared) (H : Hp) (xs : List V) (Q : VK) (E : XK), RG k (A.deeper (envOfC qual (defScope st) s.heap.objs.size f cdv)) → sp xs H Q E →
      ∃ t, PSs (cxOf (L2.CX P w) P w K mg base N qual (defScope st) f cdv A outer s H E) (defBody st) t ∧ t { nx := fun _ H' => Q .non H', rt := Q } (start N xs) H) : FnG P w K mg base (L2.CX P w) (k + 1) f fd ps sp := by
  obtain ⟨oc, od, dV, kV, doc, pm, an, cdv, ct, osl, rfl, lk, hcd, hD, hK⟩ := F.ex
  exact fnG_of lk hcd S many fun A outer s H xs Q E r q => hb cdv A outer s H xs Q E r q
end
theorem vtake {xs : List V} {us : List Value} (r : Vals xs us) (n : Nat) : Vals (xs.take n) (us.take n) := by
  induction n generalizing xs us with
  | zero => exact .nil
  | succ n ih =>
    cases r with
    | nil => exact .nil
    | cons a b => exact .cons a (ih b)
/-- one of a list's items, as a list -/
def pick {α : Type} (xs : List α) (i : Nat) : List α := (xs.drop i).take 1
theorem vpick {xs : List V} {us : List Value} (r : Vals xs us) (i : Nat) : Vals (pick xs i) (pick us i) := vtake (r.drop i) 1
theorem vcat {xs ys : List V} {us ws : List Value} (r : Vals xs us) (q : Vals ys ws) : Vals (xs ++ ys) (us ++ ws) := r.append q
/-- C(..): the class by its name -/
def tMkC (K : PySem.W.Frag) (mg : Str → Option Value) (c : Str) (n m : Nat) (sp : Sp) (gV : List V → List V → List V) (W : WX) (t tk : TA) : TE := fun σ H Q => t σ H fun vs H1 => tk σ H1 fun zs H2 => vs.length = n ∧ zs.length = m ∧
  ∀ C x dx, OwnC K mg c C → H2 x = none → H2 dx = none → dx ≠ x → sp (gV (.ref x :: vs) zs) (upd (upd H2 dx (.own x)) x (.ins C dx [])) (fun v H3 => v = .non ∧ Q (.ref x) H3) (fun cls d H' => W cls d σ H')
/-- e.f, a property of the class c -/
def tPropC (K : PySem.W.Frag) (c : Str) (sp : Sp) (ta : TE) : TE := fun σ H Q => ta σ H fun x H1 => ∃ a C dx fs, x = .ref a ∧ XN K c (.ref C) ∧ H1 a = some (.ins C dx fs) ∧ sp [.ref a] H1 Q E0
section
variable {X : Cx} {k j n : Nat} {c m qual : Str} {st : Stmt} {ps ks : List Str} {dvs mz : List V} {kw : List (Str × V)} {sp : Sp} {p pos : Pos} {e : Expr} {es : List Expr} {kws : List Keyword} {t tk : TA} {ta : TE} {W : WX} {g : {α : Type} → List α → List α → List α → List α → List α}
theorem pe_mkC (o : ∃ C, OwnC X.K X.mg c C) (tw : Takes X W) (D : DfM X.prog X.w X.K X.mg X.base (L2.CX X.prog X.w) k c "__init__" qual st ps dvs kw sp) (hr : RG j X.A) (hj : k + 1 ≤ j)
    (kb : ∀ f fd, FunD X.K "__init__" qual (defArgs st) (defBody st) (defScope st) dvs kw f fd → ∃ its mv : List Value, KBn X.K fd ps (n + 1) ks (fun us ws => g us its mv ws) (fun vs zs => g vs dvs mz zs))
    (ha : PA X (e :: es) t) (hkw : PK X kws tk) (hg : Gl X c := by rfl) (hall : (backToKw pos (keywordEach kws X.env)).all (·.1.isSome) = true := by rfl) (hks : (backToKw pos (keywordEach kws X.env)).filterMap (·.1) = ks := by rfl)
    (hdb : (c == ("__debug__" : Str)) = false := by decide) (he : starEach (e :: es) X.env = (false, eval e X.env) :: starEach es X.env := by rfl)
    (hpl : ((backTo pos (starEach (e :: es) X.env)).any (·.1) || (backToKw pos (keywordEach kws X.env)).any (·.1.isNone)) = false := by rfl) :
    PE X (.Call (.Name c p) (e :: es) kws pos) (tMkC X.K X.mg c n ks.length sp (fun vs zs => g vs dvs mz zs) W t tk) := by
  obtain ⟨C, o⟩ := o
  obtain ⟨f, fd, h1, h2, FD, F⟩ := D.ex C o.xn
  obtain ⟨its, mv, hb⟩ := kb f fd FD
  refine ⟨fun pins s σ H Q I h => ?_⟩
  refine wpAny_Call_Name_kw (ld_glob I hg o.mg ?_ hdb)
  refine PySem.W.callWith_KW (h₀ := X.base) I.ok.mod.kin o.kp hall (thn (ha.run pos pins s σ H _ I h) fun us s1 ⟨vs, H1, I1, r, q⟩ => ?_) hpl he
  refine thn (hkw.run pos pins s1 σ H1 _ I1 q) fun ws s2 ⟨zs, H2, I2, rz, l1, l2, q2⟩ => ⟨I2.kIn, ?_⟩
  rw [hks]
  exact goMk tw ⟨o.mkr, h1, h2, o.kp⟩ F (hr.mono hj) hb I2 r rz l1 l2 fun x dx a b d => q2 C x dx o a b d
theorem pe_mkC0 (o : ∃ C, OwnC X.K X.mg c C) (tw : Takes X W) (D : DfM X.prog X.w X.K X.mg X.base (L2.CX X.prog X.w) k c "__init__" qual st ps dvs kw sp) (hr : RG j X.A) (hj : k + 1 ≤ j)
    (kb : ∀ f fd, FunD X.K "__init__" qual (defArgs st) (defBody st) (defScope st) dvs kw f fd → ∃ its mv : List Value, KBn X.K fd ps 1 ks (fun us ws => g us its mv ws) (fun vs zs => g vs dvs mz zs))
    (hkw : PK X kws tk) (hg : Gl X c := by rfl) (hall : (backToKw pos (keywordEach kws X.env)).all (·.1.isSome) = true := by rfl) (hks : (backToKw pos (keywordEach kws X.env)).filterMap (·.1) = ks := by rfl)
    (hdb : (c == ("__debug__" : Str)) = false := by decide)
    (hpl : ((backTo pos (starEach [] X.env)).any (·.1) || (backToKw pos (keywordEach kws X.env)).any (·.1.isNone)) = false := by rfl) :
    PE X (.Call (.Name c p) [] kws pos) (tMkC X.K X.mg c 0 ks.length sp (fun vs zs => g vs dvs mz zs) W tNil tk) := by
  obtain ⟨C, o⟩ := o
  obtain ⟨f, fd, h1, h2, FD, F⟩ := D.ex C o.xn
  obtain ⟨its, mv, hb⟩ := kb f fd FD
  refine ⟨fun pins s σ H Q I h => ?_⟩
  refine wpAny_Call_Name_kw (ld_glob I hg o.mg ?_ hdb)
  refine PySem.W.callWith_KW0 (h₀ := X.base) I.ok.mod.kin o.kp hall ?_ hpl
  refine thn (hkw.run pos pins s σ H _ I h) ?_
  rintro ws s2 ⟨zs, H2, I2, rz, q1, q2, q3⟩
  refine ⟨I2.kIn, ?_⟩
  rw [hks]
  exact goMk (n := 0) (us := []) tw ⟨o.mkr, h1, h2, o.kp⟩ F (hr.mono hj) hb I2 .nil rz q1 q2 fun x dx a b d => q3 C x dx o a b d
theorem pe_propC (he : PE X e ta) (o : ∃ C, OwnC X.K X.mg c C) (D : DfP X.prog X.w X.K X.mg X.base k c m qual st sp) (hr : RG j X.A) (hj : k + 1 ≤ j)
    (hb : ∀ (kV doc pm : Value) (an : Option Addr) (cdv ct : Value) (us : List Value), us.length = ["self"].length → bindArgs (PySem.W.fnOf m qual (defArgs st) (defBody st) (defScope st) .none kV doc pm an cdv ct) ⟨us, []⟩ = pure ([("self" : Str)].zip us))
    (hab : attributeBase e m X.env (eval e X.env) = eval e X.env := by rfl) : PE X (.Attribute e m pos) (tPropC X.K c sp ta) := by
  obtain ⟨C, o⟩ := o
  obtain ⟨p, f, fd, hp, FD, F⟩ := D.ex C o.xn
  refine ⟨fun pins s σ H Q I h => ?_⟩
  refine attr_of hab (thn (he.run pins s σ H _ I h) fun u s1 ⟨x, H1, I1, rx, a, C', dx, fs, ex, xc, ea, q⟩ => ?_)
  subst ex
  obtain rfl : u = Value.ref a := rx
  obtain rfl := Value.ref.inj (XN.inj xc o.xn)
  exact goPropG I1 ea o.cl hp F (fun s u => FD.bindsA (ps := ["self"]) hb s [u] rfl) (hr.mono hj) q
end
section
variable {P : Program} {w : World} {K : PySem.W.Frag} {mg : Str → Option Value} {base : Heap} {j k : Nat} {neg : Bool} {x qual : Str} {C a dx : Addr} {fs : List (Str × V)} {H : Hp} {y : V} {t : Value} {st : Stmt} {sp : Sp} {Q : VK}
/-- a == y, a != y for an instance a of the class x -/
theorem g_eqO (o : OwnC K mg x C) (ha : H a = some (.ins C dx fs)) (D : DfM P w K mg base CX0 k x "__eq__" qual st ["self", "other"] [] [] sp) (hne : PySem.W.findIn K (.ref C) "__ne__" = some (some (.builtin "object.__ne__"))) (hj : k + 2 ≤ j)
    (hb : ∀ (kV doc pm : Value) (an : Option Addr) (cdv ct : Value) (us : List Value), us.length = ["self", "other"].length → bindArgs (PySem.W.fnOf "__eq__" qual (defArgs st) (defBody st) (defScope st) .none kV doc pm an cdv ct) ⟨us, []⟩ = pure ([("self" : Str), "other"].zip us))
    (ty : TyX K H y t) (nf : PySem.W.notFirst K C t = true) (q : sp [.ref a, y] H (fun v H' => ∃ b, v = .bl b ∧ Q (.bl (if neg = true then !b else b)) H') E0) : rEqO P w K mg base j neg (.ref a) y H Q := by
  obtain ⟨f, fd, h1, h2, FD, F⟩ := D.ex C o.xn
  exact ⟨a, C, dx, f, fs, t, k, fd, sp, rfl, ha, h1, h2, hne, o.io, F, hj, fun s u v => FD.bindsA (ps := ["self", "other"]) hb s [u, v] rfl, ty, nf, q⟩
end
section
variable {σ : L2.St} {H : Hp} {Q : VK} {K : PySem.W.Frag} {mg : Str → Option Value} {c f : Str} {n m : Nat} {sp : Sp} {gV : List V → List V → List V} {W : WX} {t tk : TA} {ta tv : TE} {D : Ends} {a C dx : Addr} {fs : List (Str × V)} {v : V}
theorem g_mkC (q : t σ H fun vs H1 => tk σ H1 fun zs H2 => vs.length = n ∧ zs.length = m ∧ ∀ C x dx, OwnC K mg c C → H2 x = none → H2 dx = none → dx ≠ x → sp (gV (.ref x :: vs) zs) (upd (upd H2 dx (.own x)) x (.ins C dx [])) (fun v H3 => v = .non ∧ Q (.ref x) H3) (fun cls d H' => W cls d σ H')) : tMkC K mg c n m sp gV W t tk σ H Q := q
theorem g_propC (q : ta σ H fun x H1 => ∃ a C dx fs, x = .ref a ∧ XN K c (.ref C) ∧ H1 a = some (.ins C dx fs) ∧ sp [.ref a] H1 Q E0) : tPropC K c sp ta σ H Q := q
theorem g_ins (h : H a = some (.ins C dx fs)) (x : XN K c (.ref C)) (q : sp [.ref a] H Q E0) : ∃ a' C' dx' fs', V.ref a = .ref a' ∧ XN K c (.ref C') ∧ H a' = some (.ins C' dx' fs') ∧ sp [.ref a'] H Q E0 := ⟨_, _, _, _, rfl, x, h, q⟩
theorem g_fldT (q : ta σ H fun x H1 => ∃ a C dx fs v, x = .ref a ∧ H1 a = some (.ins C dx fs) ∧ Cls K C ∧ NoAttr K C f ∧ fs.lookup f = some v ∧ Q v H1) : tFld K ta f σ H Q := q
theorem g_fldA (h : H a = some (.ins C dx fs)) (cl : Cls K C) (na : NoAttr K C f) (l : fs.lookup f = some v) (q : Q v H) : ∃ a' C' dx' fs' v', V.ref a = .ref a' ∧ H a' = some (.ins C' dx' fs') ∧ Cls K C' ∧ NoAttr K C' f ∧ fs'.lookup f = some v' ∧ Q v' H := ⟨_, _, _, _, _, rfl, h, cl, na, l, q⟩
theorem g_sfldT (q : tv σ H fun y H1 => ta σ H1 fun x H2 => ∃ a C dx fs, x = .ref a ∧ H2 a = some (.ins C dx fs) ∧ Cls K C ∧ NoAttr K C f ∧ fs.length < 1000 ∧ D.nx σ (upd H2 a (.ins C dx (putF f y fs)))) : sFld K ta tv f D σ H := q
theorem g_sfldA {P : Hp → Prop} (h : H a = some (.ins C dx fs)) (cl : Cls K C) (na : NoAttr K C f) (l : fs.length < 1000) (q : P (upd H a (.ins C dx (putF f v fs)))) : ∃ a' C' dx' fs', V.ref a = .ref a' ∧ H a' = some (.ins C' dx' fs') ∧ Cls K C' ∧ NoAttr K C' f ∧ fs'.length < 1000 ∧ P (upd H a' (.ins C' dx' (putF f v fs'))) := ⟨_, _, _, _, rfl, h, cl, na, l, q⟩
theorem g_isO {mgx : Str → Option Value} {x : Str} (o : OwnC K mgx x C) (h : H a = some (.ins C dx fs)) (q : Q (.bl true) H) : rIsi K [.ref a, .ref C] H Q := ⟨.ref a, .ref C, .ref C, .ref C, true, rfl, .own C, o.ty h, o.ii, q⟩
theorem g_isOT {mgx : Str → Option Value} {x : Str} {T : String} (o : OwnC K mgx x C) (h : H a = some (.ins C dx fs)) (hT : T ∈ BT) (q : Q (.bl false) H) : rIsi K [.ref a, .ty T] H Q := ⟨.ref a, .ty T, .ref C, .type T, false, rfl, .ty T, o.ty h, (o.bt T hT).2.2, q⟩
theorem g_isTO {mgx : Str → Option Value} {x : Str} {T : String} {y : V} (o : OwnC K mgx x C) (ty : TyX K H y (.type T)) (hT : T ∈ BT) (q : Q (.bl false) H) : rIsi K [y, .ref C] H Q := ⟨y, .ref C, .type T, .ref C, false, rfl, .own C, ty, (o.bt T hT).1, q⟩
end
/-! rules within a comprehension or a lambda -/
theorem opO {X : Cx} {P : Program} {w : World} {K : PySem.W.Frag} {mg : Str → Option Value} {base : Heap} {f : Value → Value → Sem Value} {j : Nat} {neg : Bool} (h1 : X.prog = P) (h2 : X.w = w) (h3 : X.K = K) (h4 : X.mg = mg) (h5 : X.base = base) (o : OpR X f (rEqO X.prog X.w X.K X.mg X.base j neg)) : OpR X f (rEqO P w K mg base j neg) := by
  subst h1 h2 h3 h4 h5
  exact o
theorem mkK {X : Cx} {K : PySem.W.Frag} {mg : Str → Option Value} {e : Expr} {c : Str} {n m : Nat} {sp : Sp} {gV : List V → List V → List V} {W : WX} {t tk : TA} (h3 : X.K = K) (h4 : X.mg = mg) (o : PE X e (tMkC X.K X.mg c n m sp gV W t tk)) : PE X e (tMkC K mg c n m sp gV W t tk) := by
  subst h3 h4
  exact o
theorem propK {X : Cx} {K : PySem.W.Frag} {e : Expr} {c : Str} {sp : Sp} {ta : TE} (h3 : X.K = K) (o : PE X e (tPropC X.K c sp ta)) : PE X e (tPropC K c sp ta) := by
  subst h3
  exact o
/-- the j-th statement of a class -/
def clsAt (st : Stmt) (j : Nat) : Stmt := match st with
  | .ClassDef _ _ _ body _ _ _ _ _ _ _ => body.getD j (.Pass ⟨0, 0, 0, 0⟩)
  | _ => .Pass ⟨0, 0, 0, 0⟩
end Hf
namespace Hf
open PySem L2 PySem.Spec PyProof.Rows
/-! ### a for over known items, turn by turn -/
def unr (St : Hp → Prop) (g : TG) (tb : TS) (D : Ends) : List V → L2.St → Hp → Prop
  | [], σ, H => D.nx σ H
  | x :: xs, σ, H => g x σ H fun σ2 H2 => tb { D with nx := fun σ3 H3 => St H3 ∧ unr St g tb D xs σ3 H3, ct := fun σ3 H3 => St H3 ∧ unr St g tb D xs σ3 H3, bk := D.nx } σ2 H2
section
variable {K : PySem.W.Frag} {St : Hp → Prop} {g : TG} {tb : TS} {D : Ends} {σ : L2.St} {H : Hp} {a : Addr} {xs : List V} {te : TE} {x : V}
theorem unr_T (h : SqT K H a xs) (q : unr (fun H => SqT K H a xs) g tb D xs σ H) : (∃ xs, SqT K H a xs) ∧ ∃ W : Nat → Nat → L2.St → Hp → Prop, (∃ m, W 0 m σ H) ∧ ∀ i m σ H, W i m σ H →
      ((Itt K a).stop i H ∧ D.nx σ H) ∨ ((Itt K a).go i H ∧ ∃ N : L2.St → Hp → Prop, (∀ σ' H', N σ' H' → ∃ m', m' < m ∧ W (i + 1) m' σ' H') ∧ ∀ x H', (Itt K a).yld i H x H' → g x σ H' fun σ2 H2 => tb { D with nx := N, ct := N, bk := D.nx } σ2 H2) := by
  refine ⟨⟨xs, h⟩, for_tup (fun i σ' H' => SqT K H' a xs ∧ unr (fun H => SqT K H a xs) g tb D (xs.drop i) σ' H') ⟨h, q⟩ (fun i σ' H' _ p => p.1) ?_ ?_⟩
  · rintro i x σ' H' hx ⟨_, p⟩
    obtain ⟨hi, e⟩ := List.getElem?_eq_some_iff.mp hx
    rw [List.drop_eq_getElem_cons hi, e] at p
    exact p
  · rintro σ' H' ⟨_, p⟩
    rw [List.drop_length] at p
    exact p
theorem unr_L (h : SqL K H a xs) (q : unr (fun H => SqL K H a xs) g tb D xs σ H) : (∃ xs, SqL K H a xs) ∧ ∃ W : Nat → Nat → L2.St → Hp → Prop, (∃ m, W 0 m σ H) ∧ ∀ i m σ H, W i m σ H →
      ((Itl K a).stop i H ∧ D.nx σ H) ∨ ((Itl K a).go i H ∧ ∃ N : L2.St → Hp → Prop, (∀ σ' H', N σ' H' → ∃ m', m' < m ∧ W (i + 1) m' σ' H') ∧ ∀ x H', (Itl K a).yld i H x H' → g x σ H' fun σ2 H2 => tb { D with nx := N, ct := N, bk := D.nx } σ2 H2) := by
  refine ⟨⟨xs, h⟩, for_it walk_list (fun i σ' H' => SqL K H' a xs ∧ unr (fun H => SqL K H a xs) g tb D (xs.drop i) σ' H') ⟨h, q⟩ (fun i σ' H' _ p => p.1) ?_ ?_⟩
  · rintro i x σ' H1 H' hi ⟨_, p⟩ ⟨rfl, hx⟩
    obtain ⟨hi, e⟩ := List.getElem?_eq_some_iff.mp hx
    rw [List.drop_eq_getElem_cons hi, e] at p
    exact p
  · rintro σ' H' ⟨_, p⟩
    rw [List.drop_length] at p
    exact p
theorem g_forT0 (q : te σ H fun v H1 => ∃ a, v = V.ref a ∧ (∃ xs, SqT K H1 a xs) ∧ ∃ W : Nat → Nat → L2.St → Hp → Prop, (∃ m, W 0 m σ H1) ∧ ∀ i m σ H, W i m σ H →
      ((Itt K a).stop i H ∧ D.nx σ H) ∨ ((Itt K a).go i H ∧ ∃ N : L2.St → Hp → Prop, (∀ σ' H', N σ' H' → ∃ m', m' < m ∧ W (i + 1) m' σ' H') ∧ ∀ x H', (Itt K a).yld i H x H' → g x σ H' fun σ2 H2 => tb { D with nx := N, ct := N, bk := D.nx } σ2 H2)) : tFor (iTup K te) g tb D σ H := q
theorem g_unT (h : SqT K H a xs) (q : unr (fun H => SqT K H a xs) g tb D xs σ H) : ∃ a', V.ref a = V.ref a' ∧ (∃ xs, SqT K H a' xs) ∧ ∃ W : Nat → Nat → L2.St → Hp → Prop, (∃ m, W 0 m σ H) ∧ ∀ i m σ H, W i m σ H →
      ((Itt K a').stop i H ∧ D.nx σ H) ∨ ((Itt K a').go i H ∧ ∃ N : L2.St → Hp → Prop, (∀ σ' H', N σ' H' → ∃ m', m' < m ∧ W (i + 1) m' σ' H') ∧ ∀ x H', (Itt K a').yld i H x H' → g x σ H' fun σ2 H2 => tb { D with nx := N, ct := N, bk := D.nx } σ2 H2) := ⟨a, rfl, unr_T h q⟩
theorem g_unL (h : SqL K H a xs) (q : unr (fun H => SqL K H a xs) g tb D xs σ H) : ∃ a', V.ref a = V.ref a' ∧ (∃ xs, SqL K H a' xs) ∧ ∃ W : Nat → Nat → L2.St → Hp → Prop, (∃ m, W 0 m σ H) ∧ ∀ i m σ H, W i m σ H →
      ((Itl K a').stop i H ∧ D.nx σ H) ∨ ((Itl K a').go i H ∧ ∃ N : L2.St → Hp → Prop, (∀ σ' H', N σ' H' → ∃ m', m' < m ∧ W (i + 1) m' σ' H') ∧ ∀ x H', (Itl K a').yld i H x H' → g x σ H' fun σ2 H2 => tb { D with nx := N, ct := N, bk := D.nx } σ2 H2) := ⟨a, rfl, unr_L h q⟩
theorem g_unC (q : g x σ H fun σ2 H2 => tb { D with nx := fun σ3 H3 => St H3 ∧ unr St g tb D xs σ3 H3, ct := fun σ3 H3 => St H3 ∧ unr St g tb D xs σ3 H3, bk := D.nx } σ2 H2) : unr St g tb D (x :: xs) σ H := q
theorem g_unN (q : D.nx σ H) : unr St g tb D [] σ H := q
theorem g_unK {P : Prop} (h : St H) (q : P) : St H ∧ P := ⟨h, q⟩
theorem g_unKT {ys : List V} (h : SqT K H a xs) (q : unr St g tb D ys σ H) : SqT K H a xs ∧ unr St g tb D ys σ H := ⟨h, q⟩
theorem g_unKL {ys : List V} (h : SqL K H a xs) (q : unr St g tb D ys σ H) : SqL K H a xs ∧ unr St g tb D ys σ H := ⟨h, q⟩
end
end Hf
namespace Hf
open PySem L2 PySem.Spec PyProof.Rows
/-! ### a tuple or a list unpacked -/
def gSeq (K : PySem.W.Frag) (n : Nat) (t : TGs) : TG := fun v σ H Q => gTup K n t v σ H Q ∨ gUnl K n t v σ H Q
theorem pg_seq {X : Cx} {es : List Expr} {k : Nat} {t : TGs} {n : Nat} {pos : Pos} (hc : X.calm = true) (h : PGs X es t)
    (hn : (assignEach es X.env).length = n := by rfl) (hst : (assignEach es X.env).findIdx? (·.1) = none := by rfl) : PG X (.Tuple es k pos) (gSeq X.K n t) :=
  ⟨fun pins s σ H v u Q I r hw => hw.elim (fun q => (pg_tup (pos := pos) (k := k) hc h hn hst).run pins s σ H v u Q I r q) (fun q => (pg_unl (pos := pos) (k := k) hc h hn hst).run pins s σ H v u Q I r q)⟩
section
variable {K : PySem.W.Frag} {σ : L2.St} {H : Hp} {Q : L2.St → Hp → Prop} {a : Addr} {xs : List V} {n : Nat} {t : TGs}
theorem g_seqT (h : SqT K H a xs) (hl : xs.length = n) (q : t xs σ H Q) : gSeq K n t (.ref a) σ H Q := .inl ⟨a, xs, rfl, h, hl, q⟩
theorem g_seqL (h : SqL K H a xs) (hl : xs.length = n) (q : t xs σ H Q) : gSeq K n t (.ref a) σ H Q := .inr ⟨a, xs, rfl, h, hl, q⟩
theorem g_argsC {m : Nat} {vs zs : List V} {mg : Str → Option Value} {c : Str} {H : Hp} {P : Addr → Addr → Addr → Prop} (h1 : vs.length = n) (h2 : zs.length = m) (q : ∀ C x dx, OwnC K mg c C → H x = none → H dx = none → dx ≠ x → P C x dx) :
    vs.length = n ∧ zs.length = m ∧ ∀ C x dx, OwnC K mg c C → H x = none → H dx = none → dx ≠ x → P C x dx := ⟨h1, h2, q⟩
/-- nothing of H is lost by a new instance and its dict -/
theorem Same.ins {H0 H : Hp} {x dx : Addr} {o u : HO} (hx : H x = none) (hd : H dx = none) (s : Same H0 H) : Same H0 (L2.upd (L2.upd H dx o) x u) := fun b v z => by
  have q := s b v z
  rw [upd_ne (ne_of_none q hx), upd_ne (ne_of_none q hd)]
  exact q
end
end Hf
namespace Hf
open PySem L2 PySem.Spec PyProof.Rows
section
variable {K : PySem.W.Frag} {H : Hp} {Q : VK} {a b : Addr} {xs ys : List V} {x y : V}
/-- tuple + tuple, neither of them empty -/
theorem g_catT (h1 : SqT K H a (x :: xs)) (h2 : SqT K H b (y :: ys)) (hz : (x :: xs).length + (y :: ys).length ≤ 100000) (q : ∀ p, H p = none → Q (.ref p) (upd H p (.tup (x :: xs ++ y :: ys)))) : rAddA K (.ref a) (.ref b) H Q :=
  .inr (.inr (.inr ⟨a, b, _, _, rfl, rfl, h1, h2, Nat.le_trans hz (by decide), (fun h => nomatch h), (fun _ h => nomatch h), fun _ _ => q⟩))
theorem g_lstOfL (h : SqL K H a xs) (q : ∀ l, H l = none → Q (.ref l) (upd H l (.lst xs))) : ∃ p ys, [V.ref a] = [V.ref p] ∧ (SqL K H p ys ∨ SqT K H p ys) ∧ ∀ l, H l = none → Q (.ref l) (upd H l (.lst ys)) := ⟨a, xs, rfl, .inl h, q⟩
theorem g_lstOfT (h : SqT K H a xs) (q : ∀ l, H l = none → Q (.ref l) (upd H l (.lst xs))) : ∃ p ys, [V.ref a] = [V.ref p] ∧ (SqL K H p ys ∨ SqT K H p ys) ∧ ∀ l, H l = none → Q (.ref l) (upd H l (.lst ys)) := ⟨a, xs, rfl, .inr h, q⟩
end
theorem eqv_ints : ∀ ns ms : List Int, PyData.eqvAll (ns.map PyData.int) (ms.map PyData.int) = decide (ns = ms)
  | [], [] => rfl
  | [], _ :: _ => by simp [PyData.eqvAll]
  | _ :: _, [] => by simp [PyData.eqvAll]
  | n :: ns, m :: ms => by
    rw [List.map_cons, List.map_cons, PyData.eqvAll, eqv_ints ns ms]
    have e : PyData.eqv (.int n) (.int m) = (n == m) := by rw [PyData.eqv]
    rw [e]
    by_cases h : n = m <;> simp [h]
end Hf

set_option Elab.async false
set_option linter.all false
set_option maxRecDepth 100000
set_option maxHeartbeats 4000000
namespace Hf
open PySem L2 PySem.Spec PyProof.Rows
/-! ### methods of own classes, called by name with keywords; they may raise -/
theorem kbindsN {K : PySem.W.Frag} {x qual : Str} {params : Arguments} {body : List Stmt} {scope : Scope} {kws : List (Str × V)} {f : Addr} {fd : FuncData} {ps : List Str} (F : FunD K x qual params body scope [] kws f fd) (n : Nat) (ks : List Str) (g : {α : Type} → List α → List α → List α)
    (hrel : ∀ {vs zs : List V} {us ws : List Value}, Vals vs us → Vals zs ws → Vals (g vs zs) (g us ws))
    (h : ∀ (kV doc pm : Value) (an : Option Addr) (cdv ct : Value) (us ws : List Value), us.length = n → ws.length = ks.length → bindArgs (PySem.W.fnOf x qual params body scope .none kV doc pm an cdv ct) ⟨us, ks.zip ws⟩ = pure (ps.zip (g us ws))) :
    KBn K fd ps n ks (fun us ws => g us ws) (fun vs zs => g vs zs) := by
  obtain ⟨oc, od, dV, kV, doc, pm, an, cdv, ct, osl, rfl, lk, hcd, hD, hK⟩ := F.ex
  rcases hD with ⟨_, rfl⟩ | ⟨e, _⟩
  · exact ⟨fun s us ws X l1 l2 => .of_eq (h kV doc pm an cdv ct us ws l1 l2), fun r1 r2 => hrel r1 r2⟩
  · exact absurd rfl e
def tMethC (K : PySem.W.Frag) (c m : Str) (n k : Nat) (sp : Sp) (gV : List V → List V → List V) (W : WX) (ta : TE) (t tk : TA) : TE := fun σ H Q => ta σ H fun x H1 => ∃ a C dx fs, x = .ref a ∧ XN K c (.ref C) ∧ H1 a = some (.ins C dx fs) ∧ fs.lookup m = none ∧
  t σ H1 fun vs H2 => tk σ H2 fun zs H3 => vs.length = n ∧ zs.length = k ∧ sp (gV (.ref a :: vs) zs) H3 Q (fun cls d H' => W cls d σ H')
section
variable {X : Cx} {k j n : Nat} {c m qual : Str} {st : Stmt} {ps ks : List Str} {dvs mz : List V} {kw : List (Str × V)} {sp : Sp} {apos pos : Pos} {oe e : Expr} {es : List Expr} {kws : List Keyword} {t tk : TA} {ta : TE} {W : WX} {g : {α : Type} → List α → List α → List α → List α → List α} {pl : Sem Bool}
theorem pe_methC (he : PE X oe ta) (o : ∃ C, OwnC X.K X.mg c C) (tw : Takes X W) (D : DfM X.prog X.w X.K X.mg X.base (L2.CX X.prog X.w) k c m qual st ps dvs kw sp) (hr : RG j X.A) (hj : k ≤ j)
    (kb : ∀ f fd, FunD X.K m qual (defArgs st) (defBody st) (defScope st) dvs kw f fd → ∃ its mv : List Value, KBn X.K fd ps (n + 1) ks (fun us ws => g us its mv ws) (fun vs zs => g vs dvs mz zs))
    (ha : PA X (e :: es) t) (hkw : PK X kws tk) (hall : (backToKw pos (keywordEach kws X.env)).all (·.1.isSome) = true := by rfl) (hks : (backToKw pos (keywordEach kws X.env)).filterMap (·.1) = ks := by rfl)
    (hst : starEach (e :: es) X.env = (false, eval e X.env) :: starEach es X.env := by rfl)
    (hpl : ((backTo pos (starEach (e :: es) X.env)).any (·.1) || (backToKw pos (keywordEach kws X.env)).any (·.1.isNone)) = false := by rfl)
    (ht : eval (.Call (.Attribute oe m apos) (e :: es) kws pos) X.env = (do
      let ov ← eval oe X.env
      standAt apos.atName
      let (f, first) ← holding [ov] (getMethod ov m pl)
      callWith pos f first (backTo pos (starEach (e :: es) X.env)) (backToKw pos (keywordEach kws X.env))) := by rfl) :
    PE X (.Call (.Attribute oe m apos) (e :: es) kws pos) (tMethC X.K c m n ks.length sp (fun vs zs => g vs dvs mz zs) W ta t tk) := by
  obtain ⟨C, o⟩ := o
  obtain ⟨f, fd, h1, h2, FD, F⟩ := D.ex C o.xn
  obtain ⟨its, mv, hb⟩ := kb f fd FD
  refine ⟨fun pins s σ H Q I h => ?_⟩
  refine PySem.W.methodCall_KW (pl := pl) (thn (he.run pins s σ H _ I h) fun u s1 ⟨x, H1, I1, rx, a, C', dx, fs, ex, xc, ea, l, q⟩ => ?_) ht
  subst ex
  obtain rfl : u = Value.ref a := rx
  obtain rfl := Value.ref.inj (XN.inj xc o.xn)
  refine getmeth_ok I1 ea o.cl ⟨h1, h2, FD.kp⟩ l ?_
  refine PySem.W.callWith_KW (first := [.ref a]) (h₀ := X.base) I.ok.mod.kin FD.kp hall (thn (ha.run pos pins s1 σ H1 _ I1 q) fun us s2 ⟨vs, H2, I2, r, q2⟩ => ?_) hpl hst
  refine thn (hkw.run pos pins s2 σ H2 _ I2 q2) fun ws s3 ⟨zs, H3, I3, rz, l1, l2, q3⟩ => ⟨I3.kIn, ?_⟩
  rw [hks]
  have r1 : Vals (V.ref a :: vs) (Value.ref a :: us) := .cons rfl r
  refine wpAny_call (codeAny_mono (F.go X.A X.stack s3 H3 ⟨Value.ref a :: us, ks.zip ws⟩ (g (Value.ref a :: us) its mv ws) _ _ _ (hr.mono hj) I3.env0 (hb.to s3 (Value.ref a :: us) ws I3.kIn (r1.length.symm.trans (congrArg Nat.succ l1)) (rz.length.symm.trans l2)) (hb.rel r1 rz) q3) fun r s' hq => ?_)
  cases r with
  | error e => exact tw _ _ (XE.of_call I3 (fun cls d H' h => h) hq)
  | ok fl =>
    cases fl with
    | ret u =>
      obtain ⟨v, H', I4, rv, q4⟩ := I3.after hq
      exact ⟨v, H', I4, rv, q4⟩
    | next => exact False.elim hq
    | brk => exact False.elim hq
    | cont => exact False.elim hq
theorem pe_methC0 (he : PE X oe ta) (o : ∃ C, OwnC X.K X.mg c C) (tw : Takes X W) (D : DfM X.prog X.w X.K X.mg X.base (L2.CX X.prog X.w) k c m qual st ps dvs kw sp) (hr : RG j X.A) (hj : k ≤ j)
    (kb : ∀ f fd, FunD X.K m qual (defArgs st) (defBody st) (defScope st) dvs kw f fd → ∃ its mv : List Value, KBn X.K fd ps 1 ks (fun us ws => g us its mv ws) (fun vs zs => g vs dvs mz zs))
    (hkw : PK X kws tk) (hall : (backToKw pos (keywordEach kws X.env)).all (·.1.isSome) = true := by rfl) (hks : (backToKw pos (keywordEach kws X.env)).filterMap (·.1) = ks := by rfl)
    (hpl : ((backTo pos (starEach [] X.env)).any (·.1) || (backToKw pos (keywordEach kws X.env)).any (·.1.isNone)) = false := by rfl)
    (ht : eval (.Call (.Attribute oe m apos) [] kws pos) X.env = (do
      let ov ← eval oe X.env
      standAt apos.atName
      let (f, first) ← holding [ov] (getMethod ov m pl)
      callWith pos f first (backTo pos (starEach [] X.env)) (backToKw pos (keywordEach kws X.env))) := by rfl) :
    PE X (.Call (.Attribute oe m apos) [] kws pos) (tMethC X.K c m 0 ks.length sp (fun vs zs => g vs dvs mz zs) W ta tNil tk) := by
  obtain ⟨C, o⟩ := o
  obtain ⟨f, fd, h1, h2, FD, F⟩ := D.ex C o.xn
  obtain ⟨its, mv, hb⟩ := kb f fd FD
  refine ⟨fun pins s σ H Q I h => ?_⟩
  refine PySem.W.methodCall_KW (pl := pl) (thn (he.run pins s σ H _ I h) fun u s1 ⟨x, H1, I1, rx, a, C', dx, fs, ex, xc, ea, l, q⟩ => ?_) ht
  subst ex
  obtain rfl : u = Value.ref a := rx
  obtain rfl := Value.ref.inj (XN.inj xc o.xn)
  refine getmeth_ok I1 ea o.cl ⟨h1, h2, FD.kp⟩ l ?_
  refine PySem.W.callWith_KW0 (first := [.ref a]) (h₀ := X.base) I.ok.mod.kin FD.kp hall ?_ hpl
  refine thn (hkw.run pos pins s1 σ H1 _ I1 q) fun ws s3 ⟨zs, H3, I3, rz, l1, l2, q3⟩ => ⟨I3.kIn, ?_⟩
  rw [hks]
  have r1 : Vals [V.ref a] [Value.ref a] := .cons rfl .nil
  refine wpAny_call (codeAny_mono (F.go X.A X.stack s3 H3 ⟨[Value.ref a], ks.zip ws⟩ (g [Value.ref a] its mv ws) _ _ _ (hr.mono hj) I3.env0 (hb.to s3 [Value.ref a] ws I3.kIn rfl (rz.length.symm.trans l2)) (hb.rel r1 rz) q3) fun r s' hq => ?_)
  cases r with
  | error e => exact tw _ _ (XE.of_call I3 (fun cls d H' h => h) hq)
  | ok fl =>
    cases fl with
    | ret u =>
      obtain ⟨v, H', I4, rv, q4⟩ := I3.after hq
      exact ⟨v, H', I4, rv, q4⟩
    | next => exact False.elim hq
    | brk => exact False.elim hq
    | cont => exact False.elim hq
theorem methK {K : PySem.W.Frag} {l : Nat} {gV : List V → List V → List V} {e : Expr} (h3 : X.K = K) (o : PE X e (tMethC X.K c m n l sp gV W ta t tk)) : PE X e (tMethC K c m n l sp gV W ta t tk) := by
  subst h3
  exact o
end
end Hf
namespace Hf
open PySem L2 PySem.Spec PyProof.Rows PySem.Calls
/-! ### operators of own classes -/
/-- what the text says of an own operator and of the types at its right hand -/
structure BinF (K : PySem.W.Frag) (C : Addr) (nm : String) : Prop where
  sf : PySem.W.selfFirst K C = true
  rc : PySem.W.findIn K (.ref C) (dunderR nm) = some none
  bt : ∀ T ∈ BT, (∃ fo, PySem.W.findIn K (.type T) (PySem.dunder nm) = some fo) ∧ (∃ ro, PySem.W.findIn K (.type T) (dunderR nm) = some ro) ∧ PySem.W.subIn K (.type T) (.ref C) = some false
section
variable {prog : Program} {w : World} {A : Around} {E : Value → Shared → Prop} {s : Shared} {K : PySem.W.Frag} {x C L f : Addr} {h₀ : Heap} {m : Str → Option Value} {ox : Obj} {od : Option Obj} {nm T : String}
open PySem.W in
/-- own x op b, b of a built-in type whose look says so -/
theorem bin_builtin {op : Operator} {b : Value} {fo ro : Option Value} {Q : Value → Shared → Prop} (F : Fr h₀ L s.heap m) (X₀ : K.In h₀) (I : InstAt s.heap x ox C od) (hb : Looks (model prog w) s.heap (typeOf b) (.type T)) (hc : selfFirst K C = true)
    (hs : findIn K (.ref C) (PySem.dunder op.info.2) = some (some (.ref f))) (hf : isFn K (.ref f) = true) (hr : findIn K (.ref C) (dunderR op.info.2) = some none)
    (h1 : findIn K (.type T) (PySem.dunder op.info.2) = some fo) (h2 : findIn K (.type T) (dunderR op.info.2) = some ro) (hsub : subIn K (.type T) (.ref C) = some false)
    (h : wpAny (model prog w) A (call (.ref f) [.ref x, b]) (PySem.W.CmpBack Q) E s) : wpAny (model prog w) A (binaryOp op (.ref x) b) Q E s := by
  have XX := X₀.keeps F.keep
  obtain ⟨cd, rest, e1, e2⟩ := ksp_first hc
  rcases hi : op.info with ⟨sy, n2⟩
  rw [hi] at hs hr h1 h2; dsimp only at hs hr h1 h2
  have tr := ksp_try XX I hs hf h
  obtain ⟨hp, gg, dd, tk, oo⟩ := s
  have Ta : Looks (model prog w) hp (typeOf (.ref x)) (.ref C) := I.type
  have Tb : Looks (model prog w) hp (typeOf b) (.type T) := hb
  have Fa : Looks (model prog w) hp (fillsNumberSlot (.ref C) n2) true := fills_K XX e1 e2 hs
  have Fb := ksp_fillsT (M := model prog w) XX h1 h2
  have Su := looks_subIn (M := model prog w) XX hsub
  have Pa : Looks (model prog w) hp (numberSlotInPython (.ref C) n2) true := ksp_inPy XX hs hr (.inl rfl)
  have Pb : Looks (model prog w) hp (numberSlotInPython (.type T) n2) false := .of_pure rfl
  have Ro := looks_findIn (M := model prog w) XX h2
  generalize ((fo.isSome && !isSeqSlot fo) || (ro.isSome && !isSeqSlot ro)) = bothways at Fb
  have dif : (Value.ref C == Value.type T) = false := Bool.eq_false_iff.mpr fun z => by cases beq_iff_eq.mp z
  simp only [binaryOp, hi]
  refine wpAny_holding (wpAny_bind ?_)
  unfold binaryOp1
  refine wpAny_bind (Ta.at (wpAny_bind (Tb.at (wpAny_bind (Fa.at ?_)))))
  simp only [dif, Bool.false_eq_true, if_false]
  cases bothways
  all_goals
    ksp_lk
    refine wpAny_mono tr (fun v1 s1 z => ?_) fun _ _ z => z
    obtain ⟨v, rfl, q⟩ := z
    ksp_lk
    exact q
end
end Hf
namespace Hf
open PySem L2 PySem.Spec PyProof.Rows
/-- x op y for an instance x of the class c, y of its class or of a built-in type -/
def rBinC (K : PySem.W.Frag) (c : Str) (sp : Sp) (EX : XK) : R2 := fun x y H Q => ∃ a C dx fs t, x = .ref a ∧ XN K c (.ref C) ∧ H a = some (.ins C dx fs) ∧ TyX K H y t ∧ (t = .ref C ∨ ∃ T ∈ BT, t = .type T) ∧ sp [.ref a, y] H Q EX
section
variable {X : Cx} {k j : Nat} {c m qual : Str} {st : Stmt} {p2 : Str} {sp : Sp} {EX : XK} {op : Operator} {nm : String}
theorem op_binC (o : ∃ C, OwnC X.K X.mg c C) (B : ∀ C, XN X.K c (.ref C) → BinF X.K C nm) (tw : Takes X (fun cls d _ H' => EX cls d H')) (D : DfM X.prog X.w X.K X.mg X.base (L2.CX X.prog X.w) k c m qual st [("self" : Str), p2] [] [] sp) (hr : RG j X.A) (hj : k ≤ j) (hn : op.info.2 = nm) (hm : PySem.dunder nm = m)
    (hb : ∀ (kV doc pm : Value) (an : Option Addr) (cdv ct : Value) (us : List Value), us.length = ([("self" : Str), p2] : List Str).length → bindArgs (PySem.W.fnOf m qual (defArgs st) (defBody st) (defScope st) .none kV doc pm an cdv ct) ⟨us, []⟩ = pure ([("self" : Str), p2].zip us)) :
    OpR X (binaryOp op) (rBinC X.K c sp EX) := by
  obtain ⟨C, o⟩ := o
  obtain ⟨f, fd, h1, h2, FD, F⟩ := D.ex C o.xn
  have B := B C o.xn
  subst hn hm
  intro pins s σ H x y v u Q I rx ry hq
  obtain ⟨a, C', dx, fs, t, rfl, xc, ha, ty, ht, q⟩ := hq
  obtain rfl := Value.ref.inj (XN.inj xc o.xn)
  cases rx
  obtain ⟨mA, O, _⟩ := ins_get I.hok ha
  obtain ⟨od, J, _⟩ := O.look
  obtain ⟨mm, hF⟩ := I.fr
  obtain ⟨P, Z, p, _⟩ := kit_of I ry ty
  have body : wpAny (model X.prog X.w) X.A (call (.ref f) [.ref a, u]) (PySem.W.CmpBack (EP X pins σ Q)) X.xe s := by
    refine wpAny_call (codeAny_mono (F.go X.A X.stack s H ⟨[.ref a, u], []⟩ [.ref a, u] [.ref a, y] Q EX (hr.mono hj) I.env0 (FD.bindsA (ps := [("self" : Str), p2]) hb s [_, u] rfl) (.cons rfl (.cons ry .nil)) q) fun r s' hq' => ?_)
    cases r with
    | error e => exact tw _ _ (XE.of_call I (fun cls d H' h => h) hq')
    | ok fl =>
      cases fl with
      | ret w =>
        obtain ⟨z, H', I', rz, q'⟩ := I.after hq'
        exact SlX.cmpback rz ⟨z, H', I', rz, q'⟩
      | next => exact False.elim hq'
      | brk => exact False.elim hq'
      | cont => exact False.elim hq'
  rcases ht with rfl | ⟨T, hT, rfl⟩
  · exact PySem.W.binop_K hF I.ok.mod.kin J (Z.ty _ _ I.kIn p) B.sf h1 h2 body
  · obtain ⟨⟨fo, b1⟩, ⟨ro, b2⟩, b3⟩ := B.bt T hT
    exact bin_builtin hF I.ok.mod.kin J (Z.ty _ _ I.kIn p) B.sf h1 h2 B.rc b1 b2 b3 body
end
section
variable {K : PySem.W.Frag} {H : Hp} {Q : VK} {c : Str} {sp : Sp} {EX : XK} {a C dx : Addr} {fs : List (Str × V)} {x y : V}
theorem g_binC {mgx : Str → Option Value} (o : OwnC K mgx c C) (h : H a = some (.ins C dx fs)) (ty : (∃ C2 b dy gs, y = .ref b ∧ H b = some (.ins C2 dy gs) ∧ C2 = C) ∨ (∃ T, TyX K H y (.type T) ∧ T ∈ BT)) (q : sp [.ref a, y] H Q EX) : rBinC K c sp EX (.ref a) y H Q := by
  rcases ty with ⟨C2, b, dy, gs, rfl, hb, rfl⟩ | ⟨T, t, hT⟩
  · exact ⟨a, C2, dx, fs, _, rfl, o.xn, h, o.ty hb, .inl rfl, q⟩
  · exact ⟨a, C, dx, fs, _, rfl, o.xn, h, t, .inr ⟨T, hT, rfl⟩, q⟩
theorem g_methC {σ : L2.St} {m : Str} {n k : Nat} {gV : List V → List V → List V} {W : WX} {ta : TE} {t tk : TA} (q : ta σ H fun x H1 => ∃ a C dx fs, x = .ref a ∧ XN K c (.ref C) ∧ H1 a = some (.ins C dx fs) ∧ fs.lookup m = none ∧
  t σ H1 fun vs H2 => tk σ H2 fun zs H3 => vs.length = n ∧ zs.length = k ∧ sp (gV (.ref a :: vs) zs) H3 Q (fun cls d H' => W cls d σ H')) : tMethC K c m n k sp gV W ta t tk σ H Q := q
theorem g_insM {m : Str} {P : Addr → Prop} (h : H a = some (.ins C dx fs)) (x : XN K c (.ref C)) (l : fs.lookup m = none) (q : P a) : ∃ a' C' dx' fs', V.ref a = .ref a' ∧ XN K c (.ref C') ∧ H a' = some (.ins C' dx' fs') ∧ fs'.lookup m = none ∧ P a' := ⟨_, _, _, _, rfl, x, h, l, q⟩
theorem binK {X : Cx} {f : Value → Value → Sem Value} (h3 : X.K = K) (o : OpR X f (rBinC X.K c sp EX)) : OpR X f (rBinC K c sp EX) := by
  subst h3
  exact o
end
end Hf
namespace Hf
open PySem L2 PySem.Spec PyProof.Rows
def rDivW : R2 := rI CDivW fun i j => .int (i / j)
theorem op_divW {X : Cx} : OpR X (binaryOp .FloorDiv) rDivW := op_fdivW
theorem g_divW {H : Hp} {Q : VK} {i j : Int} (h : 0 < j) (k : j < 4611686018427387904) (q : Q (.int (i / j)) H) : rDivW (.int i) (.int j) H Q := ⟨i, j, rfl, rfl, wide_div (b := 62) h (by show j.natAbs < 4611686018427387904; omega) (by decide) (by decide), q⟩
end Hf
namespace Hf
open PySem L2 PySem.Spec PyProof.Rows
/-! ### a thing compared with itself -/
def DSame : Eqv := fun x y _ => ∃ a, x = .ref a ∧ y = .ref a
theorem eqG_same {X : Cx} : EqG X 0 DSame := by
  intro A pins s σ H x y u v sb I rx ry d
  obtain ⟨a, rfl, rfl⟩ := d
  cases rx
  cases ry
  unfold eqBool
  refine wpAny_holding ?_
  refine wpAny_ite_split (fun _ => ?_) (fun hn => absurd (beq_self_eq_true _) hn)
  refine wpAny_bind (wpAny_rule ?_)
  refine wpAny_pure ?_
  exact ⟨rfl, H, I, Ext.rfl'⟩
def DS : Eqv := fun x y H => DFlat x y H ∨ DSame x y H
theorem mon_DS : Mon DS := Mon.or mon_flat (fun _ _ _ _ _ d => d)
theorem eqG_DS {X : Cx} : EqG X 0 DS := EqG.or eqG_flat eqG_same
def rEqDict : R2 := fun x y H Q => ∃ a b kvs, x = .ref a ∧ y = .ref b ∧ H a = some (.dK kvs) ∧ H b = some (.dK kvs) ∧ (kvs.map (·.1)).Nodup ∧ (∀ p ∈ kvs, flatB p.2 = true) ∧ Q (.bl true) H
def rSelf (K : PySem.W.Frag) : R2 := fun x y H Q => rEqA K x y H Q ∨ rEqDict x y H Q ∨ rEqG (DList DS) x y H Q ∨ rEqG (DTup K DS) x y H Q
theorem op_self {X : Cx} {j : Nat} (hr : RG j X.A) (hj : 1 ≤ j) : OpR X (compareOp .Eq) (rSelf X.K) :=
  (op_eqA hr).or ((op_eq_dict (by have := hr.rm.units; omega)).or ((op_eqG (rcG_list mon_DS eqG_DS) (hr.mono hj).rm).or (op_eqG (rcG_tup mon_DS eqG_DS) (hr.mono hj).rm)))
theorem selfK {X : Cx} {K : PySem.W.Frag} {f : Value → Value → Sem Value} (h3 : X.K = K) (o : OpR X f (rSelf X.K)) : OpR X f (rSelf K) := by
  subst h3
  exact o
def ItS (x : V) : Prop := (flatV x = true ∧ eqV x x = true) ∨ ∃ b, x = .ref b
theorem prs_self {xs : List V} {H : Hp} (h : ∀ x ∈ xs, ItS x) : Prs DS xs xs H := ⟨rfl, fun i x y h1 h2 => by
  have e := h1.symm.trans h2
  cases e
  rcases h x (List.mem_of_getElem? h1) with ⟨a, b⟩ | ⟨b, rfl⟩
  · exact (Or.inl (show DFlat x x H from ⟨a, a, b⟩) : DFlat x x H ∨ DSame x x H)
  · exact (Or.inr (show DSame (.ref b) (.ref b) H from ⟨b, rfl, rfl⟩) : DFlat (.ref b) (.ref b) H ∨ DSame (.ref b) (.ref b) H)⟩
inductive SelfV (K : PySem.W.Frag) (H : Hp) : V → Prop where
  | non : SelfV K H .non
  | bl (b : Bool) : SelfV K H (.bl b)
  | int (i : Int) : SelfV K H (.int i)
  | str (z : Str) : SelfV K H (.str z)
  | lst (a : Addr) (xs : List V) (h : H a = some (.lst xs)) (i : ∀ x ∈ xs, ItS x) : SelfV K H (.ref a)
  | tup (a : Addr) (xs : List V) (h : H a = some (.tup xs)) (i : ∀ x ∈ xs, ItS x) : SelfV K H (.ref a)
  | dct (a : Addr) (h : H a = some (.dK [])) : SelfV K H (.ref a)
theorem SelfV.ext {K : PySem.W.Frag} {H H1 : Hp} {v : V} (s : SelfV K H v) (e : LamX.ExtN H H1) : SelfV K H1 v := by
  cases s with
  | non => exact .non
  | bl b => exact .bl b
  | int i => exact .int i
  | str z => exact .str z
  | lst a xs h i => exact .lst a xs (ExtN.at_ e h) i
  | tup a xs h i => exact .tup a xs (ExtN.at_ e h) i
  | dct a h => exact .dct a (ExtN.at_ e h)
theorem g_self {K : PySem.W.Frag} {H : Hp} {Q : VK} {v : V} (s : SelfV K H v) (q : ∀ H', Same H H' → Q (.bl true) H') : rSelf K v v H Q := by
  have q0 := q H (Same.refl H)
  cases s with
  | non => exact .inl (.inl ⟨rfl, by rw [decide_eq_true rfl]; exact q0⟩)
  | bl b => exact .inl (.inl ⟨rfl, by rw [decide_eq_true rfl]; exact q0⟩)
  | int i => exact .inl (.inl ⟨rfl, by rw [decide_eq_true rfl]; exact q0⟩)
  | str z => exact .inl (.inl ⟨rfl, by rw [decide_eq_true rfl]; exact q0⟩)
  | lst a xs h i => exact .inr (.inr (.inl ⟨⟨a, a, xs, xs, rfl, rfl, h, h, prs_self i⟩, q⟩))
  | tup a xs h i => exact .inr (.inr (.inr ⟨⟨a, a, xs, xs, rfl, rfl, SqT.of h, SqT.of h, prs_self i⟩, q⟩))
  | dct a h => exact .inr (.inl ⟨a, a, [], rfl, rfl, h, h, List.nodup_nil, (fun _ z => nomatch z), q0⟩)
end Hf

set_option Elab.async false
set_option linter.all false
set_option maxRecDepth 100000
set_option maxHeartbeats 4000000
namespace Hf
open PySem L2 PySem.Spec PyProof.Rows
/-! ### the end: what the program's top has left -/
theorem endG {P : Program} {w : World} {K : PySem.W.Frag} {mg : Str → Option Value} {fa : Addr} {k : Nat} {x y : Str} {st : Stmt} {sp : Sp} (hmg : mg x = some (.ref fa)) (d : ∃ f, mg x = some (.ref f) ∧ ∃ fd, Fun K x x st f fd)
    (hb : ∀ (kV doc pm : Value) (an : Option Addr) (cdv ct u : Value), bindArgs (PySem.W.fnOf x x (defArgs st) (defBody st) (defScope st) .none kV doc pm an cdv ct) ⟨[u], []⟩ = pure [(y, u)])
    (F : ∀ base : Heap, Df P w K mg base k x st [y] sp) :
    ∃ fd : FuncData, (∀ (s : Shared) (u : Value), BindsTo s fd ⟨[u], []⟩ [(y, u)]) ∧ ∀ base : Heap, K.In base → base.Ns mainGlobals mg → FnG P w K mg base CX0 k fa fd [y] sp := by
  obtain ⟨f, hm, fd, U⟩ := d
  have e := hmg.symm.trans hm
  cases e
  refine ⟨fd, fun s u => ?_, fun base _ _ => ?_⟩
  · obtain ⟨oc, od, kV, doc, pm, an, cdv, ct, osl, rfl, lk, hcd⟩ := U.ex
    exact .of_eq (hb kV doc pm an cdv ct u)
  · obtain ⟨f', fd', hm', U', F'⟩ := (F base).ex
    have e' := hmg.symm.trans hm'
    cases e'
    obtain ⟨oc, od, kV, doc, pm, an, cdv, ct, osl, e1, lk, hcd⟩ := U.ex
    obtain ⟨oc', od', kV', doc', pm', an', cdv', ct', osl', e1', lk', hcd'⟩ := U'.ex
    have e2 := lk.symm.trans lk'
    simp only [Option.some.injEq, Obj.mk.injEq, Data.func.injEq] at e2
    rw [e2.2.2.1]
    exact F'
section
variable {K : PySem.W.Frag} {h : Heap} {mg : Str → Option Value}
theorem mkD {x : Str} {st : Stmt} {f : Addr} {oc : Value} {od an : Option Addr} {osl : Array (Option Value)} {kV doc pm cdv ct : Value} (X : K.In h) (G : h.Ns mainGlobals mg) (a : PySem.W.nsIn K mainGlobals x = some (some (.ref f)))
    (l : K.lookup f = some ⟨oc, od, .func (PySem.W.fnOf x x (defArgs st) (defBody st) (defScope st) .none kV doc pm an cdv ct), osl⟩) (c : PySem.W.codeIn K cdv x = true) (k : PySem.W.keepIn K (.ref f) = true) :
    ∃ f, mg x = some (.ref f) ∧ ∃ fd, Fun K x x st f fd := ⟨f, PySem.W.mg_of X G a, _, fun_mk l c k⟩
theorem mkC {x : Str} {v : V} {u : Value} (X : K.In h) (G : h.Ns mainGlobals mg) (a : PySem.W.nsIn K mainGlobals x = some (some u)) (r : RelV v u) : ∃ u, mg x = some u ∧ RelV v u := ⟨_, PySem.W.mg_of X G a, r⟩
theorem mkT {x : Str} {xs : List V} {a : Addr} {od : Option Addr} {its : Array Value} {n : Nat} {sl : Array (Option Value)} (X : K.In h) (G : h.Ns mainGlobals mg) (e : PySem.W.nsIn K mainGlobals x = some (some (.ref a)))
    (l : K.lookup a = some ⟨.type "tuple", od, .seq its n, sl⟩) (z : its.size ≤ sizeLine) (r : Vals xs its.toList) : ∃ a, mg x = some (.ref a) ∧ ∀ H : Hp, SqT K H a xs :=
  ⟨a, PySem.W.mg_of X G e, fun _ => .inr ⟨_, its, n, l, rfl, rfl, z, r⟩⟩
end
end Hf

set_option Elab.async false
set_option linter.all false
set_option maxRecDepth 100000
set_option maxHeartbeats 4000000
namespace Hf
open PySem L2 PySem.Spec PyProof.Rows
open He (ga ma fAd eqO eqO_ok ba refsD frT frT_in frT_none emptyTab emptyTab_eq relB relB_ok relAll relAll_ok cT)
/-! ### the end over a head that the kernel runs: facts by names -/
def refsOf (g : Addr → Option Obj) (a : Addr) : List Addr := match g a with
  | some o => refsD o
  | none => []
/-- what is reached in n steps; only what came last is asked again -/
def asL (g : Addr → Option Obj) : Nat → List Addr → List Addr → List Addr
  | 0, seen, last => seen ++ last
  | n + 1, seen, last => asL g n (seen ++ last) (last.flatMap (refsOf g)).eraseDups
def asH (g : Addr → Option Obj) (n : Nat) : List Addr := asL g n [] [mainGlobals, cStatics]
abbrev FnX : Type := Option (Str × Str × Arguments × FuncBody × Scope × Addr × List Str × Addr)
def fnX (K : PySem.W.Frag) (a : Addr) : FnX := match K.lookup a with
  | some ⟨_, _, .func fd, _⟩ => some (fd.name, fd.qualname, fd.params, fd.body, fd.scope, fd.globals, fd.closure.map (·.1), fd.builtins)
  | _ => none
/-- a function of the text: where it stands, what it is -/
structure FD where
  ad : PySem.W.Frag → Addr
  name : Str
  qual : Str
  params : Arguments
  body : List Stmt
  scope : Scope
  clo : List Str := []
  dvs : List V := []
  kws : List (Str × V) := []
def gAd (x : Str) (K : PySem.W.Frag) : Addr := ga K x
def mAd (x m : Str) (K : PySem.W.Frag) : Addr := ma K (ga K x) m
/-- the getter of the property m of the class x -/
def pAd (x m : Str) (K : PySem.W.Frag) : Addr := match PySem.W.recIn K (ma K (ga K x) m) "property" with
  | some (.ref g :: _) => g
  | _ => 0
def FD.val (d : FD) : FnX := some (d.name, d.qual, d.params, .stmts d.body, d.scope, mainGlobals, d.clo, builtinsNs)
/-- no defaults, a code object of its name -/
def plainB (K : PySem.W.Frag) (d : FD) : Bool := PySem.W.keepIn K (.ref (d.ad K)) && (match K.lookup (d.ad K) with
  | some ⟨_, _, .func fd, _⟩ => PySem.W.codeIn K fd.code d.qual && (He.dflB K fd.defaults d.dvs && He.kwdB K fd.kwdefaults d.kws)
  | _ => false)
/-- an own class at the name x -/
def clsB (K : PySem.W.Frag) (x : Str) : Bool :=
  eqO (PySem.W.nsIn K mainGlobals x) (some (some (.ref (ga K x)))) && (PySem.W.plainGet K (ga K x) Str.empty && (PySem.W.hasDictIn K (ga K x) && (PySem.W.plainOver K (ga K x) && (eqO (PySem.W.findIn K (.ref (ga K x)) "__setattr__") (some (some (.builtin "object.__setattr__"))) &&
  (eqO (PySem.W.findIn K (.ref (ga K x)) "__class__") (some (some (.builtin "object.__class__"))) && (eqO (PySem.W.specialIn K (.builtin "object.__class__") "__get__") (some (some (.builtin "getset_descriptor.__get__"))) && (decide (PySem.W.takesIn K (.builtin "object.__class__") = some true) &&
  (decide (PySem.W.mroIn K (ga K x) (.type "object") = some true) && (PySem.W.makesIn K (ga K x) && (PySem.W.keepIn K (.ref (ga K x)) && (decide (PySem.W.subIn K (.ref (ga K x)) (.type "object") = some true) && (decide (PySem.W.kitOne K (.ref (ga K x)) (.ref (ga K x)) = some true) &&
  (PySem.W.notFirst K (ga K x) (.ref (ga K x)) && BT.all fun T => decide (PySem.W.kitOne K (.type T) (.ref (ga K x)) = some false) && (PySem.W.notFirst K (ga K x) (.type T) && decide (PySem.W.kitOne K (.ref (ga K x)) (.type T) = some false)))))))))))))))
def methB (K : PySem.W.Frag) (x m : Str) : Bool := eqO (PySem.W.findIn K (.ref (ga K x)) m) (some (some (.ref (ma K (ga K x) m)))) && PySem.W.isFn K (.ref (ma K (ga K x) m))
def propB (K : PySem.W.Frag) (x m : Str) : Bool := eqO (PySem.W.findIn K (.ref (ga K x)) m) (some (some (.ref (ma K (ga K x) m)))) && (eqO (PySem.W.specialIn K (.ref (ma K (ga K x) m)) "__get__") (some (some (.builtin "property.__get__"))) &&
  (decide (PySem.W.takesIn K (.ref (ma K (ga K x) m)) = some true) && (match PySem.W.recIn K (ma K (ga K x) m) "property" with
    | some (.ref _ :: _) => true
    | _ => false)))
def initB (K : PySem.W.Frag) (file : Str) (C : Addr) (q : Str) : Value → Value → Value → List (Str × Addr) → Bool
  | .none, .none, .ref cda, [(_, cc)] => PySem.W.codeIn K (.ref cda) q && ((match K.lookup cda with
    | some ⟨_, _, .fields vs, _⟩ => (match (vs[2]? : Option Value) with
      | some (.str f _) => file == f
      | _ => false)
    | _ => false) && (match K.lookup cc with
    | some ⟨_, _, .cell (some (.ref C')), _⟩ => decide (C' = C)
    | _ => false))
  | _, _, _, _ => false
theorem initB_ok {K : PySem.W.Frag} {file : Str} {C : Addr} {q : Str} {a b c : Value} {cl : List (Str × Addr)} (h : initB K file C q a b c cl = true) : ∃ cda w cc ccl ccd vs ccs f tf cx cy cz, a = .none ∧ b = .none ∧ c = .ref cda ∧ cl = [(w, cc)] ∧ PySem.W.codeIn K (.ref cda) q = true ∧
    K.lookup cda = some ⟨ccl, ccd, .fields vs, ccs⟩ ∧ (vs[2]? : Option Value) = some (.str f tf) ∧ (file == f) = true ∧ K.lookup cc = some ⟨cx, cy, .cell (some (.ref C)), cz⟩ := by
  unfold initB at h
  split at h
  · obtain ⟨g1, g2⟩ := ba h
    obtain ⟨g3, g4⟩ := ba g2
    split at g3
    · rename_i lc
      split at g3
      · rename_i hv
        split at g4
        · rename_i lcc
          have eC := of_decide_eq_true g4
          subst eC
          exact ⟨_, _, _, _, _, _, _, _, _, _, _, _, rfl, rfl, rfl, rfl, g1, lc, hv, g3, lcc⟩
        · cases g4
      · cases g3
    · cases g3
  · cases h
/-- an own exception class (with one field) at the name nm -/
def xB (K : PySem.W.Frag) (file nm fld : Str) (bm : List Value) (B newId initId : String) : Bool :=
  eqO (PySem.W.nsIn K mainGlobals nm) (some (some (.ref (ga K nm)))) && (eqO (PySem.W.findIn K (.ref (ga K nm)) "__init__") (some (some (.ref (ma K (ga K nm) "__init__")))) &&
  ((match K.lookup (ma K (ga K nm) "__init__") with
    | some ⟨_, _, .func fd, _⟩ => initB K file (ga K nm) fd.qualname fd.defaults fd.kwdefaults fd.code fd.closure
    | _ => false) && (PySem.W.excInitIn K (ga K nm) bm newId && (PySem.W.excOver K (ga K nm) bm && (decide (PySem.W.ks_superIn K (ga K nm) (ga K nm) "__init__" = some (some (.builtin initId))) && (decide (PySem.W.subIn K (.ref (ga K nm)) (.type B) = some true) &&
  (eqO (PySem.W.findIn K (.ref (ga K nm)) "__setattr__") (some (some (.builtin "object.__setattr__"))) && (eqO (PySem.W.takerIn K (ga K nm) fld) (some none) && (PySem.W.hasDictIn K (ga K nm) && (decide (PySem.W.typeIn K (.ref (ma K (ga K nm) "__init__")) = some (.type "function")) &&
  (decide (PySem.W.mroIn K (ga K nm) (.ref (ga K nm)) = some true) && (eqO (PySem.W.nsIn K mainGlobals "super") (some none) && (eqO (PySem.W.nsIn K cStatics "thirdparty.any") (some none) && (PySem.W.keepIn K (.ref (ga K nm)) && (decide (PySem.W.typeIn K (.ref (ga K nm)) = some (.type "type")) &&
  (eqO (PySem.W.findIn K (.ref (ga K nm)) fld) (some none) && (eqO (PySem.W.findIn K (.ref (ga K nm)) "__getattribute__") (some (some (.builtin "BaseException.__getattribute__"))) && (eqO (PySem.W.findIn K (.ref (ga K nm)) "__getattr__") (some none) &&
  (decide (PySem.W.subIn K (.ref (ga K nm)) (.type "BaseException") = some true) && ((PySem.W.clsIn K (ga K nm)).isSome && (eqO (PySem.W.findIn K (.ref (ga K nm)) "__class__") (some (some (.builtin "object.__class__"))) &&
  (eqO (PySem.W.specialIn K (.builtin "object.__class__") "__get__") (some (some (.builtin "getset_descriptor.__get__"))) && (decide (PySem.W.takesIn K (.builtin "object.__class__") = some true) && decide (PySem.W.mroIn K (ga K nm) (.type "object") = some true))))))))))))))))))))))))
inductive Fc where
  | glo (x : Str)
  | free (x : Str)
  | con (x : Str) (v : V)
  | tup (x : Str) (vs : List V)
  | xc (file nm fld : Str) (bm : List Value) (B newId initId : String)
  | exm (x : Str) (ys : List Str)
  | kit (x y : Str) (b : Bool)
  | kitT (x : Str) (T : String) (b : Bool)
  | own (p : PySem.W.Frag → Bool)
  | cls (x : Str)
  | meth (x m : Str)
  | prop (x m : Str)
  | noat (x f : Str)
  | neb (x : Str)
  | nof (x y : Str)
  | bin (x : Str) (nm : String)
def binB (K : PySem.W.Frag) (x : Str) (nm : String) : Bool := PySem.W.selfFirst K (ga K x) && (eqO (PySem.W.findIn K (.ref (ga K x)) (dunderR nm)) (some none) && BT.all fun T => (PySem.W.findIn K (.type T) (PySem.dunder nm)).isSome && ((PySem.W.findIn K (.type T) (dunderR nm)).isSome && decide (PySem.W.subIn K (.type T) (.ref (ga K x)) = some false)))
def Fc.ok (K : PySem.W.Frag) : Fc → Bool
  | .glo x => eqO (PySem.W.nsIn K mainGlobals x) (some (some (.ref (ga K x))))
  | .free x => eqO (PySem.W.nsIn K mainGlobals x) (some none)
  | .con x v => (match PySem.W.nsIn K mainGlobals x with
    | some (some u) => relB v u
    | _ => false)
  | .tup x vs => eqO (PySem.W.nsIn K mainGlobals x) (some (some (.ref (ga K x)))) && (match K.lookup (ga K x) with
    | some ⟨.type c, _, .seq its _, _⟩ => decide (c = "tuple") && (decide (its.size ≤ sizeLine) && relAll vs its.toList)
    | _ => false)
  | .xc file nm fld bm B n i => xB K file nm fld bm B n i
  | .exm x ys => eqO (PySem.W.nsIn K mainGlobals x) (some (some (.ref (ga K x)))) && ((ys.all fun y => eqO (PySem.W.nsIn K mainGlobals y) (some (some (.ref (ga K y))))) && decide (PySem.W.exmAny K (.ref (ga K x)) (ys.map fun y => .ref (ga K y)) = some true))
  | .kit x y b => eqO (PySem.W.nsIn K mainGlobals x) (some (some (.ref (ga K x)))) && (eqO (PySem.W.nsIn K mainGlobals y) (some (some (.ref (ga K y)))) && decide (PySem.W.kitOne K (.ref (ga K x)) (.ref (ga K y)) = some b))
  | .kitT x T b => eqO (PySem.W.nsIn K mainGlobals x) (some (some (.ref (ga K x)))) && decide (PySem.W.kitOne K (.ref (ga K x)) (.type T) = some b)
  | .own p => p K
  | .cls x => clsB K x
  | .meth x m => methB K x m
  | .prop x m => propB K x m
  | .noat x f => eqO (PySem.W.findIn K (.ref (ga K x)) f) (some none)
  | .neb x => eqO (PySem.W.findIn K (.ref (ga K x)) "__ne__") (some (some (.builtin "object.__ne__")))
  | .nof x y => PySem.W.notFirst K (ga K x) (.ref (ga K y))
  | .bin x nm => binB K x nm
abbrev AlH : Type := List FnX × Bool
def tabsH (g : Addr → Option Obj) (tf : List (Str × Option Str)) (K : PySem.W.Frag) : Bool := (tf.all fun p => PySem.W.codeHdIn K (cT K p).1 (cT K p).2 && (match g (cT K p).2 with
  | some o => emptyTab o
  | none => false)) && decide ((tf.map fun p => (cT K p).2).Nodup)
def obsK (g : Addr → Option Obj) (fds : List FD) (ps : List FD) (fcs : List Fc) (tf : List (Str × Option Str)) (K : PySem.W.Frag) : AlH := (fds.map fun d => fnX K (d.ad K), (ps.all fun d => plainB K d) && ((fcs.all fun f => f.ok K) && tabsH g tf K))
def obsH (n : Nat) (fds ps : List FD) (fcs : List Fc) (tf : List (Str × Option Str)) (g : Addr → Option Obj) : AlH := obsK g fds ps fcs tf (frT g (asH g n))
/-- what is told -/
structure SaysH (fds ps : List FD) (fcs : List Fc) (tf : List (Str × Option Str)) (h : Heap) (K : PySem.W.Frag) : Prop where
  fns : (fds.map fun d => fnX K (d.ad K)) = fds.map FD.val
  pls : (ps.all fun d => plainB K d) = true
  fcs : (fcs.all fun f => f.ok K) = true
  hd : ∀ p ∈ tf, PySem.W.codeHdIn K (cT K p).1 (cT K p).2 = true
  out : ∀ p ∈ tf, K.lookup (cT K p).2 = none
  empty : ∀ p ∈ tf, h.get? (cT K p).2 = some { cls := .none, data := .fields #[] }
  nd : (tf.map fun p => (cT K p).2).Nodup
theorem saysH_of {n : Nat} {fds ps : List FD} {fcs : List Fc} {tf : List (Str × Option Str)} {h : Heap} (e : obsH n fds ps fcs tf h.get? = (fds.map FD.val, true)) : SaysH fds ps fcs tf h (frT h.get? (asH h.get? n)) := by
  have e1 : ((fds.map fun d => fnX (frT h.get? (asH h.get? n)) (d.ad (frT h.get? (asH h.get? n)))) : List FnX) = fds.map FD.val := congrArg (fun z : AlH => z.1) e
  have e2 : ((ps.all fun d => plainB (frT h.get? (asH h.get? n)) d) && ((fcs.all fun f => f.ok (frT h.get? (asH h.get? n))) && tabsH h.get? tf (frT h.get? (asH h.get? n)))) = true := congrArg (fun z : AlH => z.2) e
  obtain ⟨h1, h2⟩ := ba e2
  obtain ⟨h3, h4⟩ := ba h2
  obtain ⟨h5, h6⟩ := ba h4
  have key : ∀ p ∈ tf, PySem.W.codeHdIn (frT h.get? (asH h.get? n)) (cT (frT h.get? (asH h.get? n)) p).1 (cT (frT h.get? (asH h.get? n)) p).2 = true ∧ ∃ o, h.get? (cT (frT h.get? (asH h.get? n)) p).2 = some o ∧ emptyTab o = true := fun p hp => by
    obtain ⟨h7, h8⟩ := ba (List.all_eq_true.mp h5 p hp)
    refine ⟨h7, ?_⟩
    cases q : h.get? (cT (frT h.get? (asH h.get? n)) p).2 with
    | none => rw [q] at h8; cases h8
    | some o => rw [q] at h8; exact ⟨o, rfl, h8⟩
  exact ⟨e1, h1, h3, fun p hp => (key p hp).1, fun p hp => by
    obtain ⟨_, o, q, z⟩ := key p hp
    exact frT_none q z, fun p hp => by
    obtain ⟨_, o, q, z⟩ := key p hp
    rw [q, emptyTab_eq z], of_decide_eq_true h6⟩
def hookH (n : Nat) (fds ps : List FD) (fcs : List Fc) (tf : List (Str × Option Str)) : PySem.W.Hook where
  α := AlH
  obs := fun s => obsH n fds ps fcs tf s.heap.get?
  val := fun _ => (fds.map FD.val, true)
  says := fun _ h => ∃ K : PySem.W.Frag, K.In h ∧ SaysH fds ps fcs tf h K
  of := fun _ _ e => ⟨_, frT_in, saysH_of e⟩
  keeps := fun _ _ _ ⟨K, hK, c⟩ k => ⟨K, PySem.W.Frag.In.keeps hK k, { c with empty := fun p hp => k _ _ (c.empty p hp) }⟩
theorem obsH_eq {n : Nat} {fds ps : List FD} {fcs : List Fc} {tf : List (Str × Option Str)} {g : Addr → Option Obj} {s : Shared} (h : ∀ a, g a = s.heap.get? a) : obsH n fds ps fcs tf g = (hookH n fds ps fcs tf).obs s := by
  have e : g = s.heap.get? := funext h
  rw [e] <;> rfl
section
variable {fds ps : List FD} {fcs : List Fc} {tf : List (Str × Option Str)} {h : Heap} {K : PySem.W.Frag} {mg : Str → Option Value}
theorem SaysH.fc (c : SaysH fds ps fcs tf h K) (i : Nat) {f : Fc} (e : fcs[i]? = some f := by rfl) : f.ok K = true := List.all_eq_true.mp c.fcs f (List.mem_of_getElem? e)
theorem SaysH.fd (c : SaysH fds ps fcs tf h K) (i : Nat) {d : FD} (e : fds[i]? = some d := by rfl) : fnX K (d.ad K) = d.val := by
  have e2 : (fds.map fun d => fnX K (d.ad K))[i]? = (fds.map FD.val)[i]? := by rw [c.fns]
  rw [List.getElem?_map, List.getElem?_map, e] at e2
  exact Option.some.inj e2
theorem SaysH.pl (c : SaysH fds ps fcs tf h K) (i : Nat) {d : FD} (e : ps[i]? = some d := by rfl) : plainB K d = true := List.all_eq_true.mp c.pls d (List.mem_of_getElem? e)
theorem fc_free (X : K.In h) (G : h.Ns mainGlobals mg) {x : Str} (c : (Fc.free x).ok K = true) : mg x = none := PySem.W.mg_none_of X G (eqO_ok c)
theorem fc_glo (X : K.In h) (G : h.Ns mainGlobals mg) {x : Str} (c : (Fc.glo x).ok K = true) : XN K x (.ref (ga K x)) ∧ mg x = some (.ref (ga K x)) := ⟨eqO_ok c, PySem.W.mg_of X G (eqO_ok c)⟩
theorem fc_nm (X : K.In h) (G : h.Ns mainGlobals mg) {x : Str} (c : (Fc.glo x).ok K = true) : ∃ C, XN K x (.ref C) ∧ mg x = some (.ref C) := ⟨_, fc_glo X G c⟩
theorem fc_con (X : K.In h) (G : h.Ns mainGlobals mg) {x : Str} {v : V} (c : (Fc.con x v).ok K = true) : ∃ u, mg x = some u ∧ RelV v u := by
  have c : (match PySem.W.nsIn K mainGlobals x with | some (some u) => relB v u | _ => false) = true := c
  cases q : PySem.W.nsIn K mainGlobals x with
  | none => rw [q] at c; cases c
  | some r =>
    cases r with
    | none => rw [q] at c; cases c
    | some u => rw [q] at c; exact ⟨u, PySem.W.mg_of X G q, relB_ok c⟩
theorem fc_tup (X : K.In h) (G : h.Ns mainGlobals mg) {x : Str} {vs : List V} (c : (Fc.tup x vs).ok K = true) : ∃ a, mg x = some (.ref a) ∧ ∀ H : Hp, SqT K H a vs := by
  have c : (eqO (PySem.W.nsIn K mainGlobals x) (some (some (.ref (ga K x)))) && (match K.lookup (ga K x) with
    | some ⟨.type c, _, .seq its _, _⟩ => decide (c = "tuple") && (decide (its.size ≤ sizeLine) && relAll vs its.toList)
    | _ => false)) = true := c
  obtain ⟨h0, c⟩ := ba c
  refine ⟨_, PySem.W.mg_of X G (eqO_ok h0), fun H => ?_⟩
  cases q : K.lookup (ga K x) with
  | none => rw [q] at c; cases c
  | some o =>
    obtain ⟨oc, od, dt, osl⟩ := o
    rw [q] at c
    cases oc with
    | type t =>
      cases dt with
      | seq its n =>
        obtain ⟨h1, h2⟩ := ba (show (decide (t = "tuple") && (decide (its.size ≤ sizeLine) && relAll vs its.toList)) = true from c)
        obtain ⟨h3, h4⟩ := ba h2
        exact .inr ⟨_, its, n, q, congrArg Value.type (of_decide_eq_true h1), rfl, of_decide_eq_true h3, relAll_ok h4⟩
      | _ => cases c
    | _ => cases dt <;> cases c
theorem fc_exm {x n1 n2 n3 : Str} (c : (Fc.exm x [n1, n2, n3]).ok K = true) : ∀ cls C1 C2 C3, XN K x cls → XN K n1 (.ref C1) → XN K n2 (.ref C2) → XN K n3 (.ref C3) → PySem.W.exmAny K cls [.ref C1, .ref C2, .ref C3] = some true := by
  unfold Fc.ok at c
  obtain ⟨h0, c⟩ := ba c
  obtain ⟨h1, h2⟩ := ba c
  have k := fun y hy => List.all_eq_true.mp h1 y hy
  exact mkE (eqO_ok h0) (eqO_ok (k n1 (by simp))) (eqO_ok (k n2 (by simp))) (eqO_ok (k n3 (by simp))) (of_decide_eq_true h2)
theorem fc_kit {x y : Str} {b : Bool} (c : (Fc.kit x y b).ok K = true) : ∀ C C2, XN K x (.ref C) → XN K y (.ref C2) → PySem.W.kitOne K (.ref C) (.ref C2) = some b := by
  unfold Fc.ok at c
  obtain ⟨h0, c⟩ := ba c
  obtain ⟨h1, h2⟩ := ba c
  exact mkI (eqO_ok h0) (eqO_ok h1) (of_decide_eq_true h2)
theorem fc_kitT {x : Str} {T : String} {b : Bool} (c : (Fc.kitT x T b).ok K = true) : ∀ C, XN K x (.ref C) → PySem.W.kitOne K (.ref C) (.type T) = some b := by
  unfold Fc.ok at c
  obtain ⟨h0, h2⟩ := ba c
  exact mkIT (eqO_ok h0) (of_decide_eq_true h2)
/-- a function by what is looked at -/
theorem fd_at {d : FD} (e : fnX K (d.ad K) = d.val) : ∃ (oc : Value) (od : Option Addr) (fd : FuncData) (osl : Array (Option Value)), K.lookup (d.ad K) = some ⟨oc, od, .func fd, osl⟩ ∧ fd.name = d.name ∧ fd.qualname = d.qual ∧ fd.params = d.params ∧ fd.body = .stmts d.body ∧ fd.scope = d.scope ∧ fd.globals = mainGlobals ∧ fd.closure.map (·.1) = d.clo ∧ fd.builtins = builtinsNs := by
  unfold fnX at e
  cases q : K.lookup (d.ad K) with
  | none => rw [q] at e; cases e
  | some o =>
    obtain ⟨oc, od, dt, osl⟩ := o
    rw [q] at e
    cases dt with
    | func fd =>
      have e2 : (some (fd.name, fd.qualname, fd.params, fd.body, fd.scope, fd.globals, fd.closure.map (·.1), fd.builtins) : FnX) = some (d.name, d.qual, d.params, .stmts d.body, d.scope, mainGlobals, d.clo, builtinsNs) := e
      simp only [Option.some.injEq, Prod.mk.injEq] at e2
      obtain ⟨h1, h2, h3, h4, h5, h6, h7, h8⟩ := e2
      exact ⟨oc, od, fd, osl, rfl, h1, h2, h3, h4, h5, h6, h7, h8⟩
    | _ => cases e
/-- a def with its defaults -/
theorem fd_def {d : FD} (e : fnX K (d.ad K) = d.val) (hc : d.clo = []) (b : plainB K d = true) : ∃ (fd : FuncData) (c : Addr), fd.code = .ref c ∧ FunD K d.name d.qual d.params d.body d.scope d.dvs d.kws (d.ad K) fd := by
  obtain ⟨oc, od, fd, osl, lk, h1, h2, h3, h4, h5, h6, h7, h8⟩ := fd_at e
  obtain ⟨kp, b2⟩ := ba b
  rw [lk] at b2
  obtain ⟨n1, n2, n3, n4, n5, n6, n7, n8, n9, n10, n11, n12, n13, n14, n15⟩ := fd
  have h7' : n7 = [] := by
    rw [hc] at h7
    exact List.map_eq_nil_iff.mp h7
  simp only at h1 h2 h3 h4 h5 h6 h8
  subst h1 h2 h3 h4 h5 h6 h7' h8
  obtain ⟨c1, c2⟩ := ba b2
  obtain ⟨c3, c4⟩ := ba c2
  obtain ⟨c, rfl⟩ := He.codeIn_ref c1
  exact ⟨_, c, rfl, ⟨oc, od, n8, n9, n10, n11, n12, _, n14, osl, rfl, lk, c1, He.dflB_ok c3, He.kwdB_ok c4⟩, kp⟩
/-- a plain def -/
theorem fd_plain {d : FD} (e : fnX K (d.ad K) = d.val) (hc : d.clo = []) (hd : d.dvs = []) (b : plainB K d = true) : ∃ (oc : Value) (od : Option Addr) (kV doc pm : Value) (an : Option Addr) (c : Addr) (ct : Value) (osl : Array (Option Value)),
    K.lookup (d.ad K) = some ⟨oc, od, .func (PySem.W.fnOf d.name d.qual d.params d.body d.scope .none kV doc pm an (.ref c) ct), osl⟩ ∧ PySem.W.codeIn K (.ref c) d.qual = true ∧ PySem.W.keepIn K (.ref (d.ad K)) = true := by
  obtain ⟨fd, c, ec, F⟩ := fd_def e hc b
  obtain ⟨oc, od, dV, kV, doc, pm, an, cdv, ct, osl, rfl, lk, ci, hD, hK⟩ := F.ex
  rcases hD with ⟨_, rfl⟩ | ⟨h, _⟩
  · have ec' : cdv = .ref c := ec
    subst ec'
    exact ⟨oc, od, kV, doc, pm, an, c, ct, osl, lk, ci, F.kp⟩
  · exact absurd hd h
theorem fd_fun {x : Str} {st : Stmt} (X : K.In h) (G : h.Ns mainGlobals mg) (c : (Fc.glo x).ok K = true) (e : fnX K (gAd x K) = FD.val ⟨gAd x, x, x, defArgs st, defBody st, defScope st, [], [], []⟩) (b : plainB K ⟨gAd x, x, x, defArgs st, defBody st, defScope st, [], [], []⟩ = true) :
    ∃ f, mg x = some (.ref f) ∧ ∃ fd, Fun K x x st f fd := by
  obtain ⟨oc, od, kV, doc, pm, an, c0, ct, osl, lk, ci, kp⟩ := fd_plain (d := ⟨gAd x, x, x, defArgs st, defBody st, defScope st, [], [], []⟩) e rfl rfl b
  exact ⟨_, (fc_glo X G c).2, _, ⟨oc, od, kV, doc, pm, an, _, ct, osl, rfl, lk, ci⟩, kp⟩
theorem fd_tab {x : Str} {st : Stmt} (X : K.In h) (G : h.Ns mainGlobals mg) (s : SaysH fds ps fcs tf h K) (ht : (x, none) ∈ tf) (c : (Fc.glo x).ok K = true) (e : fnX K (gAd x K) = FD.val ⟨gAd x, x, x, defArgs st, defBody st, defScope st, [], [], []⟩) (b : plainB K ⟨gAd x, x, x, defArgs st, defBody st, defScope st, [], [], []⟩ = true) :
    IsTab K mg h x st (cT K (x, none)) := by
  obtain ⟨oc, od, kV, doc, pm, an, c0, ct, osl, lk, ci, kp⟩ := fd_plain (d := ⟨gAd x, x, x, defArgs st, defBody st, defScope st, [], [], []⟩) e rfl rfl b
  have ec : (cT K (x, none)).1 = c0 := He.codeOf_eq lk rfl
  refine ⟨⟨_, _, (fc_glo X G c).2, ⟨⟨oc, od, kV, doc, pm, an, ct, osl, rfl, ?_, ?_⟩, kp⟩⟩, PySem.W.codeHd_of_K X (s.hd _ ht), s.empty _ ht, s.out _ ht⟩
  · rw [ec]; exact lk
  · rw [ec]; exact ci
theorem fc_x {P : Program} {file nm fld txt : Str} {bm : List Value} {B newId initId : String} {d : FD} {p1 p2 r0 r1 r2 r3 r4 r5 r6 r7 r8 r9 : Pos} (xb : XBase B newId initId bm) (X : K.In h) (G : h.Ns mainGlobals mg) (c : (Fc.xc file nm fld bm B newId initId).ok K = true)
    (hf : P.main.file = file) (e : fnX K (d.ad K) = d.val) (d0 : d.ad = mAd nm "__init__") (d1 : d.name = "__init__") (d3 : d.params = xArgs fld p1 p2) (d4 : d.body = xBody fld txt r0 r1 r2 r3 r4 r5 r6 r7 r8 r9) (d5 : d.scope = xScope fld) (d6 : d.clo = [("__class__" : Str)])
    (c3 : (P.main.scope.names.lookup ("super" : Str)).isSome = false) (c4 : (fld == ("__debug__" : Str)) = false ∧ fld ≠ "self" ∧ (xScope fld).names.lookup fld = some .local ∧ (xScope fld).names.lookup ("__class__" : Str) = some .free ∧ (xScope fld).names.lookup ("super" : Str) = some .globalImplicit)
    (c7 : txt.length ≤ 1000) (c8 : XCall txt r0 r1 r2 r3 r4)
    (c9 : ∀ doc pm an cdv ct cc qual a b, bindArgs (PySem.W.ksFn "__init__" qual (xArgs fld p1 p2) (xBody fld txt r0 r1 r2 r3 r4 r5 r6 r7 r8 r9) (xScope fld) .none .none doc pm an cdv ct cc) ⟨[a, b], []⟩ = pure [(("self" : Str), a), (fld, b)])
    (c10 : ∀ doc pm an cdv ct cc qual a b, bindArgs (PySem.W.ksFn "__init__" qual (xArgs fld p1 p2) (xBody fld txt r0 r1 r2 r3 r4 r5 r6 r7 r8 r9) (xScope fld) .none .none doc pm an cdv ct cc) ⟨[a], [(fld, b)]⟩ = pure [(("self" : Str), a), (fld, b)]) : XCls P K mg nm fld := by
  unfold Fc.ok xB at c
  obtain ⟨a1, c⟩ := ba c
  obtain ⟨a2, c⟩ := ba c
  obtain ⟨a3, c⟩ := ba c
  obtain ⟨b1, c⟩ := ba c
  obtain ⟨b2, c⟩ := ba c
  obtain ⟨b3, c⟩ := ba c
  obtain ⟨b4, c⟩ := ba c
  obtain ⟨b5, c⟩ := ba c
  obtain ⟨b6, c⟩ := ba c
  obtain ⟨b7, c⟩ := ba c
  obtain ⟨b8, c⟩ := ba c
  obtain ⟨b9, c⟩ := ba c
  obtain ⟨k1, c⟩ := ba c
  obtain ⟨k2, c⟩ := ba c
  obtain ⟨l1, c⟩ := ba c
  obtain ⟨l2, c⟩ := ba c
  obtain ⟨l3, c⟩ := ba c
  obtain ⟨e1, c⟩ := ba c
  obtain ⟨e2, c⟩ := ba c
  obtain ⟨e3, c⟩ := ba c
  obtain ⟨e4, c⟩ := ba c
  obtain ⟨e5, c⟩ := ba c
  obtain ⟨e6, c⟩ := ba c
  obtain ⟨e7, e8⟩ := ba c
  obtain ⟨oc, od, fd, osl, lk, f1, f2, f3, f4, f5, f6, f7, f8⟩ := fd_at e
  have ea : d.ad K = ma K (ga K nm) "__init__" := by rw [d0]; rfl
  rw [ea] at lk
  rw [lk] at a3
  obtain ⟨n1, n2, n3, n4, n5, n6, n7, n8, n9, n10, n11, n12, n13, n14, n15⟩ := fd
  simp only at f1 f2 f3 f4 f5 f6 f8
  rw [d1] at f1
  rw [d3] at f3
  rw [d4] at f4
  rw [d5] at f5
  rw [d6] at f7
  subst f1 f3 f4 f5 f6 f8
  obtain ⟨cda, w, cc, ccl, ccd, vs, ccs, f, tf, cx, cy, cz, rfl, rfl, rfl, rfl, g1, lc, hv, g3, lcc⟩ := initB_ok (show initB K file (ga K nm) n2 n8 n9 n13 n7 = true from a3)
  have ew : w = ("__class__" : Str) := (List.cons.inj f7).1
  subst ew
  exact mkX xb X G (eqO_ok a1) (eqO_ok a2) lk lc lcc hv b1 b2 (of_decide_eq_true b3) (of_decide_eq_true b4) (eqO_ok b5) (eqO_ok b6) b7 (of_decide_eq_true b8) (of_decide_eq_true b9) (eqO_ok k1) (eqO_ok k2) c3 c4 g1 (by rw [hf]; exact g3) c7 c8 (fun a b => c9 _ _ _ _ _ _ _ a b) (fun a b => c10 _ _ _ _ _ _ _ a b)
    l1 (of_decide_eq_true l2) (eqO_ok l3) (eqO_ok e1) (eqO_ok e2) (of_decide_eq_true e3) e4 (eqO_ok e5) (eqO_ok e6) (of_decide_eq_true e7) (of_decide_eq_true e8)
end
section
variable {h : Heap} {K : PySem.W.Frag} {mg : Str → Option Value}
theorem fc_cls {x : Str} (X : K.In h) (G : h.Ns mainGlobals mg) (c : (Fc.cls x).ok K = true) : OwnC K mg x (ga K x) := by
  have c : clsB K x = true := c
  unfold clsB at c
  obtain ⟨a1, c⟩ := ba c
  obtain ⟨a2, c⟩ := ba c
  obtain ⟨a3, c⟩ := ba c
  obtain ⟨a4, c⟩ := ba c
  obtain ⟨a5, c⟩ := ba c
  obtain ⟨a6, c⟩ := ba c
  obtain ⟨a7, c⟩ := ba c
  obtain ⟨a8, c⟩ := ba c
  obtain ⟨a9, c⟩ := ba c
  obtain ⟨b1, c⟩ := ba c
  obtain ⟨b2, c⟩ := ba c
  obtain ⟨b3, c⟩ := ba c
  obtain ⟨b4, c⟩ := ba c
  obtain ⟨b5, b6⟩ := ba c
  refine ⟨eqO_ok a1, PySem.W.mg_of X G (eqO_ok a1), ⟨a2, a3, a4, eqO_ok a5⟩, eqO_ok a6, eqO_ok a7, of_decide_eq_true a8, of_decide_eq_true a9, b1, b2, of_decide_eq_true b3, of_decide_eq_true b4, b5, fun T hT => ?_⟩
  obtain ⟨q1, q2⟩ := ba (List.all_eq_true.mp b6 T hT)
  obtain ⟨q3, q4⟩ := ba q2
  exact ⟨of_decide_eq_true q1, q3, of_decide_eq_true q4⟩
theorem fc_meth {x m : Str} (c : (Fc.meth x m).ok K = true) : PySem.W.findIn K (.ref (ga K x)) m = some (some (.ref (mAd x m K))) ∧ PySem.W.isFn K (.ref (mAd x m K)) = true := by
  obtain ⟨a, b⟩ := ba (show methB K x m = true from c)
  exact ⟨eqO_ok a, b⟩
theorem fc_prop {x m : Str} (c : (Fc.prop x m).ok K = true) : PropOf K (ga K x) m (mAd x m K) (pAd x m K) := by
  have c : propB K x m = true := c
  unfold propB at c
  obtain ⟨a1, c⟩ := ba c
  obtain ⟨a2, c⟩ := ba c
  obtain ⟨a3, c⟩ := ba c
  refine ⟨eqO_ok a1, eqO_ok a2, of_decide_eq_true a3, ?_⟩
  unfold pAd mAd
  cases q : PySem.W.recIn K (ma K (ga K x) m) "property" with
  | none => rw [q] at c; cases c
  | some l =>
    cases l with
    | nil => rw [q] at c; cases c
    | cons v r =>
      rw [q] at c
      cases v with
      | ref g => exact ⟨r, rfl⟩
      | _ => cases c
theorem fc_noat {x f : Str} (c : (Fc.noat x f).ok K = true) : NoAttr K (ga K x) f := eqO_ok c
theorem fc_neb {x : Str} (c : (Fc.neb x).ok K = true) : PySem.W.findIn K (.ref (ga K x)) "__ne__" = some (some (.builtin "object.__ne__")) := eqO_ok c
end
/-! ### the walk -/
theorem walkH {l : PySem.W.OpenLaw} {n k : Nat} {q : Program} {loose : List Str} {XP : (Str → Option Value) → Heap → Prop} {YP : World → Heap → Prop} {d : DefRec} {x : Str}
    (hn : l.most = some n) (hn2 : n ≤ sizeLine) (hdf : d.params.defaults = []) (rm : RG k callerA)
    (F : ∀ (w : World) (mg : Str → Option Value) (fa : Addr) (h : Heap), YP w h → h.Ns mainGlobals mg → mg d.name = some (.ref fa) → ∃ K : PySem.W.Frag, K.In h ∧ LawT l.prog w K mg k n x fa h) :
    PySem.W.WalkO q loose XP YP l.row.toRowW d [] (fun f vs => PySem.call f vs) := by
  refine Att.attach_call hn hdf ?_
  intro w s₀ s₁ mg mb fa o pm cd doc a vs ns G Y ho hd hcd hmg hobj hints hlen hg
  obtain ⟨K, kin, fd, cs, sp, hc, hb, ht, hF⟩ := F w mg fa _ Y G.T.g hmg
  exact lawT kin G.T.g G.T.b G.T.builtins G.T.nolimit hg (fun p hp => (hc p hp).1) (fun p hp => (hc p hp).2.1) (fun p hp => (hc p hp).2.2) G.T.bmain hobj hints (Nat.le_trans hlen hn2) rm hF hb (fun H h1 h2 => ht H a ns hlen h1 h2)
/-- a law without tables -/
theorem lawT0 {P : Program} {w : World} {K : PySem.W.Frag} {mg : Str → Option Value} {k n : Nat} {x : Str} {fa : Addr} {h : Heap} {sp : Sp}
    (F : ∃ fd : FuncData, (∀ (s : Shared) (u : Value), BindsTo s fd ⟨[u], []⟩ [(x, u)]) ∧ ∀ base : Heap, K.In base → base.Ns mainGlobals mg → FnG P w K mg base CX0 k fa fd [x] sp)
    (top : ∀ (H : Hp) (a : Addr) (ns : List Int), ns.length ≤ n → SqL K H a (ns.map V.int) → sp [.ref a] H (fun v _ => v = .bl true) E0) : LawT P w K mg k n x fa h := by
  obtain ⟨fd, hb, hF⟩ := F
  exact ⟨fd, [], sp, (fun p hp => nomatch hp), hb, (fun H a ns hl _ hS => top H a ns hl hS), fun base kb g _ => hF base kb g⟩
section
variable {fds ps : List FD} {fcs : List Fc} {tf : List (Str × Option Str)} {h : Heap} {K : PySem.W.Frag} {mg : Str → Option Value}
theorem ga_of {x : Str} {C : Addr} (o : OwnC K mg x (ga K x)) (h : XN K x (.ref C)) : C = ga K x := Value.ref.inj (XN.inj h o.xn)
theorem fd_meth {d : FD} {x m : Str} (o : OwnC K mg x (ga K x)) (c : (Fc.meth x m).ok K = true) (e : fnX K (d.ad K) = d.val) (b : plainB K d = true) (ed : d.ad = mAd x m) (hc : d.clo = []) : ∀ C, XN K x (.ref C) →
    ∃ (f : Addr) (fd : FuncData), PySem.W.findIn K (.ref C) m = some (some (.ref f)) ∧ PySem.W.isFn K (.ref f) = true ∧ FunD K d.name d.qual d.params d.body d.scope d.dvs d.kws f fd := fun C h => by
  rw [ga_of o h]
  obtain ⟨fd, _, _, F⟩ := fd_def e hc b
  rw [ed] at F
  exact ⟨_, fd, (fc_meth c).1, (fc_meth c).2, F⟩
theorem fd_prop {d : FD} {x m : Str} (o : OwnC K mg x (ga K x)) (c : (Fc.prop x m).ok K = true) (e : fnX K (d.ad K) = d.val) (b : plainB K d = true) (ed : d.ad = pAd x m) (hc : d.clo = []) : ∀ C, XN K x (.ref C) →
    ∃ (p f : Addr) (fd : FuncData), PropOf K C m p f ∧ FunD K d.name d.qual d.params d.body d.scope d.dvs d.kws f fd := fun C h => by
  rw [ga_of o h]
  obtain ⟨fd, _, _, F⟩ := fd_def e hc b
  rw [ed] at F
  exact ⟨_, _, fd, fc_prop c, F⟩
theorem fc_noatC {x f : Str} (o : OwnC K mg x (ga K x)) (c : (Fc.noat x f).ok K = true) : ∀ C, XN K x (.ref C) → NoAttr K C f := fun C h => by
  rw [ga_of o h]
  exact fc_noat c
theorem fc_binC {x : Str} {nm : String} (o : OwnC K mg x (ga K x)) (c : (Fc.bin x nm).ok K = true) : ∀ C, XN K x (.ref C) → BinF K C nm := fun C h => by
  rw [ga_of o h]
  obtain ⟨a1, c⟩ := ba (show binB K x nm = true from c)
  obtain ⟨a2, c⟩ := ba c
  refine ⟨a1, eqO_ok a2, fun T hT => ?_⟩
  obtain ⟨q1, q⟩ := ba (List.all_eq_true.mp c T hT)
  obtain ⟨q2, q3⟩ := ba q
  exact ⟨Option.isSome_iff_exists.mp q1, Option.isSome_iff_exists.mp q2, of_decide_eq_true q3⟩
theorem fc_nebC {x : Str} (o : OwnC K mg x (ga K x)) (c : (Fc.neb x).ok K = true) : ∀ C, XN K x (.ref C) → PySem.W.findIn K (.ref C) "__ne__" = some (some (.builtin "object.__ne__")) := fun C h => by
  rw [ga_of o h]
  exact fc_neb c
end
end Hf

set_option Elab.async false
set_option linter.all false
set_option maxRecDepth 100000
set_option maxHeartbeats 4000000
set_option linter.unusedVariables false
namespace Law
open PySem L2 Hf
def leap (y : Int) : Bool := decide (y % 4 = 0 ∧ (y % 100 ≠ 0 ∨ y % 400 = 0))
def mlen (y m : Int) : Int := if m = 2 then (if leap y then 29 else 28) else if m = 4 ∨ m = 6 ∨ m = 9 ∨ m = 11 then 30 else 31
def fday (y : Int) : Int := 365 * (y - 1) + (y - 1) / 4 - (y - 1) / 100 + (y - 1) / 400 + 1
def cumN (y : Int) : Nat → Int
  | 0 => 0
  | k + 1 => cumN y k + mlen y (k + 1)
def dnum (y m d : Int) : Int := fday y + cumN y (m - 1).toNat + d - 1
def ylen (y : Int) : Int := if leap y then 366 else 365
def valid (y m d : Int) : Prop := 1 ≤ y ∧ y ≤ 9999 ∧ 1 ≤ m ∧ m ≤ 12 ∧ 1 ≤ d ∧ d ≤ mlen y m
theorem mlen_lo (y m : Int) : 28 ≤ mlen y m := by unfold mlen; split <;> split <;> omega
theorem mlen_hi (y m : Int) : mlen y m ≤ 31 := by unfold mlen; split <;> split <;> omega
theorem fday_one : fday 1 = 1 := by decide
theorem fday_succ (y : Int) : fday (y + 1) = fday y + ylen y := by
  unfold fday ylen leap
  by_cases h : y % 4 = 0 ∧ (y % 100 ≠ 0 ∨ y % 400 = 0)
  · rw [if_pos (decide_eq_true h)]; omega
  · rw [if_neg (by rw [decide_eq_false h]; decide)]; omega
theorem ylen_lo (y : Int) : 365 ≤ ylen y := by unfold ylen; split <;> omega
theorem ylen_hi (y : Int) : ylen y ≤ 366 := by unfold ylen; split <;> omega
theorem cum_12 (y : Int) : cumN y 12 = ylen y := by
  unfold ylen
  by_cases h : leap y <;> simp [cumN, mlen, h]
theorem cum_le (y : Int) : ∀ {i j : Nat}, i ≤ j → cumN y i + 28 * ((j : Int) - i) ≤ cumN y j
  | i, 0, h => by have : i = 0 := by omega
                  subst this; omega
  | i, j + 1, h => by
    by_cases e : i = j + 1
    · subst e; omega
    · have := cum_le y (i := i) (j := j) (by omega)
      have := mlen_lo y ((j : Int) + 1)
      show _ ≤ cumN y j + mlen y ((j : Int) + 1)
      omega
theorem fday_lt : ∀ (k : Nat) (y : Int), fday y + 365 * k ≤ fday (y + k)
  | 0, y => by simp
  | k + 1, y => by
    have h1 := fday_lt k y
    have h2 := fday_succ (y + k)
    have h3 := ylen_lo (y + k)
    have e : y + ((k + 1 : Nat) : Int) = y + k + 1 := by omega
    rw [e, h2]
    omega
theorem fday_mono {y z : Int} (h : y ≤ z) : fday y + 365 * (z - y) ≤ fday z := by
  have := fday_lt (z - y).toNat y
  rw [show y + ((z - y).toNat : Int) = z by omega] at this
  omega
theorem fday_last : fday 10000 = 3652060 := by decide
theorem cum_step (y m : Int) (h : 1 ≤ m) : cumN y ((m + 1) - 1).toNat = cumN y (m - 1).toNat + mlen y m := by
  obtain ⟨k, rfl⟩ : ∃ k : Nat, m = (k : Int) + 1 := ⟨(m - 1).toNat, by omega⟩
  rw [show ((k : Int) + 1 + 1 - 1).toNat = k + 1 by omega, show ((k : Int) + 1 - 1).toNat = k by omega]
  rfl
/-- a day within its year -/
theorem cum_in {y m d : Int} (h : valid y m d) : cumN y (m - 1).toNat + d ≤ ylen y := by
  obtain ⟨_, _, h1, h2, h3, h4⟩ := h
  have a := cum_step y m h1
  have b := cum_le y (i := ((m + 1) - 1).toNat) (j := 12) (by omega)
  rw [cum_12] at b
  omega
theorem cum_0 (y : Int) (m : Int) (h : 1 ≤ m) : 0 ≤ cumN y (m - 1).toNat := by
  have := cum_le y (i := 0) (j := (m - 1).toNat) (by omega)
  have e : cumN y 0 = 0 := rfl
  omega
theorem dnum_in {y m d : Int} (h : valid y m d) : fday y ≤ dnum y m d ∧ dnum y m d < fday (y + 1) := by
  have a := cum_in h
  have b := cum_0 y m h.2.2.1
  have c := fday_succ y
  obtain ⟨_, _, h1, h2, h3, h4⟩ := h
  unfold dnum
  omega
theorem dnum_bound {y m d : Int} (h : valid y m d) : 1 ≤ dnum y m d ∧ dnum y m d ≤ 3652059 := by
  have a := dnum_in h
  have b := fday_mono h.1
  have c := fday_mono (y := y + 1) (z := 10000) (by have := h.2.1; omega)
  have := h.2.1
  have := h.1
  rw [fday_one] at b
  rw [fday_last] at c
  omega
theorem dnum_inj {y m d y' m' d' : Int} (h : valid y m d) (h' : valid y' m' d') (e : dnum y m d = dnum y' m' d') : y = y' ∧ m = m' ∧ d = d' := by
  have a := dnum_in h
  have a' := dnum_in h'
  have ey : y = y' := by
    rcases Int.lt_trichotomy y y' with z | z | z
    · have := fday_mono (y := y + 1) (z := y') (by omega); omega
    · exact z
    · have := fday_mono (y := y' + 1) (z := y) (by omega); omega
  subst ey
  have em : m = m' := by
    obtain ⟨_, _, h1, h2, h3, h4⟩ := h
    obtain ⟨_, _, h1', h2', h3', h4'⟩ := h'
    unfold dnum at e
    rcases Int.lt_trichotomy m m' with z | z | z
    · have b := cum_le y (i := ((m + 1) - 1).toNat) (j := (m' - 1).toNat) (by omega)
      rw [cum_step y m h1] at b; omega
    · exact z
    · have b := cum_le y (i := ((m' + 1) - 1).toNat) (j := (m - 1).toNat) (by omega)
      rw [cum_step y m' h1'] at b; omega
  subst em
  refine ⟨rfl, rfl, ?_⟩
  unfold dnum at e
  omega
def nextY (y m d : Int) : Int := if d < mlen y m then y else if m < 12 then y else y + 1
def nextM (y m d : Int) : Int := if d < mlen y m then m else if m < 12 then m + 1 else 1
def nextD (y m d : Int) : Int := if d < mlen y m then d + 1 else 1
theorem dnum_next {y m d : Int} (h : valid y m d) : dnum (nextY y m d) (nextM y m d) (nextD y m d) = dnum y m d + 1 := by
  obtain ⟨_, _, h1, h2, h3, h4⟩ := h
  unfold nextY nextM nextD
  by_cases a : d < mlen y m
  · simp only [if_pos a]; unfold dnum; omega
  · simp only [if_neg a]
    by_cases b : m < 12
    · simp only [if_pos b]
      unfold dnum
      rw [cum_step y m h1]
      omega
    · simp only [if_neg b]
      have em : m = 12 := by omega
      subst em
      unfold dnum
      have c := cum_step y 12 (by omega)
      have d12 := cum_12 y
      have f := fday_succ y
      rw [show ((12 : Int) + 1 - 1).toNat = 12 by rfl, d12] at c
      have z : cumN (y + 1) ((1 : Int) - 1).toNat = 0 := rfl
      rw [z]
      omega
theorem valid_next {y m d : Int} (h : valid y m d) (hy : nextY y m d ≠ 10000) : valid (nextY y m d) (nextM y m d) (nextD y m d) := by
  obtain ⟨a1, a2, h1, h2, h3, h4⟩ := h
  unfold nextY nextM nextD at *
  by_cases a : d < mlen y m
  · simp only [if_pos a] at *; exact ⟨a1, a2, h1, h2, by omega, by omega⟩
  · simp only [if_neg a] at *
    by_cases b : m < 12
    · simp only [if_pos b] at *
      have := mlen_lo y (m + 1)
      exact ⟨a1, a2, by omega, by omega, by omega, by omega⟩
    · simp only [if_neg b] at *
      have := mlen_lo (y + 1) 1
      exact ⟨by omega, by omega, by omega, by omega, by omega, by omega⟩
theorem next_last {y m d : Int} (h : valid y m d) (hy : nextY y m d = 10000) : dnum y m d = 3652059 := by
  have a := dnum_next h
  have b := fday_last
  obtain ⟨a1, a2, h1, h2, h3, h4⟩ := h
  have e : nextM y m d = 1 ∧ nextD y m d = 1 := by
    unfold nextY at hy
    unfold nextM nextD
    by_cases c : d < mlen y m
    · rw [if_pos c] at hy; omega
    · rw [if_neg c] at hy
      by_cases g : m < 12
      · rw [if_pos g] at hy; omega
      · simp only [if_neg c, if_neg g, and_self]
  rw [hy, e.1, e.2] at a
  unfold dnum at a
  have z : cumN 10000 ((1 : Int) - 1).toNat = 0 := rfl
  rw [z, b] at a
  unfold dnum
  omega
end Law
namespace Law
open PySem L2 Hf PySem.Spec PyProof.Rows
def topS (i : Nat) : Stmt := PySem.Challenge.pw_headerfold_k40_moments_refused.main.body.getD i (.Pass ⟨0, 0, 0, 0⟩)
abbrev s_law_begin : Stmt := topS 60
theorem sc_law_begin : FnScope ["script"] ["script"] (defScope s_law_begin) := ⟨rfl, rfl, rfl, by decide +kernel, rfl, by decide +kernel, by decide +kernel⟩
abbrev s_law_mixed : Stmt := topS 61
theorem sc_law_mixed : FnScope ["cell", "k", "mixed"] ["cell", "k"] (defScope s_law_mixed) := ⟨rfl, rfl, rfl, by decide +kernel, rfl, by decide +kernel, by decide +kernel⟩
abbrev s_law_next : Stmt := topS 62
theorem sc_law_next : FnScope ["draw", "bound", "found", "cells", "cell"] ["draw", "bound"] (defScope s_law_next) := ⟨rfl, rfl, rfl, by decide +kernel, rfl, by decide +kernel, by decide +kernel⟩
abbrev s_is_whole : Stmt := topS 19
theorem sc_is_whole : FnScope ["thing", "least", "most"] ["thing", "least", "most"] (defScope s_is_whole) := ⟨rfl, rfl, rfl, by decide +kernel, rfl, by decide +kernel, by decide +kernel⟩
abbrev s_has_leap_day : Stmt := topS 20
theorem sc_has_leap_day : FnScope ["year"] ["year"] (defScope s_has_leap_day) := ⟨rfl, rfl, rfl, by decide +kernel, rfl, by decide +kernel, by decide +kernel⟩
abbrev s_month_length : Stmt := topS 21
theorem sc_month_length : FnScope ["year", "month"] ["year", "month"] (defScope s_month_length) := ⟨rfl, rfl, rfl, by decide +kernel, rfl, by decide +kernel, by decide +kernel⟩
abbrev s_first_day : Stmt := topS 22
theorem sc_first_day : FnScope ["year", "before"] ["year"] (defScope s_first_day) := ⟨rfl, rfl, rfl, by decide +kernel, rfl, by decide +kernel, by decide +kernel⟩
abbrev s_check_year : Stmt := topS 23
theorem sc_check_year : FnScope ["year"] ["year"] (defScope s_check_year) := ⟨rfl, rfl, rfl, by decide +kernel, rfl, by decide +kernel, by decide +kernel⟩
abbrev s_check_month : Stmt := topS 24
theorem sc_check_month : FnScope ["year", "month"] ["year", "month"] (defScope s_check_month) := ⟨rfl, rfl, rfl, by decide +kernel, rfl, by decide +kernel, by decide +kernel⟩
abbrev s_check_day : Stmt := topS 25
theorem sc_check_day : FnScope ["year", "month", "day"] ["year", "month", "day"] (defScope s_check_day) := ⟨rfl, rfl, rfl, by decide +kernel, rfl, by decide +kernel, by decide +kernel⟩
abbrev s_check_number : Stmt := topS 26
theorem sc_check_number : FnScope ["number"] ["number"] (defScope s_check_number) := ⟨rfl, rfl, rfl, by decide +kernel, rfl, by decide +kernel, by decide +kernel⟩
abbrev s_day_number : Stmt := topS 27
theorem sc_day_number : FnScope ["year", "month", "day", "earlier"] ["year", "month", "day"] (defScope s_day_number) := ⟨rfl, rfl, rfl, by decide +kernel, rfl, by decide +kernel, by decide +kernel⟩
abbrev s_date_of : Stmt := topS 28
theorem sc_date_of : FnScope ["number", "year", "rest", "month"] ["number"] (defScope s_date_of) := ⟨rfl, rfl, rfl, by decide +kernel, rfl, by decide +kernel, by decide +kernel⟩
abbrev s_weekday_of : Stmt := topS 29
theorem sc_weekday_of : FnScope ["number"] ["number"] (defScope s_weekday_of) := ⟨rfl, rfl, rfl, by decide +kernel, rfl, by decide +kernel, by decide +kernel⟩
abbrev s_law_length : Stmt := topS 63
theorem sc_law_length : FnScope ["y", "mo"] ["y", "mo"] (defScope s_law_length) := ⟨rfl, rfl, rfl, by decide +kernel, rfl, by decide +kernel, by decide +kernel⟩
abbrev s_law_year : Stmt := topS 64
theorem sc_law_year : FnScope ["draw", "some"] ["draw"] (defScope s_law_year) := ⟨rfl, rfl, rfl, by decide +kernel, rfl, by decide +kernel, by decide +kernel⟩
abbrev s_law_date : Stmt := topS 65
theorem sc_law_date : FnScope ["draw", "y", "mo", "way", "most"] ["draw"] (defScope s_law_date) := ⟨rfl, rfl, rfl, by decide +kernel, rfl, by decide +kernel, by decide +kernel⟩
abbrev s_law_said : Stmt := topS 70
theorem sc_law_said : FnScope ["call", "caught", "found", "e", "some", "others", "word"] ["call"] (defScope s_law_said) := ⟨rfl, rfl, rfl, by decide +kernel, rfl, by decide +kernel, by decide +kernel⟩
abbrev s_Moment___init__ : Stmt := clsAt (topS 43) 0
theorem sc_Moment___init__ : FnScope ["self", "year", "month", "day", "hour", "minute", "second", "zone", "given", "most"] ["self", "year", "month", "day", "hour", "minute", "second", "zone"] (defScope s_Moment___init__) := ⟨rfl, rfl, rfl, by decide +kernel, rfl, by decide +kernel, by decide +kernel⟩
abbrev s_Moment_year : Stmt := clsAt (topS 43) 1
theorem sc_Moment_year : FnScope ["self"] ["self"] (defScope s_Moment_year) := ⟨rfl, rfl, rfl, by decide +kernel, rfl, by decide +kernel, by decide +kernel⟩
abbrev s_Moment_month : Stmt := clsAt (topS 43) 2
theorem sc_Moment_month : FnScope ["self"] ["self"] (defScope s_Moment_month) := ⟨rfl, rfl, rfl, by decide +kernel, rfl, by decide +kernel, by decide +kernel⟩
abbrev s_Moment_day : Stmt := clsAt (topS 43) 3
theorem sc_Moment_day : FnScope ["self"] ["self"] (defScope s_Moment_day) := ⟨rfl, rfl, rfl, by decide +kernel, rfl, by decide +kernel, by decide +kernel⟩
abbrev s_Moment_hour : Stmt := clsAt (topS 43) 4
theorem sc_Moment_hour : FnScope ["self"] ["self"] (defScope s_Moment_hour) := ⟨rfl, rfl, rfl, by decide +kernel, rfl, by decide +kernel, by decide +kernel⟩
abbrev s_Moment_minute : Stmt := clsAt (topS 43) 5
theorem sc_Moment_minute : FnScope ["self"] ["self"] (defScope s_Moment_minute) := ⟨rfl, rfl, rfl, by decide +kernel, rfl, by decide +kernel, by decide +kernel⟩
abbrev s_Moment_second : Stmt := clsAt (topS 43) 6
theorem sc_Moment_second : FnScope ["self"] ["self"] (defScope s_Moment_second) := ⟨rfl, rfl, rfl, by decide +kernel, rfl, by decide +kernel, by decide +kernel⟩
abbrev s_Moment_zone : Stmt := clsAt (topS 43) 7
theorem sc_Moment_zone : FnScope ["self"] ["self"] (defScope s_Moment_zone) := ⟨rfl, rfl, rfl, by decide +kernel, rfl, by decide +kernel, by decide +kernel⟩
abbrev s_local_seconds : Stmt := topS 44
theorem sc_local_seconds : FnScope ["row", "year", "month", "day", "hour", "minute", "second", "zone"] ["row"] (defScope s_local_seconds) := ⟨rfl, rfl, rfl, by decide +kernel, rfl, by decide +kernel, by decide +kernel⟩
abbrev s_Moment_weekday : Stmt := clsAt (topS 43) 8
theorem sc_Moment_weekday : FnScope ["self"] ["self"] (defScope s_Moment_weekday) := ⟨rfl, rfl, rfl, by decide +kernel, rfl, by decide +kernel, by decide +kernel⟩
abbrev s_Moment_instant : Stmt := clsAt (topS 43) 9
theorem sc_Moment_instant : FnScope ["self"] ["self"] (defScope s_Moment_instant) := ⟨rfl, rfl, rfl, by decide +kernel, rfl, by decide +kernel, by decide +kernel⟩
abbrev s_Moment___eq__ : Stmt := clsAt (topS 43) 12
theorem sc_Moment___eq__ : FnScope ["self", "other"] ["self", "other"] (defScope s_Moment___eq__) := ⟨rfl, rfl, rfl, by decide +kernel, rfl, by decide +kernel, by decide +kernel⟩
abbrev s_law_zone : Stmt := topS 66
theorem sc_law_zone : FnScope ["draw"] ["draw"] (defScope s_law_zone) := ⟨rfl, rfl, rfl, by decide +kernel, rfl, by decide +kernel, by decide +kernel⟩
abbrev s_law_seven : Stmt := topS 67
theorem sc_law_seven : FnScope ["draw", "h", "mi", "s"] ["draw"] (defScope s_law_seven) := ⟨rfl, rfl, rfl, by decide +kernel, rfl, by decide +kernel, by decide +kernel⟩
abbrev s_law_moment : Stmt := topS 68
theorem sc_law_moment : FnScope ["seven", "y", "mo", "d", "h", "mi", "s", "z_here"] ["seven"] (defScope s_law_moment) := ⟨rfl, rfl, rfl, by decide +kernel, rfl, by decide +kernel, by decide +kernel⟩
abbrev s_law_told : Stmt := topS 69
theorem sc_law_told : FnScope ["thing"] ["thing"] (defScope s_law_told) := ⟨rfl, rfl, rfl, by decide +kernel, rfl, by decide +kernel, by decide +kernel⟩
abbrev s_Moment_is_before : Stmt := clsAt (topS 43) 13
theorem sc_Moment_is_before : FnScope ["self", "other"] ["self", "other"] (defScope s_Moment_is_before) := ⟨rfl, rfl, rfl, by decide +kernel, rfl, by decide +kernel, by decide +kernel⟩
abbrev s_consists_of : Stmt := topS 32
theorem sc_consists_of : FnScope ["thing", "signs", "sign"] ["thing", "signs"] (defScope s_consists_of) := ⟨rfl, rfl, rfl, by decide +kernel, rfl, by decide +kernel, by decide +kernel⟩
abbrev s_is_body : Stmt := topS 33
theorem sc_is_body : FnScope ["thing"] ["thing"] (defScope s_is_body) := ⟨rfl, rfl, rfl, by decide +kernel, rfl, by decide +kernel, by decide +kernel⟩
abbrev s_read_moment : Stmt := topS 57
theorem sc_read_moment : FnScope ["body", "plain", "defects", "words", "reading", "made"] ["body"] (defScope s_read_moment) := ⟨rfl, rfl, rfl, by decide +kernel, rfl, by decide +kernel, by decide +kernel⟩
abbrev s_two : Stmt := topS 42
theorem sc_two : FnScope ["number"] ["number"] (defScope s_two) := ⟨rfl, rfl, rfl, by decide +kernel, rfl, by decide +kernel, by decide +kernel⟩
abbrev s_moment_pieces : Stmt := topS 58
theorem sc_moment_pieces : FnScope ["moment", "year", "month", "day", "hour", "minute", "second", "zone", "clock", "sign", "size", "weekday", "offset"] ["moment"] (defScope s_moment_pieces) := ⟨rfl, rfl, rfl, by decide +kernel, rfl, by decide +kernel, by decide +kernel⟩
abbrev s_law_right : Stmt := topS 71
theorem sc_law_right : FnScope ["draw", "seven", "thing", "rough", "odd", "told", "others", "one"] ["draw", "seven"] (defScope s_law_right) := ⟨rfl, rfl, rfl, by decide +kernel, rfl, by decide +kernel, by decide +kernel⟩
abbrev s_law : Stmt := topS 72
theorem sc_law : FnScope ["script", "draw", "turn"] ["script"] (defScope s_law) := ⟨rfl, rfl, rfl, by decide +kernel, rfl, by decide +kernel, by decide +kernel⟩
end Law
namespace Law
open PySem Hf
open L2 (V)
abbrev RR : PySem.W.OpenRow := PySem.W.OpenLaw.row PySem.Challenge.rw_headerfold_k40_moments_refused
abbrev D_law_begin : FD := ⟨gAd "_law_begin", "_law_begin", "_law_begin", L2.defArgs s_law_begin, L2.defBody s_law_begin, L2.defScope s_law_begin, [], [], []⟩
abbrev D_law_mixed : FD := ⟨gAd "_law_mixed", "_law_mixed", "_law_mixed", L2.defArgs s_law_mixed, L2.defBody s_law_mixed, L2.defScope s_law_mixed, [], [], []⟩
abbrev D_law_next : FD := ⟨gAd "_law_next", "_law_next", "_law_next", L2.defArgs s_law_next, L2.defBody s_law_next, L2.defScope s_law_next, [], [], []⟩
abbrev D_is_whole : FD := ⟨gAd "is_whole", "is_whole", "is_whole", L2.defArgs s_is_whole, L2.defBody s_is_whole, L2.defScope s_is_whole, [], [], []⟩
abbrev D_has_leap_day : FD := ⟨gAd "has_leap_day", "has_leap_day", "has_leap_day", L2.defArgs s_has_leap_day, L2.defBody s_has_leap_day, L2.defScope s_has_leap_day, [], [], []⟩
abbrev D_month_length : FD := ⟨gAd "month_length", "month_length", "month_length", L2.defArgs s_month_length, L2.defBody s_month_length, L2.defScope s_month_length, [], [], []⟩
abbrev D_first_day : FD := ⟨gAd "first_day", "first_day", "first_day", L2.defArgs s_first_day, L2.defBody s_first_day, L2.defScope s_first_day, [], [], []⟩
abbrev D_check_year : FD := ⟨gAd "check_year", "check_year", "check_year", L2.defArgs s_check_year, L2.defBody s_check_year, L2.defScope s_check_year, [], [], []⟩
abbrev D_check_month : FD := ⟨gAd "check_month", "check_month", "check_month", L2.defArgs s_check_month, L2.defBody s_check_month, L2.defScope s_check_month, [], [], []⟩
abbrev D_check_day : FD := ⟨gAd "check_day", "check_day", "check_day", L2.defArgs s_check_day, L2.defBody s_check_day, L2.defScope s_check_day, [], [], []⟩
abbrev D_check_number : FD := ⟨gAd "check_number", "check_number", "check_number", L2.defArgs s_check_number, L2.defBody s_check_number, L2.defScope s_check_number, [], [], []⟩
abbrev D_day_number : FD := ⟨gAd "day_number", "day_number", "day_number", L2.defArgs s_day_number, L2.defBody s_day_number, L2.defScope s_day_number, [], [], []⟩
abbrev D_date_of : FD := ⟨gAd "date_of", "date_of", "date_of", L2.defArgs s_date_of, L2.defBody s_date_of, L2.defScope s_date_of, [], [], []⟩
abbrev D_weekday_of : FD := ⟨gAd "weekday_of", "weekday_of", "weekday_of", L2.defArgs s_weekday_of, L2.defBody s_weekday_of, L2.defScope s_weekday_of, [], [], []⟩
abbrev D_law_length : FD := ⟨gAd "_law_length", "_law_length", "_law_length", L2.defArgs s_law_length, L2.defBody s_law_length, L2.defScope s_law_length, [], [], []⟩
abbrev D_law_year : FD := ⟨gAd "_law_year", "_law_year", "_law_year", L2.defArgs s_law_year, L2.defBody s_law_year, L2.defScope s_law_year, [], [], []⟩
abbrev D_law_date : FD := ⟨gAd "_law_date", "_law_date", "_law_date", L2.defArgs s_law_date, L2.defBody s_law_date, L2.defScope s_law_date, [], [], []⟩
abbrev D_law_said : FD := ⟨gAd "_law_said", "_law_said", "_law_said", L2.defArgs s_law_said, L2.defBody s_law_said, L2.defScope s_law_said, [], [], []⟩
abbrev D_Moment___init__ : FD := ⟨mAd "Moment" "__init__", "__init__", "Moment.__init__", L2.defArgs s_Moment___init__, L2.defBody s_Moment___init__, L2.defScope s_Moment___init__, [], [V.int 0, V.int 0, V.int 0], [("zone", V.int 0)]⟩
abbrev D_Moment_year : FD := ⟨pAd "Moment" "year", "year", "Moment.year", L2.defArgs s_Moment_year, L2.defBody s_Moment_year, L2.defScope s_Moment_year, [], [], []⟩
abbrev D_Moment_month : FD := ⟨pAd "Moment" "month", "month", "Moment.month", L2.defArgs s_Moment_month, L2.defBody s_Moment_month, L2.defScope s_Moment_month, [], [], []⟩
abbrev D_Moment_day : FD := ⟨pAd "Moment" "day", "day", "Moment.day", L2.defArgs s_Moment_day, L2.defBody s_Moment_day, L2.defScope s_Moment_day, [], [], []⟩
abbrev D_Moment_hour : FD := ⟨pAd "Moment" "hour", "hour", "Moment.hour", L2.defArgs s_Moment_hour, L2.defBody s_Moment_hour, L2.defScope s_Moment_hour, [], [], []⟩
abbrev D_Moment_minute : FD := ⟨pAd "Moment" "minute", "minute", "Moment.minute", L2.defArgs s_Moment_minute, L2.defBody s_Moment_minute, L2.defScope s_Moment_minute, [], [], []⟩
abbrev D_Moment_second : FD := ⟨pAd "Moment" "second", "second", "Moment.second", L2.defArgs s_Moment_second, L2.defBody s_Moment_second, L2.defScope s_Moment_second, [], [], []⟩
abbrev D_Moment_zone : FD := ⟨pAd "Moment" "zone", "zone", "Moment.zone", L2.defArgs s_Moment_zone, L2.defBody s_Moment_zone, L2.defScope s_Moment_zone, [], [], []⟩
abbrev D_local_seconds : FD := ⟨gAd "local_seconds", "local_seconds", "local_seconds", L2.defArgs s_local_seconds, L2.defBody s_local_seconds, L2.defScope s_local_seconds, [], [], []⟩
abbrev D_Moment_weekday : FD := ⟨pAd "Moment" "weekday", "weekday", "Moment.weekday", L2.defArgs s_Moment_weekday, L2.defBody s_Moment_weekday, L2.defScope s_Moment_weekday, [], [], []⟩
abbrev D_Moment_instant : FD := ⟨pAd "Moment" "instant", "instant", "Moment.instant", L2.defArgs s_Moment_instant, L2.defBody s_Moment_instant, L2.defScope s_Moment_instant, [], [], []⟩
abbrev D_Moment___eq__ : FD := ⟨mAd "Moment" "__eq__", "__eq__", "Moment.__eq__", L2.defArgs s_Moment___eq__, L2.defBody s_Moment___eq__, L2.defScope s_Moment___eq__, [], [], []⟩
abbrev D_law_zone : FD := ⟨gAd "_law_zone", "_law_zone", "_law_zone", L2.defArgs s_law_zone, L2.defBody s_law_zone, L2.defScope s_law_zone, [], [], []⟩
abbrev D_law_seven : FD := ⟨gAd "_law_seven", "_law_seven", "_law_seven", L2.defArgs s_law_seven, L2.defBody s_law_seven, L2.defScope s_law_seven, [], [], []⟩
abbrev D_law_moment : FD := ⟨gAd "_law_moment", "_law_moment", "_law_moment", L2.defArgs s_law_moment, L2.defBody s_law_moment, L2.defScope s_law_moment, [], [], []⟩
abbrev D_law_told : FD := ⟨gAd "_law_told", "_law_told", "_law_told", L2.defArgs s_law_told, L2.defBody s_law_told, L2.defScope s_law_told, [], [], []⟩
abbrev D_Moment_is_before : FD := ⟨mAd "Moment" "is_before", "is_before", "Moment.is_before", L2.defArgs s_Moment_is_before, L2.defBody s_Moment_is_before, L2.defScope s_Moment_is_before, [], [], []⟩
abbrev D_consists_of : FD := ⟨gAd "consists_of", "consists_of", "consists_of", L2.defArgs s_consists_of, L2.defBody s_consists_of, L2.defScope s_consists_of, [], [], []⟩
abbrev D_is_body : FD := ⟨gAd "is_body", "is_body", "is_body", L2.defArgs s_is_body, L2.defBody s_is_body, L2.defScope s_is_body, [], [], []⟩
abbrev D_read_moment : FD := ⟨gAd "read_moment", "read_moment", "read_moment", L2.defArgs s_read_moment, L2.defBody s_read_moment, L2.defScope s_read_moment, [], [], []⟩
abbrev D_two : FD := ⟨gAd "two", "two", "two", L2.defArgs s_two, L2.defBody s_two, L2.defScope s_two, [], [], []⟩
abbrev D_moment_pieces : FD := ⟨gAd "moment_pieces", "moment_pieces", "moment_pieces", L2.defArgs s_moment_pieces, L2.defBody s_moment_pieces, L2.defScope s_moment_pieces, [], [], []⟩
abbrev D_law_right : FD := ⟨gAd "_law_right", "_law_right", "_law_right", L2.defArgs s_law_right, L2.defBody s_law_right, L2.defScope s_law_right, [], [], []⟩
abbrev D_law : FD := ⟨gAd "law", "law", "law", L2.defArgs s_law, L2.defBody s_law, L2.defScope s_law, [], [], []⟩
abbrev X_BadBody : FD := ⟨mAd "BadBody" "__init__", "__init__", "BadBody.__init__", L2.defArgs (clsAt (topS 3) 0), L2.defBody (clsAt (topS 3) 0), L2.defScope (clsAt (topS 3) 0), [("__class__" : Str)], [], []⟩
abbrev X_BadContent : FD := ⟨mAd "BadContent" "__init__", "__init__", "BadContent.__init__", L2.defArgs (clsAt (topS 8) 0), L2.defBody (clsAt (topS 8) 0), L2.defScope (clsAt (topS 8) 0), [("__class__" : Str)], [], []⟩
abbrev X_BadDate : FD := ⟨mAd "BadDate" "__init__", "__init__", "BadDate.__init__", L2.defArgs (clsAt (topS 6) 0), L2.defBody (clsAt (topS 6) 0), L2.defScope (clsAt (topS 6) 0), [("__class__" : Str)], [], []⟩
abbrev X_BadHeader : FD := ⟨mAd "BadHeader" "__init__", "__init__", "BadHeader.__init__", L2.defArgs (clsAt (topS 9) 0), L2.defBody (clsAt (topS 9) 0), L2.defScope (clsAt (topS 9) 0), [("__class__" : Str)], [], []⟩
abbrev X_BadNumber : FD := ⟨mAd "BadNumber" "__init__", "__init__", "BadNumber.__init__", L2.defArgs (clsAt (topS 7) 0), L2.defBody (clsAt (topS 7) 0), L2.defScope (clsAt (topS 7) 0), [("__class__" : Str)], [], []⟩
abbrev X_BadText : FD := ⟨mAd "BadText" "__init__", "__init__", "BadText.__init__", L2.defArgs (clsAt (topS 4) 0), L2.defBody (clsAt (topS 4) 0), L2.defScope (clsAt (topS 4) 0), [("__class__" : Str)], [], []⟩
abbrev X_BadWidth : FD := ⟨mAd "BadWidth" "__init__", "__init__", "BadWidth.__init__", L2.defArgs (clsAt (topS 5) 0), L2.defBody (clsAt (topS 5) 0), L2.defScope (clsAt (topS 5) 0), [("__class__" : Str)], [], []⟩
abbrev X_NoCode : FD := ⟨mAd "NoCode" "__init__", "__init__", "NoCode.__init__", L2.defArgs (clsAt (topS 12) 0), L2.defBody (clsAt (topS 12) 0), L2.defScope (clsAt (topS 12) 0), [("__class__" : Str)], [], []⟩
def fds : List FD := ([D_law_begin, D_law_mixed, D_law_next, D_is_whole, D_has_leap_day, D_month_length, D_first_day, D_check_year, D_check_month, D_check_day, D_check_number, D_day_number, D_date_of, D_weekday_of, D_law_length, D_law_year, D_law_date, D_law_said, D_Moment___init__, D_Moment_year, D_Moment_month, D_Moment_day, D_Moment_hour, D_Moment_minute, D_Moment_second, D_Moment_zone, D_local_seconds, D_Moment_weekday, D_Moment_instant, D_Moment___eq__, D_law_zone, D_law_seven, D_law_moment, D_law_told, D_Moment_is_before, D_consists_of] : List FD) ++ ([D_is_body, D_read_moment, D_two, D_moment_pieces, D_law_right, D_law, X_BadBody, X_BadContent, X_BadDate, X_BadHeader, X_BadNumber, X_BadText, X_BadWidth, X_NoCode] : List FD)
def pls : List FD := ([D_law_begin, D_law_mixed, D_law_next, D_is_whole, D_has_leap_day, D_month_length, D_first_day, D_check_year, D_check_month, D_check_day, D_check_number, D_day_number, D_date_of, D_weekday_of, D_law_length, D_law_year, D_law_date, D_law_said, D_Moment___init__, D_Moment_year, D_Moment_month, D_Moment_day, D_Moment_hour, D_Moment_minute, D_Moment_second, D_Moment_zone, D_local_seconds, D_Moment_weekday, D_Moment_instant, D_Moment___eq__, D_law_zone, D_law_seven, D_law_moment, D_law_told, D_Moment_is_before, D_consists_of] : List FD) ++ ([D_is_body, D_read_moment, D_two, D_moment_pieces, D_law_right, D_law] : List FD)
def fcs : List Fc := ([.glo "_law_begin", .glo "_law_mixed", .glo "_law_next", .glo "is_whole", .glo "has_leap_day", .glo "month_length", .glo "first_day", .glo "check_year", .glo "check_month", .glo "check_day", .glo "check_number", .glo "day_number", .glo "date_of", .glo "weekday_of", .glo "_law_length", .glo "_law_year", .glo "_law_date", .glo "_law_said", .meth "Moment" "__init__", .prop "Moment" "year", .prop "Moment" "month", .prop "Moment" "day", .prop "Moment" "hour", .prop "Moment" "minute", .prop "Moment" "second", .prop "Moment" "zone", .glo "local_seconds", .prop "Moment" "weekday", .prop "Moment" "instant", .meth "Moment" "__eq__", .glo "_law_zone", .glo "_law_seven", .glo "_law_moment", .glo "_law_told", .meth "Moment" "is_before", .glo "consists_of"] : List Fc) ++ ([.glo "is_body", .glo "read_moment", .glo "two", .glo "moment_pieces", .glo "_law_right", .glo "law", .cls "Moment", .noat "Moment" "row", .neb "Moment", .free "LookupError", .free "RuntimeError", .free "ValueError", .free "abs", .free "all", .free "bool", .free "int", .free "isinstance", .free "len", .free "list", .free "min", .free "range", .free "repr", .free "str", .free "sum", .con "LAST_YEAR" (V.int 9999), .tup "LENGTHS" [V.int 31, V.int 28, V.int 31, V.int 30, V.int 31, V.int 30, V.int 31, V.int 31, V.int 30, V.int 31, V.int 30, V.int 31], .con "CYCLE_YEARS" (V.int 400), .con "CYCLE_DAYS" (V.int 146097), .con "LAST_DAY" (V.int 3652059), .con "MARKS" (V.str " !\"#$&'()*+,-./0123456789:;<=>?@ABCDEFGHIJKLMNOPQRSTUVWXYZ[\\]^_`abcdefghijklmnopqrstuvwxyz{|}~"), .tup "WEEKDAYS" [V.str "Mon", V.str "Tue", V.str "Wed", V.str "Thu", V.str "Fri", V.str "Sat", V.str "Sun"], .tup "MONTHS" [V.str "Jan", V.str "Feb", V.str "Mar", V.str "Apr", V.str "May", V.str "Jun", V.str "Jul", V.str "Aug", V.str "Sep", V.str "Oct", V.str "Nov", V.str "Dec"], .con "DAY_SECONDS" (V.int 86400), .con "MOST_ZONE" (V.int 899), .glo "AbsentError", .glo "HeaderError"] : List Fc) ++ ([.glo "LetterError", .xc PySem.Challenge.pw_headerfold_k40_moments_refused.main.file "BadBody" "given" [.type "ValueError", .type "Exception", .type "BaseException", .type "object"] "ValueError" "ValueError.__new__" "ValueError.__init__", .xc PySem.Challenge.pw_headerfold_k40_moments_refused.main.file "BadContent" "given" [.type "ValueError", .type "Exception", .type "BaseException", .type "object"] "ValueError" "ValueError.__new__" "ValueError.__init__", .xc PySem.Challenge.pw_headerfold_k40_moments_refused.main.file "BadDate" "given" [.type "ValueError", .type "Exception", .type "BaseException", .type "object"] "ValueError" "ValueError.__new__" "ValueError.__init__", .xc PySem.Challenge.pw_headerfold_k40_moments_refused.main.file "BadHeader" "given" [.type "ValueError", .type "Exception", .type "BaseException", .type "object"] "ValueError" "ValueError.__new__" "ValueError.__init__", .xc PySem.Challenge.pw_headerfold_k40_moments_refused.main.file "BadNumber" "given" [.type "ValueError", .type "Exception", .type "BaseException", .type "object"] "ValueError" "ValueError.__new__" "ValueError.__init__", .xc PySem.Challenge.pw_headerfold_k40_moments_refused.main.file "BadText" "given" [.type "ValueError", .type "Exception", .type "BaseException", .type "object"] "ValueError" "ValueError.__new__" "ValueError.__init__", .xc PySem.Challenge.pw_headerfold_k40_moments_refused.main.file "BadWidth" "given" [.type "ValueError", .type "Exception", .type "BaseException", .type "object"] "ValueError" "ValueError.__new__" "ValueError.__init__", .xc PySem.Challenge.pw_headerfold_k40_moments_refused.main.file "NoCode" "given" [.type "LookupError", .type "Exception", .type "BaseException", .type "object"] "LookupError" "LookupError.__new__" "LookupError.__init__", .exm "BadBody" ["HeaderError", "LetterError", "AbsentError"], .exm "BadContent" ["HeaderError", "LetterError", "AbsentError"], .exm "BadDate" ["HeaderError", "LetterError", "AbsentError"], .exm "BadNumber" ["HeaderError", "LetterError", "AbsentError"], .kit "BadBody" "BadBody" true, .kit "BadBody" "BadContent" false, .kit "BadBody" "BadDate" false, .kit "BadBody" "BadHeader" false, .kit "BadBody" "BadNumber" false, .kit "BadBody" "BadText" false, .kit "BadBody" "BadWidth" false, .kitT "BadBody" "LookupError" false, .kit "BadBody" "NoCode" false, .kitT "BadBody" "RuntimeError" false, .kitT "BadBody" "ValueError" true, .kit "BadContent" "BadBody" false, .kit "BadContent" "BadContent" true, .kit "BadContent" "BadDate" false, .kit "BadContent" "BadHeader" false, .kit "BadContent" "BadNumber" false, .kit "BadContent" "BadText" false, .kit "BadContent" "BadWidth" false, .kitT "BadContent" "LookupError" false, .kit "BadContent" "NoCode" false, .kitT "BadContent" "RuntimeError" false, .kitT "BadContent" "ValueError" true, .kit "BadDate" "BadBody" false] : List Fc) ++ ([.kit "BadDate" "BadContent" false, .kit "BadDate" "BadDate" true, .kit "BadDate" "BadHeader" false, .kit "BadDate" "BadNumber" false, .kit "BadDate" "BadText" false, .kit "BadDate" "BadWidth" false, .kitT "BadDate" "LookupError" false, .kit "BadDate" "NoCode" false, .kitT "BadDate" "RuntimeError" false, .kitT "BadDate" "ValueError" true, .kit "BadNumber" "BadBody" false, .kit "BadNumber" "BadContent" false, .kit "BadNumber" "BadDate" false, .kit "BadNumber" "BadHeader" false, .kit "BadNumber" "BadNumber" true, .kit "BadNumber" "BadText" false, .kit "BadNumber" "BadWidth" false, .kitT "BadNumber" "LookupError" false, .kit "BadNumber" "NoCode" false, .kitT "BadNumber" "RuntimeError" false, .kitT "BadNumber" "ValueError" true] : List Fc)
def tf : List (Str × Option Str) := [("_law_right", none)]
abbrev hk : PySem.W.Hook := hookH 6 fds pls fcs tf
def ob (s : PySem.W.SharedT) : AlH := obsH 6 fds pls fcs tf (HandSHeadRun.getT s)
theorem ob_eq (s : PySem.W.SharedT) : ob s = hk.obs s.abs := obsH_eq (HandSHeadRun.getT_eq s)
def nms : List Str := ([("_wall" : Str), ("HeaderError" : Str), ("BadBody" : Str), ("BadText" : Str), ("BadWidth" : Str), ("BadDate" : Str), ("BadNumber" : Str), ("BadContent" : Str), ("BadHeader" : Str), ("LetterError" : Str), ("AbsentError" : Str), ("NoCode" : Str), ("LAST_YEAR" : Str), ("LENGTHS" : Str), ("CYCLE_YEARS" : Str), ("CYCLE_DAYS" : Str), ("LAST_DAY" : Str), ("is_whole" : Str), ("has_leap_day" : Str), ("month_length" : Str), ("first_day" : Str), ("check_year" : Str), ("check_month" : Str), ("check_day" : Str), ("check_number" : Str), ("day_number" : Str), ("date_of" : Str), ("weekday_of" : Str), ("MARKS" : Str), ("consists_of" : Str), ("is_body" : Str), ("WEEKDAYS" : Str), ("MONTHS" : Str), ("LOW_WEEKDAYS" : Str), ("LOW_MONTHS" : Str), ("DIGITS" : Str)] : List Str) ++ ([("DAY_SECONDS" : Str), ("MOST_ZONE" : Str), ("two" : Str), ("Moment" : Str), ("local_seconds" : Str), ("moment_at" : Str), ("comment_end" : Str), ("without_comments" : Str), ("positions_of" : Str), ("is_digits" : Str), ("day_in" : Str), ("month_in" : Str), ("year_in" : Str), ("time_in" : Str), ("zone_in" : Str), ("Reading" : Str), ("without_doubles" : Str), ("read_moment" : Str), ("moment_pieces" : Str), ("_law_begin" : Str), ("_law_mixed" : Str), ("_law_next" : Str), ("_law_length" : Str), ("_law_year" : Str), ("_law_date" : Str), ("_law_zone" : Str), ("_law_seven" : Str), ("_law_moment" : Str), ("_law_told" : Str), ("_law_said" : Str), ("_law_right" : Str)] : List Str)
abbrev qv : Program := PySem.W.view RR.prog [72]
set_option maxRecDepth 100000 in
set_option maxHeartbeats 0 in
theorem run (w : World) : HandSHeadRun.RunEq RR qv hk ob 40000 nms w := by
  intro os
  kernel_rfl
end Law
namespace Law
open PySem L2 Hf PySem.Spec PyProof.Rows
local macro_rules
  | `(tactic| fail "many") => `(tactic| (intro xs H Q E h; repeat (first | exact congrArg List.length h.1 | obtain ⟨_, h⟩ := h)))
  | `(tactic| fail "drstep") => `(tactic| with_reducible first | apply DrawAt.same (by assumption) | apply DrawAt.new (by assumption))
  | `(tactic| fail "dr") => `(tactic| with_reducible first | assumption | ((fail "drstep"); fail "dr"))
  | `(tactic| fail "dru") => `(tactic| exact DrawAt.up (by with_reducible (fail "dr")) (by omega))
  | `(tactic| fail "ne") => `(tactic| with_reducible first | assumption | (apply Ne.symm; assumption) | (apply Ne.symm; apply ne_of_none ?_ (by assumption); fail "h") | (apply ne_of_none ?_ (by assumption); fail "h"))
  | `(tactic| fail "hstep") => `(tactic| with_reducible first | apply Same.at_ (by assumption) | apply Keep.at_ (by assumption) (by fail "dr") | apply upd_new (by assumption) | apply upd_off (by fail "ne"))
  | `(tactic| fail "h") => `(tactic| with_reducible first | assumption | exact upd_same | ((fail "hstep"); fail "h"))
  | `(tactic| fail "sqstep") => `(tactic| with_reducible first | apply Same.seq (by assumption) | apply Same.seqT (by assumption) | apply Keep.seq (by assumption) (by fail "dr") | apply Keep.seqT (by assumption) (by fail "dr") | apply seq_new (by assumption) | apply seqT_new (by assumption))
  | `(tactic| fail "sq") => `(tactic| with_reducible first | assumption | (apply SqL.of; first | assumption | exact upd_same) | (apply SqT.of; first | assumption | exact upd_same) | ((fail "sqstep"); fail "sq") | (apply SqL.of; fail "h") | (apply SqT.of; fail "h"))
  | `(tactic| fail "free") => `(tactic| with_reducible first | assumption | ((refine Same.free (H' := ?_) ?_ (by assumption)); fail "same"))
  | `(tactic| fail "free2") => `(tactic| with_reducible first | assumption | (apply Same.free (by assumption); fail "free2") | (apply free_upd; fail "free2"))
  | `(tactic| fail "samestep") => `(tactic| with_reducible first | apply Same.trans ?_ (by assumption) | apply Same.new (by assumption) | apply Same.upd (by fail "free") | apply Same.put (by fail "free2"))
  | `(tactic| fail "same") => `(tactic| with_reducible first | assumption | exact Same.refl _ | ((fail "samestep"); fail "same"))
  | `(tactic| fail "keepstep") => `(tactic| with_reducible first | apply Keep.trans ?_ (by assumption) | apply Keep.same ?_ (by assumption) | apply Keep.fresh (by assumption) | apply Keep.set)
  | `(tactic| fail "keep") => `(tactic| with_reducible first | assumption | exact Keep.refl _ _ | ((fail "keepstep"); fail "keep"))
  | `(tactic| fail "dp") => `(tactic| with_reducible first | assumption | exact Dp.non | exact Dp.bl _ | exact Dp.int _ | exact Dp.str _ | (apply Dp.lst; (fail "sq"); fail "dp") | (apply Dp.tup; (fail "sq"); fail "dp") | exact DpAll.nil | (apply DpAll.cons; (fail "dp"); fail "dp"))
  | `(tactic| fail "sz") => `(tactic| first | assumption | (simp only [List.length_cons, List.length_nil, List.length_append]; omega) | omega)
  | `(tactic| fail "cmul") => `(tactic| first | exact Or.inl ⟨by omega, by omega⟩ | exact Or.inr ⟨by omega, by omega⟩)
  | `(tactic| fail "sh") => `(tactic| first | exact Sh.non | exact Sh.bl _ | (refine Sh.int ?_; omega) | (apply Sh.list; fail "sh") | (apply Sh.tup; fail "sh") | exact Shs.nil | (apply Shs.cons; (fail "sh"); fail "sh"))
  | `(tactic| fail "all") => `(tactic| repeat (first | exact List.forall_mem_nil _ | refine List.forall_mem_cons.mpr ⟨⟨_, rfl, by omega, by omega⟩, ?_⟩))
local macro_rules
  | `(tactic| fail "as") => `(tactic| first | (with_reducible first | assumption | (apply As.cut; fail "as")) | (with_reducible apply As.app; (fail "as"); fail "as") | (refine As.of (n := 1) ?_ ?_ <;> decide) | (refine As.of (n := 100) ?_ ?_ <;> decide))
  | `(tactic| fail "line") => `(tactic| first | decide | (refine As.line (by fail "as") ?_; omega))
  | `(tactic| fail "line2") => `(tactic| first | decide | (refine As.line2 (by fail "as") (by fail "as") ?_; omega))
  | `(tactic| fail "allS") => `(tactic| repeat (first | exact List.forall_mem_nil _ | refine List.forall_mem_cons.mpr ⟨⟨_, rfl, by decide +kernel, by decide +kernel⟩, ?_⟩))
  | `(tactic| fail "szA") => `(tactic| ((show _ ≤ _); (refine Nat.le_trans (?_ : _ ≤ 100000) (by decide)); simp only [List.length_cons, List.length_nil, List.length_append]; omega))
  | `(tactic| fail "sgn") => `(tactic| with_reducible first | exact rfl | exact sg_c10 | exact sg_c32 | exact sg_c33 | exact sg_c34 | exact sg_c35 | exact sg_c36 | exact sg_c37 | exact sg_c38 | exact sg_c39 | exact sg_c40 | exact sg_c41 | exact sg_c42 | exact sg_c43 | exact sg_c44 | exact sg_c45 | exact sg_c46 | exact sg_c47 | exact sg_c48 | exact sg_c49 | exact sg_c50 | exact sg_c51 | exact sg_c52 | exact sg_c53 | exact sg_c54 | exact sg_c55 | exact sg_c56 | exact sg_c57 | exact sg_c58 | exact sg_c59 | exact sg_c60 | exact sg_c61 | exact sg_c62 | exact sg_c63 | exact sg_c64 | exact sg_c65 | exact sg_c66 | exact sg_c67 | exact sg_c68 | exact sg_c69 | exact sg_c70 | exact sg_c71 | exact sg_c72 | exact sg_c73 | exact sg_c74 | exact sg_c75 | exact sg_c76 | exact sg_c77 | exact sg_c78 | exact sg_c79 | exact sg_c80 | exact sg_c81 | exact sg_c82 | exact sg_c83 | exact sg_c84 | exact sg_c85 | exact sg_c86 | exact sg_c87 | exact sg_c88 | exact sg_c89 | exact sg_c90 | exact sg_c91 | exact sg_c92 | exact sg_c93 | exact sg_c94 | exact sg_c95 | exact sg_c96 | exact sg_c97 | exact sg_c98 | exact sg_c99 | exact sg_c100 | exact sg_c101 | exact sg_c102 | exact sg_c103 | exact sg_c104 | exact sg_c105 | exact sg_c106 | exact sg_c107 | exact sg_c108 | exact sg_c109 | exact sg_c110 | exact sg_c111 | exact sg_c112 | exact sg_c113 | exact sg_c114 | exact sg_c115 | exact sg_c116 | exact sg_c117 | exact sg_c118 | exact sg_c119 | exact sg_c120 | exact sg_c121 | exact sg_c122 | exact sg_c123 | exact sg_c124 | exact sg_c125 | exact sg_c126)
  | `(tactic| fail "allI") => `(tactic| repeat (first | exact List.forall_mem_nil _ | refine List.forall_mem_cons.mpr ⟨⟨_, rfl⟩, ?_⟩))
  | `(tactic| fail "bd") => `(tactic| (rw [Bool.eq_iff_iff]; simp <;> omega))
local macro_rules
  | `(tactic| fail "kit") => `(tactic| with_reducible first | exact k_NoneType_str | exact k_NoneType_int | exact k_NoneType_bool | exact k_NoneType_tuple | exact k_NoneType_list | exact k_NoneType_dict | exact k_bool_str | exact k_bool_int | exact k_bool_bool | exact k_bool_tuple | exact k_bool_list | exact k_bool_dict | exact k_tuple_str | exact k_tuple_int | exact k_tuple_bool | exact k_tuple_tuple | exact k_tuple_list | exact k_tuple_dict | exact k_list_str | exact k_list_int | exact k_list_bool | exact k_list_tuple | exact k_list_list | exact k_list_dict | exact k_dict_str | exact k_dict_int | exact k_dict_bool | exact k_dict_tuple | exact k_dict_list | exact k_dict_dict | exact k_int_str | exact k_int_int | exact k_int_bool | exact k_int_tuple | exact k_int_list | exact k_int_dict | exact k_str_str | exact k_str_int | exact k_str_bool | exact k_str_tuple | exact k_str_list | exact k_str_dict)
  | `(tactic| fail "ty") => `(tactic| with_reducible first | exact TyX.base .non | exact TyX.base (.bl _) | exact TyX.base (.int _) | exact TyX.base (.str _) | assumption | (apply tyx_same (by assumption); fail "ty") | (apply TyX.base; apply TyOf.lst; fail "h") | (apply TyX.base; apply TyOf.tup; fail "h") | (apply TyX.base; apply TyOf.dK; fail "h"))
local macro_rules
  | `(tactic| fail "dq") => `(tactic| with_reducible first | assumption | exact Dq.non | exact Dq.bl _ | exact Dq.int _ | exact Dq.str _ | (apply Dq.lst; (fail "sq"); fail "dq") | (apply Dq.tup; (fail "sq"); fail "dq") | (apply Dq.dct; fail "h") | exact DqAll.nil | (apply DqAll.cons; (fail "dq"); fail "dq") | ((apply Dq.same); (assumption); fail "dq") | ((apply Dq.new); (assumption); fail "dq") | (apply Dq.of; fail "dp"))
  | `(tactic| fail "szq") => `(tactic| first | assumption | exact Sz.non | exact Sz.bl _ | (refine Sz.int ?_; omega) | exact Sz.dct | (with_reducible apply Sz.list; fail "szq") | (with_reducible apply Sz.tup; fail "szq") | exact Szs.nil | (with_reducible apply Szs.cons; (fail "szq"); fail "szq") | (refine Sz.str (n := 100) ?_ ?_ <;> decide))
local macro_rules | `(tactic| fail "go1") => `(tactic| first
  | ((with_reducible apply g_var); (exact rfl))
  | with_reducible refine g_c ?_
  | with_reducible refine g_op ?_
  | with_reducible refine g_test ?_
  | with_reducible refine g_tB ?_
  | with_reducible refine g_bl ?_
  | with_reducible refine g_and ?_
  | with_reducible refine g_or ?_
  | with_reducible refine g_not ?_
  | with_reducible refine g_andV ?_
  | with_reducible refine g_orV ?_
  | with_reducible refine g_notV ?_
  | with_reducible refine g_ifE ?_
  | with_reducible refine g_chain ?_
  | with_reducible refine g_nil ?_
  | with_reducible refine g_cons ?_
  | with_reducible refine g_cb ?_
  | with_reducible refine g_callG ?_
  | with_reducible refine g_tup ?_
  | with_reducible refine g_lst ?_
  | ((with_reducible refine g_sz ?_ ?_); (fail "sz"))
  | with_reducible refine g_addI ?_
  | ((((with_reducible apply g_addL); ((fail "sq")); ((fail "sq"))); try (fail "szA")); try dsimp only [List.cons_append, List.nil_append])
  | with_reducible refine g_sub ?_
  | ((with_reducible refine g_mulI ?_ ?_); (fail "cmul"))
  | (((with_reducible apply g_rep1); (fail "h"); (decide); (decide); (decide)); dsimp only [Int.reduceToNat, List.replicate])
  | ((with_reducible refine g_div ?_ ?_); exact ⟨by omega, by omega⟩)
  | ((with_reducible refine g_mod ?_ ?_); first | omega | (simp only [List.length_map]; omega))
  | ((with_reducible refine g_pow ?_ ?_); exact ⟨by decide, by decide, by decide⟩)
  | with_reducible refine g_eqI ?_
  | with_reducible refine g_eqB ?_
  | ((with_reducible apply g_eqS); (fail "dp"); (fail "dp"); (fail "sh"); (omega))
  | ((with_reducible apply g_neS); (fail "dp"); (fail "dp"); (fail "sh"); (omega))
  | ((with_reducible apply g_reprQ); (fail "dq"); (fail "szq"); (omega); (omega))
  | ((with_reducible apply g_aug); (exact rfl))
  | ((with_reducible refine g_iaddT ?_ ?_); (fail "line2"))
  | with_reducible refine g_iaddI ?_
  | with_reducible refine g_then ?_
  | ((with_reducible apply g_tupL); (fail "sq"))
  | with_reducible refine g_revL ?_
  | ((with_reducible apply g_cntS); (exact rfl))
  | with_reducible refine g_cnt1 ?_
  | with_reducible refine g_for3 ?_
  | with_reducible refine g_callX ?_
  | with_reducible refine g_raiseX ?_
  | with_reducible refine g_isRN ?_
  | with_reducible refine g_isNN ?_
  | with_reducible refine g_exc1 ?_
  | with_reducible refine g_xv ?_
  | with_reducible refine g_eqT ?_
  | with_reducible refine g_neI ?_
  | with_reducible refine g_neB ?_
  | with_reducible refine g_neT ?_
  | with_reducible refine g_ltI ?_
  | with_reducible refine g_leI ?_
  | with_reducible refine g_gtI ?_
  | with_reducible refine g_geI ?_
  | with_reducible refine g_inS ?_
  | with_reducible refine g_niS ?_
  | ((with_reducible refine g_iteT ?_ ?_); omega)
  | ((with_reducible refine g_iteF ?_ ?_); omega)
  | ((with_reducible refine g_iteNT ?_ ?_); omega)
  | ((with_reducible refine g_iteNF ?_ ?_); omega)
  | ((with_reducible refine g_iteNF ?_ ?_); with_reducible rfl)
  | ((with_reducible refine g_iteT ?_ ?_); with_reducible rfl)
  | with_reducible refine g_ite (fun _ => ?_) (fun _ => ?_)
  | with_reducible refine g_iteN (fun _ => ?_) (fun _ => ?_)
  | with_reducible refine iteT ?_
  | with_reducible refine iteF ?_
  | ((with_reducible apply g_lenL); ((fail "sq")))
  | ((with_reducible apply g_lenU); ((fail "sq")))
  | with_reducible refine g_isiII ?_
  | with_reducible refine g_isiIB ?_
  | with_reducible refine g_isiBB ?_
  | with_reducible refine g_isiBI ?_
  | with_reducible refine g_isiSS ?_
  | with_reducible refine g_isiSI ?_
  | with_reducible refine g_isiIS ?_
  | ((with_reducible apply g_isi); (fail "ty"); (fail "kit"))
  | ((with_reducible apply g_leC); (fail "sgn"); (fail "sgn"))
  | ((with_reducible apply g_ltC); (fail "sgn"); (fail "sgn"))
  | ((with_reducible apply g_inC); (fail "sgn"))
  | ((with_reducible apply g_niC); (fail "sgn"))
  | ((with_reducible apply g_append); (exact rfl); (fail "h"))
  | (((with_reducible apply g_app); (fail "h"); (fail "sz")); try dsimp only [List.cons_append, List.nil_append])
  | with_reducible refine g_part ?_
  | with_reducible refine g_nopart ?_
  | with_reducible refine g_isint ?_
  | with_reducible refine g_un ?_
  | with_reducible refine g_neg ?_
  | with_reducible refine g_m0 ?_
  | with_reducible refine g_m1 ?_
  | with_reducible refine g_str ?_
  | with_reducible refine g_sl ?_
  | ((with_reducible refine g_slS ?_ ?_); (fail "line"))
  | ((with_reducible refine g_lenT ?_ ?_); (fail "line"))
  | ((with_reducible refine g_addT ?_ ?_); (fail "line2"))
  | with_reducible refine g_name ?_
  | with_reducible refine g_pc ?_
  | with_reducible refine g_asgG ?_
  | ((with_reducible apply g_gtup); (fail "sq"); exact rfl)
  | with_reducible refine g_gcons ?_
  | with_reducible refine g_gnil ?_
  | with_reducible refine g_pn ?_
  | with_reducible refine g_for1 ?_
  | with_reducible refine g_for2 ?_
  | with_reducible refine g_lc1 ?_
  | with_reducible refine g_lc2 ?_
  | with_reducible refine g_lcLE ?_
  | with_reducible refine g_par ?_
  | with_reducible refine g_par3 ?_
  | with_reducible refine g_two ?_
  | with_reducible refine g_i1 ?_
  | with_reducible refine g_i2 ?_
  | with_reducible refine g_three ?_
  | (with_reducible refine ⟨_, fun _ _ n => n, ?_⟩)
  | with_reducible refine g_dput ?_
  | ((with_reducible apply g_dcells); (exact rfl); ((fail "h")))
  | ((with_reducible apply g_dat); (exact rfl); ((fail "h")))
  | ((with_reducible apply g_dleft); (exact rfl); ((fail "h")))
  | ((with_reducible apply g_dused); (exact rfl); ((fail "h")))
  | ((with_reducible apply g_pat); (exact rfl); ((fail "h")))
  | ((with_reducible apply g_pleft); (exact rfl); ((fail "h")))
  | ((with_reducible apply g_pused); (exact rfl); ((fail "h")))
  | ((with_reducible apply g_ixT); (fail "sq"); (exact rfl))
  | ((with_reducible apply g_ixL); (fail "sq"); (exact rfl))
  | ((with_reducible apply g_args); (exact rfl); (exact rfl))
  | ((with_reducible refine g_sp ?_); (fail "call"))
  | ((with_reducible refine g_spx ?_); (fail "call"))
  | with_reducible refine g_iteNtt ?_
  | with_reducible refine g_iteNff ?_
  | with_reducible refine g_iteb (fun _ => ?_) (fun _ => ?_)
  | with_reducible refine g_iteNb (fun _ => ?_) (fun _ => ?_)
  | with_reducible refine g_seq ?_
  | with_reducible refine g_asg ?_
  | with_reducible refine g_ret ?_
  | with_reducible refine g_ifS ?_
  | with_reducible refine g_next ?_
  | with_reducible refine g_drop ?_
  | intro p np)
local macro_rules | `(tactic| fail "go") => `(tactic| repeat' fail "go1")
local macro_rules
  | `(tactic| fail "tbs") => `(tactic| with_reducible first | assumption | ((apply Tbs.same (by assumption)); fail "tbs") | ((apply Tbs.new (by assumption)); fail "tbs") | ((apply Tbs.keep (by assumption) (by fail "dr")); fail "tbs") | ((apply Tbs.put (by fail "h")); fail "tbs"))
  | `(tactic| fail "not") => `(tactic| with_reducible first | assumption | (apply NoT.of0; assumption) | ((apply NoT.back (by assumption)); fail "not") | ((apply NoT.backS (by assumption)); fail "not") | ((refine NoT.backU ?_ (by assumption)); fail "not"))
  | `(tactic| fail "ext") => `(tactic| with_reducible first | assumption | exact LamX.ExtN.refl _ | ((apply ExtN.snoc ?_ (by assumption)); fail "ext") | ((apply ExtN.tr ?_ (by assumption)); fail "ext") | ((apply ExtN.new (by assumption)); fail "ext") | ((apply ExtN.put (by fail "not")); fail "ext") | ((apply ExtN.same); fail "same"))
  | `(tactic| fail "hstep") => `(tactic| with_reducible first | apply ExtN.at_ (by assumption) | fail "zz")
  | `(tactic| fail "sqstep") => `(tactic| with_reducible first | apply ExtN.seq (by assumption) | apply ExtN.seqT (by assumption) | fail "zz")
  | `(tactic| fail "drstep") => `(tactic| with_reducible first | apply ExtN.draw (by assumption) | fail "zz")
local macro_rules
  | `(tactic| fail "xe") => `(tactic| with_reducible first | assumption | ((apply XE.up); (assumption); fail "same"))
  | `(tactic| fail "xa") => `(tactic| with_reducible first | assumption | ((apply XAt.same); (assumption); fail "same"))
local macro_rules | `(tactic| fail "go1") => `(tactic| first
  | with_reducible refine g_mkV ?_
  | with_reducible refine g_exc1 ?_
  | ((with_reducible apply g_xe); (fail "xe"))
  | ((with_reducible apply g_isXC); (fail "xa"); (assumption); (assumption))
  | ((with_reducible apply g_isXT); (fail "xa"); (assumption); (assumption))
  | (with_reducible refine g_isXno _ (by fail "xa") (by assumption) (by fail "sq") (by first | exact vals_r4 | exact vals_t2 | exact vals_r2) (by assumption) ?_)
  | ((with_reducible apply g_xvA); (fail "xa"); (assumption))
  | ((with_reducible apply g_cntBM); (exact rfl); (fail "sq")))
local macro_rules
  | `(tactic| fail "go1") => `(tactic| with_reducible refine g_held0 ?_)
local macro_rules
  | `(tactic| fail "braise") => `(tactic| (intro E1 Q1 H1 e1 t1 rz; (fail "go"); exact rz _ _ _ (by assumption) (by fail "same") (by assumption)))
  | `(tactic| fail "nle") => `(tactic| exact Nat.le_of_ble_eq_true rfl)
local macro_rules
  | `(tactic| fail "bret") => `(tactic| (intro E1 Q1 H1 e1 t1 hq; (fail "go"); exact hq _ _ (by fail "same") (by first | exact Dq.bl _ | exact Dq.int _ | exact Dq.str _ | exact Dq.non)))
local macro_rules | `(tactic| fail "go1") => `(tactic| first
  | with_reducible refine g_mkC ?_
  | with_reducible refine g_propC ?_
  | with_reducible refine g_fldT ?_
  | with_reducible refine g_sfldT ?_
  | ((with_reducible apply g_fldA); (fail "h"); (exact OwnC.cl (by assumption)); (assumption); (exact rfl))
  | ((with_reducible apply g_sfldA); (fail "h"); (exact OwnC.cl (by assumption)); (assumption); (exact Nat.le_of_ble_eq_true rfl))
  | ((with_reducible apply g_ins); (fail "h"); (exact OwnC.xn (by assumption)))
  | ((with_reducible apply g_isO); (assumption); (fail "h"))
  | ((with_reducible apply g_isOT); (assumption); (fail "h"); decide)
  | ((with_reducible apply g_isTO); (assumption); (fail "ty"); decide))
local macro_rules | `(tactic| fail "go1") => `(tactic| first
  | with_reducible refine g_forT0 ?_
  | ((with_reducible apply g_unT); (fail "sq"))
  | with_reducible refine g_unC ?_
  | with_reducible refine g_unN ?_
  | ((with_reducible apply g_unKT); (fail "sq"))
  | ((with_reducible apply g_unKL); (fail "sq")))
local macro_rules | `(tactic| fail "go1") => `(tactic| first
  | ((with_reducible apply g_argsC); (exact rfl); (exact rfl); intro C x dx o hx hdx hne)
  | ((with_reducible apply g_seqT); (fail "sq"); exact rfl)
  | ((with_reducible apply g_seqL); (fail "sq"); exact rfl))
local macro_rules | `(tactic| fail "go1") => `(tactic| first
  | (((with_reducible apply g_catT); (fail "sq"); (fail "sq"); (exact Nat.le_of_ble_eq_true rfl)); try dsimp only [List.cons_append, List.nil_append])
  | ((with_reducible apply g_lstOfT); (fail "sq"))
  | ((with_reducible apply g_lstOfL); (fail "sq")))
local macro_rules | `(tactic| fail "go1") => `(tactic| first
  | with_reducible refine g_methC ?_
  | ((with_reducible refine g_divW ?_ ?_ ?_); (omega); (omega))
  | ((with_reducible apply g_insM); (fail "h"); (exact OwnC.xn (by assumption)); (exact rfl)))
@[reducible] def g_check_day_3_ {α : Type} (us _ws : List α) : List α := us
theorem b_check_day_3_ : Bnd s_check_day "check_day" "check_day" ["year", "month", "day"] 3 ([] : List Str) @g_check_day_3_ := fun _ _ _ _ _ _ us ws h1 h2 => match us, ws, h1, h2 with | [_, _, _], [], _, _ => ⟨rfl, rfl⟩
theorem b_check_day_3__s : Shuf 3 0 @g_check_day_3_ := fun _ _ _ _ r _ _ _ => r
@[reducible] def g_check_month_2_ {α : Type} (us _ws : List α) : List α := us
theorem b_check_month_2_ : Bnd s_check_month "check_month" "check_month" ["year", "month"] 2 ([] : List Str) @g_check_month_2_ := fun _ _ _ _ _ _ us ws h1 h2 => match us, ws, h1, h2 with | [_, _], [], _, _ => ⟨rfl, rfl⟩
theorem b_check_month_2__s : Shuf 2 0 @g_check_month_2_ := fun _ _ _ _ r _ _ _ => r
@[reducible] def g_check_number_1_ {α : Type} (us _ws : List α) : List α := us
theorem b_check_number_1_ : Bnd s_check_number "check_number" "check_number" ["number"] 1 ([] : List Str) @g_check_number_1_ := fun _ _ _ _ _ _ us ws h1 h2 => match us, ws, h1, h2 with | [_], [], _, _ => ⟨rfl, rfl⟩
theorem b_check_number_1__s : Shuf 1 0 @g_check_number_1_ := fun _ _ _ _ r _ _ _ => r
@[reducible] def g_check_year_1_ {α : Type} (us _ws : List α) : List α := us
theorem b_check_year_1_ : Bnd s_check_year "check_year" "check_year" ["year"] 1 ([] : List Str) @g_check_year_1_ := fun _ _ _ _ _ _ us ws h1 h2 => match us, ws, h1, h2 with | [_], [], _, _ => ⟨rfl, rfl⟩
theorem b_check_year_1__s : Shuf 1 0 @g_check_year_1_ := fun _ _ _ _ r _ _ _ => r
@[reducible] def g_consists_of_2_ {α : Type} (us _ws : List α) : List α := us
theorem b_consists_of_2_ : Bnd s_consists_of "consists_of" "consists_of" ["thing", "signs"] 2 ([] : List Str) @g_consists_of_2_ := fun _ _ _ _ _ _ us ws h1 h2 => match us, ws, h1, h2 with | [_, _], [], _, _ => ⟨rfl, rfl⟩
theorem b_consists_of_2__s : Shuf 2 0 @g_consists_of_2_ := fun _ _ _ _ r _ _ _ => r
@[reducible] def g_day_number_3_ {α : Type} (us _ws : List α) : List α := us
theorem b_day_number_3_ : Bnd s_day_number "day_number" "day_number" ["year", "month", "day"] 3 ([] : List Str) @g_day_number_3_ := fun _ _ _ _ _ _ us ws h1 h2 => match us, ws, h1, h2 with | [_, _, _], [], _, _ => ⟨rfl, rfl⟩
theorem b_day_number_3__s : Shuf 3 0 @g_day_number_3_ := fun _ _ _ _ r _ _ _ => r
@[reducible] def g_first_day_1_ {α : Type} (us _ws : List α) : List α := us
theorem b_first_day_1_ : Bnd s_first_day "first_day" "first_day" ["year"] 1 ([] : List Str) @g_first_day_1_ := fun _ _ _ _ _ _ us ws h1 h2 => match us, ws, h1, h2 with | [_], [], _, _ => ⟨rfl, rfl⟩
theorem b_first_day_1__s : Shuf 1 0 @g_first_day_1_ := fun _ _ _ _ r _ _ _ => r
@[reducible] def g_has_leap_day_1_ {α : Type} (us _ws : List α) : List α := us
theorem b_has_leap_day_1_ : Bnd s_has_leap_day "has_leap_day" "has_leap_day" ["year"] 1 ([] : List Str) @g_has_leap_day_1_ := fun _ _ _ _ _ _ us ws h1 h2 => match us, ws, h1, h2 with | [_], [], _, _ => ⟨rfl, rfl⟩
theorem b_has_leap_day_1__s : Shuf 1 0 @g_has_leap_day_1_ := fun _ _ _ _ r _ _ _ => r
@[reducible] def g_is_body_1_ {α : Type} (us _ws : List α) : List α := us
theorem b_is_body_1_ : Bnd s_is_body "is_body" "is_body" ["thing"] 1 ([] : List Str) @g_is_body_1_ := fun _ _ _ _ _ _ us ws h1 h2 => match us, ws, h1, h2 with | [_], [], _, _ => ⟨rfl, rfl⟩
theorem b_is_body_1__s : Shuf 1 0 @g_is_body_1_ := fun _ _ _ _ r _ _ _ => r
@[reducible] def g_is_whole_3_ {α : Type} (us _ws : List α) : List α := us
theorem b_is_whole_3_ : Bnd s_is_whole "is_whole" "is_whole" ["thing", "least", "most"] 3 ([] : List Str) @g_is_whole_3_ := fun _ _ _ _ _ _ us ws h1 h2 => match us, ws, h1, h2 with | [_, _, _], [], _, _ => ⟨rfl, rfl⟩
theorem b_is_whole_3__s : Shuf 3 0 @g_is_whole_3_ := fun _ _ _ _ r _ _ _ => r
@[reducible] def g_law_begin_1_ {α : Type} (us _ws : List α) : List α := us
theorem b_law_begin_1_ : Bnd s_law_begin "_law_begin" "_law_begin" ["script"] 1 ([] : List Str) @g_law_begin_1_ := fun _ _ _ _ _ _ us ws h1 h2 => match us, ws, h1, h2 with | [_], [], _, _ => ⟨rfl, rfl⟩
theorem b_law_begin_1__s : Shuf 1 0 @g_law_begin_1_ := fun _ _ _ _ r _ _ _ => r
@[reducible] def g_law_date_1_ {α : Type} (us _ws : List α) : List α := us
theorem b_law_date_1_ : Bnd s_law_date "_law_date" "_law_date" ["draw"] 1 ([] : List Str) @g_law_date_1_ := fun _ _ _ _ _ _ us ws h1 h2 => match us, ws, h1, h2 with | [_], [], _, _ => ⟨rfl, rfl⟩
theorem b_law_date_1__s : Shuf 1 0 @g_law_date_1_ := fun _ _ _ _ r _ _ _ => r
@[reducible] def g_law_length_2_ {α : Type} (us _ws : List α) : List α := us
theorem b_law_length_2_ : Bnd s_law_length "_law_length" "_law_length" ["y", "mo"] 2 ([] : List Str) @g_law_length_2_ := fun _ _ _ _ _ _ us ws h1 h2 => match us, ws, h1, h2 with | [_, _], [], _, _ => ⟨rfl, rfl⟩
theorem b_law_length_2__s : Shuf 2 0 @g_law_length_2_ := fun _ _ _ _ r _ _ _ => r
@[reducible] def g_law_mixed_2_ {α : Type} (us _ws : List α) : List α := us
theorem b_law_mixed_2_ : Bnd s_law_mixed "_law_mixed" "_law_mixed" ["cell", "k"] 2 ([] : List Str) @g_law_mixed_2_ := fun _ _ _ _ _ _ us ws h1 h2 => match us, ws, h1, h2 with | [_, _], [], _, _ => ⟨rfl, rfl⟩
theorem b_law_mixed_2__s : Shuf 2 0 @g_law_mixed_2_ := fun _ _ _ _ r _ _ _ => r
@[reducible] def g_law_moment_1_ {α : Type} (us _ws : List α) : List α := us
theorem b_law_moment_1_ : Bnd s_law_moment "_law_moment" "_law_moment" ["seven"] 1 ([] : List Str) @g_law_moment_1_ := fun _ _ _ _ _ _ us ws h1 h2 => match us, ws, h1, h2 with | [_], [], _, _ => ⟨rfl, rfl⟩
theorem b_law_moment_1__s : Shuf 1 0 @g_law_moment_1_ := fun _ _ _ _ r _ _ _ => r
@[reducible] def g_law_next_2_ {α : Type} (us _ws : List α) : List α := us
theorem b_law_next_2_ : Bnd s_law_next "_law_next" "_law_next" ["draw", "bound"] 2 ([] : List Str) @g_law_next_2_ := fun _ _ _ _ _ _ us ws h1 h2 => match us, ws, h1, h2 with | [_, _], [], _, _ => ⟨rfl, rfl⟩
theorem b_law_next_2__s : Shuf 2 0 @g_law_next_2_ := fun _ _ _ _ r _ _ _ => r
@[reducible] def g_law_right_2_ {α : Type} (us _ws : List α) : List α := us
theorem b_law_right_2_ : Bnd s_law_right "_law_right" "_law_right" ["draw", "seven"] 2 ([] : List Str) @g_law_right_2_ := fun _ _ _ _ _ _ us ws h1 h2 => match us, ws, h1, h2 with | [_, _], [], _, _ => ⟨rfl, rfl⟩
theorem b_law_right_2__s : Shuf 2 0 @g_law_right_2_ := fun _ _ _ _ r _ _ _ => r
@[reducible] def g_law_said_1_ {α : Type} (us _ws : List α) : List α := us
theorem b_law_said_1_ : Bnd s_law_said "_law_said" "_law_said" ["call"] 1 ([] : List Str) @g_law_said_1_ := fun _ _ _ _ _ _ us ws h1 h2 => match us, ws, h1, h2 with | [_], [], _, _ => ⟨rfl, rfl⟩
theorem b_law_said_1__s : Shuf 1 0 @g_law_said_1_ := fun _ _ _ _ r _ _ _ => r
@[reducible] def g_law_seven_1_ {α : Type} (us _ws : List α) : List α := us
theorem b_law_seven_1_ : Bnd s_law_seven "_law_seven" "_law_seven" ["draw"] 1 ([] : List Str) @g_law_seven_1_ := fun _ _ _ _ _ _ us ws h1 h2 => match us, ws, h1, h2 with | [_], [], _, _ => ⟨rfl, rfl⟩
theorem b_law_seven_1__s : Shuf 1 0 @g_law_seven_1_ := fun _ _ _ _ r _ _ _ => r
@[reducible] def g_law_told_1_ {α : Type} (us _ws : List α) : List α := us
theorem b_law_told_1_ : Bnd s_law_told "_law_told" "_law_told" ["thing"] 1 ([] : List Str) @g_law_told_1_ := fun _ _ _ _ _ _ us ws h1 h2 => match us, ws, h1, h2 with | [_], [], _, _ => ⟨rfl, rfl⟩
theorem b_law_told_1__s : Shuf 1 0 @g_law_told_1_ := fun _ _ _ _ r _ _ _ => r
@[reducible] def g_law_year_1_ {α : Type} (us _ws : List α) : List α := us
theorem b_law_year_1_ : Bnd s_law_year "_law_year" "_law_year" ["draw"] 1 ([] : List Str) @g_law_year_1_ := fun _ _ _ _ _ _ us ws h1 h2 => match us, ws, h1, h2 with | [_], [], _, _ => ⟨rfl, rfl⟩
theorem b_law_year_1__s : Shuf 1 0 @g_law_year_1_ := fun _ _ _ _ r _ _ _ => r
@[reducible] def g_law_zone_1_ {α : Type} (us _ws : List α) : List α := us
theorem b_law_zone_1_ : Bnd s_law_zone "_law_zone" "_law_zone" ["draw"] 1 ([] : List Str) @g_law_zone_1_ := fun _ _ _ _ _ _ us ws h1 h2 => match us, ws, h1, h2 with | [_], [], _, _ => ⟨rfl, rfl⟩
theorem b_law_zone_1__s : Shuf 1 0 @g_law_zone_1_ := fun _ _ _ _ r _ _ _ => r
@[reducible] def g_local_seconds_1_ {α : Type} (us _ws : List α) : List α := us
theorem b_local_seconds_1_ : Bnd s_local_seconds "local_seconds" "local_seconds" ["row"] 1 ([] : List Str) @g_local_seconds_1_ := fun _ _ _ _ _ _ us ws h1 h2 => match us, ws, h1, h2 with | [_], [], _, _ => ⟨rfl, rfl⟩
theorem b_local_seconds_1__s : Shuf 1 0 @g_local_seconds_1_ := fun _ _ _ _ r _ _ _ => r
def g_moment_pieces_0_moment {α : Type} : List α → List α → List α
  | [], [w0] => [w0]
  | _, _ => []
theorem b_moment_pieces_0_moment : Bnd s_moment_pieces "moment_pieces" "moment_pieces" ["moment"] 0 (["moment"] : List Str) @g_moment_pieces_0_moment := fun _ _ _ _ _ _ us ws h1 h2 => match us, ws, h1, h2 with | [], [_], _, _ => ⟨rfl, rfl⟩
theorem b_moment_pieces_0_moment_s : Shuf 0 1 @g_moment_pieces_0_moment := by
  intro xs us zs ws r q h1 h2
  obtain ⟨rfl, rfl⟩ := vals_0 r h1
  obtain ⟨z0, w0, _, _, rfl, rfl, c0, q, h2⟩ := vals_S q h2
  obtain ⟨rfl, rfl⟩ := vals_0 q h2
  exact .cons c0 (.nil)
@[reducible] def g_moment_pieces_1_ {α : Type} (us _ws : List α) : List α := us
theorem b_moment_pieces_1_ : Bnd s_moment_pieces "moment_pieces" "moment_pieces" ["moment"] 1 ([] : List Str) @g_moment_pieces_1_ := fun _ _ _ _ _ _ us ws h1 h2 => match us, ws, h1, h2 with | [_], [], _, _ => ⟨rfl, rfl⟩
theorem b_moment_pieces_1__s : Shuf 1 0 @g_moment_pieces_1_ := fun _ _ _ _ r _ _ _ => r
@[reducible] def g_month_length_2_ {α : Type} (us _ws : List α) : List α := us
theorem b_month_length_2_ : Bnd s_month_length "month_length" "month_length" ["year", "month"] 2 ([] : List Str) @g_month_length_2_ := fun _ _ _ _ _ _ us ws h1 h2 => match us, ws, h1, h2 with | [_, _], [], _, _ => ⟨rfl, rfl⟩
theorem b_month_length_2__s : Shuf 2 0 @g_month_length_2_ := fun _ _ _ _ r _ _ _ => r
def g_read_moment_0_body {α : Type} : List α → List α → List α
  | [], [w0] => [w0]
  | _, _ => []
theorem b_read_moment_0_body : Bnd s_read_moment "read_moment" "read_moment" ["body"] 0 (["body"] : List Str) @g_read_moment_0_body := fun _ _ _ _ _ _ us ws h1 h2 => match us, ws, h1, h2 with | [], [_], _, _ => ⟨rfl, rfl⟩
theorem b_read_moment_0_body_s : Shuf 0 1 @g_read_moment_0_body := by
  intro xs us zs ws r q h1 h2
  obtain ⟨rfl, rfl⟩ := vals_0 r h1
  obtain ⟨z0, w0, _, _, rfl, rfl, c0, q, h2⟩ := vals_S q h2
  obtain ⟨rfl, rfl⟩ := vals_0 q h2
  exact .cons c0 (.nil)
@[reducible] def g_read_moment_1_ {α : Type} (us _ws : List α) : List α := us
theorem b_read_moment_1_ : Bnd s_read_moment "read_moment" "read_moment" ["body"] 1 ([] : List Str) @g_read_moment_1_ := fun _ _ _ _ _ _ us ws h1 h2 => match us, ws, h1, h2 with | [_], [], _, _ => ⟨rfl, rfl⟩
theorem b_read_moment_1__s : Shuf 1 0 @g_read_moment_1_ := fun _ _ _ _ r _ _ _ => r
@[reducible] def g_two_1_ {α : Type} (us _ws : List α) : List α := us
theorem b_two_1_ : Bnd s_two "two" "two" ["number"] 1 ([] : List Str) @g_two_1_ := fun _ _ _ _ _ _ us ws h1 h2 => match us, ws, h1, h2 with | [_], [], _, _ => ⟨rfl, rfl⟩
theorem b_two_1__s : Shuf 1 0 @g_two_1_ := fun _ _ _ _ r _ _ _ => r
@[reducible] def g_weekday_of_1_ {α : Type} (us _ws : List α) : List α := us
theorem b_weekday_of_1_ : Bnd s_weekday_of "weekday_of" "weekday_of" ["number"] 1 ([] : List Str) @g_weekday_of_1_ := fun _ _ _ _ _ _ us ws h1 h2 => match us, ws, h1, h2 with | [_], [], _, _ => ⟨rfl, rfl⟩
theorem b_weekday_of_1__s : Shuf 1 0 @g_weekday_of_1_ := fun _ _ _ _ r _ _ _ => r
def kg_Moment_6_zone {α : Type} (us its mv ws : List α) : List α := pick us 0 ++ (pick us 1 ++ (pick us 2 ++ (pick us 3 ++ (pick us 4 ++ (pick us 5 ++ (pick us 6 ++ (pick ws 0)))))))
theorem kb_Moment_6_zone {K : PySem.W.Frag} (f : Addr) (fd : FuncData) (F : FunD K "__init__" "Moment.__init__" (defArgs s_Moment___init__) (defBody s_Moment___init__) (defScope s_Moment___init__) [V.int 0, V.int 0, V.int 0] [("zone", V.int 0)] f fd) : ∃ its mv : List Value, KBn K fd ["self", "year", "month", "day", "hour", "minute", "second", "zone"] 7 (["zone"] : List Str) (fun us ws => kg_Moment_6_zone us its mv ws) (fun vs zs => kg_Moment_6_zone vs [V.int 0, V.int 0, V.int 0] [] zs) :=
  F.kbinds 7 (["zone"] : List Str) ([] : List (Str × V)) @kg_Moment_6_zone (fun h => nomatch h) (fun h => nomatch h) (fun q h => nomatch h) (fun r1 r2 r3 r4 => vcat (vpick r1 0) (vcat (vpick r1 1) (vcat (vpick r1 2) (vcat (vpick r1 3) (vcat (vpick r1 4) (vcat (vpick r1 5) (vcat (vpick r1 6) (vpick r4 0)))))))) (fun _ _ _ _ _ _ _ us its mv ws h1 h2 h3 h4 => match us, its, mv, ws, h1, h2, h3, h4 with | [_, _, _, _, _, _, _], [_, _, _], [], [_], _, _, _, _ => ⟨_, rfl, rfl⟩)
def kg_Moment_is_before_0_other {α : Type} (us its mv ws : List α) : List α := pick us 0 ++ (pick ws 0)
theorem kb_Moment_is_before_0_other {K : PySem.W.Frag} (f : Addr) (fd : FuncData) (F : FunD K "is_before" "Moment.is_before" (defArgs s_Moment_is_before) (defBody s_Moment_is_before) (defScope s_Moment_is_before) [] [] f fd) : ∃ its mv : List Value, KBn K fd ["self", "other"] 1 (["other"] : List Str) (fun us ws => kg_Moment_is_before_0_other us its mv ws) (fun vs zs => kg_Moment_is_before_0_other vs [] [] zs) :=
  ⟨[], [], kbindsN F 1 (["other"] : List Str) (fun {α} us ws => @kg_Moment_is_before_0_other α us [] [] ws) (fun r1 r4 => vcat (vpick r1 0) (vpick r4 0)) (fun _ _ _ _ _ _ us ws h1 h4 => match us, ws, h1, h4 with | [_], [_], _, _ => rfl)⟩
def kg_Moment_is_before_1_ {α : Type} (us its mv ws : List α) : List α := pick us 0 ++ (pick us 1)
theorem kb_Moment_is_before_1_ {K : PySem.W.Frag} (f : Addr) (fd : FuncData) (F : FunD K "is_before" "Moment.is_before" (defArgs s_Moment_is_before) (defBody s_Moment_is_before) (defScope s_Moment_is_before) [] [] f fd) : ∃ its mv : List Value, KBn K fd ["self", "other"] 2 ([] : List Str) (fun us ws => kg_Moment_is_before_1_ us its mv ws) (fun vs zs => kg_Moment_is_before_1_ vs [] [] zs) :=
  ⟨[], [], kbindsN F 2 ([] : List Str) (fun {α} us ws => @kg_Moment_is_before_1_ α us [] [] ws) (fun r1 r4 => vcat (vpick r1 0) (vpick r1 1)) (fun _ _ _ _ _ _ us ws h1 h4 => match us, ws, h1, h4 with | [_, _], [], _, _ => rfl)⟩
structure Txt0 (P : Program) (K : PySem.W.Frag) (mg : Str → Option Value) : Prop where
  d_law_begin : ∃ f, mg "_law_begin" = some (.ref f) ∧ ∃ fd, Fun K "_law_begin" "_law_begin" s_law_begin f fd
  d_law_mixed : ∃ f, mg "_law_mixed" = some (.ref f) ∧ ∃ fd, Fun K "_law_mixed" "_law_mixed" s_law_mixed f fd
  d_law_next : ∃ f, mg "_law_next" = some (.ref f) ∧ ∃ fd, Fun K "_law_next" "_law_next" s_law_next f fd
  d_is_whole : ∃ f, mg "is_whole" = some (.ref f) ∧ ∃ fd, Fun K "is_whole" "is_whole" s_is_whole f fd
  d_has_leap_day : ∃ f, mg "has_leap_day" = some (.ref f) ∧ ∃ fd, Fun K "has_leap_day" "has_leap_day" s_has_leap_day f fd
  d_month_length : ∃ f, mg "month_length" = some (.ref f) ∧ ∃ fd, Fun K "month_length" "month_length" s_month_length f fd
  d_first_day : ∃ f, mg "first_day" = some (.ref f) ∧ ∃ fd, Fun K "first_day" "first_day" s_first_day f fd
  d_check_year : ∃ f, mg "check_year" = some (.ref f) ∧ ∃ fd, Fun K "check_year" "check_year" s_check_year f fd
  d_check_month : ∃ f, mg "check_month" = some (.ref f) ∧ ∃ fd, Fun K "check_month" "check_month" s_check_month f fd
  d_check_day : ∃ f, mg "check_day" = some (.ref f) ∧ ∃ fd, Fun K "check_day" "check_day" s_check_day f fd
  d_check_number : ∃ f, mg "check_number" = some (.ref f) ∧ ∃ fd, Fun K "check_number" "check_number" s_check_number f fd
  d_day_number : ∃ f, mg "day_number" = some (.ref f) ∧ ∃ fd, Fun K "day_number" "day_number" s_day_number f fd
  d_date_of : ∃ f, mg "date_of" = some (.ref f) ∧ ∃ fd, Fun K "date_of" "date_of" s_date_of f fd
  d_weekday_of : ∃ f, mg "weekday_of" = some (.ref f) ∧ ∃ fd, Fun K "weekday_of" "weekday_of" s_weekday_of f fd
  d_law_length : ∃ f, mg "_law_length" = some (.ref f) ∧ ∃ fd, Fun K "_law_length" "_law_length" s_law_length f fd
  d_law_year : ∃ f, mg "_law_year" = some (.ref f) ∧ ∃ fd, Fun K "_law_year" "_law_year" s_law_year f fd
  d_law_date : ∃ f, mg "_law_date" = some (.ref f) ∧ ∃ fd, Fun K "_law_date" "_law_date" s_law_date f fd
  d_law_said : ∃ f, mg "_law_said" = some (.ref f) ∧ ∃ fd, Fun K "_law_said" "_law_said" s_law_said f fd
  m_Moment___init__ : ∀ C, XN K "Moment" (.ref C) → ∃ (f : Addr) (fd : FuncData), PySem.W.findIn K (.ref C) "__init__" = some (some (.ref f)) ∧ PySem.W.isFn K (.ref f) = true ∧ FunD K "__init__" "Moment.__init__" (defArgs s_Moment___init__) (defBody s_Moment___init__) (defScope s_Moment___init__) [V.int 0, V.int 0, V.int 0] [("zone", V.int 0)] f fd
  m_Moment_year : ∀ C, XN K "Moment" (.ref C) → ∃ (p f : Addr) (fd : FuncData), PropOf K C "year" p f ∧ FunD K "year" "Moment.year" (defArgs s_Moment_year) (defBody s_Moment_year) (defScope s_Moment_year) [] [] f fd
  m_Moment_month : ∀ C, XN K "Moment" (.ref C) → ∃ (p f : Addr) (fd : FuncData), PropOf K C "month" p f ∧ FunD K "month" "Moment.month" (defArgs s_Moment_month) (defBody s_Moment_month) (defScope s_Moment_month) [] [] f fd
  m_Moment_day : ∀ C, XN K "Moment" (.ref C) → ∃ (p f : Addr) (fd : FuncData), PropOf K C "day" p f ∧ FunD K "day" "Moment.day" (defArgs s_Moment_day) (defBody s_Moment_day) (defScope s_Moment_day) [] [] f fd
  m_Moment_hour : ∀ C, XN K "Moment" (.ref C) → ∃ (p f : Addr) (fd : FuncData), PropOf K C "hour" p f ∧ FunD K "hour" "Moment.hour" (defArgs s_Moment_hour) (defBody s_Moment_hour) (defScope s_Moment_hour) [] [] f fd
  m_Moment_minute : ∀ C, XN K "Moment" (.ref C) → ∃ (p f : Addr) (fd : FuncData), PropOf K C "minute" p f ∧ FunD K "minute" "Moment.minute" (defArgs s_Moment_minute) (defBody s_Moment_minute) (defScope s_Moment_minute) [] [] f fd
  m_Moment_second : ∀ C, XN K "Moment" (.ref C) → ∃ (p f : Addr) (fd : FuncData), PropOf K C "second" p f ∧ FunD K "second" "Moment.second" (defArgs s_Moment_second) (defBody s_Moment_second) (defScope s_Moment_second) [] [] f fd
  m_Moment_zone : ∀ C, XN K "Moment" (.ref C) → ∃ (p f : Addr) (fd : FuncData), PropOf K C "zone" p f ∧ FunD K "zone" "Moment.zone" (defArgs s_Moment_zone) (defBody s_Moment_zone) (defScope s_Moment_zone) [] [] f fd
  d_local_seconds : ∃ f, mg "local_seconds" = some (.ref f) ∧ ∃ fd, Fun K "local_seconds" "local_seconds" s_local_seconds f fd
  m_Moment_weekday : ∀ C, XN K "Moment" (.ref C) → ∃ (p f : Addr) (fd : FuncData), PropOf K C "weekday" p f ∧ FunD K "weekday" "Moment.weekday" (defArgs s_Moment_weekday) (defBody s_Moment_weekday) (defScope s_Moment_weekday) [] [] f fd
  m_Moment_instant : ∀ C, XN K "Moment" (.ref C) → ∃ (p f : Addr) (fd : FuncData), PropOf K C "instant" p f ∧ FunD K "instant" "Moment.instant" (defArgs s_Moment_instant) (defBody s_Moment_instant) (defScope s_Moment_instant) [] [] f fd
  m_Moment___eq__ : ∀ C, XN K "Moment" (.ref C) → ∃ (f : Addr) (fd : FuncData), PySem.W.findIn K (.ref C) "__eq__" = some (some (.ref f)) ∧ PySem.W.isFn K (.ref f) = true ∧ FunD K "__eq__" "Moment.__eq__" (defArgs s_Moment___eq__) (defBody s_Moment___eq__) (defScope s_Moment___eq__) [] [] f fd
  d_law_zone : ∃ f, mg "_law_zone" = some (.ref f) ∧ ∃ fd, Fun K "_law_zone" "_law_zone" s_law_zone f fd
  d_law_seven : ∃ f, mg "_law_seven" = some (.ref f) ∧ ∃ fd, Fun K "_law_seven" "_law_seven" s_law_seven f fd
  d_law_moment : ∃ f, mg "_law_moment" = some (.ref f) ∧ ∃ fd, Fun K "_law_moment" "_law_moment" s_law_moment f fd
  d_law_told : ∃ f, mg "_law_told" = some (.ref f) ∧ ∃ fd, Fun K "_law_told" "_law_told" s_law_told f fd
  m_Moment_is_before : ∀ C, XN K "Moment" (.ref C) → ∃ (f : Addr) (fd : FuncData), PySem.W.findIn K (.ref C) "is_before" = some (some (.ref f)) ∧ PySem.W.isFn K (.ref f) = true ∧ FunD K "is_before" "Moment.is_before" (defArgs s_Moment_is_before) (defBody s_Moment_is_before) (defScope s_Moment_is_before) [] [] f fd
  d_consists_of : ∃ f, mg "consists_of" = some (.ref f) ∧ ∃ fd, Fun K "consists_of" "consists_of" s_consists_of f fd
  d_is_body : ∃ f, mg "is_body" = some (.ref f) ∧ ∃ fd, Fun K "is_body" "is_body" s_is_body f fd
  d_read_moment : ∃ f, mg "read_moment" = some (.ref f) ∧ ∃ fd, Fun K "read_moment" "read_moment" s_read_moment f fd
  d_two : ∃ f, mg "two" = some (.ref f) ∧ ∃ fd, Fun K "two" "two" s_two f fd
  d_moment_pieces : ∃ f, mg "moment_pieces" = some (.ref f) ∧ ∃ fd, Fun K "moment_pieces" "moment_pieces" s_moment_pieces f fd
  d_law : ∃ f, mg "law" = some (.ref f) ∧ ∃ fd, Fun K "law" "law" s_law f fd
  x_BadBody : XCls P K mg "BadBody" "given"
  x_BadContent : XCls P K mg "BadContent" "given"
  x_BadDate : XCls P K mg "BadDate" "given"
  x_BadHeader : XCls P K mg "BadHeader" "given"
  x_BadNumber : XCls P K mg "BadNumber" "given"
  x_BadText : XCls P K mg "BadText" "given"
  x_BadWidth : XCls P K mg "BadWidth" "given"
  x_NoCode : XCls P K mg "NoCode" "given"
  n_AbsentError : ∃ C, XN K "AbsentError" (.ref C) ∧ mg "AbsentError" = some (.ref C)
  n_HeaderError : ∃ C, XN K "HeaderError" (.ref C) ∧ mg "HeaderError" = some (.ref C)
  n_LetterError : ∃ C, XN K "LetterError" (.ref C) ∧ mg "LetterError" = some (.ref C)
  e_BadBody : ∀ cls C1 C2 C3, XN K "BadBody" cls → XN K "HeaderError" (.ref C1) → XN K "LetterError" (.ref C2) → XN K "AbsentError" (.ref C3) → PySem.W.exmAny K cls [.ref C1, .ref C2, .ref C3] = some true
  e_BadContent : ∀ cls C1 C2 C3, XN K "BadContent" cls → XN K "HeaderError" (.ref C1) → XN K "LetterError" (.ref C2) → XN K "AbsentError" (.ref C3) → PySem.W.exmAny K cls [.ref C1, .ref C2, .ref C3] = some true
  e_BadDate : ∀ cls C1 C2 C3, XN K "BadDate" cls → XN K "HeaderError" (.ref C1) → XN K "LetterError" (.ref C2) → XN K "AbsentError" (.ref C3) → PySem.W.exmAny K cls [.ref C1, .ref C2, .ref C3] = some true
  e_BadNumber : ∀ cls C1 C2 C3, XN K "BadNumber" cls → XN K "HeaderError" (.ref C1) → XN K "LetterError" (.ref C2) → XN K "AbsentError" (.ref C3) → PySem.W.exmAny K cls [.ref C1, .ref C2, .ref C3] = some true
  i_BadBody_BadBody : ∀ C C2, XN K "BadBody" (.ref C) → XN K "BadBody" (.ref C2) → PySem.W.kitOne K (.ref C) (.ref C2) = some true
  i_BadBody_BadContent : ∀ C C2, XN K "BadBody" (.ref C) → XN K "BadContent" (.ref C2) → PySem.W.kitOne K (.ref C) (.ref C2) = some false
  i_BadBody_BadDate : ∀ C C2, XN K "BadBody" (.ref C) → XN K "BadDate" (.ref C2) → PySem.W.kitOne K (.ref C) (.ref C2) = some false
  i_BadBody_BadHeader : ∀ C C2, XN K "BadBody" (.ref C) → XN K "BadHeader" (.ref C2) → PySem.W.kitOne K (.ref C) (.ref C2) = some false
  i_BadBody_BadNumber : ∀ C C2, XN K "BadBody" (.ref C) → XN K "BadNumber" (.ref C2) → PySem.W.kitOne K (.ref C) (.ref C2) = some false
  i_BadBody_BadText : ∀ C C2, XN K "BadBody" (.ref C) → XN K "BadText" (.ref C2) → PySem.W.kitOne K (.ref C) (.ref C2) = some false
  i_BadBody_BadWidth : ∀ C C2, XN K "BadBody" (.ref C) → XN K "BadWidth" (.ref C2) → PySem.W.kitOne K (.ref C) (.ref C2) = some false
  i_BadBody_LookupError : ∀ C, XN K "BadBody" (.ref C) → PySem.W.kitOne K (.ref C) (.type "LookupError") = some false
  i_BadBody_NoCode : ∀ C C2, XN K "BadBody" (.ref C) → XN K "NoCode" (.ref C2) → PySem.W.kitOne K (.ref C) (.ref C2) = some false
  i_BadBody_RuntimeError : ∀ C, XN K "BadBody" (.ref C) → PySem.W.kitOne K (.ref C) (.type "RuntimeError") = some false
  i_BadBody_ValueError : ∀ C, XN K "BadBody" (.ref C) → PySem.W.kitOne K (.ref C) (.type "ValueError") = some true
  i_BadContent_BadBody : ∀ C C2, XN K "BadContent" (.ref C) → XN K "BadBody" (.ref C2) → PySem.W.kitOne K (.ref C) (.ref C2) = some false
  i_BadContent_BadContent : ∀ C C2, XN K "BadContent" (.ref C) → XN K "BadContent" (.ref C2) → PySem.W.kitOne K (.ref C) (.ref C2) = some true
  i_BadContent_BadDate : ∀ C C2, XN K "BadContent" (.ref C) → XN K "BadDate" (.ref C2) → PySem.W.kitOne K (.ref C) (.ref C2) = some false
  i_BadContent_BadHeader : ∀ C C2, XN K "BadContent" (.ref C) → XN K "BadHeader" (.ref C2) → PySem.W.kitOne K (.ref C) (.ref C2) = some false
  i_BadContent_BadNumber : ∀ C C2, XN K "BadContent" (.ref C) → XN K "BadNumber" (.ref C2) → PySem.W.kitOne K (.ref C) (.ref C2) = some false
  i_BadContent_BadText : ∀ C C2, XN K "BadContent" (.ref C) → XN K "BadText" (.ref C2) → PySem.W.kitOne K (.ref C) (.ref C2) = some false
  i_BadContent_BadWidth : ∀ C C2, XN K "BadContent" (.ref C) → XN K "BadWidth" (.ref C2) → PySem.W.kitOne K (.ref C) (.ref C2) = some false
  i_BadContent_LookupError : ∀ C, XN K "BadContent" (.ref C) → PySem.W.kitOne K (.ref C) (.type "LookupError") = some false
  i_BadContent_NoCode : ∀ C C2, XN K "BadContent" (.ref C) → XN K "NoCode" (.ref C2) → PySem.W.kitOne K (.ref C) (.ref C2) = some false
  i_BadContent_RuntimeError : ∀ C, XN K "BadContent" (.ref C) → PySem.W.kitOne K (.ref C) (.type "RuntimeError") = some false
  i_BadContent_ValueError : ∀ C, XN K "BadContent" (.ref C) → PySem.W.kitOne K (.ref C) (.type "ValueError") = some true
  i_BadDate_BadBody : ∀ C C2, XN K "BadDate" (.ref C) → XN K "BadBody" (.ref C2) → PySem.W.kitOne K (.ref C) (.ref C2) = some false
  i_BadDate_BadContent : ∀ C C2, XN K "BadDate" (.ref C) → XN K "BadContent" (.ref C2) → PySem.W.kitOne K (.ref C) (.ref C2) = some false
  i_BadDate_BadDate : ∀ C C2, XN K "BadDate" (.ref C) → XN K "BadDate" (.ref C2) → PySem.W.kitOne K (.ref C) (.ref C2) = some true
  i_BadDate_BadHeader : ∀ C C2, XN K "BadDate" (.ref C) → XN K "BadHeader" (.ref C2) → PySem.W.kitOne K (.ref C) (.ref C2) = some false
  i_BadDate_BadNumber : ∀ C C2, XN K "BadDate" (.ref C) → XN K "BadNumber" (.ref C2) → PySem.W.kitOne K (.ref C) (.ref C2) = some false
  i_BadDate_BadText : ∀ C C2, XN K "BadDate" (.ref C) → XN K "BadText" (.ref C2) → PySem.W.kitOne K (.ref C) (.ref C2) = some false
  i_BadDate_BadWidth : ∀ C C2, XN K "BadDate" (.ref C) → XN K "BadWidth" (.ref C2) → PySem.W.kitOne K (.ref C) (.ref C2) = some false
  i_BadDate_LookupError : ∀ C, XN K "BadDate" (.ref C) → PySem.W.kitOne K (.ref C) (.type "LookupError") = some false
  i_BadDate_NoCode : ∀ C C2, XN K "BadDate" (.ref C) → XN K "NoCode" (.ref C2) → PySem.W.kitOne K (.ref C) (.ref C2) = some false
  i_BadDate_RuntimeError : ∀ C, XN K "BadDate" (.ref C) → PySem.W.kitOne K (.ref C) (.type "RuntimeError") = some false
  i_BadDate_ValueError : ∀ C, XN K "BadDate" (.ref C) → PySem.W.kitOne K (.ref C) (.type "ValueError") = some true
  i_BadNumber_BadBody : ∀ C C2, XN K "BadNumber" (.ref C) → XN K "BadBody" (.ref C2) → PySem.W.kitOne K (.ref C) (.ref C2) = some false
  i_BadNumber_BadContent : ∀ C C2, XN K "BadNumber" (.ref C) → XN K "BadContent" (.ref C2) → PySem.W.kitOne K (.ref C) (.ref C2) = some false
  i_BadNumber_BadDate : ∀ C C2, XN K "BadNumber" (.ref C) → XN K "BadDate" (.ref C2) → PySem.W.kitOne K (.ref C) (.ref C2) = some false
  i_BadNumber_BadHeader : ∀ C C2, XN K "BadNumber" (.ref C) → XN K "BadHeader" (.ref C2) → PySem.W.kitOne K (.ref C) (.ref C2) = some false
  i_BadNumber_BadNumber : ∀ C C2, XN K "BadNumber" (.ref C) → XN K "BadNumber" (.ref C2) → PySem.W.kitOne K (.ref C) (.ref C2) = some true
  i_BadNumber_BadText : ∀ C C2, XN K "BadNumber" (.ref C) → XN K "BadText" (.ref C2) → PySem.W.kitOne K (.ref C) (.ref C2) = some false
  i_BadNumber_BadWidth : ∀ C C2, XN K "BadNumber" (.ref C) → XN K "BadWidth" (.ref C2) → PySem.W.kitOne K (.ref C) (.ref C2) = some false
  i_BadNumber_LookupError : ∀ C, XN K "BadNumber" (.ref C) → PySem.W.kitOne K (.ref C) (.type "LookupError") = some false
  i_BadNumber_NoCode : ∀ C C2, XN K "BadNumber" (.ref C) → XN K "NoCode" (.ref C2) → PySem.W.kitOne K (.ref C) (.ref C2) = some false
  i_BadNumber_RuntimeError : ∀ C, XN K "BadNumber" (.ref C) → PySem.W.kitOne K (.ref C) (.type "RuntimeError") = some false
  i_BadNumber_ValueError : ∀ C, XN K "BadNumber" (.ref C) → PySem.W.kitOne K (.ref C) (.type "ValueError") = some true
  o_Moment : ∃ C, OwnC K mg "Moment" C
  a_Moment_row : ∀ C, XN K "Moment" (.ref C) → NoAttr K C "row"
  ne_Moment : ∀ C, XN K "Moment" (.ref C) → PySem.W.findIn K (.ref C) "__ne__" = some (some (.builtin "object.__ne__"))
  b_LookupError : mg "LookupError" = none
  b_RuntimeError : mg "RuntimeError" = none
  b_ValueError : mg "ValueError" = none
  b_abs : mg "abs" = none
  b_all : mg "all" = none
  b_bool : mg "bool" = none
  b_int : mg "int" = none
  b_isinstance : mg "isinstance" = none
  b_len : mg "len" = none
  b_list : mg "list" = none
  b_min : mg "min" = none
  b_range : mg "range" = none
  b_repr : mg "repr" = none
  b_str : mg "str" = none
  b_sum : mg "sum" = none
  c_LAST_YEAR : ∃ u, mg "LAST_YEAR" = some u ∧ RelV (V.int 9999) u
  c_LENGTHS : ∃ a, mg "LENGTHS" = some (.ref a) ∧ ∀ H : Hp, SqT K H a [V.int 31, V.int 28, V.int 31, V.int 30, V.int 31, V.int 30, V.int 31, V.int 31, V.int 30, V.int 31, V.int 30, V.int 31]
  c_CYCLE_YEARS : ∃ u, mg "CYCLE_YEARS" = some u ∧ RelV (V.int 400) u
  c_CYCLE_DAYS : ∃ u, mg "CYCLE_DAYS" = some u ∧ RelV (V.int 146097) u
  c_LAST_DAY : ∃ u, mg "LAST_DAY" = some u ∧ RelV (V.int 3652059) u
  c_MARKS : ∃ u, mg "MARKS" = some u ∧ RelV (V.str " !\"#$&'()*+,-./0123456789:;<=>?@ABCDEFGHIJKLMNOPQRSTUVWXYZ[\\]^_`abcdefghijklmnopqrstuvwxyz{|}~") u
  c_WEEKDAYS : ∃ a, mg "WEEKDAYS" = some (.ref a) ∧ ∀ H : Hp, SqT K H a [V.str "Mon", V.str "Tue", V.str "Wed", V.str "Thu", V.str "Fri", V.str "Sat", V.str "Sun"]
  c_MONTHS : ∃ a, mg "MONTHS" = some (.ref a) ∧ ∀ H : Hp, SqT K H a [V.str "Jan", V.str "Feb", V.str "Mar", V.str "Apr", V.str "May", V.str "Jun", V.str "Jul", V.str "Aug", V.str "Sep", V.str "Oct", V.str "Nov", V.str "Dec"]
  c_DAY_SECONDS : ∃ u, mg "DAY_SECONDS" = some u ∧ RelV (V.int 86400) u
  c_MOST_ZONE : ∃ u, mg "MOST_ZONE" = some u ∧ RelV (V.int 899) u
variable [Tb]
structure Txt (P : Program) (K : PySem.W.Frag) (mg : Str → Option Value) (base : Heap) : Prop extends Txt0 P K mg where
  t_law_right : MakerAt K mg base "_law_right" s_law_right
variable {P : Program} {w : World} {K : PySem.W.Frag} {mg : Str → Option Value} {base : Heap}

def sp_law_begin (K : PySem.W.Frag) : Sp := fun vs H Q _ =>
  ∃ (a : Addr) (ns : List Int), vs = [.ref a] ∧ SqL K H a (ns.map V.int) ∧ ns.length ≤ 63 ∧ ∀ H' d c, Same H H' → H d = none → DrawAt K 0 H' d c → Q (.ref d) H'
theorem df_law_begin (T : Txt P K mg base) : Df P w K mg base 1 "_law_begin" s_law_begin ["script"] (sp_law_begin K) := by
  have sc := sc_law_begin
  obtain ⟨f, hm, fd, F⟩ := T.d_law_begin
  refine ⟨f, fd, hm, F, okG F sc (by fail "many") (fun cdv A outer s H vs Q E hr h => ?_)⟩
  · obtain ⟨a, ns, rfl, hs, hn, k⟩ := h
    refine ⟨_, (pss_one (ps_ret (pe_disp (pps_cons pe_str (pe_op op_addA (pv 0) (pe_lst (pa_cons pe_int pa_nil))) (pps_cons pe_str pe_int (pps_cons pe_str pe_int (pps_cons pe_str pe_int pps_nil)))) (by rfl) (by rfl) (fun z => by cases z) (by decide)))), ?_⟩
    dsimp only [cxOf, Cx.wish, L2.start, List.map, List.length, List.replicate, List.append, List.cons_append, List.nil_append, Nat.reduceAdd, Nat.reduceSub, Nat.zero_add]
    refine g_ret ?_
    intro p np
    have hs1 := seq_new (o := HO.dK []) np hs
    fail "go"
    · simp only [List.length_map, List.length_cons, List.length_nil]
      exact Nat.le_trans (by omega : _ ≤ 100) (by decide)
    rename_i p1 np1 p2 np2
    refine ⟨by fail "h", drawK p2 0 0 0, rfl, (by show 4 ≤ 15; decide), ?_⟩
    refine k _ p p2 (by fail "same") np ⟨ns ++ [0], 0, 0, 0, upd_same, ?_, by simp, by simp; omega, by omega, by omega, by omega, by omega⟩
    rw [List.map_append]
    exact (upd_off (Ne.symm (ne_of_none (upd_new np1 upd_same) np2)) upd_same)
local macro_rules | `(tactic| fail "call") => `(tactic| ((with_reducible show sp_law_begin _ _ _ _ _); refine ⟨_, _, rfl, by with_reducible (fail "sq"), by assumption, fun H' d c s' nd D => ?_⟩))

def sp_law_mixed (K : PySem.W.Frag) : Sp := fun vs H Q _ =>
  ∃ x k : Int, vs = [.int x, .int k] ∧ 0 ≤ k ∧ k ≤ 1000000000 ∧ ∀ H' r, Same H H' → 0 ≤ r → Q (.int r) H'
theorem df_law_mixed (T : Txt P K mg base) : Df P w K mg base 1 "_law_mixed" s_law_mixed ["cell", "k"] (sp_law_mixed K) := by
  have sc := sc_law_mixed
  obtain ⟨f, hm, fd, F⟩ := T.d_law_mixed
  refine ⟨f, fd, hm, F, okG F sc (by fail "many") (fun cdv A outer s H vs Q E hr h => ?_)⟩
  · obtain ⟨x, k, rfl, h1, h2, q⟩ := h
    refine ⟨_, (pss_cons (ps_set (i := 2) sc.nd rfl (Or.inl rfl) (pe_op op_modA (pe_op op_addA (pe_op op_addA (pe_op op_addA (pe_op op_modA (pv 0) pe_int) (pe_op op_mulA (pe_op op_mulA pe_int (pv 1)) (pv 1))) (pe_op op_mulA pe_int (pv 1))) pe_int) pe_int))
 (pss_cons (ps_set (i := 2) sc.nd rfl (Or.inl rfl) (pe_op op_modA (pe_op op_mulA (pe_op op_modA (pe_op op_mulA (pv 2) (pv 2)) pe_int) (pv 2)) pe_int))
 (pss_one (ps_ret (pe_op op_divA (pe_op op_modA (pe_op op_mulA (pv 2) (pe_op op_addA pe_int (pe_op op_mulA pe_int (pe_op op_modA (pv 1) pe_int)))) pe_int) pe_int))))), ?_⟩
    dsimp only [cxOf, Cx.wish, L2.start, List.map, List.length, List.replicate, List.append, List.cons_append, List.nil_append, Nat.reduceAdd, Nat.reduceSub, Nat.zero_add]
    fail "go"
    exact q _ _ (Same.refl _) (by omega)
local macro_rules | `(tactic| fail "call") => `(tactic| ((with_reducible show sp_law_mixed _ _ _ _ _); refine ⟨_, _, rfl, by omega, by omega, fun H' r s' hr0 => ?_⟩))

def sp_law_next (K : PySem.W.Frag) : Sp := fun vs H Q _ =>
  ∃ (d : Addr) (b : Int) (n : Nat) (c : Addr), vs = [.ref d, .int b] ∧ 0 < b ∧ b < 1000000000 ∧ DrawAt K n H d c ∧ n < 1000000000 ∧ ∀ H' r, Keep d H H' → DrawAt K (n + 1) H' d c → 0 ≤ r → r < b → Q (.int r) H'
theorem df_law_next (T : Txt P K mg base) : Df P w K mg base 2 "_law_next" s_law_next ["draw", "bound"] (sp_law_next K) := by
  have sc := sc_law_next
  obtain ⟨f, hm, fd, F⟩ := T.d_law_next
  refine ⟨f, fd, hm, F, okG F sc (by fail "many") (fun cdv A outer s H vs Q E hr h => ?_)⟩
  · obtain ⟨d, b, n, c, rfl, h1, h2, D, h3, k⟩ := h
    refine ⟨_, (pss_cons (ps_if (pt_cmpR op_gtA (pe_dget (hu_of hr.rm) (pv 0) pe_str (fun _ _ => rfl)) pe_int (nomark _)) (pss_cons (ps_set (i := 2) sc.nd rfl (Or.inl rfl) (pe_op op_modA (pe_dget (hu_of hr.rm) (pv 0) pe_str (fun _ _ => rfl)) (pv 1)))
 (pss_cons (ps_dput (hu_of hr.rm) (pv 0) pe_str (pe_op op_divA (pe_dget (hu_of hr.rm) (pv 0) pe_str (fun _ _ => rfl)) (pv 1)) rfl)
 (pss_one (ps_ret (pv 2))))) pss_nil)
 (pss_cons (ps_set (i := 3) sc.nd rfl (Or.inl rfl) (pe_dget (hu_of hr.rm) (pv 0) pe_str (fun _ _ => rfl)))
 (pss_cons (ps_set (i := 4) sc.nd rfl (Or.inl rfl) (pe_ix ix_seq (pv 3) (pe_op op_modA (pe_dget (hu_of hr.rm) (pv 0) pe_str (fun _ _ => rfl)) (pe_callB call_lenA (by rfl) T.b_len (by decide +kernel) (pa_cons (pv 3) pa_nil))) (fun _ _ => rfl)))
 (pss_cons (ps_dput (hu_of hr.rm) (pv 0) pe_str (pe_op op_addA (pe_dget (hu_of hr.rm) (pv 0) pe_str (fun _ _ => rfl)) pe_int) rfl)
 (pss_cons (ps_if (PW.pt (pw_and (pt_cmpR op_geA (pv 4) (pe_op op_powA pe_int pe_int) (nomark _)) (pw_and1 (pt_cmpR op_leA (pe_dget (hu_of hr.rm) (pv 0) pe_str (fun _ _ => rfl)) (pe_callB call_lenA (by rfl) T.b_len (by decide +kernel) (pa_cons (pv 3) pa_nil)) (nomark _))))) (pss_cons (ps_dput (hu_of hr.rm) (pv 0) pe_str (pe_op op_divA (pv 4) (pv 1)) rfl)
 (pss_one (ps_ret (pe_op op_modA (pv 4) (pv 1))))) pss_nil)
 (pss_cons (ps_dput (hu_of hr.rm) (pv 0) pe_str (pe_op op_addA (pe_dget (hu_of hr.rm) (pv 0) pe_str (fun _ _ => rfl)) pe_int) rfl)
 (pss_one (ps_ret (pe_op op_modA (pe_callG (sp := sp_law_mixed K) (df_law_mixed T) hr (by decide) b_law_mixed_2_ b_law_mixed_2__s (pa_cons (pe_callG (sp := sp_law_mixed K) (df_law_mixed T) hr (by decide) b_law_mixed_2_ b_law_mixed_2__s (pa_cons (pv 4) (pa_cons (pe_dget (hu_of hr.rm) (pv 0) pe_str (fun _ _ => rfl)) pa_nil)) pk_nil) (pa_cons (pe_dget (hu_of hr.rm) (pv 0) pe_str (fun _ _ => rfl)) pa_nil)) pk_nil) (pv 1)))))))))), ?_⟩
    dsimp only [cxOf, Cx.wish, L2.start, List.map, List.length, List.replicate, List.append, List.cons_append, List.nil_append, Nat.reduceAdd, Nat.reduceSub, Nat.zero_add]
    obtain ⟨ns, a, l, u, hd, hs, g1, g2, g3, g4, g5, g6⟩ := id D
    have ncd : c ≠ d := D.ne hs rfl
    fail "go"
    · exact k _ _ (Keep.set (Keep.refl _ _)) ⟨ns, a, _, u, upd_same, upd_off ncd hs, by omega, by omega, by omega, by omega, by omega, by omega⟩ (Int.emod_nonneg _ (by omega)) (Int.emod_lt_of_pos _ h1)
    obtain ⟨x, hx, _⟩ := at_ints (ns := ns) (i := a % (ns.length : Int)) (Int.emod_nonneg _ (by omega)) (Int.emod_lt_of_pos _ (by omega))
    have hx' : atI (ns.map V.int) (a % ((ns.map V.int).length : Int)) = some (.int x) := by rw [List.length_map]; exact hx
    refine g_ixL (SqL.of hs) hx' ?_
    have S0 : ∀ o, SqL K (upd H d o) c (ns.map V.int) := fun o => SqL.of (upd_off ncd hs)
    have S1 := S0 (HO.dK (drawK c (a + 1) l u))
    have S2 : ∀ o', (upd (upd H d (HO.dK (drawK c (a + 1) l u))) d o') c = some (.lst (ns.map V.int)) := fun o' => upd_off ncd (upd_off ncd hs)
    have D2 : DrawAt K (n + 1) (upd (upd H d (HO.dK (drawK c (a + 1) l u))) d (HO.dK (drawK c (a + 1) l (u + 1)))) d c := ⟨ns, a + 1, l, u + 1, upd_same, S2 _, g1, g2, by omega, by omega, by omega, by omega⟩
    fail "go"
    · exact k _ _ (by fail "keep") ⟨ns, a + 1, _, u, upd_same, S2 _, g1, g2, by omega, by omega, by omega, by omega⟩ (Int.emod_nonneg _ (by omega)) (Int.emod_lt_of_pos _ h1)
    all_goals exact k _ _ (by fail "keep") (by fail "dr") (Int.emod_nonneg _ (by omega)) (Int.emod_lt_of_pos _ h1)
local macro_rules | `(tactic| fail "call") => `(tactic| ((with_reducible show sp_law_next _ _ _ _ _); refine ⟨_, _, _, _, rfl, by omega, by omega, by with_reducible (fail "dr"), by omega, fun H' r k' D' hr0 hr1 => ?_⟩))
inductive Kd (K : PySem.W.Frag) (H : Hp) : V → Prop where
  | str {z : Str} (h : As 100000 z) : Kd K H (.str z)
  | int (i : Int) : Kd K H (.int i)
  | non : Kd K H .non
  | bl (b : Bool) : Kd K H (.bl b)
  | tup {a : Addr} (h : TyX K H (.ref a) (.type "tuple")) : Kd K H (.ref a)
  | lst {a : Addr} (h : TyX K H (.ref a) (.type "list")) : Kd K H (.ref a)
  | dct {a : Addr} (h : TyX K H (.ref a) (.type "dict")) : Kd K H (.ref a)
theorem Kd.same {K : PySem.W.Frag} {H H1 : Hp} {v : V} (e : Same H H1) (k : Kd K H v) : Kd K H1 v := by
  cases k with
  | str h => exact .str h
  | int i => exact .int i
  | non => exact .non
  | bl b => exact .bl b
  | tup h => exact .tup (tyx_same e h)
  | lst h => exact .lst (tyx_same e h)
  | dct h => exact .dct (tyx_same e h)
theorem Kd.keep {K : PySem.W.Frag} {H H1 : Hp} {d : Addr} {v : V} (e : Keep d H H1) (n : v ≠ .ref d) (k : Kd K H v) : Kd K H1 v := by
  cases k with
  | str h => exact .str h
  | int i => exact .int i
  | non => exact .non
  | bl b => exact .bl b
  | tup h => exact .tup (tyx_keep e n h)
  | lst h => exact .lst (tyx_keep e n h)
  | dct h => exact .dct (tyx_keep e n h)
def KdD (K : PySem.W.Frag) (H : Hp) (d : Addr) (v : V) : Prop := Kd K H v ∧ v ≠ .ref d
theorem KdD.keep {K : PySem.W.Frag} {H H1 : Hp} {d : Addr} {v : V} (e : Keep d H H1) (k : KdD K H d v) : KdD K H1 d v := ⟨k.1.keep e k.2, k.2⟩
theorem KdD.same {K : PySem.W.Frag} {H H1 : Hp} {d : Addr} {v : V} (e : Same H H1) (k : KdD K H d v) : KdD K H1 d v := ⟨k.1.same e, k.2⟩
theorem KdD.new {K : PySem.W.Frag} {H : Hp} {d p : Addr} {v : V} {o : HO} (e : H p = none) (k : KdD K H d v) : KdD K (upd H p o) d v := KdD.same (Same.upd e (Same.refl H)) k
theorem KdD.str {K : PySem.W.Frag} {H : Hp} {d : Addr} {z : Str} (h : As 100000 z) : KdD K H d (.str z) := ⟨.str h, fun e => nomatch e⟩
theorem KdD.int {K : PySem.W.Frag} {H : Hp} {d : Addr} (i : Int) : KdD K H d (.int i) := ⟨.int i, fun e => nomatch e⟩
theorem KdD.non {K : PySem.W.Frag} {H : Hp} {d : Addr} : KdD K H d .non := ⟨.non, fun e => nomatch e⟩
theorem KdD.bl {K : PySem.W.Frag} {H : Hp} {d : Addr} (i : Bool) : KdD K H d (.bl i) := ⟨.bl i, fun e => nomatch e⟩
theorem KdD.ref {K : PySem.W.Frag} {H : Hp} {d a : Addr} (h : Kd K H (.ref a)) (n : a ≠ d) : KdD K H d (.ref a) := ⟨h, fun e => n (V.ref.inj e)⟩
local macro_rules
  | `(tactic| fail "kdd") => `(tactic| with_reducible first | assumption | exact KdD.int _ | exact KdD.non | exact KdD.bl _ | (apply KdD.str; apply As.mono (by fail "as"); omega) | (apply KdD.same (by assumption); fail "kdd") | (apply KdD.keep (by assumption); fail "kdd") | (apply KdD.new (by assumption); fail "kdd"))
  | `(tactic| fail "kd") => `(tactic| with_reducible first | assumption | (apply Kd.same ?_ (by assumption); fail "same") | exact Kd.int _ | exact Kd.non | exact Kd.bl _ | exact And.left (by assumption) | (apply Kd.str; apply As.mono (by fail "as"); omega))
def whole (v : V) (a b : Int) : Bool := match v with | .int i => decide (a ≤ i ∧ i ≤ b) | _ => false
theorem wh_t {i a b : Int} (h : a ≤ i ∧ i ≤ b) : whole (.int i) a b = true := decide_eq_true h
theorem wh_f {i a b : Int} (h : ¬ (a ≤ i ∧ i ≤ b)) : whole (.int i) a b = false := decide_eq_false h
theorem wh_i {v : V} {a b : Int} (h : whole v a b = true) : ∃ i, v = .int i ∧ a ≤ i ∧ i ≤ b := by
  cases v with
  | int i => exact ⟨i, rfl, of_decide_eq_true h⟩
  | _ => exact nomatch h

def sp_is_whole (K : PySem.W.Frag) : Sp := fun vs H Q _ =>
  ∃ (v : V) (a b : Int), vs = [v, .int a, .int b] ∧ Kd K H v ∧ ∀ H', Same H H' → Q (.bl (whole v a b)) H'
theorem df_is_whole (T : Txt P K mg base) : Df P w K mg base 1 "is_whole" s_is_whole ["thing", "least", "most"] (sp_is_whole K) := by
  have sc := sc_is_whole
  obtain ⟨f, hm, fd, F⟩ := T.d_is_whole
  refine ⟨f, fd, hm, F, okG F sc (by fail "many") (fun cdv A outer s H vs Q E hr h => ?_)⟩
  · obtain ⟨v, a, b, rfl, kd, k⟩ := h
    refine ⟨_, (pss_one (ps_ret (pe_and (pe_callB call_isi (by rfl) T.b_isinstance (by decide +kernel) (pa_cons (pv 0) (pa_cons (pe_bltn (v := V.ty "int") (u := .type "int") (by rfl) T.b_int (by decide +kernel) rfl) pa_nil))) (pe_and (pe_not (pe_callB call_isi (by rfl) T.b_isinstance (by decide +kernel) (pa_cons (pv 0) (pa_cons (pe_bltn (v := V.ty "bool") (u := .type "bool") (by rfl) T.b_bool (by decide +kernel) rfl) pa_nil)))) (pe_one (pe_chain op_leA op_leA (pv 1) (pv 0) (pv 2))))))), ?_⟩
    dsimp only [cxOf, Cx.wish, L2.start, List.map, List.length, List.replicate, List.append, List.cons_append, List.nil_append, Nat.reduceAdd, Nat.reduceSub, Nat.zero_add]
    cases kd
    all_goals fail "go"
    all_goals exact finB k (by simp [whole, *]) (Same.refl _)
local macro_rules | `(tactic| fail "call") => `(tactic| ((with_reducible show sp_is_whole _ _ _ _ _); refine ⟨_, _, _, rfl, by fail "kd", fun H' s' => ?_⟩))

def sp_has_leap_day (K : PySem.W.Frag) : Sp := fun vs H Q _ =>
  ∃ y : Int, vs = [.int y] ∧ ∀ H', Same H H' → Q (.bl (leap y)) H'
theorem df_has_leap_day (T : Txt P K mg base) : Df P w K mg base 1 "has_leap_day" s_has_leap_day ["year"] (sp_has_leap_day K) := by
  have sc := sc_has_leap_day
  obtain ⟨f, hm, fd, F⟩ := T.d_has_leap_day
  refine ⟨f, fd, hm, F, okG F sc (by fail "many") (fun cdv A outer s H vs Q E hr h => ?_)⟩
  · obtain ⟨y, rfl, k⟩ := h
    refine ⟨_, (pss_one (ps_ret (pe_and (pe_cmpR (op_eqA hr) (pe_op op_modA (pv 0) pe_int) pe_int (nomark _)) (pe_one (pe_or (pe_cmpR (op_neA hr) (pe_op op_modA (pv 0) pe_int) pe_int (nomark _)) (pe_one (pe_cmpR (op_eqA hr) (pe_op op_modA (pv 0) pe_int) pe_int (nomark _)))))))), ?_⟩
    dsimp only [cxOf, Cx.wish, L2.start, List.map, List.length, List.replicate, List.append, List.cons_append, List.nil_append, Nat.reduceAdd, Nat.reduceSub, Nat.zero_add]
    fail "go"
    · exact finB k (by simp [leap, *]) (Same.refl _)
    · exact finB k (by simp [leap, *]) (Same.refl _)
    · exact finB k (by simp [leap, *]) (Same.refl _)
local macro_rules | `(tactic| fail "call") => `(tactic| ((with_reducible show sp_has_leap_day _ _ _ _ _); refine ⟨_, rfl, fun H' s' => ?_⟩))

def sp_month_length (K : PySem.W.Frag) : Sp := fun vs H Q _ =>
  ∃ y m : Int, vs = [.int y, .int m] ∧ 1 ≤ m ∧ m ≤ 12 ∧ ∀ H', Same H H' → Q (.int (mlen y m)) H'
theorem df_month_length (T : Txt P K mg base) : Df P w K mg base 2 "month_length" s_month_length ["year", "month"] (sp_month_length K) := by
  have sc := sc_month_length
  obtain ⟨f, hm, fd, F⟩ := T.d_month_length
  refine ⟨f, fd, hm, F, okG F sc (by fail "many") (fun cdv A outer s H vs Q E hr h => ?_)⟩
  · obtain ⟨y, m, rfl, h1, h2, k⟩ := h
    obtain ⟨a_LENGTHS, hm_LENGTHS, sq_LENGTHS⟩ := T.c_LENGTHS
    refine ⟨_, (pss_one (ps_ret (pe_ifExp (PW.pt (pw_and (pt_cmpR (op_eqA hr) (pv 1) pe_int (nomark _)) (pw_and1 (pt_val (pe_callG (sp := sp_has_leap_day K) (df_has_leap_day T) hr (by decide) b_has_leap_day_1_ b_has_leap_day_1__s (pa_cons (pv 0) pa_nil) pk_nil))))) pe_int (pe_ix ix_seq (pe_globE (v := V.ref a_LENGTHS) ⟨_, hm_LENGTHS, rfl⟩) (pe_op op_subA (pv 1) pe_int) (fun _ _ => rfl))))), ?_⟩
    dsimp only [cxOf, Cx.wish, L2.start, List.map, List.length, List.replicate, List.append, List.cons_append, List.nil_append, Nat.reduceAdd, Nat.reduceSub, Nat.zero_add]
    have k2 : ∀ H', Same H H' → Q (.int (mlen y m)) H' := k
    fail "go"
    · rename_i e1 H1 s1 e2
      exact finI k (by simp [mlen, e1, e2]) s1
    · rename_i e1 H1 s1 e2
      subst e1
      refine g_ixT (v := .int 28) (sq_LENGTHS _) rfl ?_
      exact finI k (by simp [mlen, e2]) s1
    · rename_i e1
      have e3 : m = 1 ∨ m = 3 ∨ m = 4 ∨ m = 5 ∨ m = 6 ∨ m = 7 ∨ m = 8 ∨ m = 9 ∨ m = 10 ∨ m = 11 ∨ m = 12 := by omega
      rcases e3 with rfl | rfl | rfl | rfl | rfl | rfl | rfl | rfl | rfl | rfl | rfl <;> (refine g_ixT (sq_LENGTHS _) rfl ?_; exact finI k (by simp [mlen]) (Same.refl _))
local macro_rules | `(tactic| fail "call") => `(tactic| ((with_reducible show sp_month_length _ _ _ _ _); refine ⟨_, _, rfl, by omega, by omega, fun H' s' => ?_⟩))

def sp_first_day (K : PySem.W.Frag) : Sp := fun vs H Q _ =>
  ∃ y : Int, vs = [.int y] ∧ ∀ H', Same H H' → Q (.int (fday y)) H'
theorem df_first_day (T : Txt P K mg base) : Df P w K mg base 1 "first_day" s_first_day ["year"] (sp_first_day K) := by
  have sc := sc_first_day
  obtain ⟨f, hm, fd, F⟩ := T.d_first_day
  refine ⟨f, fd, hm, F, okG F sc (by fail "many") (fun cdv A outer s H vs Q E hr h => ?_)⟩
  · obtain ⟨y, rfl, k⟩ := h
    refine ⟨_, (pss_cons (ps_set (i := 1) sc.nd rfl (Or.inl rfl) (pe_op op_subA (pv 0) pe_int))
 (pss_one (ps_ret (pe_op op_addA (pe_op op_addA (pe_op op_subA (pe_op op_addA (pe_op op_mulA pe_int (pv 1)) (pe_op op_divA (pv 1) pe_int)) (pe_op op_divA (pv 1) pe_int)) (pe_op op_divA (pv 1) pe_int)) pe_int)))), ?_⟩
    dsimp only [cxOf, Cx.wish, L2.start, List.map, List.length, List.replicate, List.append, List.cons_append, List.nil_append, Nat.reduceAdd, Nat.reduceSub, Nat.zero_add]
    fail "go"
    exact finI k rfl (Same.refl _)
local macro_rules | `(tactic| fail "call") => `(tactic| ((with_reducible show sp_first_day _ _ _ _ _); refine ⟨_, rfl, fun H' s' => ?_⟩))
/-- the outcome of a check: none, or the value that is told -/
def badM (y m : V) : Option V := if whole y 1 9999 = false then some y else if whole m 1 12 = false then some m else none
def vI (v : V) : Int := match v with | .int i => i | _ => 0
def badD (y m d : V) : Option V := if whole y 1 9999 = false then some y else if whole m 1 12 = false then some m else if whole d 1 (mlen (vI y) (vI m)) = false then some d else none
theorem badM1 {y m : V} (h : whole y 1 9999 = false) : badM y m = some y := if_pos h
theorem badM2 {y m : V} (h : whole y 1 9999 = true) (k : whole m 1 12 = false) : badM y m = some m := by rw [badM, if_neg (by rw [h]; decide), if_pos k]
theorem badM0 {y m : V} (h : whole y 1 9999 = true) (k : whole m 1 12 = true) : badM y m = none := by rw [badM, if_neg (by rw [h]; decide), if_neg (by rw [k]; decide)]
theorem badD1 {y m d : V} (h : whole y 1 9999 = false) : badD y m d = some y := if_pos h
theorem badD2 {y m d : V} (h : whole y 1 9999 = true) (k : whole m 1 12 = false) : badD y m d = some m := by rw [badD, if_neg (by rw [h]; decide), if_pos k]
theorem badD3 {y m d : V} (h : whole y 1 9999 = true) (k : whole m 1 12 = true) (l : whole d 1 (mlen (vI y) (vI m)) = false) : badD y m d = some d := by rw [badD, if_neg (by rw [h]; decide), if_neg (by rw [k]; decide), if_pos l]
theorem badD0 {y m d : V} (h : whole y 1 9999 = true) (k : whole m 1 12 = true) (l : whole d 1 (mlen (vI y) (vI m)) = true) : badD y m d = none := by rw [badD, if_neg (by rw [h]; decide), if_neg (by rw [k]; decide), if_neg (by rw [l]; decide)]
theorem badM_n {y m : V} (h : badM y m = none) : whole y 1 9999 = true ∧ whole m 1 12 = true := by
  unfold badM at h
  split at h
  · exact nomatch h
  · split at h
    · exact nomatch h
    · exact ⟨by simp_all, by simp_all⟩
theorem badD_n {y m d : V} (h : badD y m d = none) : ∃ a b c, y = .int a ∧ m = .int b ∧ d = .int c ∧ valid a b c := by
  unfold badD at h
  split at h
  · exact nomatch h
  · rename_i h1
    split at h
    · exact nomatch h
    · rename_i h2
      split at h
      · exact nomatch h
      · rename_i h3
        obtain ⟨a, rfl, a1, a2⟩ := wh_i (by simpa using h1)
        obtain ⟨b, rfl, b1, b2⟩ := wh_i (by simpa using h2)
        obtain ⟨c, rfl, c1, c2⟩ := wh_i (by simpa using h3)
        exact ⟨a, b, c, rfl, rfl, rfl, a1, a2, b1, b2, c1, c2⟩
theorem val_wh {a b c : Int} (h : valid a b c) : badD (.int a) (.int b) (.int c) = none := badD0 (wh_t ⟨h.1, h.2.1⟩) (wh_t ⟨h.2.2.1, h.2.2.2.1⟩) (wh_t ⟨h.2.2.2.2.1, h.2.2.2.2.2⟩)

def sp_check_year (K : PySem.W.Frag) : Sp := fun vs H Q E =>
  ∃ v : V, vs = [v] ∧ Kd K H v ∧ (whole v 1 9999 = true → ∀ H', Same H H' → Q .non H') ∧ (whole v 1 9999 = false → Rz K H E "BadDate" "given" v)
theorem df_check_year (T : Txt P K mg base) : DfX P w K mg base 3 "check_year" s_check_year ["year"] (sp_check_year K) := by
  have sc := sc_check_year
  obtain ⟨f, hm, fd, F⟩ := T.d_check_year
  refine ⟨f, fd, hm, F, okX F sc (by fail "many") (fun cdv A outer s H vs Q E hr h => ?_)⟩
  · obtain ⟨v, rfl, kd, k, x⟩ := h
    refine ⟨_, (pss_one (ps_if (pt_not (pt_val (pe_callG (sp := sp_is_whole K) (df_is_whole T) hr (by decide) b_is_whole_3_ b_is_whole_3__s (pa_cons (pv 0) (pa_cons pe_int (pa_cons (pe_globE T.c_LAST_YEAR) pa_nil))) pk_nil))) (pss_one (ps_raiseX T.x_BadDate rfl hr (by decide) (takes_of rfl rfl rfl rfl) (pa_cons (pv 0) pa_nil))) pss_nil)), ?_⟩
    dsimp only [cxOf, Cx.wish, L2.start, List.map, List.length, List.replicate, List.append, List.cons_append, List.nil_append, Nat.reduceAdd, Nat.reduceSub, Nat.zero_add]
    fail "go"
    · rename_i H1 s1 c cls d xn nd
      exact x (by simpa using c) _ _ _ xn s1 nd
    · rename_i H1 s1 c
      exact k (by simpa using c) _ s1
local macro_rules | `(tactic| fail "call") => `(tactic| ((with_reducible show sp_check_year _ _ _ _ _); refine ⟨_, rfl, by fail "kd", fun c H' s' => ?_, fun c cls d H' xn s' nd => ?_⟩))

def sp_check_month (K : PySem.W.Frag) : Sp := fun vs H Q E =>
  ∃ y m : V, vs = [y, m] ∧ Kd K H y ∧ Kd K H m ∧ (badM y m = none → ∀ H', Same H H' → Q .non H') ∧ (∀ v, badM y m = some v → Rz K H E "BadDate" "given" v)
theorem df_check_month (T : Txt P K mg base) : DfX P w K mg base 4 "check_month" s_check_month ["year", "month"] (sp_check_month K) := by
  have sc := sc_check_month
  obtain ⟨f, hm, fd, F⟩ := T.d_check_month
  refine ⟨f, fd, hm, F, okX F sc (by fail "many") (fun cdv A outer s H vs Q E hr h => ?_)⟩
  · obtain ⟨y, m, rfl, kd, kd2, k, x⟩ := h
    refine ⟨_, (pss_cons (ps_expr (pe_callX (sp := sp_check_year K) (df_check_year T) (takes_of rfl rfl rfl rfl) hr (by decide) b_check_year_1_ b_check_year_1__s (pa_cons (pv 0) pa_nil) pk_nil))
 (pss_one (ps_if (pt_not (pt_val (pe_callG (sp := sp_is_whole K) (df_is_whole T) hr (by decide) b_is_whole_3_ b_is_whole_3__s (pa_cons (pv 1) (pa_cons pe_int (pa_cons pe_int pa_nil))) pk_nil))) (pss_one (ps_raiseX T.x_BadDate rfl hr (by decide) (takes_of rfl rfl rfl rfl) (pa_cons (pv 1) pa_nil))) pss_nil))), ?_⟩
    dsimp only [cxOf, Cx.wish, L2.start, List.map, List.length, List.replicate, List.append, List.cons_append, List.nil_append, Nat.reduceAdd, Nat.reduceSub, Nat.zero_add]
    fail "go"
    · rename_i c H1 s1 H2 s2 c2 cls d xn nd
      exact x _ (badM2 c (by simpa using c2)) _ _ _ xn (by fail "same") nd
    · rename_i c H1 s1 H2 s2 c2
      exact k (badM0 c (by simpa using c2)) _ (by fail "same")
    · exact x _ (badM1 ‹_›) _ _ _ ‹_› (by fail "same") ‹_›
local macro_rules | `(tactic| fail "call") => `(tactic| ((with_reducible show sp_check_month _ _ _ _ _); refine ⟨_, _, rfl, by fail "kd", by fail "kd", fun c H' s' => ?_, fun v c cls d H' xn s' nd => ?_⟩))

def sp_check_day (K : PySem.W.Frag) : Sp := fun vs H Q E =>
  ∃ y m d : V, vs = [y, m, d] ∧ Kd K H y ∧ Kd K H m ∧ Kd K H d ∧ (badD y m d = none → ∀ H', Same H H' → Q .non H') ∧ (∀ v, badD y m d = some v → Rz K H E "BadDate" "given" v)
theorem df_check_day (T : Txt P K mg base) : DfX P w K mg base 5 "check_day" s_check_day ["year", "month", "day"] (sp_check_day K) := by
  have sc := sc_check_day
  obtain ⟨f, hm, fd, F⟩ := T.d_check_day
  refine ⟨f, fd, hm, F, okX F sc (by fail "many") (fun cdv A outer s H vs Q E hr h => ?_)⟩
  · obtain ⟨y, m, d, rfl, kd, kd2, kd3, k, x⟩ := h
    refine ⟨_, (pss_cons (ps_expr (pe_callX (sp := sp_check_month K) (df_check_month T) (takes_of rfl rfl rfl rfl) hr (by decide) b_check_month_2_ b_check_month_2__s (pa_cons (pv 0) (pa_cons (pv 1) pa_nil)) pk_nil))
 (pss_one (ps_if (pt_not (pt_val (pe_callG (sp := sp_is_whole K) (df_is_whole T) hr (by decide) b_is_whole_3_ b_is_whole_3__s (pa_cons (pv 2) (pa_cons pe_int (pa_cons (pe_callG (sp := sp_month_length K) (df_month_length T) hr (by decide) b_month_length_2_ b_month_length_2__s (pa_cons (pv 0) (pa_cons (pv 1) pa_nil)) pk_nil) pa_nil))) pk_nil))) (pss_one (ps_raiseX T.x_BadDate rfl hr (by decide) (takes_of rfl rfl rfl rfl) (pa_cons (pv 2) pa_nil))) pss_nil))), ?_⟩
    dsimp only [cxOf, Cx.wish, L2.start, List.map, List.length, List.replicate, List.append, List.cons_append, List.nil_append, Nat.reduceAdd, Nat.reduceSub, Nat.zero_add]
    fail "go"
    rotate_left
    · rename_i v c cls d0 H1 xn s1 nd
      refine x v ?_ _ _ _ xn (by fail "same") nd
      unfold badM at c
      split at c
      · rw [badD1 ‹_›]; exact c
      · rename_i h1
        split at c
        · rw [badD2 (by simpa using h1) ‹_›]; exact c
        · exact nomatch c
    rename_i c H1 s1
    obtain ⟨c1, c2⟩ := badM_n c
    obtain ⟨a, rfl, a1, a2⟩ := wh_i c1
    obtain ⟨b, rfl, b1, b2⟩ := wh_i c2
    fail "go"
    · rename_i H2 s2 H3 s3 c3 cls d0 xn nd
      exact x _ (badD3 c1 c2 (by simpa [vI] using c3)) _ _ _ xn (by fail "same") nd
    · rename_i H2 s2 H3 s3 c3
      exact k (badD0 c1 c2 (by simpa [vI] using c3)) _ (by fail "same")
local macro_rules | `(tactic| fail "call") => `(tactic| ((with_reducible show sp_check_day _ _ _ _ _); refine ⟨_, _, _, rfl, by fail "kd", by fail "kd", by fail "kd", fun c H' s' => ?_, fun v c cls d H' xn s' nd => ?_⟩))

def sp_check_number (K : PySem.W.Frag) : Sp := fun vs H Q E =>
  ∃ v : V, vs = [v] ∧ Kd K H v ∧ (whole v 1 3652059 = true → ∀ H', Same H H' → Q .non H') ∧ (whole v 1 3652059 = false → Rz K H E "BadNumber" "given" v)
theorem df_check_number (T : Txt P K mg base) : DfX P w K mg base 3 "check_number" s_check_number ["number"] (sp_check_number K) := by
  have sc := sc_check_number
  obtain ⟨f, hm, fd, F⟩ := T.d_check_number
  refine ⟨f, fd, hm, F, okX F sc (by fail "many") (fun cdv A outer s H vs Q E hr h => ?_)⟩
  · obtain ⟨v, rfl, kd, k, x⟩ := h
    refine ⟨_, (pss_one (ps_if (pt_not (pt_val (pe_callG (sp := sp_is_whole K) (df_is_whole T) hr (by decide) b_is_whole_3_ b_is_whole_3__s (pa_cons (pv 0) (pa_cons pe_int (pa_cons (pe_globE T.c_LAST_DAY) pa_nil))) pk_nil))) (pss_one (ps_raiseX T.x_BadNumber rfl hr (by decide) (takes_of rfl rfl rfl rfl) (pa_cons (pv 0) pa_nil))) pss_nil)), ?_⟩
    dsimp only [cxOf, Cx.wish, L2.start, List.map, List.length, List.replicate, List.append, List.cons_append, List.nil_append, Nat.reduceAdd, Nat.reduceSub, Nat.zero_add]
    fail "go"
    · rename_i H1 s1 c cls d xn nd
      exact x (by simpa using c) _ _ _ xn s1 nd
    · rename_i H1 s1 c
      exact k (by simpa using c) _ s1
local macro_rules | `(tactic| fail "call") => `(tactic| ((with_reducible show sp_check_number _ _ _ _ _); refine ⟨_, rfl, by fail "kd", fun c H' s' => ?_, fun c cls d H' xn s' nd => ?_⟩))
theorem sp1_bad {v : V} {a b : Int} {P R : Prop} (h : whole v a b = false) (r : R) : (whole v a b = true → P) ∧ (whole v a b = false → R) := ⟨fun q => by rw [h] at q; exact (nomatch q), fun _ => r⟩
theorem sp1_ok {v : V} {a b : Int} {P R : Prop} (h : whole v a b = true) (r : P) : (whole v a b = true → P) ∧ (whole v a b = false → R) := ⟨fun _ => r, fun q => by rw [h] at q; exact nomatch q⟩
theorem spo_bad {o : Option V} {v : V} {P : Prop} {R : V → Prop} (h : o = some v) (r : R v) : (o = none → P) ∧ (∀ v, o = some v → R v) := ⟨fun q => by rw [h] at q; exact (nomatch q), fun w q => by rw [h] at q; cases q; exact r⟩
theorem spo_ok {o : Option V} {P : Prop} {R : V → Prop} (h : o = none) (r : P) : (o = none → P) ∧ (∀ v, o = some v → R v) := ⟨fun _ => r, fun w q => by rw [h] at q; exact nomatch q⟩
local macro_rules
  | `(tactic| fail "wh") => `(tactic| first | assumption | exact wh_t (by omega) | exact wh_f (by omega))
  | `(tactic| fail "out") => `(tactic| first
    | ((with_reducible refine sp1_bad (by fail "wh") ?_); intro cls d H' xn s' nd)
    | ((with_reducible refine sp1_ok (by fail "wh") ?_); intro H' s')
    | ((with_reducible refine spo_bad (badM1 (by fail "wh")) ?_); intro cls d H' xn s' nd)
    | ((with_reducible refine spo_bad (badM2 (by fail "wh") (by fail "wh")) ?_); intro cls d H' xn s' nd)
    | ((with_reducible refine spo_bad (badD1 (by fail "wh")) ?_); intro cls d H' xn s' nd)
    | ((with_reducible refine spo_bad (badD2 (by fail "wh") (by fail "wh")) ?_); intro cls d H' xn s' nd)
    | ((with_reducible refine spo_bad (badD3 (by fail "wh") (by fail "wh") (by first | assumption | (simp only [vI]; fail "wh"))) ?_); intro cls d H' xn s' nd)
    | ((with_reducible refine spo_ok (badM0 (by fail "wh") (by fail "wh")) ?_); intro H' s')
    | ((with_reducible refine spo_ok (val_wh (by assumption)) ?_); intro H' s'))
theorem leap_mlen (y : Int) : leap y = decide (mlen y 2 = 29) := by
  unfold mlen
  rw [if_pos rfl]
  cases leap y <;> rfl
theorem sum_cum (y : Int) : ∀ k : Nat, ((List.range k).map fun i : Nat => mlen y (1 + (i : Int))).sum = cumN y k
  | 0 => rfl
  | k + 1 => by
    rw [List.range_succ, List.map_append, List.sum_append, sum_cum y k]
    show cumN y k + (mlen y (1 + (k : Int)) + 0) = cumN y k + mlen y ((k : Int) + 1)
    rw [Int.add_comm 1 (k : Int)]
    omega

def sp_day_number (K : PySem.W.Frag) : Sp := fun vs H Q E =>
  ∃ y m d : V, vs = [y, m, d] ∧ Kd K H y ∧ Kd K H m ∧ Kd K H d ∧ (badD y m d = none → ∀ H', Same H H' → Q (.int (dnum (vI y) (vI m) (vI d))) H') ∧ (∀ v, badD y m d = some v → Rz K H E "BadDate" "given" v)
theorem df_day_number (T : Txt P K mg base) : DfX P w K mg base 6 "day_number" s_day_number ["year", "month", "day"] (sp_day_number K) := by
  have sc := sc_day_number
  obtain ⟨f, hm, fd, F⟩ := T.d_day_number
  refine ⟨f, fd, hm, F, okX F sc (by fail "many") (fun cdv A outer s H vs Q E hr h => ?_)⟩
  · obtain ⟨y, m, d, rfl, kd, kd2, kd3, k, x⟩ := h
    refine ⟨_, (pss_cons (ps_expr (pe_callX (sp := sp_check_day K) (df_check_day T) (takes_of rfl rfl rfl rfl) hr (by decide) b_check_day_3_ b_check_day_3__s (pa_cons (pv 0) (pa_cons (pv 1) (pa_cons (pv 2) pa_nil))) pk_nil))
 (pss_one (ps_ret (pe_op op_subA (pe_op op_addA (pe_op op_addA (pe_callG (sp := sp_first_day K) (df_first_day T) hr (by decide) b_first_day_1_ b_first_day_1__s (pa_cons (pv 0) pa_nil) pk_nil) (pe_callB (cr_sum rfl) (by rfl) T.b_sum (by decide +kernel) (pa_cons (pe_lc (own := [("earlier", 3)]) (g := gName 3) (tt := tYes) rfl sc.nd (pi_range2 rfl T.b_range (pa_cons pe_int (pa_cons (pv 1) pa_nil))) (blkOk_by (N := ["year", "month", "day", "earlier"]) (sc := defScope s_day_number) (by decide +kernel)) (fun _ _ _ _ _ => (pg_name (i := 3) sc.nd rfl (Or.inl rfl))) (fun _ _ _ _ _ => pts_nil) (fun _ _ _ _ _ => (pe_callG (sp := sp_month_length K) (df_month_length T) hr (by decide) b_month_length_2_ b_month_length_2__s (pa_cons (pv 0) (pa_cons (pv 3) pa_nil)) pk_nil))) pa_nil))) (pv 2)) pe_int)))), ?_⟩
    dsimp only [cxOf, Cx.wish, L2.start, List.map, List.length, List.replicate, List.append, List.cons_append, List.nil_append, Nat.reduceAdd, Nat.reduceSub, Nat.zero_add]
    fail "go"
    rotate_left
    · exact x _ ‹_› _ _ _ ‹_› (by fail "same") ‹_›
    rename_i c H0 s0
    obtain ⟨y, m, d, rfl, rfl, rfl, v⟩ := badD_n c
    obtain ⟨h1, h2, h3, h4, h5, h6⟩ := id v
    fail "go"
    refine ⟨⟨by omega, by omega, by omega, by omega⟩, lc_map (n := (m - 1).toNat) (fun i => .int (mlen y (1 + (i : Int)))) (by omega) (fun _ => rfl) ?_ ?_⟩
    · intro i hi H1 s1 Q1 k1
      fail "go"
      exact k1 _ (by fail "same")
    · intro D H1 nD s1 hD
      fail "go"
      refine g_sum ((List.range (m - 1).toNat).map fun i : Nat => mlen y (1 + (i : Int))) (by with_reducible (fail "sq")) (by rw [List.map_map]; rfl) ?_
      rw [sum_cum]
      fail "go"
      exact finI (k c) rfl (by fail "same")
local macro_rules | `(tactic| fail "call") => `(tactic| ((with_reducible show sp_day_number _ _ _ _ _); (refine ⟨_, _, _, rfl, by fail "kd", by fail "kd", by fail "kd", ?_⟩; fail "out"; try dsimp only [vI])))

def sp_date_of (K : PySem.W.Frag) : Sp := fun vs H Q E =>
  ∃ v : V, vs = [v] ∧ Kd K H v ∧ (whole v 1 3652059 = true → ∀ H' p y m d, Same H H' → H' p = some (.tup [.int y, .int m, .int d]) → valid y m d → dnum y m d = vI v → Q (.ref p) H') ∧ (whole v 1 3652059 = false → Rz K H E "BadNumber" "given" v)
theorem df_date_of (T : Txt P K mg base) : DfX P w K mg base 4 "date_of" s_date_of ["number"] (sp_date_of K) := by
  have sc := sc_date_of
  obtain ⟨f, hm, fd, F⟩ := T.d_date_of
  refine ⟨f, fd, hm, F, okX F sc (by fail "many") (fun cdv A outer s H vs Q E hr h => ?_)⟩
  · obtain ⟨v, rfl, kd, k, x⟩ := h
    refine ⟨_, (pss_cons (ps_expr (pe_callX (sp := sp_check_number K) (df_check_number T) (takes_of rfl rfl rfl rfl) hr (by decide) b_check_number_1_ b_check_number_1__s (pa_cons (pv 0) pa_nil) pk_nil))
 (pss_cons (ps_set (i := 1) sc.nd rfl (Or.inl rfl) (pe_op op_addA (pe_op op_divA (pe_op op_mulA (pe_op op_subA (pv 0) pe_int) (pe_globE T.c_CYCLE_YEARS)) (pe_globE T.c_CYCLE_DAYS)) pe_int))
 (pss_cons (ps_while (passes_of rfl) (pt_cmpR op_gtA (pe_callG (sp := sp_first_day K) (df_first_day T) hr (by decide) b_first_day_1_ b_first_day_1__s (pa_cons (pv 1) pa_nil) pk_nil) (pv 0) (nomark _)) (pss_one (ps_set (i := 1) sc.nd rfl (Or.inl rfl) (pe_op op_subA (pv 1) pe_int))))
 (pss_cons (ps_while (passes_of rfl) (pt_cmpR op_leA (pe_callG (sp := sp_first_day K) (df_first_day T) hr (by decide) b_first_day_1_ b_first_day_1__s (pa_cons (pe_op op_addA (pv 1) pe_int) pa_nil) pk_nil) (pv 0) (nomark _)) (pss_one (ps_set (i := 1) sc.nd rfl (Or.inl rfl) (pe_op op_addA (pv 1) pe_int))))
 (pss_cons (ps_par (i := 2) (j := 3) rfl sc.nd rfl rfl (by decide) rfl rfl (pa_cons (pe_op op_subA (pv 0) (pe_callG (sp := sp_first_day K) (df_first_day T) hr (by decide) b_first_day_1_ b_first_day_1__s (pa_cons (pv 1) pa_nil) pk_nil)) (pa_cons pe_int pa_nil)) (by rfl))
 (pss_cons (ps_while (passes_of rfl) (pt_cmpR op_geA (pv 2) (pe_callG (sp := sp_month_length K) (df_month_length T) hr (by decide) b_month_length_2_ b_month_length_2__s (pa_cons (pv 1) (pa_cons (pv 3) pa_nil)) pk_nil) (nomark _)) (pss_cons (ps_set (i := 2) sc.nd rfl (Or.inl rfl) (pe_op op_subA (pv 2) (pe_callG (sp := sp_month_length K) (df_month_length T) hr (by decide) b_month_length_2_ b_month_length_2__s (pa_cons (pv 1) (pa_cons (pv 3) pa_nil)) pk_nil)))
 (pss_one (ps_set (i := 3) sc.nd rfl (Or.inl rfl) (pe_op op_addA (pv 3) pe_int)))))
 (pss_one (ps_ret (pe_tup (pa_cons (pv 1) (pa_cons (pv 3) (pa_cons (pe_op op_addA (pv 2) pe_int) pa_nil)))))))))))), ?_⟩
    dsimp only [cxOf, Cx.wish, L2.start, List.map, List.length, List.replicate, List.append, List.cons_append, List.nil_append, Nat.reduceAdd, Nat.reduceSub, Nat.zero_add]
    fail "go"
    rotate_left
    · exact x ‹_› _ _ _ ‹_› (by fail "same") ‹_›
    rename_i c H0 s0
    obtain ⟨n, rfl, h1, h2⟩ := wh_i c
    fail "go"
    refine g_while (fun m σ H' => ∃ y : Int, σ = [some (.int n), some (.int y), none, none] ∧ Same H H' ∧ 1 ≤ y ∧ m = y.toNat) _ ⟨_, rfl, by fail "same", by omega, rfl⟩ ?_
    rintro m σ H1 ⟨y, rfl, s1, hy, rfl⟩
    fail "go"
    · have ny : y ≠ 1 := by
        rintro rfl
        have := fday_one
        omega
      exact ⟨_, (by omega : (y - 1).toNat < y.toNat), y - 1, rfl, by fail "same", by omega, rfl⟩
    refine g_while (fun m σ H' => ∃ y : Int, σ = [some (.int n), some (.int y), none, none] ∧ Same H H' ∧ 1 ≤ y ∧ fday y ≤ n ∧ m = (n - fday y).toNat) _ ⟨_, rfl, by fail "same", by omega, by omega, rfl⟩ ?_
    clear hy s1
    rintro m σ H2 ⟨y, rfl, s2, hy, hf, rfl⟩
    fail "go"
    · have e1 := fday_succ y
      have e2 := ylen_lo y
      exact ⟨(n - fday (y + 1)).toNat, by omega, y + 1, rfl, by fail "same", by omega, by omega, rfl⟩
    refine g_while (fun m σ H' => ∃ r mo : Int, σ = [some (.int n), some (.int y), some (.int r), some (.int mo)] ∧ Same H H' ∧ 1 ≤ mo ∧ mo ≤ 12 ∧ 0 ≤ r ∧ r = n - fday y - cumN y (mo - 1).toNat ∧ m = (12 - mo).toNat) _ ⟨_, _, rfl, by fail "same", by omega, by omega, by omega, (by show n - fday y = n - fday y - 0; omega), rfl⟩ ?_
    have nx : n < fday (y + 1) := by omega
    clear s2
    rintro m σ H3 ⟨r, mo, rfl, s3, m1, m2, hr0, er, rfl⟩
    fail "go"
    · have c := cum_step y mo m1
      have n12 : mo ≠ 12 := by
        rintro rfl
        have d12 := cum_12 y
        rw [show ((12 : Int) + 1 - 1).toNat = 12 by rfl, d12] at c
        have := fday_succ y
        omega
      exact ⟨(12 - (mo + 1)).toNat, by omega, _, _, rfl, by fail "same", by omega, by omega, by omega, by omega, rfl⟩
    have y9 : y ≤ 9999 := by
      have a := fday_last
      by_cases z : y ≤ 9999
      · exact z
      · have := fday_mono (y := 10000) (z := y) (by omega)
        omega
    exact k c _ _ y mo (r + 1) (by fail "same") (by fail "h") ⟨hy, y9, m1, m2, by omega, by omega⟩ (by show _ = n; unfold dnum; omega)
local macro_rules | `(tactic| fail "call") => `(tactic| ((with_reducible show sp_date_of _ _ _ _ _); (refine ⟨_, rfl, by fail "kd", ?_⟩; first | ((with_reducible refine sp1_bad (by fail "wh") ?_); intro cls d H' xn s' nd) | ((with_reducible refine sp1_ok (by fail "wh") ?_); intro H' p y m d s' hp hv he))))

def sp_weekday_of (K : PySem.W.Frag) : Sp := fun vs H Q E =>
  ∃ v : V, vs = [v] ∧ Kd K H v ∧ (whole v 1 3652059 = true → ∀ H', Same H H' → Q (.int ((vI v - 1) % 7)) H') ∧ (whole v 1 3652059 = false → Rz K H E "BadNumber" "given" v)
theorem df_weekday_of (T : Txt P K mg base) : DfX P w K mg base 4 "weekday_of" s_weekday_of ["number"] (sp_weekday_of K) := by
  have sc := sc_weekday_of
  obtain ⟨f, hm, fd, F⟩ := T.d_weekday_of
  refine ⟨f, fd, hm, F, okX F sc (by fail "many") (fun cdv A outer s H vs Q E hr h => ?_)⟩
  · obtain ⟨v, rfl, kd, k, x⟩ := h
    refine ⟨_, (pss_cons (ps_expr (pe_callX (sp := sp_check_number K) (df_check_number T) (takes_of rfl rfl rfl rfl) hr (by decide) b_check_number_1_ b_check_number_1__s (pa_cons (pv 0) pa_nil) pk_nil))
 (pss_one (ps_ret (pe_op op_modA (pe_op op_subA (pv 0) pe_int) pe_int)))), ?_⟩
    dsimp only [cxOf, Cx.wish, L2.start, List.map, List.length, List.replicate, List.append, List.cons_append, List.nil_append, Nat.reduceAdd, Nat.reduceSub, Nat.zero_add]
    fail "go"
    rotate_left
    · exact x ‹_› _ _ _ ‹_› (by fail "same") ‹_›
    rename_i c H0 s0
    obtain ⟨n, rfl, h1, h2⟩ := wh_i c
    fail "go"
    exact k c _ (by fail "same")
local macro_rules | `(tactic| fail "call") => `(tactic| ((with_reducible show sp_weekday_of _ _ _ _ _); (refine ⟨_, rfl, by fail "kd", ?_⟩; fail "out")))
theorem mlen2 (y : Int) : mlen y 2 = if y % 400 = 0 ∨ (y % 4 = 0 ∧ 0 < y % 100) then 29 else 28 := by
  unfold mlen leap
  rw [if_pos rfl]
  by_cases h : y % 400 = 0 ∨ (y % 4 = 0 ∧ 0 < y % 100)
  · rw [if_pos h, if_pos (decide_eq_true (by omega))]
  · rw [if_neg h, if_neg (by rw [decide_eq_false (by omega)]; decide)]
theorem in30 (m : Int) : inV (.int m) [.int 4, .int 6, .int 9, .int 11] = decide (m = 4 ∨ m = 6 ∨ m = 9 ∨ m = 11) := by
  simp only [inV, List.any_cons, List.any_nil, eqV, Bool.or_false]
  by_cases h : m = 4 ∨ m = 6 ∨ m = 9 ∨ m = 11
  · rw [decide_eq_true h]
    rcases h with rfl | rfl | rfl | rfl <;> rfl
  · rw [decide_eq_false h]
    simp only [Bool.or_eq_false_iff, beq_eq_false_iff_ne]
    omega

def sp_law_length (K : PySem.W.Frag) : Sp := fun vs H Q _ =>
  ∃ y m : Int, vs = [.int y, .int m] ∧ ∀ H', Same H H' → Q (.int (mlen y m)) H'
theorem df_law_length (T : Txt P K mg base) : Df P w K mg base 1 "_law_length" s_law_length ["y", "mo"] (sp_law_length K) := by
  have sc := sc_law_length
  obtain ⟨f, hm, fd, F⟩ := T.d_law_length
  refine ⟨f, fd, hm, F, okG F sc (by fail "many") (fun cdv A outer s H vs Q E hr h => ?_)⟩
  · obtain ⟨y, m, rfl, k⟩ := h
    refine ⟨_, (pss_cons (ps_if (pt_cmpR (op_eqA hr) (pv 1) pe_int (nomark _)) (pss_one (ps_ret (pe_ifExp (PW.pt (pw_or (pt_cmpR (op_eqA hr) (pe_op op_modA (pv 0) pe_int) pe_int (nomark _)) (pw_or1 (PW.pt (pw_and (pt_cmpR (op_eqA hr) (pe_op op_modA (pv 0) pe_int) pe_int (nomark _)) (pw_and1 (pt_cmpR op_gtA (pe_op op_modA (pv 0) pe_int) pe_int (nomark _)))))))) pe_int pe_int))) pss_nil)
 (pss_one (ps_ret (pe_ifExp (pt_cmpR op_inA (pv 1) (pe_tup (pa_cons pe_int (pa_cons pe_int (pa_cons pe_int (pa_cons pe_int pa_nil))))) rfl) pe_int pe_int)))), ?_⟩
    dsimp only [cxOf, Cx.wish, L2.start, List.map, List.length, List.replicate, List.append, List.cons_append, List.nil_append, Nat.reduceAdd, Nat.reduceSub, Nat.zero_add]
    fail "go"
    · rename_i e _
      subst e
      exact finI k (by rw [mlen2, if_pos (by omega)]) (Same.refl _)
    · rename_i e _ _ _
      subst e
      exact finI k (by rw [mlen2, if_pos (by omega)]) (Same.refl _)
    · rename_i e _ _ _
      subst e
      exact finI k (by rw [mlen2, if_neg (by omega)]) (Same.refl _)
    · rename_i e _ _
      subst e
      exact finI k (by rw [mlen2, if_neg (by omega)]) (Same.refl _)
    · rename_i e p np
      refine g_inT (by with_reducible (fail "sq")) rfl rfl ?_
      rw [in30]
      fail "go"
      · rename_i e2
        exact finI k (by unfold mlen; rw [if_neg e, if_pos e2]) (by fail "same")
      · rename_i e2
        exact finI k (by unfold mlen; rw [if_neg e, if_neg e2]) (by fail "same")
local macro_rules | `(tactic| fail "call") => `(tactic| ((with_reducible show sp_law_length _ _ _ _ _); refine ⟨_, _, rfl, fun H' s' => ?_⟩))

def sp_law_year (K : PySem.W.Frag) : Sp := fun vs H Q _ =>
  ∃ (d : Addr) (n : Nat) (c : Addr), vs = [.ref d] ∧ DrawAt K n H d c ∧ n + 2 < 1000000000 ∧ ∀ H' y, Keep d H H' → DrawAt K (n + 2) H' d c → 1 ≤ y → y ≤ 9999 → Q (.int y) H'
theorem df_law_year (T : Txt P K mg base) : Df P w K mg base 3 "_law_year" s_law_year ["draw"] (sp_law_year K) := by
  have sc := sc_law_year
  obtain ⟨f, hm, fd, F⟩ := T.d_law_year
  refine ⟨f, fd, hm, F, okG F sc (by fail "many") (fun cdv A outer s H vs Q E hr h => ?_)⟩
  · obtain ⟨d, n, c, rfl, D, hn, k⟩ := h
    refine ⟨_, (pss_cons (ps_set (i := 1) sc.nd rfl (Or.inl rfl) (pe_lst (pa_cons pe_int (pa_cons pe_int (pa_cons pe_int (pa_cons pe_int (pa_cons pe_int (pa_cons pe_int (pa_cons pe_int (pa_cons pe_int (pa_cons pe_int (pa_cons pe_int (pa_cons pe_int (pa_cons pe_int (pa_cons pe_int (pa_cons pe_int (pa_cons pe_int (pa_cons pe_int (pa_cons pe_int (pa_cons pe_int (pa_cons pe_int pa_nil)))))))))))))))))))))
 (pss_one (ps_ret (pe_ifExp (pt_cmpR (op_eqA hr) (pe_callG (sp := sp_law_next K) (df_law_next T) hr (by decide) b_law_next_2_ b_law_next_2__s (pa_cons (pv 0) (pa_cons pe_int pa_nil)) pk_nil) pe_int (nomark _)) (pe_ix ix_seq (pv 1) (pe_callG (sp := sp_law_next K) (df_law_next T) hr (by decide) b_law_next_2_ b_law_next_2__s (pa_cons (pv 0) (pa_cons pe_int pa_nil)) pk_nil) (fun _ _ => rfl)) (pe_op op_addA pe_int (pe_callG (sp := sp_law_next K) (df_law_next T) hr (by decide) b_law_next_2_ b_law_next_2__s (pa_cons (pv 0) (pa_cons pe_int pa_nil)) pk_nil)))))), ?_⟩
    dsimp only [cxOf, Cx.wish, L2.start, List.map, List.length, List.replicate, List.append, List.cons_append, List.nil_append, Nat.reduceAdd, Nat.reduceSub, Nat.zero_add]
    fail "go"
    · refine g_ixA (fun v => ∃ j, v = .int j ∧ 1 ≤ j ∧ j ≤ 9999) (by with_reducible (fail "sq")) (by fail "all") (by assumption) (by assumption) ?_
      rintro v ⟨j, rfl, j1, j2⟩
      exact k _ _ (by fail "keep") (by fail "dr") j1 j2
    · exact k _ _ (by fail "keep") (by fail "dr") (by omega) (by omega)
local macro_rules | `(tactic| fail "call") => `(tactic| ((with_reducible show sp_law_year _ _ _ _ _); refine ⟨_, _, _, rfl, by with_reducible (fail "dr"), by omega, fun H' y k' D' hy1 hy2 => ?_⟩))

def sp_law_date (K : PySem.W.Frag) : Sp := fun vs H Q _ =>
  ∃ (d : Addr) (n : Nat) (c : Addr), vs = [.ref d] ∧ DrawAt K n H d c ∧ n + 6 < 1000000000 ∧ ∀ H' p y mo dd, Keep d H H' → DrawAt K (n + 6) H' d c → H' p = some (.tup [.int y, .int mo, .int dd]) → valid y mo dd → Q (.ref p) H'
theorem df_law_date (T : Txt P K mg base) : Df P w K mg base 4 "_law_date" s_law_date ["draw"] (sp_law_date K) := by
  have sc := sc_law_date
  obtain ⟨f, hm, fd, F⟩ := T.d_law_date
  refine ⟨f, fd, hm, F, okG F sc (by fail "many") (fun cdv A outer s H vs Q E hr h => ?_)⟩
  · obtain ⟨d, n, c, rfl, D, hn, k⟩ := h
    refine ⟨_, (pss_cons (ps_par3 (i := 1) (j := 2) (l := 3) rfl sc.nd rfl rfl rfl (by decide) (by decide) (by decide) rfl rfl rfl (pa_cons (pe_callG (sp := sp_law_year K) (df_law_year T) hr (by decide) b_law_year_1_ b_law_year_1__s (pa_cons (pv 0) pa_nil) pk_nil) (pa_cons (pe_ix ix_seq (pe_lst (pa_cons pe_int (pa_cons pe_int (pa_cons pe_int (pa_cons pe_int (pa_cons pe_int (pa_cons (pe_op op_addA pe_int (pe_callG (sp := sp_law_next K) (df_law_next T) hr (by decide) b_law_next_2_ b_law_next_2__s (pa_cons (pv 0) (pa_cons pe_int pa_nil)) pk_nil)) pa_nil))))))) (pe_callG (sp := sp_law_next K) (df_law_next T) hr (by decide) b_law_next_2_ b_law_next_2__s (pa_cons (pv 0) (pa_cons pe_int pa_nil)) pk_nil) (fun _ _ => rfl)) (pa_cons (pe_callG (sp := sp_law_next K) (df_law_next T) hr (by decide) b_law_next_2_ b_law_next_2__s (pa_cons (pv 0) (pa_cons pe_int pa_nil)) pk_nil) pa_nil))) (by rfl))
 (pss_cons (ps_set (i := 4) sc.nd rfl (Or.inl rfl) (pe_callG (sp := sp_law_length K) (df_law_length T) hr (by decide) b_law_length_2_ b_law_length_2__s (pa_cons (pv 1) (pa_cons (pv 2) pa_nil)) pk_nil))
 (pss_one (ps_ret (pe_tup (pa_cons (pv 1) (pa_cons (pv 2) (pa_cons (pe_ifExp (pt_cmpR (op_eqA hr) (pv 3) pe_int (nomark _)) pe_int (pe_ifExp (pt_cmpR (op_eqA hr) (pv 3) pe_int (nomark _)) (pv 4) (pe_op op_addA pe_int (pe_callG (sp := sp_law_next K) (df_law_next T) hr (by decide) b_law_next_2_ b_law_next_2__s (pa_cons (pv 0) (pa_cons (pv 4) pa_nil)) pk_nil)))) pa_nil)))))))), ?_⟩
    dsimp only [cxOf, Cx.wish, L2.start, List.map, List.length, List.replicate, List.append, List.cons_append, List.nil_append, Nat.reduceAdd, Nat.reduceSub, Nat.zero_add]
    fail "go"
    refine g_ixA (fun v => ∃ j, v = .int j ∧ 1 ≤ j ∧ j ≤ 12) (by with_reducible (fail "sq")) (by fail "all") (by assumption) (by assumption) ?_
    rintro v ⟨mo, rfl, m1, m2⟩
    rename_i H1 y k1 D1 y1 y2 _ _ _ _ _ _ _ _ _ _ _ _ _ _
    have lo := mlen_lo y mo
    have hi := mlen_hi y mo
    fail "go"
    all_goals exact k _ _ y mo _ (by fail "keep") (by fail "dru") (by fail "h") ⟨y1, y2, m1, m2, by omega, by omega⟩
local macro_rules | `(tactic| fail "call") => `(tactic| ((with_reducible show sp_law_date _ _ _ _ _); refine ⟨_, _, _, rfl, by with_reducible (fail "dr"), by omega, fun H' p y mo dd k' D' hp hv => ?_⟩))

def spL_law_said (K : PySem.W.Frag) : (XK → Hp → VK → Prop) → Hp → VK → Prop := fun tl H Q =>
  Said K tl H Q
theorem gv_law_said (T : Txt P K mg base) : Gv P w K mg base 10 "_law_said" s_law_said ["call", "caught", "found", "e", "some", "others", "word"] "call" (spL_law_said K) := by
  have sc := sc_law_said
  refine ⟨T.d_law_said.imp fun f h => ⟨h.2.choose, h.1, h.2.choose_spec⟩, sc, rfl, .inl rfl, by decide, by decide, fun g cdv A outer s H Q f c' q tl hr act hc h => ?_⟩
  · skip
    obtain ⟨C_AbsentError, xn_AbsentError, hm_AbsentError⟩ := T.n_AbsentError
    obtain ⟨C_BadBody, xn_BadBody, hm_BadBody⟩ := T.x_BadBody.nm
    obtain ⟨C_BadContent, xn_BadContent, hm_BadContent⟩ := T.x_BadContent.nm
    obtain ⟨C_BadDate, xn_BadDate, hm_BadDate⟩ := T.x_BadDate.nm
    obtain ⟨C_BadHeader, xn_BadHeader, hm_BadHeader⟩ := T.x_BadHeader.nm
    obtain ⟨C_BadNumber, xn_BadNumber, hm_BadNumber⟩ := T.x_BadNumber.nm
    obtain ⟨C_BadText, xn_BadText, hm_BadText⟩ := T.x_BadText.nm
    obtain ⟨C_BadWidth, xn_BadWidth, hm_BadWidth⟩ := T.x_BadWidth.nm
    obtain ⟨C_HeaderError, xn_HeaderError, hm_HeaderError⟩ := T.n_HeaderError
    obtain ⟨C_LetterError, xn_LetterError, hm_LetterError⟩ := T.n_LetterError
    obtain ⟨C_NoCode, xn_NoCode, hm_NoCode⟩ := T.x_NoCode.nm
    refine ⟨_, (pss_cons (ps_asg (pe_tup (pa_cons pe_non (pa_cons pe_non pa_nil))) (pg_tup (by rfl) (pgs_cons (pg_name (i := 1) sc.nd rfl (Or.inl rfl)) (pgs_cons (pg_name (i := 2) sc.nd rfl (Or.inl rfl)) pgs_nil))))
 (pss_cons (ps_try_tup (i := 3) rfl rfl rfl sc.nd rfl rfl ⟨rfl, by decide, .inl hm_HeaderError⟩ ⟨rfl, by decide, .inl hm_LetterError⟩ ⟨rfl, by decide, .inl hm_AbsentError⟩ (fun W pn xe tw pw => (pss_one (ps_set (i := 2) sc.nd rfl (Or.inl rfl) (act W pn xe _ _ tw))))
 (fun a oe cls d pn hz hf => (pss_one (ps_set (i := 1) sc.nd rfl (Or.inl rfl) (pv 3)))))
 (pss_cons (ps_if (pt_cmpR op_isA (pv 1) pe_non (nomark _)) (pss_one (ps_ret (pe_lst (pa_cons (pv 2) pa_nil)))) pss_nil)
 (pss_cons (ps_set (i := 4) sc.nd rfl (Or.inl rfl) (pe_lst (pa_cons (pe_callB call_isX (by rfl) T.b_isinstance (by decide +kernel) (pa_cons (pv 1) (pa_cons (pe_globE (v := V.ref C_BadDate) ⟨_, hm_BadDate, rfl⟩) pa_nil))) (pa_cons (pe_callB call_isX (by rfl) T.b_isinstance (by decide +kernel) (pa_cons (pv 1) (pa_cons (pe_globE (v := V.ref C_BadNumber) ⟨_, hm_BadNumber, rfl⟩) pa_nil))) (pa_cons (pe_callB call_isX (by rfl) T.b_isinstance (by decide +kernel) (pa_cons (pv 1) (pa_cons (pe_globE (v := V.ref C_BadBody) ⟨_, hm_BadBody, rfl⟩) pa_nil))) pa_nil)))))
 (pss_cons (ps_expr (pe_bm PySem.F.plainAttrs_list PySem.F.slot_list_append PySem.F.type_list_append mt_append (pv 4) (pa_cons (pe_callB call_isX (by rfl) T.b_isinstance (by decide +kernel) (pa_cons (pv 1) (pa_cons (pe_globE (v := V.ref C_BadContent) ⟨_, hm_BadContent, rfl⟩) pa_nil))) pa_nil)))
 (pss_cons (ps_set (i := 5) sc.nd rfl (Or.inl rfl) (pe_callB call_isXT (by rfl) T.b_isinstance (by decide +kernel) (pa_cons (pv 1) (pa_cons (pe_tup (pa_cons (pe_globE (v := V.ref C_BadText) ⟨_, hm_BadText, rfl⟩) (pa_cons (pe_globE (v := V.ref C_BadWidth) ⟨_, hm_BadWidth, rfl⟩) (pa_cons (pe_globE (v := V.ref C_BadHeader) ⟨_, hm_BadHeader, rfl⟩) (pa_cons (pe_globE (v := V.ref C_NoCode) ⟨_, hm_NoCode, rfl⟩) pa_nil))))) pa_nil))))
 (pss_cons (ps_if (PW.pt (pw_or (pt_val (pv 5)) (pw_or (pt_cmpR (op_neA hr) (pe_bm PySem.F.plainAttrs_list PySem.F.slot_list_count PySem.F.type_list_count mt_lcountB (pv 4) (pa_cons pe_bl pa_nil)) pe_int (nomark _)) (pw_or1 (pt_not (pt_val (pe_callB call_isX (by rfl) T.b_isinstance (by decide +kernel) (pa_cons (pv 1) (pa_cons (pe_bltn (v := V.ty "ValueError") (u := .type "ValueError") (by rfl) T.b_ValueError (by decide +kernel) rfl) pa_nil))))))))) (pss_one (ps_ret pe_str)) pss_nil)
 (pss_cons (ps_if (pt_val (pe_callB call_isXT (by rfl) T.b_isinstance (by decide +kernel) (pa_cons (pv 1) (pa_cons (pe_tup (pa_cons (pe_bltn (v := V.ty "RuntimeError") (u := .type "RuntimeError") (by rfl) T.b_RuntimeError (by decide +kernel) rfl) (pa_cons (pe_bltn (v := V.ty "LookupError") (u := .type "LookupError") (by rfl) T.b_LookupError (by decide +kernel) rfl) pa_nil))) pa_nil)))) (pss_one (ps_ret pe_str)) pss_nil)
 (pss_cons (ps_set (i := 6) sc.nd rfl (Or.inl rfl) (pe_ifExp (pt_val (pe_ix ix_seq (pv 4) pe_int (fun _ _ => rfl))) pe_str (pe_ifExp (pt_val (pe_ix ix_seq (pv 4) pe_int (fun _ _ => rfl))) pe_str (pe_ifExp (pt_val (pe_ix ix_seq (pv 4) pe_int (fun _ _ => rfl))) pe_str pe_str))))
 (pss_one (ps_ret (pe_tup (pa_cons (pv 6) (pa_cons (pe_xv (pv 1)) pa_nil)))))))))))))), ?_⟩
    dsimp only [cxOf, Cx.wish, LamX.lamCx, L2.start, List.map, List.length, List.replicate, List.append, List.cons_append, List.nil_append, Nat.reduceAdd, Nat.reduceSub, Nat.zero_add]
    fail "go"
    rename_i p np
    refine ⟨rfl, upd_new np hc, h _ _ _ (by fail "same") ?_ ?_⟩
    · intro cls d v n w H1 mem xn hd q
      have ex : ∃ C b0 b1 b2 b3, cls = .ref C ∧ (w = if b0 = true then ("date" : Str) else if b1 = true then "number" else if b2 = true then "body" else "content") ∧ [b0, b1, b2, b3].count true = 1 ∧ XIs K C ∧ XFld K (.ref C) "given" ∧ PySem.W.exmAny K (.ref C) [.ref C_HeaderError, .ref C_LetterError, .ref C_AbsentError] = some true ∧ PySem.W.kitOne K (.ref C) (.ref C_BadDate) = some b0 ∧ PySem.W.kitOne K (.ref C) (.ref C_BadNumber) = some b1 ∧ PySem.W.kitOne K (.ref C) (.ref C_BadBody) = some b2 ∧ PySem.W.kitOne K (.ref C) (.ref C_BadContent) = some b3 ∧
          (∀ c ∈ [Value.ref C_BadText, .ref C_BadWidth, .ref C_BadHeader, .ref C_NoCode], PySem.W.kitOne K (.ref C) c = some false) ∧ PySem.W.kitOne K (.ref C) (.type "ValueError") = some true ∧ (∀ c ∈ [Value.type "RuntimeError", .type "LookupError"], PySem.W.kitOne K (.ref C) c = some false) := by
        have mem2 : (n = "BadDate" ∧ w = "date") ∨ (n = "BadNumber" ∧ w = "number") ∨ (n = "BadBody" ∧ w = "body") ∨ (n = "BadContent" ∧ w = "content") := by
          simp only [SAID, List.mem_cons, Prod.mk.injEq, List.mem_nil_iff, or_false] at mem
          exact mem
        rcases mem2 with ⟨rfl, rfl⟩ | ⟨rfl, rfl⟩ | ⟨rfl, rfl⟩ | ⟨rfl, rfl⟩
        · obtain rfl := XN.inj xn xn_BadDate
          exact ⟨_, true, false, false, false, rfl, rfl, rfl, T.x_BadDate.is xn, T.x_BadDate.fld xn, T.e_BadDate _ _ _ _ xn xn_HeaderError xn_LetterError xn_AbsentError, T.i_BadDate_BadDate _ _ xn xn_BadDate, T.i_BadDate_BadNumber _ _ xn xn_BadNumber, T.i_BadDate_BadBody _ _ xn xn_BadBody, T.i_BadDate_BadContent _ _ xn xn_BadContent,
            kno4 (T.i_BadDate_BadText _ _ xn xn_BadText) (T.i_BadDate_BadWidth _ _ xn xn_BadWidth) (T.i_BadDate_BadHeader _ _ xn xn_BadHeader) (T.i_BadDate_NoCode _ _ xn xn_NoCode), T.i_BadDate_ValueError _ xn, kno2 (T.i_BadDate_RuntimeError _ xn) (T.i_BadDate_LookupError _ xn)⟩
        · obtain rfl := XN.inj xn xn_BadNumber
          exact ⟨_, false, true, false, false, rfl, rfl, rfl, T.x_BadNumber.is xn, T.x_BadNumber.fld xn, T.e_BadNumber _ _ _ _ xn xn_HeaderError xn_LetterError xn_AbsentError, T.i_BadNumber_BadDate _ _ xn xn_BadDate, T.i_BadNumber_BadNumber _ _ xn xn_BadNumber, T.i_BadNumber_BadBody _ _ xn xn_BadBody, T.i_BadNumber_BadContent _ _ xn xn_BadContent,
            kno4 (T.i_BadNumber_BadText _ _ xn xn_BadText) (T.i_BadNumber_BadWidth _ _ xn xn_BadWidth) (T.i_BadNumber_BadHeader _ _ xn xn_BadHeader) (T.i_BadNumber_NoCode _ _ xn xn_NoCode), T.i_BadNumber_ValueError _ xn, kno2 (T.i_BadNumber_RuntimeError _ xn) (T.i_BadNumber_LookupError _ xn)⟩
        · obtain rfl := XN.inj xn xn_BadBody
          exact ⟨_, false, false, true, false, rfl, rfl, rfl, T.x_BadBody.is xn, T.x_BadBody.fld xn, T.e_BadBody _ _ _ _ xn xn_HeaderError xn_LetterError xn_AbsentError, T.i_BadBody_BadDate _ _ xn xn_BadDate, T.i_BadBody_BadNumber _ _ xn xn_BadNumber, T.i_BadBody_BadBody _ _ xn xn_BadBody, T.i_BadBody_BadContent _ _ xn xn_BadContent,
            kno4 (T.i_BadBody_BadText _ _ xn xn_BadText) (T.i_BadBody_BadWidth _ _ xn xn_BadWidth) (T.i_BadBody_BadHeader _ _ xn xn_BadHeader) (T.i_BadBody_NoCode _ _ xn xn_NoCode), T.i_BadBody_ValueError _ xn, kno2 (T.i_BadBody_RuntimeError _ xn) (T.i_BadBody_LookupError _ xn)⟩
        · obtain rfl := XN.inj xn xn_BadContent
          exact ⟨_, false, false, false, true, rfl, rfl, rfl, T.x_BadContent.is xn, T.x_BadContent.fld xn, T.e_BadContent _ _ _ _ xn xn_HeaderError xn_LetterError xn_AbsentError, T.i_BadContent_BadDate _ _ xn xn_BadDate, T.i_BadContent_BadNumber _ _ xn xn_BadNumber, T.i_BadContent_BadBody _ _ xn xn_BadBody, T.i_BadContent_BadContent _ _ xn xn_BadContent,
            kno4 (T.i_BadContent_BadText _ _ xn xn_BadText) (T.i_BadContent_BadWidth _ _ xn xn_BadWidth) (T.i_BadContent_BadHeader _ _ xn xn_BadHeader) (T.i_BadContent_NoCode _ _ xn xn_NoCode), T.i_BadContent_ValueError _ xn, kno2 (T.i_BadContent_RuntimeError _ xn) (T.i_BadContent_LookupError _ xn)⟩
      obtain ⟨C, b0, b1, b2, b3, rfl, ew, eb, xi, xf, xe, k0, k1, k2, k3, k4, k5, k6⟩ := ex
      clear mem
      refine ⟨xe, fun a0 na => ?_⟩
      fail "go"
      have nd0 : d ≠ a0 := fun e => by rw [← e, hd] at na; cases na
      refine ⟨na, ?_⟩
      have xa : XAt (upd H1 a0 (ExV (.ref C) (some d) a0)) a0 (.ref C) "given" v := ⟨d, upd_same, by rw [upd_ne nd0]; exact hd⟩
      fail "go"
      rename_i p1 n1 p2 n2
      refine g_cntB [b0, b1, b2, b3] (by show SqL K _ _ [V.bl b0, V.bl b1, V.bl b2, V.bl b3]; fail "sq") rfl ?_
      rw [eb]
      fail "go"
      · rename_i hb p np
        rw [if_pos hb] at ew
        subst ew
        exact q _ _ (by fail "same") (by fail "h")
      · rename_i hb hb1 p np
        rw [if_neg (by rw [hb]; decide), if_pos hb1] at ew
        subst ew
        exact q _ _ (by fail "same") (by fail "h")
      · rename_i hb hb1 hb2 p np
        rw [if_neg (by rw [hb]; decide), if_neg (by rw [hb1]; decide), if_pos hb2] at ew
        subst ew
        exact q _ _ (by fail "same") (by fail "h")
      · rename_i hb hb1 hb2 p np
        rw [if_neg (by rw [hb]; decide), if_neg (by rw [hb1]; decide), if_neg (by rw [hb2]; decide)] at ew
        subst ew
        exact q _ _ (by fail "same") (by fail "h")
    · intro v H1 q
      fail "go"
      rename_i p2 np2
      exact q _ _ (by fail "same") np2 upd_same
local macro_rules | `(tactic| fail "call") => `(tactic| ((with_reducible show spL_law_said _ _ _ _); skip))
/-- the moment at a -/
def Mom (K : PySem.W.Frag) (H : Hp) (a : Addr) (ys : List V) : Prop := ∃ C dx p, XN K "Moment" (.ref C) ∧ H a = some (.ins C dx [("row", .ref p)]) ∧ H p = some (.tup ys)
theorem Mom.same {K : PySem.W.Frag} {H H1 : Hp} {a : Addr} {ys : List V} (m : Mom K H a ys) (e : Same H H1) : Mom K H1 a ys := by
  obtain ⟨C, dx, p, x, h1, h2⟩ := m
  exact ⟨C, dx, p, x, e _ _ h1, e _ _ h2⟩
/-- the first of seven that is no part of a date -/
def bad7 (y mo d h mi s z : V) : Option V := match badD y mo d with
  | some v => some v
  | none => if whole h 0 23 = false then some h else if whole mi 0 59 = false then some mi else if whole s 0 59 = false then some s else if whole z (0 - 899) 899 = false then some z else none
local macro_rules
  | `(tactic| fail "mom") => `(tactic| with_reducible first | assumption | ((apply Mom.same (by assumption)); fail "same"))
/-- what Moment.__init__ does -/
def SPM (K : PySem.W.Frag) (vs : List V) (H : Hp) (Q : VK) (E : XK) : Prop := ∃ (a C dx : Addr) (y mo d h mi s z : V), vs = [.ref a, y, mo, d, h, mi, s, z] ∧ XN K "Moment" (.ref C) ∧ H a = some (.ins C dx []) ∧ Kd K H y ∧ Kd K H mo ∧ Kd K H d ∧ Kd K H h ∧ Kd K H mi ∧ Kd K H s ∧ Kd K H z ∧ (bad7 y mo d h mi s z = none → ∀ H' p, Same H H' → H' p = some (.tup [y, mo, d, h, mi, s, z]) → Q .non (upd H' a (.ins C dx [("row", .ref p)]))) ∧ (∀ v, bad7 y mo d h mi s z = some v → Rz K H E "BadDate" "given" v)
theorem Kd.ins {K : PySem.W.Frag} {H : Hp} {x dx : Addr} {o u : HO} {v : V} (hx : H x = none) (hd : H dx = none) (k : Kd K H v) : Kd K (upd (upd H dx o) x u) v := k.same (Same.ins hx hd (Same.refl H))
theorem mom_mk {K : PySem.W.Frag} {mg : Str → Option Value} {H : Hp} {Q : VK} {E : XK} {vs : List V} {C x dx : Addr} {y mo d h mi s z : V} (hv : vs = [.ref x, y, mo, d, h, mi, s, z]) (o : OwnC K mg "Moment" C) (hx : H x = none) (hd : H dx = none) (ne : dx ≠ x)
    (k1 : Kd K H y) (k2 : Kd K H mo) (k3 : Kd K H d) (k4 : Kd K H h) (k5 : Kd K H mi) (k6 : Kd K H s) (k7 : Kd K H z)
    (q : (bad7 y mo d h mi s z = none → ∀ H' a, Same H H' → H a = none → Mom K H' a [y, mo, d, h, mi, s, z] → a = x → Q .non H') ∧ ∀ v, bad7 y mo d h mi s z = some v → Rz K H E "BadDate" "given" v) :
    SPM K vs (upd (upd H dx (.own x)) x (.ins C dx [])) Q E := by
  have s0 : Same H (upd (upd H dx (.own x)) x (.ins C dx [])) := Same.ins hx hd (Same.refl H)
  refine ⟨x, C, dx, y, mo, d, h, mi, s, z, hv, o.xn, upd_same, .ins hx hd k1, .ins hx hd k2, .ins hx hd k3, .ins hx hd k4, .ins hx hd k5, .ins hx hd k6, .ins hx hd k7, fun b H' p s' hp => ?_, fun v b => (q.2 v b).same s0⟩
  have px : p ≠ x := fun e => by rw [e, s' x _ upd_same] at hp; cases hp
  refine q.1 b _ x (fun b u z => ?_) hx ⟨C, dx, p, o.xn, upd_same, by rw [upd_ne px]; exact hp⟩ rfl
  rw [upd_ne (ne_of_none z hx)]
  exact s' b u (s0 b u z)
local macro_rules
  | `(tactic| fail "kdi") => `(tactic| first | exact Kd.int _ | assumption | fail "kd")

def sp_Moment___init__ (K : PySem.W.Frag) : Sp := fun vs H Q E =>
  SPM K vs H Q E
theorem df_Moment___init__ (T : Txt P K mg base) : DfM P w K mg base (L2.CX P w) 6 "Moment" "__init__" "Moment.__init__" s_Moment___init__ ["self", "year", "month", "day", "hour", "minute", "second", "zone"] [V.int 0, V.int 0, V.int 0] [("zone", V.int 0)] (sp_Moment___init__ K) := by
  have sc := sc_Moment___init__
  refine ⟨fun C xnC => ?_⟩
  obtain ⟨f, fd, e1, e2, F⟩ := T.m_Moment___init__ C xnC
  refine ⟨f, fd, e1, e2, F, okDX F sc (by fail "many") (fun cdv A outer s H vs Q E hr h => ?_)⟩
  · obtain ⟨a, C, dx, y, mo, d, h, mi, s, z, rfl, xc, ha, k1, k2, k3, k4, k5, k6, k7, k, x⟩ := h
    refine ⟨_, (pss_cons (ps_expr (pe_callX (sp := sp_check_day K) (df_check_day T) (takes_of rfl rfl rfl rfl) hr (by decide) b_check_day_3_ b_check_day_3__s (pa_cons (pv 1) (pa_cons (pv 2) (pa_cons (pv 3) pa_nil))) pk_nil))
 (pss_cons (ps_for (passes_of rfl) rfl (pi_tup (pe_tup (pa_cons (pe_tup (pa_cons (pv 4) (pa_cons pe_int pa_nil))) (pa_cons (pe_tup (pa_cons (pv 5) (pa_cons pe_int pa_nil))) (pa_cons (pe_tup (pa_cons (pv 6) (pa_cons pe_int pa_nil))) pa_nil))))) (pg_tup (by rfl) (pgs_cons (pg_name (i := 8) sc.nd rfl (Or.inl rfl)) (pgs_cons (pg_name (i := 9) sc.nd rfl (Or.inl rfl)) pgs_nil))) (pss_one (ps_if (pt_not (pt_val (pe_callG (sp := sp_is_whole K) (df_is_whole T) hr (by decide) b_is_whole_3_ b_is_whole_3__s (pa_cons (pv 8) (pa_cons pe_int (pa_cons (pv 9) pa_nil))) pk_nil))) (pss_one (ps_raiseX T.x_BadDate rfl hr (by decide) (takes_of rfl rfl rfl rfl) (pa_cons (pv 8) pa_nil))) pss_nil)))
 (pss_cons (ps_if (pt_not (pt_val (pe_callG (sp := sp_is_whole K) (df_is_whole T) hr (by decide) b_is_whole_3_ b_is_whole_3__s (pa_cons (pv 7) (pa_cons (pe_op op_subA pe_int (pe_globE T.c_MOST_ZONE)) (pa_cons (pe_globE T.c_MOST_ZONE) pa_nil))) pk_nil))) (pss_one (ps_raiseX T.x_BadDate rfl hr (by decide) (takes_of rfl rfl rfl rfl) (pa_cons (pv 7) pa_nil))) pss_nil)
 (pss_one (ps_fld (pv 0) (pe_tup (pa_cons (pv 1) (pa_cons (pv 2) (pa_cons (pv 3) (pa_cons (pv 4) (pa_cons (pv 5) (pa_cons (pv 6) (pa_cons (pv 7) pa_nil)))))))) rfl))))), ?_⟩
    dsimp only [cxOf, Cx.wish, L2.start, List.map, List.length, List.replicate, List.append, List.cons_append, List.nil_append, Nat.reduceAdd, Nat.reduceSub, Nat.zero_add]
    obtain ⟨C', o⟩ := T.o_Moment
    obtain rfl := Value.ref.inj (XN.inj xc o.xn)
    have na := T.a_Moment_row C o.xn
    fail "go"
    all_goals first
      | exact x _ (by simp_all [bad7]) _ _ _ (by assumption) (by fail "same") (by assumption)
      | exact k (by simp_all [bad7]) _ _ (by fail "same") upd_same
local macro_rules | `(tactic| fail "call") => `(tactic| ((with_reducible show sp_Moment___init__ _ _ _ _ _); (refine mom_mk rfl (by assumption) (by assumption) (by assumption) (by assumption) (by fail "kdi") (by fail "kdi") (by fail "kdi") (by fail "kdi") (by fail "kdi") (by fail "kdi") (by fail "kdi") ?_)))
theorem spm_ok {o : Option V} {P : Prop} {R : V → Prop} (h : o = none) (r : P) : (o = none → P) ∧ (∀ v, o = some v → R v) := ⟨fun _ => r, fun w q => by rw [h] at q; exact nomatch q⟩
/-- seven numbers of a moment -/
structure Val7 (y mo d h mi s z : Int) : Prop where
  v : valid y mo d
  h0 : 0 ≤ h
  h1 : h ≤ 23
  m0 : 0 ≤ mi
  m1 : mi ≤ 59
  s0 : 0 ≤ s
  s1 : s ≤ 59
  z0 : -899 ≤ z
  z1 : z ≤ 899
theorem Val7.ok {y mo d h mi s z : Int} (q : Val7 y mo d h mi s z) : bad7 (.int y) (.int mo) (.int d) (.int h) (.int mi) (.int s) (.int z) = none := by
  have a := wh_t ⟨q.h0, q.h1⟩
  have b := wh_t ⟨q.m0, q.m1⟩
  have c := wh_t ⟨q.s0, q.s1⟩
  have e : whole (.int z) (-899) 899 = true := wh_t ⟨q.z0, q.z1⟩
  simp [bad7, val_wh q.v, a, b, c, e]
theorem Val7.sm {y mo d h mi s z : Int} (q : Val7 y mo d h mi s z) : ∀ i ∈ [y, mo, d, h, mi, s, z], i.natAbs < 10 ^ 40 := by
  obtain ⟨v, a1, a2, b1, b2, c1, c2, d1, d2⟩ := q
  obtain ⟨h1, h2, h3, h4, h5, h6⟩ := v
  have hi := mlen_hi y mo
  have e : (10000 : Nat) ≤ 10 ^ 40 := by decide
  intro i hi
  simp only [List.mem_cons, List.mem_nil_iff, or_false] at hi
  rcases hi with rfl | rfl | rfl | rfl | rfl | rfl | rfl <;> exact Nat.lt_of_lt_of_le (m := 10000) (by omega) e

def sp_Moment_year (K : PySem.W.Frag) : Sp := fun vs H Q _ =>
  ∃ (a : Addr) (y mo d h mi s z : V), vs = [.ref a] ∧ Mom K H a [y, mo, d, h, mi, s, z] ∧ ∀ H', Same H H' → Q y H'
theorem df_Moment_year (T : Txt P K mg base) : DfP P w K mg base 1 "Moment" "year" "Moment.year" s_Moment_year (sp_Moment_year K) := by
  have sc := sc_Moment_year
  refine ⟨fun C xnC => ?_⟩
  obtain ⟨p, f, fd, e1, F⟩ := T.m_Moment_year C xnC
  refine ⟨p, f, fd, e1, F, okD F sc (by fail "many") (fun cdv A outer s H vs Q E hr h => ?_)⟩
  · obtain ⟨a, y, mo, d, h, mi, s, z, rfl, m, k⟩ := h
    refine ⟨_, (pss_one (ps_ret (pe_ix ix_seq (pe_fld (pv 0) rfl) pe_int (fun _ _ => rfl)))), ?_⟩
    dsimp only [cxOf, Cx.wish, L2.start, List.map, List.length, List.replicate, List.append, List.cons_append, List.nil_append, Nat.reduceAdd, Nat.reduceSub, Nat.zero_add]
    obtain ⟨C, dx, p, xc, ha, hp⟩ := m
    obtain ⟨C', o⟩ := T.o_Moment
    obtain rfl := Value.ref.inj (XN.inj xc o.xn)
    have na := T.a_Moment_row C o.xn
    fail "go"
    exact k _ (Same.refl _)
local macro_rules | `(tactic| fail "call") => `(tactic| ((with_reducible show sp_Moment_year _ _ _ _ _); refine ⟨_, _, _, _, _, _, _, _, rfl, by fail "mom", fun H' s' => ?_⟩))

def sp_Moment_month (K : PySem.W.Frag) : Sp := fun vs H Q _ =>
  ∃ (a : Addr) (y mo d h mi s z : V), vs = [.ref a] ∧ Mom K H a [y, mo, d, h, mi, s, z] ∧ ∀ H', Same H H' → Q mo H'
theorem df_Moment_month (T : Txt P K mg base) : DfP P w K mg base 1 "Moment" "month" "Moment.month" s_Moment_month (sp_Moment_month K) := by
  have sc := sc_Moment_month
  refine ⟨fun C xnC => ?_⟩
  obtain ⟨p, f, fd, e1, F⟩ := T.m_Moment_month C xnC
  refine ⟨p, f, fd, e1, F, okD F sc (by fail "many") (fun cdv A outer s H vs Q E hr h => ?_)⟩
  · obtain ⟨a, y, mo, d, h, mi, s, z, rfl, m, k⟩ := h
    refine ⟨_, (pss_one (ps_ret (pe_ix ix_seq (pe_fld (pv 0) rfl) pe_int (fun _ _ => rfl)))), ?_⟩
    dsimp only [cxOf, Cx.wish, L2.start, List.map, List.length, List.replicate, List.append, List.cons_append, List.nil_append, Nat.reduceAdd, Nat.reduceSub, Nat.zero_add]
    obtain ⟨C, dx, p, xc, ha, hp⟩ := m
    obtain ⟨C', o⟩ := T.o_Moment
    obtain rfl := Value.ref.inj (XN.inj xc o.xn)
    have na := T.a_Moment_row C o.xn
    fail "go"
    exact k _ (Same.refl _)
local macro_rules | `(tactic| fail "call") => `(tactic| ((with_reducible show sp_Moment_month _ _ _ _ _); refine ⟨_, _, _, _, _, _, _, _, rfl, by fail "mom", fun H' s' => ?_⟩))

def sp_Moment_day (K : PySem.W.Frag) : Sp := fun vs H Q _ =>
  ∃ (a : Addr) (y mo d h mi s z : V), vs = [.ref a] ∧ Mom K H a [y, mo, d, h, mi, s, z] ∧ ∀ H', Same H H' → Q d H'
theorem df_Moment_day (T : Txt P K mg base) : DfP P w K mg base 1 "Moment" "day" "Moment.day" s_Moment_day (sp_Moment_day K) := by
  have sc := sc_Moment_day
  refine ⟨fun C xnC => ?_⟩
  obtain ⟨p, f, fd, e1, F⟩ := T.m_Moment_day C xnC
  refine ⟨p, f, fd, e1, F, okD F sc (by fail "many") (fun cdv A outer s H vs Q E hr h => ?_)⟩
  · obtain ⟨a, y, mo, d, h, mi, s, z, rfl, m, k⟩ := h
    refine ⟨_, (pss_one (ps_ret (pe_ix ix_seq (pe_fld (pv 0) rfl) pe_int (fun _ _ => rfl)))), ?_⟩
    dsimp only [cxOf, Cx.wish, L2.start, List.map, List.length, List.replicate, List.append, List.cons_append, List.nil_append, Nat.reduceAdd, Nat.reduceSub, Nat.zero_add]
    obtain ⟨C, dx, p, xc, ha, hp⟩ := m
    obtain ⟨C', o⟩ := T.o_Moment
    obtain rfl := Value.ref.inj (XN.inj xc o.xn)
    have na := T.a_Moment_row C o.xn
    fail "go"
    exact k _ (Same.refl _)
local macro_rules | `(tactic| fail "call") => `(tactic| ((with_reducible show sp_Moment_day _ _ _ _ _); refine ⟨_, _, _, _, _, _, _, _, rfl, by fail "mom", fun H' s' => ?_⟩))

def sp_Moment_hour (K : PySem.W.Frag) : Sp := fun vs H Q _ =>
  ∃ (a : Addr) (y mo d h mi s z : V), vs = [.ref a] ∧ Mom K H a [y, mo, d, h, mi, s, z] ∧ ∀ H', Same H H' → Q h H'
theorem df_Moment_hour (T : Txt P K mg base) : DfP P w K mg base 1 "Moment" "hour" "Moment.hour" s_Moment_hour (sp_Moment_hour K) := by
  have sc := sc_Moment_hour
  refine ⟨fun C xnC => ?_⟩
  obtain ⟨p, f, fd, e1, F⟩ := T.m_Moment_hour C xnC
  refine ⟨p, f, fd, e1, F, okD F sc (by fail "many") (fun cdv A outer s H vs Q E hr h => ?_)⟩
  · obtain ⟨a, y, mo, d, h, mi, s, z, rfl, m, k⟩ := h
    refine ⟨_, (pss_one (ps_ret (pe_ix ix_seq (pe_fld (pv 0) rfl) pe_int (fun _ _ => rfl)))), ?_⟩
    dsimp only [cxOf, Cx.wish, L2.start, List.map, List.length, List.replicate, List.append, List.cons_append, List.nil_append, Nat.reduceAdd, Nat.reduceSub, Nat.zero_add]
    obtain ⟨C, dx, p, xc, ha, hp⟩ := m
    obtain ⟨C', o⟩ := T.o_Moment
    obtain rfl := Value.ref.inj (XN.inj xc o.xn)
    have na := T.a_Moment_row C o.xn
    fail "go"
    exact k _ (Same.refl _)
local macro_rules | `(tactic| fail "call") => `(tactic| ((with_reducible show sp_Moment_hour _ _ _ _ _); refine ⟨_, _, _, _, _, _, _, _, rfl, by fail "mom", fun H' s' => ?_⟩))

def sp_Moment_minute (K : PySem.W.Frag) : Sp := fun vs H Q _ =>
  ∃ (a : Addr) (y mo d h mi s z : V), vs = [.ref a] ∧ Mom K H a [y, mo, d, h, mi, s, z] ∧ ∀ H', Same H H' → Q mi H'
theorem df_Moment_minute (T : Txt P K mg base) : DfP P w K mg base 1 "Moment" "minute" "Moment.minute" s_Moment_minute (sp_Moment_minute K) := by
  have sc := sc_Moment_minute
  refine ⟨fun C xnC => ?_⟩
  obtain ⟨p, f, fd, e1, F⟩ := T.m_Moment_minute C xnC
  refine ⟨p, f, fd, e1, F, okD F sc (by fail "many") (fun cdv A outer s H vs Q E hr h => ?_)⟩
  · obtain ⟨a, y, mo, d, h, mi, s, z, rfl, m, k⟩ := h
    refine ⟨_, (pss_one (ps_ret (pe_ix ix_seq (pe_fld (pv 0) rfl) pe_int (fun _ _ => rfl)))), ?_⟩
    dsimp only [cxOf, Cx.wish, L2.start, List.map, List.length, List.replicate, List.append, List.cons_append, List.nil_append, Nat.reduceAdd, Nat.reduceSub, Nat.zero_add]
    obtain ⟨C, dx, p, xc, ha, hp⟩ := m
    obtain ⟨C', o⟩ := T.o_Moment
    obtain rfl := Value.ref.inj (XN.inj xc o.xn)
    have na := T.a_Moment_row C o.xn
    fail "go"
    exact k _ (Same.refl _)
local macro_rules | `(tactic| fail "call") => `(tactic| ((with_reducible show sp_Moment_minute _ _ _ _ _); refine ⟨_, _, _, _, _, _, _, _, rfl, by fail "mom", fun H' s' => ?_⟩))

def sp_Moment_second (K : PySem.W.Frag) : Sp := fun vs H Q _ =>
  ∃ (a : Addr) (y mo d h mi s z : V), vs = [.ref a] ∧ Mom K H a [y, mo, d, h, mi, s, z] ∧ ∀ H', Same H H' → Q s H'
theorem df_Moment_second (T : Txt P K mg base) : DfP P w K mg base 1 "Moment" "second" "Moment.second" s_Moment_second (sp_Moment_second K) := by
  have sc := sc_Moment_second
  refine ⟨fun C xnC => ?_⟩
  obtain ⟨p, f, fd, e1, F⟩ := T.m_Moment_second C xnC
  refine ⟨p, f, fd, e1, F, okD F sc (by fail "many") (fun cdv A outer s H vs Q E hr h => ?_)⟩
  · obtain ⟨a, y, mo, d, h, mi, s, z, rfl, m, k⟩ := h
    refine ⟨_, (pss_one (ps_ret (pe_ix ix_seq (pe_fld (pv 0) rfl) pe_int (fun _ _ => rfl)))), ?_⟩
    dsimp only [cxOf, Cx.wish, L2.start, List.map, List.length, List.replicate, List.append, List.cons_append, List.nil_append, Nat.reduceAdd, Nat.reduceSub, Nat.zero_add]
    obtain ⟨C, dx, p, xc, ha, hp⟩ := m
    obtain ⟨C', o⟩ := T.o_Moment
    obtain rfl := Value.ref.inj (XN.inj xc o.xn)
    have na := T.a_Moment_row C o.xn
    fail "go"
    exact k _ (Same.refl _)
local macro_rules | `(tactic| fail "call") => `(tactic| ((with_reducible show sp_Moment_second _ _ _ _ _); refine ⟨_, _, _, _, _, _, _, _, rfl, by fail "mom", fun H' s' => ?_⟩))

def sp_Moment_zone (K : PySem.W.Frag) : Sp := fun vs H Q _ =>
  ∃ (a : Addr) (y mo d h mi s z : V), vs = [.ref a] ∧ Mom K H a [y, mo, d, h, mi, s, z] ∧ ∀ H', Same H H' → Q z H'
theorem df_Moment_zone (T : Txt P K mg base) : DfP P w K mg base 1 "Moment" "zone" "Moment.zone" s_Moment_zone (sp_Moment_zone K) := by
  have sc := sc_Moment_zone
  refine ⟨fun C xnC => ?_⟩
  obtain ⟨p, f, fd, e1, F⟩ := T.m_Moment_zone C xnC
  refine ⟨p, f, fd, e1, F, okD F sc (by fail "many") (fun cdv A outer s H vs Q E hr h => ?_)⟩
  · obtain ⟨a, y, mo, d, h, mi, s, z, rfl, m, k⟩ := h
    refine ⟨_, (pss_one (ps_ret (pe_ix ix_seq (pe_fld (pv 0) rfl) pe_int (fun _ _ => rfl)))), ?_⟩
    dsimp only [cxOf, Cx.wish, L2.start, List.map, List.length, List.replicate, List.append, List.cons_append, List.nil_append, Nat.reduceAdd, Nat.reduceSub, Nat.zero_add]
    obtain ⟨C, dx, p, xc, ha, hp⟩ := m
    obtain ⟨C', o⟩ := T.o_Moment
    obtain rfl := Value.ref.inj (XN.inj xc o.xn)
    have na := T.a_Moment_row C o.xn
    fail "go"
    exact k _ (Same.refl _)
local macro_rules | `(tactic| fail "call") => `(tactic| ((with_reducible show sp_Moment_zone _ _ _ _ _); refine ⟨_, _, _, _, _, _, _, _, rfl, by fail "mom", fun H' s' => ?_⟩))

def sp_local_seconds (K : PySem.W.Frag) : Sp := fun vs H Q _ =>
  ∃ (p : Addr) (y mo d h mi s z : Int), vs = [.ref p] ∧ SqT K H p [.int y, .int mo, .int d, .int h, .int mi, .int s, .int z] ∧ valid y mo d ∧ ∀ H', Same H H' → Q (.int (86400 * dnum y mo d + 3600 * h + 60 * mi + s)) H'
theorem df_local_seconds (T : Txt P K mg base) : Df P w K mg base 7 "local_seconds" s_local_seconds ["row"] (sp_local_seconds K) := by
  have sc := sc_local_seconds
  obtain ⟨f, hm, fd, F⟩ := T.d_local_seconds
  refine ⟨f, fd, hm, F, okG F sc (by fail "many") (fun cdv A outer s H vs Q E hr h => ?_)⟩
  · obtain ⟨p, y, mo, d, h, mi, s, z, rfl, hp, v, k⟩ := h
    refine ⟨_, (pss_cons (ps_asg (pv 0) (pg_tup (by rfl) (pgs_cons (pg_name (i := 1) sc.nd rfl (Or.inl rfl)) (pgs_cons (pg_name (i := 2) sc.nd rfl (Or.inl rfl)) (pgs_cons (pg_name (i := 3) sc.nd rfl (Or.inl rfl)) (pgs_cons (pg_name (i := 4) sc.nd rfl (Or.inl rfl)) (pgs_cons (pg_name (i := 5) sc.nd rfl (Or.inl rfl)) (pgs_cons (pg_name (i := 6) sc.nd rfl (Or.inl rfl)) (pgs_cons (pg_name (i := 7) sc.nd rfl (Or.inl rfl)) pgs_nil)))))))))
 (pss_one (ps_ret (pe_op op_addA (pe_op op_addA (pe_op op_addA (pe_op op_mulA (pe_callX (sp := sp_day_number K) (df_day_number T) takesN hr (by decide) b_day_number_3_ b_day_number_3__s (pa_cons (pv 1) (pa_cons (pv 2) (pa_cons (pv 3) pa_nil))) pk_nil) (pe_globE T.c_DAY_SECONDS)) (pe_op op_mulA pe_int (pv 4))) (pe_op op_mulA pe_int (pv 5))) (pv 6))))), ?_⟩
    dsimp only [cxOf, Cx.wish, L2.start, List.map, List.length, List.replicate, List.append, List.cons_append, List.nil_append, Nat.reduceAdd, Nat.reduceSub, Nat.zero_add]
    fail "go"
    exact finI k (by omega) (by fail "same")
local macro_rules | `(tactic| fail "call") => `(tactic| ((with_reducible show sp_local_seconds _ _ _ _ _); refine ⟨_, _, _, _, _, _, _, _, rfl, by fail "sq", by assumption, fun H' s' => ?_⟩))

def sp_Moment_weekday (K : PySem.W.Frag) : Sp := fun vs H Q _ =>
  ∃ (a : Addr) (y mo d h mi s z : Int), vs = [.ref a] ∧ Mom K H a [.int y, .int mo, .int d, .int h, .int mi, .int s, .int z] ∧ valid y mo d ∧ ∀ H', Same H H' → Q (.int ((dnum y mo d - 1) % 7)) H'
theorem df_Moment_weekday (T : Txt P K mg base) : DfP P w K mg base 7 "Moment" "weekday" "Moment.weekday" s_Moment_weekday (sp_Moment_weekday K) := by
  have sc := sc_Moment_weekday
  refine ⟨fun C xnC => ?_⟩
  obtain ⟨p, f, fd, e1, F⟩ := T.m_Moment_weekday C xnC
  refine ⟨p, f, fd, e1, F, okD F sc (by fail "many") (fun cdv A outer s H vs Q E hr h => ?_)⟩
  · obtain ⟨a, y, mo, d, h, mi, s, z, rfl, m, v, k⟩ := h
    refine ⟨_, (pss_one (ps_ret (pe_callX (sp := sp_weekday_of K) (df_weekday_of T) takesN hr (by decide) b_weekday_of_1_ b_weekday_of_1__s (pa_cons (pe_callX (sp := sp_day_number K) (df_day_number T) takesN hr (by decide) b_day_number_3_ b_day_number_3__s (pa_cons (pe_ix ix_seq (pe_fld (pv 0) rfl) pe_int (fun _ _ => rfl)) (pa_cons (pe_ix ix_seq (pe_fld (pv 0) rfl) pe_int (fun _ _ => rfl)) (pa_cons (pe_ix ix_seq (pe_fld (pv 0) rfl) pe_int (fun _ _ => rfl)) pa_nil))) pk_nil) pa_nil) pk_nil))), ?_⟩
    dsimp only [cxOf, Cx.wish, L2.start, List.map, List.length, List.replicate, List.append, List.cons_append, List.nil_append, Nat.reduceAdd, Nat.reduceSub, Nat.zero_add]
    obtain ⟨C, dx, p, xc, ha, hp⟩ := m
    obtain ⟨C', o⟩ := T.o_Moment
    obtain rfl := Value.ref.inj (XN.inj xc o.xn)
    have na := T.a_Moment_row C o.xn
    obtain ⟨b1, b2⟩ := dnum_bound v
    fail "go"
    exact k _ (by fail "same")
local macro_rules | `(tactic| fail "call") => `(tactic| ((with_reducible show sp_Moment_weekday _ _ _ _ _); refine ⟨_, _, _, _, _, _, _, _, rfl, by fail "mom", by assumption, fun H' s' => ?_⟩))

def sp_Moment_instant (K : PySem.W.Frag) : Sp := fun vs H Q _ =>
  ∃ (a : Addr) (y mo d h mi s z : Int), vs = [.ref a] ∧ Mom K H a [.int y, .int mo, .int d, .int h, .int mi, .int s, .int z] ∧ Val7 y mo d h mi s z ∧ ∀ H', Same H H' → Q (.int (86400 * dnum y mo d + 3600 * h + 60 * mi + s - 60 * z)) H'
theorem df_Moment_instant (T : Txt P K mg base) : DfP P w K mg base 8 "Moment" "instant" "Moment.instant" s_Moment_instant (sp_Moment_instant K) := by
  have sc := sc_Moment_instant
  refine ⟨fun C xnC => ?_⟩
  obtain ⟨p, f, fd, e1, F⟩ := T.m_Moment_instant C xnC
  refine ⟨p, f, fd, e1, F, okD F sc (by fail "many") (fun cdv A outer s H vs Q E hr h => ?_)⟩
  · obtain ⟨a, y, mo, d, h, mi, s, z, rfl, m, v7, k⟩ := h
    refine ⟨_, (pss_one (ps_ret (pe_op op_subA (pe_callG (sp := sp_local_seconds K) (df_local_seconds T) hr (by decide) b_local_seconds_1_ b_local_seconds_1__s (pa_cons (pe_fld (pv 0) rfl) pa_nil) pk_nil) (pe_op op_mulA pe_int (pe_ix ix_seq (pe_fld (pv 0) rfl) pe_int (fun _ _ => rfl)))))), ?_⟩
    dsimp only [cxOf, Cx.wish, L2.start, List.map, List.length, List.replicate, List.append, List.cons_append, List.nil_append, Nat.reduceAdd, Nat.reduceSub, Nat.zero_add]
    have v := v7.v
    obtain ⟨C, dx, p, xc, ha, hp⟩ := m
    obtain ⟨C', o⟩ := T.o_Moment
    obtain rfl := Value.ref.inj (XN.inj xc o.xn)
    have na := T.a_Moment_row C o.xn
    fail "go"
    exact k _ (by fail "same")
local macro_rules | `(tactic| fail "call") => `(tactic| ((with_reducible show sp_Moment_instant _ _ _ _ _); refine ⟨_, _, _, _, _, _, _, _, rfl, by fail "mom", by assumption, fun H' s' => ?_⟩))
theorem g_eqTI {K : PySem.W.Frag} {H : Hp} {Q : VK} {a b : Addr} (ns ms : List Int) (h1 : SqT K H a (ns.map V.int)) (h2 : SqT K H b (ms.map V.int)) (l1 : ns.length ≤ 100) (l2 : ms.length ≤ 100) (k1 : ∀ i ∈ ns, i.natAbs < 10 ^ 40) (k2 : ∀ i ∈ ms, i.natAbs < 10 ^ 40) (q : Q (.bl (decide (ns = ms))) H) : rEqA K (.ref a) (.ref b) H Q :=
  g_eqD (d := .tuple (ns.map .int)) (e := .tuple (ms.map .int)) (.tup h1 (dps_ints ns)) (.tup h2 (dps_ints ms)) ((Sh.tup (shs_ints ns k1)).shaped (by omega)) ((Sh.tup (shs_ints ms k2)).shaped (by omega)) (by rw [PyData.eqv, eqv_ints]; exact q)
theorem g_neTI {K : PySem.W.Frag} {H : Hp} {Q : VK} {a b : Addr} (ns ms : List Int) (h1 : SqT K H a (ns.map V.int)) (h2 : SqT K H b (ms.map V.int)) (l1 : ns.length ≤ 100) (l2 : ms.length ≤ 100) (k1 : ∀ i ∈ ns, i.natAbs < 10 ^ 40) (k2 : ∀ i ∈ ms, i.natAbs < 10 ^ 40) (q : Q (.bl (!decide (ns = ms))) H) : rNeA K (.ref a) (.ref b) H Q :=
  g_neD (d := .tuple (ns.map .int)) (e := .tuple (ms.map .int)) (.tup h1 (dps_ints ns)) (.tup h2 (dps_ints ms)) ((Sh.tup (shs_ints ns k1)).shaped (by omega)) ((Sh.tup (shs_ints ms k2)).shaped (by omega)) (by rw [PyData.eqv, eqv_ints]; exact q)
/-- what a moment is compared with: a moment, or something of a built-in type -/
def MomOr (K : PySem.W.Frag) (H : Hp) (y : V) (ns : List Int) (r : Bool) : Prop := (∃ b ms, y = .ref b ∧ Mom K H b (ms.map V.int) ∧ ms.length ≤ 100 ∧ (∀ i ∈ ms, i.natAbs < 10 ^ 40) ∧ r = decide (ns = ms)) ∨ (Kd K H y ∧ r = false)

def sp_Moment___eq__ (K : PySem.W.Frag) : Sp := fun vs H Q _ =>
  ∃ (a : Addr) (ns : List Int) (y : V) (r : Bool), vs = [.ref a, y] ∧ Mom K H a (ns.map V.int) ∧ ns.length ≤ 100 ∧ (∀ i ∈ ns, i.natAbs < 10 ^ 40) ∧ MomOr K H y ns r ∧ ∀ H', Same H H' → Q (.bl r) H'
theorem df_Moment___eq__ (T : Txt P K mg base) : DfM P w K mg base CX0 1 "Moment" "__eq__" "Moment.__eq__" s_Moment___eq__ ["self", "other"] [] [] (sp_Moment___eq__ K) := by
  have sc := sc_Moment___eq__
  refine ⟨fun C xnC => ?_⟩
  obtain ⟨f, fd, e1, e2, F⟩ := T.m_Moment___eq__ C xnC
  refine ⟨f, fd, e1, e2, F, okD F sc (by fail "many") (fun cdv A outer s H vs Q E hr h => ?_)⟩
  · obtain ⟨a, ns, y, r, rfl, m, l1, k1, mo, k⟩ := h
    obtain ⟨C_Moment, o_Moment⟩ := T.o_Moment
    have hm_Moment := o_Moment.mg
    refine ⟨_, (pss_one (ps_ret (pe_and (pe_callB call_isi (by rfl) T.b_isinstance (by decide +kernel) (pa_cons (pv 1) (pa_cons (pe_globE (v := V.ref C_Moment) ⟨_, hm_Moment, rfl⟩) pa_nil))) (pe_one (pe_cmpR (op_eqA hr) (pe_fld (pv 0) rfl) (pe_fld (pv 1) rfl) (nomark _)))))), ?_⟩
    dsimp only [cxOf, Cx.wish, L2.start, List.map, List.length, List.replicate, List.append, List.cons_append, List.nil_append, Nat.reduceAdd, Nat.reduceSub, Nat.zero_add]
    obtain ⟨C, dx, p, xc, ha, hp⟩ := m
    obtain rfl := Value.ref.inj (XN.inj xc o_Moment.xn)
    have na := T.a_Moment_row C o_Moment.xn
    rcases mo with ⟨b, ms, rfl, ⟨C2, dx2, p2, xc2, ha2, hp2⟩, l2, k2, rfl⟩ | ⟨kd, rfl⟩
    · obtain rfl := Value.ref.inj (XN.inj xc2 o_Moment.xn)
      fail "go"
      refine g_eqTI ns ms (SqT.of hp) (SqT.of hp2) l1 l2 k1 k2 ?_
      fail "go"
      exact k _ (Same.refl _)
    · cases kd
      all_goals fail "go"
      all_goals exact k _ (Same.refl _)
local macro_rules | `(tactic| fail "call") => `(tactic| ((with_reducible show sp_Moment___eq__ _ _ _ _ _); fail "zz"))
theorem Mom.ty {K : PySem.W.Frag} {mg : Str → Option Value} {H : Hp} {a C : Addr} {ys : List V} (o : OwnC K mg "Moment" C) (m : Mom K H a ys) : TyX K H (.ref a) (.ref C) := by
  obtain ⟨C', dx, p, x, h1, h2⟩ := m
  obtain rfl := Value.ref.inj (XN.inj x o.xn)
  exact o.ty h1
theorem Kd.typ {K : PySem.W.Frag} {H : Hp} {v : V} (k : Kd K H v) : ∃ T, TyX K H v (.type T) ∧ T ∈ BT := by
  cases k with
  | str h => exact ⟨_, .base (.str _), by decide⟩
  | int i => exact ⟨_, .base (.int _), by decide⟩
  | non => exact ⟨_, .base .non, by decide⟩
  | bl b => exact ⟨_, .base (.bl _), by decide⟩
  | tup h => exact ⟨_, h, by decide⟩
  | lst h => exact ⟨_, h, by decide⟩
  | dct h => exact ⟨_, h, by decide⟩
/-- a == y and a != y for a moment a -/
theorem eq_mom {P : Program} {w : World} {K : PySem.W.Frag} {mg : Str → Option Value} {base : Heap} [Tb] (T : Txt P K mg base) {H : Hp} {Q : VK} {a : Addr} {ns : List Int} {y : V} {r : Bool} {j : Nat} {neg : Bool} (hj : 6 ≤ j) (m : Mom K H a (ns.map V.int)) (l1 : ns.length ≤ 100) (k1 : ∀ i ∈ ns, i.natAbs < 10 ^ 40)
    (mo : MomOr K H y ns r) {b : Bool} (hb : b = if neg = true then !r else r) (k : ∀ H', Same H H' → Q (.bl b) H') : rEqO P w K mg base j neg (.ref a) y H Q := by
  subst hb
  obtain ⟨C, o⟩ := T.o_Moment
  obtain ⟨C', dx, p, x, h1, h2⟩ := id m
  obtain rfl := Value.ref.inj (XN.inj x o.xn)
  have ty : ∃ t, TyX K H y t ∧ PySem.W.notFirst K C' t = true := by
    rcases id mo with ⟨b, ms, rfl, m2, _⟩ | ⟨kd, _⟩
    · exact ⟨_, m2.ty o, o.nf⟩
    · obtain ⟨t, h, ht⟩ := kd.typ
      exact ⟨_, h, (o.bt t ht).2.1⟩
  obtain ⟨t, ty, nf⟩ := ty
  exact g_eqO o h1 (df_Moment___eq__ T) (T.ne_Moment C' o.xn) (by omega) (fun _ _ _ _ _ _ us hl => match us, hl with | [_, _], _ => rfl) ty nf ⟨a, ns, y, r, rfl, m, l1, k1, mo, fun H' s => ⟨r, rfl, k H' s⟩⟩

def sp_law_zone (K : PySem.W.Frag) : Sp := fun vs H Q _ =>
  ∃ (d : Addr) (n : Nat) (c : Addr), vs = [.ref d] ∧ DrawAt K n H d c ∧ n + 1 < 1000000000 ∧ ∀ H' z, Keep d H H' → DrawAt K (n + 1) H' d c → -899 ≤ z → z ≤ 899 → Q (.int z) H'
theorem df_law_zone (T : Txt P K mg base) : Df P w K mg base 3 "_law_zone" s_law_zone ["draw"] (sp_law_zone K) := by
  have sc := sc_law_zone
  obtain ⟨f, hm, fd, F⟩ := T.d_law_zone
  refine ⟨f, fd, hm, F, okG F sc (by fail "many") (fun cdv A outer s H vs Q E hr h => ?_)⟩
  · obtain ⟨d, n, c, rfl, D, hn, k⟩ := h
    refine ⟨_, (pss_one (ps_ret (pe_ix ix_seq (pe_lst (pa_cons pe_int (pa_cons pe_int (pa_cons (pe_op op_subA pe_int pe_int) (pa_cons pe_int (pa_cons (pe_op op_subA pe_int pe_int) (pa_cons pe_int (pa_cons (pe_op op_subA pe_int pe_int) (pa_cons pe_int (pa_cons (pe_op op_subA pe_int pe_int) pa_nil)))))))))) (pe_callG (sp := sp_law_next K) (df_law_next T) hr (by decide) b_law_next_2_ b_law_next_2__s (pa_cons (pv 0) (pa_cons pe_int pa_nil)) pk_nil) (fun _ _ => rfl)))), ?_⟩
    dsimp only [cxOf, Cx.wish, L2.start, List.map, List.length, List.replicate, List.append, List.cons_append, List.nil_append, Nat.reduceAdd, Nat.reduceSub, Nat.zero_add]
    fail "go"
    refine g_ixA (fun v => ∃ j, v = .int j ∧ -899 ≤ j ∧ j ≤ 899) (by with_reducible (fail "sq")) (by fail "all") (by assumption) (by assumption) ?_
    rintro v ⟨j, rfl, j1, j2⟩
    exact k _ _ (by fail "keep") (by fail "dr") j1 j2
local macro_rules | `(tactic| fail "call") => `(tactic| ((with_reducible show sp_law_zone _ _ _ _ _); refine ⟨_, _, _, rfl, by with_reducible (fail "dr"), by omega, fun H' z k' D' hz0 hz1 => ?_⟩))

def sp_law_seven (K : PySem.W.Frag) : Sp := fun vs H Q _ =>
  ∃ (d : Addr) (n : Nat) (c : Addr), vs = [.ref d] ∧ DrawAt K n H d c ∧ n + 20 < 1000000000 ∧ ∀ H' p y mo dd h mi s z, Keep d H H' → DrawAt K (n + 20) H' d c → H' p = some (.tup [.int y, .int mo, .int dd, .int h, .int mi, .int s, .int z]) → Val7 y mo dd h mi s z → Q (.ref p) H'
theorem df_law_seven (T : Txt P K mg base) : Df P w K mg base 5 "_law_seven" s_law_seven ["draw"] (sp_law_seven K) := by
  have sc := sc_law_seven
  obtain ⟨f, hm, fd, F⟩ := T.d_law_seven
  refine ⟨f, fd, hm, F, okG F sc (by fail "many") (fun cdv A outer s H vs Q E hr h => ?_)⟩
  · obtain ⟨d, n, c, rfl, D, hn, k⟩ := h
    refine ⟨_, (pss_cons (ps_par3 (i := 1) (j := 2) (l := 3) rfl sc.nd rfl rfl rfl (by decide) (by decide) (by decide) rfl rfl rfl (pa_cons (pe_ix ix_seq (pe_lst (pa_cons pe_int (pa_cons pe_int (pa_cons (pe_callG (sp := sp_law_next K) (df_law_next T) hr (by decide) b_law_next_2_ b_law_next_2__s (pa_cons (pv 0) (pa_cons pe_int pa_nil)) pk_nil) pa_nil)))) (pe_callG (sp := sp_law_next K) (df_law_next T) hr (by decide) b_law_next_2_ b_law_next_2__s (pa_cons (pv 0) (pa_cons pe_int pa_nil)) pk_nil) (fun _ _ => rfl)) (pa_cons (pe_callG (sp := sp_law_next K) (df_law_next T) hr (by decide) b_law_next_2_ b_law_next_2__s (pa_cons (pv 0) (pa_cons pe_int pa_nil)) pk_nil) (pa_cons (pe_ix ix_seq (pe_lst (pa_cons pe_int (pa_cons pe_int (pa_cons pe_int pa_nil)))) (pe_callG (sp := sp_law_next K) (df_law_next T) hr (by decide) b_law_next_2_ b_law_next_2__s (pa_cons (pv 0) (pa_cons pe_int pa_nil)) pk_nil) (fun _ _ => rfl)) pa_nil))) (by rfl))
 (pss_one (ps_ret (pe_op op_addA (pe_callG (sp := sp_law_date K) (df_law_date T) hr (by decide) b_law_date_1_ b_law_date_1__s (pa_cons (pv 0) pa_nil) pk_nil) (pe_tup (pa_cons (pv 1) (pa_cons (pv 2) (pa_cons (pv 3) (pa_cons (pe_callG (sp := sp_law_zone K) (df_law_zone T) hr (by decide) b_law_zone_1_ b_law_zone_1__s (pa_cons (pv 0) pa_nil) pk_nil) pa_nil))))))))), ?_⟩
    dsimp only [cxOf, Cx.wish, L2.start, List.map, List.length, List.replicate, List.append, List.cons_append, List.nil_append, Nat.reduceAdd, Nat.reduceSub, Nat.zero_add]
    fail "go"
    refine g_ixA (fun v => ∃ j, v = .int j ∧ 0 ≤ j ∧ j ≤ 23) (by with_reducible (fail "sq")) (by fail "all") (by assumption) (by assumption) ?_
    rintro v ⟨h, rfl, h1, h2⟩
    fail "go"
    refine g_ixA (fun v => ∃ j, v = .int j ∧ 0 ≤ j ∧ j ≤ 59) (by with_reducible (fail "sq")) (by fail "all") (by assumption) (by assumption) ?_
    rintro v ⟨s, rfl, s1, s2⟩
    fail "go"
    exact k _ _ _ _ _ _ _ _ _ (by fail "keep") (by fail "dru") (by fail "h") ⟨by assumption, by omega, by omega, by omega, by omega, by omega, by omega, by omega, by omega⟩
local macro_rules | `(tactic| fail "call") => `(tactic| ((with_reducible show sp_law_seven _ _ _ _ _); refine ⟨_, _, _, rfl, by with_reducible (fail "dr"), by omega, fun H' p y mo dd h mi s z k' D' hp hv => ?_⟩))
/-- seven items in a tuple or a list -/
def SqE (K : PySem.W.Frag) (H : Hp) (p : Addr) (ys : List V) : Prop := SqT K H p ys ∨ SqL K H p ys

def sp_law_moment (K : PySem.W.Frag) : Sp := fun vs H Q E =>
  ∃ (p : Addr) (y mo d h mi s z : V), vs = [.ref p] ∧ SqE K H p [y, mo, d, h, mi, s, z] ∧ Kd K H y ∧ Kd K H mo ∧ Kd K H d ∧ Kd K H h ∧ Kd K H mi ∧ Kd K H s ∧ Kd K H z ∧ (bad7 y mo d h mi s z = none → ∀ H' a, Same H H' → H a = none → Mom K H' a [y, mo, d, h, mi, s, z] → Q (.ref a) H') ∧ (∀ v, bad7 y mo d h mi s z = some v → Rz K H E "BadDate" "given" v)
theorem df_law_moment (T : Txt P K mg base) : DfX P w K mg base 8 "_law_moment" s_law_moment ["seven"] (sp_law_moment K) := by
  have sc := sc_law_moment
  obtain ⟨f, hm, fd, F⟩ := T.d_law_moment
  refine ⟨f, fd, hm, F, okX F sc (by fail "many") (fun cdv A outer s H vs Q E hr h => ?_)⟩
  · obtain ⟨p, y, mo, d, h, mi, s, z, rfl, hp, k1, k2, k3, k4, k5, k6, k7, k, x⟩ := h
    refine ⟨_, (pss_cons (ps_asg (pv 0) (pg_seq (by rfl) (pgs_cons (pg_name (i := 1) sc.nd rfl (Or.inl rfl)) (pgs_cons (pg_name (i := 2) sc.nd rfl (Or.inl rfl)) (pgs_cons (pg_name (i := 3) sc.nd rfl (Or.inl rfl)) (pgs_cons (pg_name (i := 4) sc.nd rfl (Or.inl rfl)) (pgs_cons (pg_name (i := 5) sc.nd rfl (Or.inl rfl)) (pgs_cons (pg_name (i := 6) sc.nd rfl (Or.inl rfl)) (pgs_cons (pg_name (i := 7) sc.nd rfl (Or.inl rfl)) pgs_nil)))))))))
 (pss_one (ps_ret (pe_mkC (g := @kg_Moment_6_zone) (sp := sp_Moment___init__ K) T.o_Moment (takes_of rfl rfl rfl rfl) (df_Moment___init__ T) hr (by decide) kb_Moment_6_zone (pa_cons (pv 1) (pa_cons (pv 2) (pa_cons (pv 3) (pa_cons (pv 4) (pa_cons (pv 5) (pa_cons (pv 6) pa_nil)))))) (pk_cons (pv 7) pk_nil))))), ?_⟩
    dsimp only [cxOf, Cx.wish, L2.start, List.map, List.length, List.replicate, List.append, List.cons_append, List.nil_append, Nat.reduceAdd, Nat.reduceSub, Nat.zero_add]
    rcases hp with hp | hp
    all_goals fail "go"
    all_goals exact ⟨fun b H' a s n m e => ⟨rfl, by subst e; exact k b H' _ s n m⟩, x⟩
local macro_rules | `(tactic| fail "call") => `(tactic| ((with_reducible show sp_law_moment _ _ _ _ _); fail "zz"))

def sp_law_told (K : PySem.W.Frag) : Sp := fun vs H Q _ =>
  ∃ (a : Addr) (y mo d h mi s z : V), vs = [.ref a] ∧ Mom K H a [y, mo, d, h, mi, s, z] ∧ ∀ H' p, Same H H' → H p = none → H' p = some (.tup [y, mo, d, h, mi, s, z]) → Q (.ref p) H'
theorem df_law_told (T : Txt P K mg base) : Df P w K mg base 3 "_law_told" s_law_told ["thing"] (sp_law_told K) := by
  have sc := sc_law_told
  obtain ⟨f, hm, fd, F⟩ := T.d_law_told
  refine ⟨f, fd, hm, F, okG F sc (by fail "many") (fun cdv A outer s H vs Q E hr h => ?_)⟩
  · obtain ⟨a, y, mo, d, h, mi, s, z, rfl, m, k⟩ := h
    refine ⟨_, (pss_one (ps_ret (pe_tup (pa_cons (pe_propC (pv 0) T.o_Moment (df_Moment_year T) hr (by decide) (fun _ _ _ _ _ _ us hl => match us, hl with | [_], _ => rfl)) (pa_cons (pe_propC (pv 0) T.o_Moment (df_Moment_month T) hr (by decide) (fun _ _ _ _ _ _ us hl => match us, hl with | [_], _ => rfl)) (pa_cons (pe_propC (pv 0) T.o_Moment (df_Moment_day T) hr (by decide) (fun _ _ _ _ _ _ us hl => match us, hl with | [_], _ => rfl)) (pa_cons (pe_propC (pv 0) T.o_Moment (df_Moment_hour T) hr (by decide) (fun _ _ _ _ _ _ us hl => match us, hl with | [_], _ => rfl)) (pa_cons (pe_propC (pv 0) T.o_Moment (df_Moment_minute T) hr (by decide) (fun _ _ _ _ _ _ us hl => match us, hl with | [_], _ => rfl)) (pa_cons (pe_propC (pv 0) T.o_Moment (df_Moment_second T) hr (by decide) (fun _ _ _ _ _ _ us hl => match us, hl with | [_], _ => rfl)) (pa_cons (pe_propC (pv 0) T.o_Moment (df_Moment_zone T) hr (by decide) (fun _ _ _ _ _ _ us hl => match us, hl with | [_], _ => rfl)) pa_nil)))))))))), ?_⟩
    dsimp only [cxOf, Cx.wish, L2.start, List.map, List.length, List.replicate, List.append, List.cons_append, List.nil_append, Nat.reduceAdd, Nat.reduceSub, Nat.zero_add]
    obtain ⟨C, dx, p0, xc, ha, hp⟩ := id m
    obtain ⟨C', o⟩ := T.o_Moment
    obtain rfl := Value.ref.inj (XN.inj xc o.xn)
    fail "go"
    rename_i p np
    exact k _ p (by fail "same") (by fail "free") (by fail "h")
local macro_rules | `(tactic| fail "call") => `(tactic| ((with_reducible show sp_law_told _ _ _ _ _); refine ⟨_, _, _, _, _, _, _, _, rfl, by fail "mom", fun H' p s' np hp => ?_⟩))
theorem m2023 : mlen 2023 2 = 28 := by decide
theorem b1_29 : bad7 (.int 2023) (.int 2) (.int 29) (.int 0) (.int 0) (.int 0) (.int 0) = some (.int 29) := rfl
theorem b2_24 : bad7 (.int 2023) (.int 2) (.int 28) (.int 24) (.int 0) (.int 0) (.int 0) = some (.int 24) := rfl
theorem b3_60 : bad7 (.int 2023) (.int 2) (.int 28) (.int 23) (.int 60) (.int 0) (.int 0) = some (.int 60) := rfl
theorem b4_60 : bad7 (.int 2023) (.int 2) (.int 28) (.int 23) (.int 59) (.int 60) (.int 0) = some (.int 60) := rfl
theorem b5_900 : bad7 (.int 2023) (.int 2) (.int 28) (.int 23) (.int 59) (.int 59) (.int 900) = some (.int 900) := rfl
theorem g_eqSS {K : PySem.W.Frag} {H : Hp} {Q : VK} {a : Str} (q : Q (.bl true) H) : rEqA K (.str a) (.str a) H Q := g_eqT (by rw [decide_eq_true rfl]; exact q)
theorem g_neSS {K : PySem.W.Frag} {H : Hp} {Q : VK} {a : Str} (q : Q (.bl false) H) : rNeA K (.str a) (.str a) H Q := g_neT (by rw [decide_eq_true rfl]; exact q)
local macro_rules | `(tactic| fail "go1") => `(tactic| first
  | with_reducible refine g_eqSS ?_
  | with_reducible refine g_neSS ?_)
theorem g_slL {K : PySem.W.Frag} {H : Hp} {Q : VK} {a : Addr} {xs ys : List V} {lo hi : Option Int} (h : SqL K H a xs) (e : cutV xs lo hi = ys) (q : ∀ p, H p = none → Q (.ref p) (upd H p (.lst ys))) : rSlL K (.ref a) lo hi H Q := ⟨a, xs, rfl, h, by rw [e]; exact q⟩
theorem g_slA {K : PySem.W.Frag} {H : Hp} {Q : VK} {a : Addr} {xs ys : List V} {lo hi : Option Int} (h : SqT K H a xs) (e : cutV xs lo hi = ys) (n : ys.length < xs.length) (q : ∀ p, H p = none → Q (.ref p) (upd H p (.tup ys))) : rSlA K (.ref a) lo hi H Q := by
  subst e
  refine ⟨a, xs, rfl, h, fun w => ?_, fun _ => q⟩
  exfalso
  unfold cutV at n
  rw [w.1, w.2, List.drop_zero, Nat.sub_zero, List.take_length] at n
  omega
theorem g_gsub {to ti : TE} {t : TSet} {v : V} {σ : L2.St} {H : Hp} {Q : L2.St → Hp → Prop} (q : to σ H fun o H1 => ti σ H1 fun i H2 => t o i v H2 fun H3 => Q σ H3) : gSub to ti t v σ H Q := q
theorem g_setL {p : Addr} {xs ys : List V} {i : Int} {j : Nat} {v : V} {H : Hp} {Q : Hp → Prop} (h : H p = some (.lst xs)) (e : ixN xs.length i = some j) (s : xs.set j v = ys) (q : Q (upd H p (.lst ys))) : rSetL (.ref p) (.int i) v H Q := ⟨p, xs, i, j, rfl, rfl, h, e, by rw [s]; exact q⟩
theorem g_notBt {a : Bool} {H : Hp} {Q : VK} (q : Q (.bl false) H) : rNotB (.bl a) (.bl a) H Q := ⟨a, a, rfl, rfl, by rw [decide_eq_true rfl]; exact q⟩
theorem g_notBd {a b : Bool} {H : Hp} {Q : VK} (q : Q (.bl (!decide (a = b))) H) : rNotB (.bl a) (.bl b) H Q := ⟨a, b, rfl, rfl, q⟩
theorem g_eqLI {K : PySem.W.Frag} {H : Hp} {Q : VK} {a b : Addr} (ns ms : List Int) (h1 : SqL K H a (ns.map V.int)) (h2 : SqL K H b (ms.map V.int)) (l1 : ns.length ≤ 100) (l2 : ms.length ≤ 100) (k1 : ∀ i ∈ ns, i.natAbs < 10 ^ 40) (k2 : ∀ i ∈ ms, i.natAbs < 10 ^ 40) (q : Q (.bl (decide (ns = ms))) H) : rEqA K (.ref a) (.ref b) H Q :=
  g_eqD (d := .list (ns.map .int)) (e := .list (ms.map .int)) (.lst h1 (dps_ints ns)) (.lst h2 (dps_ints ms)) ((Sh.list (shs_ints ns k1)).shaped (by omega)) ((Sh.list (shs_ints ms k2)).shaped (by omega)) (by rw [PyData.eqv, eqv_ints]; exact q)
theorem g_rep2 {K : PySem.W.Frag} {H : Hp} {Q : VK} {x : V} {j : Int} {ys : List V} {a : Addr} (h : H a = some (.lst [x])) (h1 : -(2 ^ 63) ≤ j) (h2 : j < 2 ^ 63) (h3 : j.toNat ≤ 1000) (e : List.replicate j.toNat x = ys) (q : ∀ p, H p = none → Q (.ref p) (upd H p (.lst ys))) : rMulA K (.ref a) (.int j) H Q := g_rep1 h h1 h2 h3 (by rw [e]; exact q)
theorem seqT_put {K : PySem.W.Frag} {H : Hp} {l p : Addr} {o : HO} {xs ys : List V} (hl : H l = some (.lst xs)) (h : SqT K H p ys) : SqT K (upd H l o) p ys := by
  rcases h with (h | ⟨o, h⟩) | h
  · exact .inl (.inl (by rw [upd_ne (fun e => by rw [e, hl] at h; cases h)]; exact h))
  · exact .inl (.inr ⟨o, by rw [upd_ne (fun e => by rw [e, hl] at h; cases h)]; exact h⟩)
  · exact .inr h
local macro_rules
  | `(tactic| fail "sqstep") => `(tactic| with_reducible first | apply seqT_put (by fail "h") | fail "zz")
theorem abs2 {r : R2} {x y : V} {H : Hp} {Q : VK} (F : Hp → Prop) (f : F H) (q : ∀ H', F H' → r x y H' Q) : r x y H Q := q H f
local macro_rules
  | `(tactic| fail "cut") => `(tactic| ((try simp [cutV, HT.sIx]); exact rfl))
local macro_rules | `(tactic| fail "go1") => `(tactic| first
  | ((with_reducible apply g_rep2); (fail "h"); (decide); (decide); (decide); ((try simp [List.replicate]); exact rfl))
  | ((with_reducible apply g_slL); (fail "sq"); (fail "cut"))
  | ((with_reducible apply g_slA); (fail "sq"); (fail "cut"); (exact Nat.le_of_ble_eq_true rfl))
  | ((with_reducible refine ⟨_, ?_, rfl, Or.inr ?_, ?_⟩); rotate_left; (fail "sq"); intro l nl)
  | ((with_reducible refine ⟨_, ?_, rfl, Or.inl ?_, ?_⟩); rotate_left; (fail "sq"); intro l nl)
  | with_reducible refine g_gsub ?_
  | ((with_reducible apply g_setL); (fail "h"); (exact rfl); (fail "cut"))
  | with_reducible refine g_notBt ?_
  | with_reducible refine g_notBd ?_)
/-- seconds from the beginning, by the numbers of a moment -/
def loc (y mo d h mi s : Int) : Int := 86400 * dnum y mo d + 3600 * h + 60 * mi + s

def sp_Moment_is_before (K : PySem.W.Frag) : Sp := fun vs H Q E =>
  ∃ (a : Addr) (y mo d h mi s z : Int) (v : V), vs = [.ref a, v] ∧ Mom K H a [.int y, .int mo, .int d, .int h, .int mi, .int s, .int z] ∧ Val7 y mo d h mi s z ∧ ((∃ b y2 mo2 d2 h2 mi2 s2 z2, v = .ref b ∧ Mom K H b [.int y2, .int mo2, .int d2, .int h2, .int mi2, .int s2, .int z2] ∧ Val7 y2 mo2 d2 h2 mi2 s2 z2 ∧ ∃ r, r = decide (loc y mo d h mi s - 60 * z < loc y2 mo2 d2 h2 mi2 s2 - 60 * z2) ∧ ∀ H', Same H H' → Q (.bl r) H') ∨ (Kd K H v ∧ Rz K H E "BadContent" "given" v))
theorem df_Moment_is_before (T : Txt P K mg base) : DfM P w K mg base (L2.CX P w) 10 "Moment" "is_before" "Moment.is_before" s_Moment_is_before ["self", "other"] [] [] (sp_Moment_is_before K) := by
  have sc := sc_Moment_is_before
  refine ⟨fun C xnC => ?_⟩
  obtain ⟨f, fd, e1, e2, F⟩ := T.m_Moment_is_before C xnC
  refine ⟨f, fd, e1, e2, F, okDX F sc (by fail "many") (fun cdv A outer s H vs Q E hr h => ?_)⟩
  · obtain ⟨a, y, mo, d, h, mi, s, z, v, rfl, m, v7, kk⟩ := h
    obtain ⟨C_Moment, o_Moment⟩ := T.o_Moment
    have hm_Moment := o_Moment.mg
    refine ⟨_, (pss_cons (ps_if (pt_not (pt_val (pe_callB call_isi (by rfl) T.b_isinstance (by decide +kernel) (pa_cons (pv 1) (pa_cons (pe_globE (v := V.ref C_Moment) ⟨_, hm_Moment, rfl⟩) pa_nil))))) (pss_one (ps_raiseX T.x_BadContent rfl hr (by decide) (takes_of rfl rfl rfl rfl) (pa_cons (pv 1) pa_nil))) pss_nil)
 (pss_one (ps_ret (pe_cmpR op_ltA (pe_propC (pv 0) T.o_Moment (df_Moment_instant T) hr (by decide) (fun _ _ _ _ _ _ us hl => match us, hl with | [_], _ => rfl)) (pe_propC (pv 1) T.o_Moment (df_Moment_instant T) hr (by decide) (fun _ _ _ _ _ _ us hl => match us, hl with | [_], _ => rfl)) (nomark _))))), ?_⟩
    dsimp only [cxOf, Cx.wish, L2.start, List.map, List.length, List.replicate, List.append, List.cons_append, List.nil_append, Nat.reduceAdd, Nat.reduceSub, Nat.zero_add]
    have vd := v7.v
    obtain ⟨C, dx, p, xc, ha, hp⟩ := id m
    have o := o_Moment
    obtain rfl := Value.ref.inj (XN.inj xc o.xn)
    rcases kk with ⟨b, y2, mo2, d2, h2, mi2, s2, z2, rfl, m2, w7, r, er, k⟩ | ⟨kd, x⟩
    · have wd := w7.v
      obtain ⟨C2, dx2, p2, xc2, ha2, hp2⟩ := id m2
      obtain rfl := Value.ref.inj (XN.inj xc2 o.xn)
      fail "go"
      subst er
      exact k _ (by fail "same")
    · cases kd
      all_goals fail "go"
      all_goals exact x _ _ _ ‹_› (by fail "same") ‹_›
local macro_rules | `(tactic| fail "call") => `(tactic| ((with_reducible show sp_Moment_is_before _ _ _ _ _); fail "zz"))
theorem tyx_ext {K : PySem.W.Frag} {H H1 : Hp} (e : LamX.ExtN H H1) {v : V} {t : Value} (h : TyX K H v t) : TyX K H1 v t := by
  cases h with
  | base b =>
    refine .base ?_
    cases b with
    | non => exact .non
    | bl x => exact .bl x
    | int i => exact .int i
    | str x => exact .str x
    | flt x => exact .flt x
    | lst h => exact .lst (ExtN.at_ e h)
    | frz h => exact .frz (e _ _ h (fun ps z => nomatch z))
    | tup h => exact .tup (ExtN.at_ e h)
    | dK h => exact .dK (ExtN.at_ e h)
    | dT h => exact .dT (ExtN.at_ e h)
    | ins h a b c d f => exact .ins (ExtN.at_ e h) a b c d f
  | byt b => exact .byt b
  | set h => exact .set (ExtN.at_ e h)
  | kList h c => exact .kList h c
  | kTuple h c => exact .kTuple h c
  | kDict h c => exact .kDict h c
  | fTuple h => exact .fTuple (e _ _ h (fun ps z => nomatch z))
  | fDict h => exact .fDict (e _ _ h (fun ps z => nomatch z))
theorem Kd.ext {K : PySem.W.Frag} {H H1 : Hp} {v : V} (k : Kd K H v) (e : LamX.ExtN H H1) : Kd K H1 v := by
  cases k with
  | str h => exact .str h
  | int i => exact .int i
  | non => exact .non
  | bl b => exact .bl b
  | tup h => exact .tup (tyx_ext e h)
  | lst h => exact .lst (tyx_ext e h)
  | dct h => exact .dct (tyx_ext e h)
theorem Mom.ext {K : PySem.W.Frag} {H H1 : Hp} {a : Addr} {ys : List V} (m : Mom K H a ys) (e : LamX.ExtN H H1) : Mom K H1 a ys := by
  obtain ⟨C, dx, p, x, h1, h2⟩ := m
  exact ⟨C, dx, p, x, ExtN.at_ e h1, ExtN.at_ e h2⟩
theorem Mom.put {K : PySem.W.Frag} {H : Hp} {a p : Addr} {xs zs ys : List V} (hp : H p = some (.lst xs)) (m : Mom K H a ys) : Mom K (upd H p (.lst zs)) a ys := by
  obtain ⟨C, dx, q, x, h1, h2⟩ := m
  exact ⟨C, dx, q, x, by rw [upd_ne (fun e => by rw [e, hp] at h1; cases h1)]; exact h1, by rw [upd_ne (fun e => by rw [e, hp] at h2; cases h2)]; exact h2⟩
def MK : Str := " !\"#$&'()*+,-./0123456789:;<=>?@ABCDEFGHIJKLMNOPQRSTUVWXYZ[\\]^_`abcdefghijklmnopqrstuvwxyz{|}~"
def inB (v : V) (s : Str) : Bool := match v with | .str z => (cs z).all (fun c => decide (c ∈ cs s)) | _ => false
/-- of a built-in type or a moment -/
def KdM (K : PySem.W.Frag) (H : Hp) (v : V) : Prop := Kd K H v ∨ ∃ a ys, v = .ref a ∧ Mom K H a ys
theorem log_lt {n : Int} (h : n.natAbs < 10 ^ 40) : n.natAbs.log2 < 1920 := by
  by_cases z : n.natAbs = 0
  · rw [z]; decide
  · exact (Nat.log2_lt z).mpr (Nat.lt_of_lt_of_le h (Nat.le_trans (show 10 ^ 40 ≤ 2 ^ 140 by decide) (Nat.pow_le_pow_right (by decide) (by decide))))
theorem as_int {n : Int} (h : n.natAbs < 10 ^ 40) : As 41 (Str.ofString (toString n)) := by
  refine ⟨?_, fun c hc => ?_⟩
  · have q := int_text_length_le10 (a := n) (k := 40) (by omega) h
    have e : (Str.ofString (toString n)).length = (toString n).length := PySem.ofString_length _
    omega
  · have e : cs (Str.ofString (toString n)) = (toString n).toList.map Char.toNat := by
      show (Str.ofString (toString n)).cps.toList = _
      rw [PySem.Str.ofString_eq_toList]
    rw [e] at hc
    obtain ⟨x, hx, rfl⟩ := List.mem_map.mp hc
    exact int_ascii n x hx
structure An (K : PySem.W.Frag) (H : Hp) (v : V) : Prop where
  kd : KdM K H v
  eq : SelfV K H v ∨ ∃ a y mo d h mi s z, v = .ref a ∧ Mom K H a [.int y, .int mo, .int d, .int h, .int mi, .int s, .int z] ∧ Val7 y mo d h mi s z
theorem KdM.ext {K : PySem.W.Frag} {H H1 : Hp} {v : V} (k : KdM K H v) (e : LamX.ExtN H H1) : KdM K H1 v := by
  rcases k with k | ⟨a, ys, rfl, m⟩
  · exact .inl (k.ext e)
  · exact .inr ⟨a, ys, rfl, m.ext e⟩
theorem An.ext {K : PySem.W.Frag} {H H1 : Hp} {v : V} (k : An K H v) (e : LamX.ExtN H H1) : An K H1 v := by
  obtain ⟨k1, k2⟩ := k
  refine ⟨k1.ext e, ?_⟩
  rcases k2 with k | ⟨a, y, mo, d, h, mi, s, z, rfl, m, w⟩
  · exact .inl (k.ext e)
  · exact .inr ⟨a, y, mo, d, h, mi, s, z, rfl, m.ext e, w⟩
theorem g_ixAT {K : PySem.W.Frag} {H : Hp} {Q : VK} {a : Addr} {xs : List V} {i : Int} (P : V → Prop) (h : SqT K H a xs) (all : ∀ v ∈ xs, P v) (h0 : 0 ≤ i) (h1 : i < xs.length) (q : ∀ v, P v → Q v H) : rIx K (.ref a) (.int i) H Q := by
  obtain ⟨v, e, p⟩ := at_all P all h0 h1
  exact g_ixT h e (q v p)
theorem selfV_nd {K : PySem.W.Frag} {H : Hp} {v : V} {d c : Addr} {n : Nat} (D : DrawAt K n H d c) (s : SelfV K H v) : v ≠ .ref d := by
  cases s with
  | lst a xs h i => exact fun e => D.ne h rfl (V.ref.inj e)
  | tup a xs h i => exact fun e => D.ne h rfl (V.ref.inj e)
  | dct a h =>
    obtain ⟨ns, x, l, u, hd, _⟩ := D
    intro e
    rw [V.ref.inj e, hd] at h
    exact nomatch h
  | _ => exact fun e => nomatch e
theorem An.keep {K : PySem.W.Frag} {H H1 : Hp} {v : V} {d c : Addr} {n : Nat} (D : DrawAt K n H d c) (k : Keep d H H1) (a : An K H v) : An K H1 v := by
  obtain ⟨k1, k2⟩ := a
  rcases k2 with s | ⟨a, y, mo, dd, h, mi, sc, z, rfl, ⟨C, dx, p, x, g1, g2⟩, w⟩
  · have nd := selfV_nd D s
    refine ⟨?_, .inl ?_⟩
    · rcases k1 with k1 | ⟨a, ys, rfl, C, dx, p, x, g1, g2⟩
      · exact .inl (k1.keep k nd)
      · exact .inr ⟨a, ys, rfl, C, dx, p, x, k.at_ D g1, k.at_ D g2⟩
    · cases s with
      | non => exact .non
      | bl b => exact .bl b
      | int i => exact .int i
      | str z => exact .str z
      | lst a xs h i => exact .lst a xs (k.at_ D h) i
      | tup a xs h i => exact .tup a xs (k.at_ D h) i
      | dct a h => exact .dct a (k _ _ (fun e => nd (congrArg V.ref e)) h)
  · have m : Mom K H1 a [.int y, .int mo, .int dd, .int h, .int mi, .int sc, .int z] := ⟨C, dx, p, x, k.at_ D g1, k.at_ D g2⟩
    exact ⟨.inr ⟨a, _, rfl, m⟩, .inr ⟨a, y, mo, dd, h, mi, sc, z, rfl, m, w⟩⟩
/-- what was told: pairs of the word w and the thing v -/
structure TV [Tb] (H0 Hc : Hp) (l : Addr) (w : Str) (v : V) (xs : List V) : Prop where
  e : LamX.ExtN H0 Hc
  t : Tbs Hc
  n : NoT H0 l
  hl : Hc l = some (.lst xs)
  hp : ∀ x ∈ xs, ∃ p, x = .ref p ∧ Hc p = some (.tup [.str w, v])
section
variable [Tb] {K : PySem.W.Frag} {H0 Hc : Hp} {σ : L2.St} {n : Nat} {l : Addr} {xs : List V} {TT : (XK → Hp → VK → Prop) → Hp → VK → Prop} {t : XK → TE} {D : Ends} {nm w : Str} {v : V}
theorem tv_raise0 (tb : Tbs Hc) (hT : TT = Said K) (m : (nm, w) ∈ SAID)
    (hb : ∀ E1 Q1 H1, LamX.ExtN Hc H1 → Tbs H1 → Rz K H1 E1 nm "given" v → t E1 σ H1 Q1) (q : ∀ H3 l p, TV Hc H3 l w v [.ref p] → D.nx (σ.set n (some (.ref l))) H3) :
    tAsg (tLst (tCons (tLamG TT t) tNil)) (gName n) D σ Hc := by
  subst hT
  refine g_asg (g_lst (g_cons (g_lam tb fun H1 e1 t1 => ?_)))
  intro E1 Q1 H2 s2 hE hQ
  refine hb E1 Q1 H2 (ExtN.snoc e1 s2) (Tbs.same s2 t1) fun cls d H' xn s' nd => ?_
  refine hE cls d v nm w _ m xn upd_same fun H3 p s3 hp => ?_
  have e3 : LamX.ExtN Hc H3 := ExtN.snoc (ExtN.snoc (ExtN.snoc e1 s2) (Same.new nd s')) s3
  have t3 : Tbs H3 := Tbs.same s3 (Tbs.same (Same.new nd s') (Tbs.same s2 t1))
  refine g_nil (g_sz (by show 1 ≤ 100000; decide) fun l hl => q _ l p ⟨ExtN.snoc e3 (Same.new hl (Same.refl _)), Tbs.new hl t3, NoT.back e3 (NoT.of0 hl), upd_same, fun x hx => ?_⟩)
  obtain rfl := List.mem_singleton.mp hx
  exact ⟨p, rfl, upd_new hl hp⟩
theorem tv_raise (T : TV H0 Hc l w v xs) (hv : σ[n]? = some (some (.ref l))) (hT : TT = Said K) (m : (nm, w) ∈ SAID) (hz : xs.length ≤ 100000)
    (hb : ∀ E1 Q1 H1, LamX.ExtN H0 H1 → Tbs H1 → Rz K H1 E1 nm "given" v → t E1 σ H1 Q1) (q : ∀ H3 p, TV H0 H3 l w v (xs ++ [.ref p]) → D.nx σ H3) :
    tDrop (tBM K "list" rAppend (tVar n) (tCons (tLamG TT t) tNil)) D σ Hc := by
  subst hT
  refine g_drop (g_append hv T.hl (g_cons (g_lam T.t fun H1 e1 t1 => ?_)))
  intro E1 Q1 H2 s2 hE hQ
  refine hb E1 Q1 H2 (ExtN.snoc (ExtN.tr T.e e1) s2) (Tbs.same s2 t1) fun cls d H' xn s' nd => ?_
  refine hE cls d v nm w _ m xn upd_same fun H3 p s3 hp => ?_
  have e3 : LamX.ExtN Hc H3 := ExtN.snoc (ExtN.snoc (ExtN.snoc e1 s2) (Same.new nd s')) s3
  have t3 : Tbs H3 := Tbs.same s3 (Tbs.same (Same.new nd s') (Tbs.same s2 t1))
  have hl := ExtN.at_ e3 T.hl
  have off : ∀ p, H3 p = some (.tup [.str w, v]) → upd H3 l (.lst (xs ++ [.ref p])) p = some (.tup [.str w, v]) := fun p hp => upd_off (fun e => by rw [e, hl] at hp; cases hp) hp
  refine g_nil (g_app hl hz (q _ p ⟨ExtN.put T.n (ExtN.tr T.e e3), Tbs.put hl t3, T.n, upd_same, fun x hx => ?_⟩))
  rcases List.mem_append.mp hx with hx | hx
  · obtain ⟨r, rfl, hr⟩ := T.hp x hx
    exact ⟨r, rfl, upd_off (fun e => by rw [e] at hr; exact nomatch hl.symm.trans (ExtN.at_ e3 hr)) (ExtN.at_ e3 hr)⟩
  · obtain rfl := List.mem_singleton.mp hx
    exact ⟨p, rfl, off p hp⟩
end
/-- a thing is equal to itself -/
theorem an_eq {P : Program} {w : World} {K : PySem.W.Frag} {mg : Str → Option Value} {base : Heap} [Tb] (T : Txt P K mg base) {H : Hp} {Q : VK} {v : V} {j : Nat} (hj : 6 ≤ j) (a : An K H v) (q : ∀ H', Same H H' → Q (.bl true) H') : rSelf K v v H Q ∨ rEqO P w K mg base j false v v H Q := by
  rcases a.eq with s | ⟨a, y, mo, d, h, mi, s, z, rfl, m, w7⟩
  · exact .inl (g_self s q)
  · exact .inr (eq_mom (ns := [y, mo, d, h, mi, s, z]) (r := true) T hj m (by fail "nle") w7.sm (.inl ⟨_, [y, mo, d, h, mi, s, z], rfl, m, by fail "nle", w7.sm, (decide_eq_true rfl).symm⟩) (b := true) rfl q)

def sp_consists_of (K : PySem.W.Frag) : Sp := fun vs H Q _ =>
  ∃ (v : V) (s : Str), vs = [v, .str s] ∧ KdM K H v ∧ ∀ H', Same H H' → Q (.bl (inB v s)) H'
theorem df_consists_of (T : Txt P K mg base) : Df P w K mg base 1 "consists_of" s_consists_of ["thing", "signs"] (sp_consists_of K) := by
  have sc := sc_consists_of
  obtain ⟨f, hm, fd, F⟩ := T.d_consists_of
  refine ⟨f, fd, hm, F, okG F sc (by fail "many") (fun cdv A outer s H vs Q E hr h => ?_)⟩
  · obtain ⟨v, s, rfl, kd, q⟩ := h
    refine ⟨_, (pss_one (ps_ret (pe_and (pe_callB call_isi (by rfl) T.b_isinstance (by decide +kernel) (pa_cons (pv 0) (pa_cons (pe_bltn (v := V.ty "str") (u := .type "str") (by rfl) T.b_str (by decide +kernel) rfl) pa_nil))) (pe_one (pe_callB (cr_all rfl) (by rfl) T.b_all (by decide +kernel) (pa_cons (pe_lc (own := [("sign", 2)]) (g := gName 2) (tt := tYes) rfl sc.nd (pi_str (pv 0)) (blkOk_by (N := ["thing", "signs", "sign"]) (sc := defScope s_consists_of) (by decide +kernel)) (fun _ _ _ _ _ => (pg_name (i := 2) sc.nd rfl (Or.inl rfl))) (fun _ _ _ _ _ => pts_nil) (fun _ _ _ _ _ => (pe_cmpR (opK (r := rInA) (K := K) rfl op_inA) (pv 2) (pv 1) rfl))) pa_nil)))))), ?_⟩
    dsimp only [cxOf, Cx.wish, L2.start, List.map, List.length, List.replicate, List.append, List.cons_append, List.nil_append, Nat.reduceAdd, Nat.reduceSub, Nat.zero_add]
    rcases kd with kd | ⟨b, ys, rfl, m⟩
    rotate_left
    · obtain ⟨C, dx, p, xc, ha, hp⟩ := id m
      obtain ⟨C', o⟩ := T.o_Moment
      obtain rfl := Value.ref.inj (XN.inj xc o.xn)
      fail "go"
      exact q _ (Same.refl _)
    cases kd with
    | @str z h =>
      fail "go"
      refine g_lcS1 rfl (fun c => .bl (decide (c ∈ cs s))) (Nat.le_trans h.1 (by decide)) (fun _ => rfl) ?_ ?_
      · intro c hc H' s' Q k
        fail "go"
        exact k _ (Same.refl _)
      intro D H' nD s' hD
      fail "go"
      refine g_all ((cs z).map fun c => decide (c ∈ cs s)) (by fail "sq") (by rw [List.map_map]; rfl) ?_
      refine finB q ?_ (by fail "same")
      simp [inB, List.all_map, Function.comp_def]
    | int i => (fail "go"); exact q _ (Same.refl _)
    | non => (fail "go"); exact q _ (Same.refl _)
    | bl b => (fail "go"); exact q _ (Same.refl _)
    | tup h => (fail "go"); exact q _ (Same.refl _)
    | lst h => (fail "go"); exact q _ (Same.refl _)
    | dct h => (fail "go"); exact q _ (Same.refl _)
local macro_rules | `(tactic| fail "call") => `(tactic| ((with_reducible show sp_consists_of _ _ _ _ _); refine ⟨_, _, rfl, by assumption, fun H' s' => ?_⟩))

def sp_is_body (K : PySem.W.Frag) : Sp := fun vs H Q _ =>
  ∃ (v : V), vs = [v] ∧ KdM K H v ∧ ∀ H', Same H H' → Q (.bl (inB v MK)) H'
theorem df_is_body (T : Txt P K mg base) : Df P w K mg base 2 "is_body" s_is_body ["thing"] (sp_is_body K) := by
  have sc := sc_is_body
  obtain ⟨f, hm, fd, F⟩ := T.d_is_body
  refine ⟨f, fd, hm, F, okG F sc (by fail "many") (fun cdv A outer s H vs Q E hr h => ?_)⟩
  · obtain ⟨v, rfl, kd, q⟩ := h
    refine ⟨_, (pss_one (ps_ret (pe_callG (sp := sp_consists_of K) (df_consists_of T) hr (by decide) b_consists_of_2_ b_consists_of_2__s (pa_cons (pv 0) (pa_cons (pe_globE T.c_MARKS) pa_nil)) pk_nil))), ?_⟩
    dsimp only [cxOf, Cx.wish, L2.start, List.map, List.length, List.replicate, List.append, List.cons_append, List.nil_append, Nat.reduceAdd, Nat.reduceSub, Nat.zero_add]
    fail "go"
    exact q _ ‹_›
local macro_rules | `(tactic| fail "call") => `(tactic| ((with_reducible show sp_is_body _ _ _ _ _); refine ⟨_, rfl, by assumption, fun H' s' => ?_⟩))

def sp_read_moment (K : PySem.W.Frag) : Sp := fun vs H Q E =>
  ∃ (v : V), vs = [v] ∧ KdM K H v ∧ inB v MK = false ∧ Rz K H E "BadBody" "given" v
theorem df_read_moment (T : Txt P K mg base) : DfX P w K mg base 3 "read_moment" s_read_moment ["body"] (sp_read_moment K) := by
  have sc := sc_read_moment
  obtain ⟨f, hm, fd, F⟩ := T.d_read_moment
  refine ⟨f, fd, hm, F, okX F sc (by fail "many") (fun cdv A outer s H vs Q E hr h => ?_)⟩
  · obtain ⟨v, rfl, kd, hb, x⟩ := h
    refine ⟨_, (pss_cons (ps_if (pt_not (pt_val (pe_callG (sp := sp_is_body K) (df_is_body T) hr (by decide) b_is_body_1_ b_is_body_1__s (pa_cons (pv 0) pa_nil) pk_nil))) (pss_one (ps_raiseX T.x_BadBody rfl hr (by decide) (takes_of rfl rfl rfl rfl) (pa_cons (pv 0) pa_nil))) pss_nil)
 (pss_cons ps_never
 (pss_cons ps_never
 (pss_cons ps_never
 (pss_cons ps_never
 (pss_cons ps_never
 (pss_one ps_never))))))), ?_⟩
    dsimp only [cxOf, Cx.wish, L2.start, List.map, List.length, List.replicate, List.append, List.cons_append, List.nil_append, Nat.reduceAdd, Nat.reduceSub, Nat.zero_add]
    fail "go"
    · exact x _ _ _ ‹_› (by fail "same") ‹_›
    · rename_i hq
      rw [hb] at hq
      cases hq
local macro_rules | `(tactic| fail "call") => `(tactic| ((with_reducible show sp_read_moment _ _ _ _ _); fail "zz"))

def sp_two (K : PySem.W.Frag) : Sp := fun vs H Q _ =>
  ∃ n : Int, vs = [.int n] ∧ n.natAbs < 10 ^ 40 ∧ ∀ H' z, Same H H' → As 60 z → Q (.str z) H'
theorem df_two (T : Txt P K mg base) : Df P w K mg base 1 "two" s_two ["number"] (sp_two K) := by
  have sc := sc_two
  obtain ⟨f, hm, fd, F⟩ := T.d_two
  refine ⟨f, fd, hm, F, okG F sc (by fail "many") (fun cdv A outer s H vs Q E hr h => ?_)⟩
  · obtain ⟨n, rfl, hn, k⟩ := h
    refine ⟨_, (pss_one (ps_ret (pe_slice sl_str (pe_op op_addA pe_str (pe_callTy call_str_int (by rfl) T.b_str (by decide +kernel) (pa_cons (pv 0) pa_nil))) (po_some (pe_un un_neg pe_int)) po_none))), ?_⟩
    dsimp only [cxOf, Cx.wish, L2.start, List.map, List.length, List.replicate, List.append, List.cons_append, List.nil_append, Nat.reduceAdd, Nat.reduceSub, Nat.zero_add]
    fail "go"
    refine ⟨log_lt hn, ?_⟩
    have az := as_int hn
    generalize (Str.ofString (toString n)) = z at *
    fail "go"
    exact k _ _ (by fail "same") (As.mono (by fail "as") (by omega))
local macro_rules | `(tactic| fail "call") => `(tactic| ((with_reducible show sp_two _ _ _ _ _); refine ⟨_, rfl, by omega, fun H' z s' hz => ?_⟩))
theorem g_isXN {v : V} {H : Hp} {Q : VK} (h : v ≠ .non) (q : Q (.bl false) H) : rIsA v .non H Q := ⟨by cases v <;> rfl, by rw [decide_eq_false h]; exact q⟩
local macro_rules
  | `(tactic| fail "allA3") => `(tactic| repeat (first | exact List.forall_mem_nil _ | refine List.forall_mem_cons.mpr ⟨⟨_, rfl, As.of (by decide) (by decide)⟩, ?_⟩))
theorem g_isBtt {a : Bool} {H : Hp} {Q : VK} (q : Q (.bl true) H) : rIsB (.bl a) (.bl a) H Q := ⟨a, a, rfl, rfl, by rw [decide_eq_true rfl]; exact q⟩
theorem g_isBtf {H : Hp} {Q : VK} (q : Q (.bl false) H) : rIsB (.bl true) (.bl false) H Q := ⟨true, false, rfl, rfl, q⟩
local macro_rules | `(tactic| fail "go1") => `(tactic| first
  | ((with_reducible refine g_isXN ?_ ?_); assumption)
  | with_reducible refine g_isBtt ?_
  | with_reducible refine g_isBtf ?_)

def sp_moment_pieces (K : PySem.W.Frag) : Sp := fun vs H Q E =>
  ∃ (v : V), vs = [v] ∧ ((v = .non ∧ ∀ H' p, Same H H' → H p = none → H' p = some (.tup []) → Q (.ref p) H') ∨ (∃ a y mo d h mi s z, v = .ref a ∧ Mom K H a [.int y, .int mo, .int d, .int h, .int mi, .int s, .int z] ∧ Val7 y mo d h mi s z ∧ ∀ H' p z1 z2 z3 z4 z5 z6, Same H H' → H' p = some (.tup [.str z1, .str z2, .str z3, .str z4, .str z5, .str z6]) → (∀ z ∈ [z1, z2, z3, z4, z5, z6], As 400 z) → Q (.ref p) H') ∨ (v ≠ .non ∧ Kd K H v ∧ Rz K H E "BadContent" "given" v))
theorem df_moment_pieces (T : Txt P K mg base) : DfX P w K mg base 9 "moment_pieces" s_moment_pieces ["moment"] (sp_moment_pieces K) := by
  have sc := sc_moment_pieces
  obtain ⟨f, hm, fd, F⟩ := T.d_moment_pieces
  refine ⟨f, fd, hm, F, okX F sc (by fail "many") (fun cdv A outer s H vs Q E hr h => ?_)⟩
  · obtain ⟨v, rfl, kk⟩ := h
    obtain ⟨a_MONTHS, hm_MONTHS, sq_MONTHS⟩ := T.c_MONTHS
    obtain ⟨a_WEEKDAYS, hm_WEEKDAYS, sq_WEEKDAYS⟩ := T.c_WEEKDAYS
    obtain ⟨C_Moment, o_Moment⟩ := T.o_Moment
    have hm_Moment := o_Moment.mg
    refine ⟨_, (pss_cons (ps_if (pt_cmpR op_isA (pv 0) pe_non (nomark _)) (pss_one (ps_ret (pe_tup pa_nil))) pss_nil)
 (pss_cons (ps_if (pt_not (pt_val (pe_callB call_isi (by rfl) T.b_isinstance (by decide +kernel) (pa_cons (pv 0) (pa_cons (pe_globE (v := V.ref C_Moment) ⟨_, hm_Moment, rfl⟩) pa_nil))))) (pss_one (ps_raiseX T.x_BadContent rfl hr (by decide) (takes_of rfl rfl rfl rfl) (pa_cons (pv 0) pa_nil))) pss_nil)
 (pss_cons (ps_asg (pe_fld (pv 0) rfl) (pg_tup (by rfl) (pgs_cons (pg_name (i := 1) sc.nd rfl (Or.inl rfl)) (pgs_cons (pg_name (i := 2) sc.nd rfl (Or.inl rfl)) (pgs_cons (pg_name (i := 3) sc.nd rfl (Or.inl rfl)) (pgs_cons (pg_name (i := 4) sc.nd rfl (Or.inl rfl)) (pgs_cons (pg_name (i := 5) sc.nd rfl (Or.inl rfl)) (pgs_cons (pg_name (i := 6) sc.nd rfl (Or.inl rfl)) (pgs_cons (pg_name (i := 7) sc.nd rfl (Or.inl rfl)) pgs_nil)))))))))
 (pss_cons (ps_set (i := 8) sc.nd rfl (Or.inl rfl) (pe_op op_addA (pe_op op_addA (pe_op op_addA (pe_op op_addA (pe_callG (sp := sp_two K) (df_two T) hr (by decide) b_two_1_ b_two_1__s (pa_cons (pv 4) pa_nil) pk_nil) pe_str) (pe_callG (sp := sp_two K) (df_two T) hr (by decide) b_two_1_ b_two_1__s (pa_cons (pv 5) pa_nil) pk_nil)) pe_str) (pe_callG (sp := sp_two K) (df_two T) hr (by decide) b_two_1_ b_two_1__s (pa_cons (pv 6) pa_nil) pk_nil)))
 (pss_cons (ps_par (i := 9) (j := 10) rfl sc.nd rfl rfl (by decide) rfl rfl (pa_cons (pe_ifExp (pt_cmpR op_ltA (pv 7) pe_int (nomark _)) pe_str pe_str) (pa_cons (pe_callB call_abs (by rfl) T.b_abs (by decide +kernel) (pa_cons (pv 7) pa_nil)) pa_nil)) (by rfl))
 (pss_cons (ps_par (i := 11) (j := 12) rfl sc.nd rfl rfl (by decide) rfl rfl (pa_cons (pe_op op_addA (pe_ix ix_seq (pe_globE (v := V.ref a_WEEKDAYS) ⟨_, hm_WEEKDAYS, rfl⟩) (pe_propC (pv 0) T.o_Moment (df_Moment_weekday T) hr (by decide) (fun _ _ _ _ _ _ us hl => match us, hl with | [_], _ => rfl)) (fun _ _ => rfl)) pe_str) (pa_cons (pe_op op_addA (pe_op op_addA (pv 9) (pe_callG (sp := sp_two K) (df_two T) hr (by decide) b_two_1_ b_two_1__s (pa_cons (pe_op op_divA (pv 10) pe_int) pa_nil) pk_nil)) (pe_callG (sp := sp_two K) (df_two T) hr (by decide) b_two_1_ b_two_1__s (pa_cons (pe_op op_modA (pv 10) pe_int) pa_nil) pk_nil)) pa_nil)) (by rfl))
 (pss_one (ps_ret (pe_tup (pa_cons (pv 11) (pa_cons (pe_callTy call_str_int (by rfl) T.b_str (by decide +kernel) (pa_cons (pv 3) pa_nil)) (pa_cons (pe_ix ix_seq (pe_globE (v := V.ref a_MONTHS) ⟨_, hm_MONTHS, rfl⟩) (pe_op op_subA (pv 2) pe_int) (fun _ _ => rfl)) (pa_cons (pe_slice sl_str (pe_op op_addA pe_str (pe_callTy call_str_int (by rfl) T.b_str (by decide +kernel) (pa_cons (pv 1) pa_nil))) (po_some (pe_un un_neg pe_int)) po_none) (pa_cons (pv 8) (pa_cons (pv 12) pa_nil))))))))))))))), ?_⟩
    dsimp only [cxOf, Cx.wish, L2.start, List.map, List.length, List.replicate, List.append, List.cons_append, List.nil_append, Nat.reduceAdd, Nat.reduceSub, Nat.zero_add]
    rcases kk with ⟨rfl, k⟩ | ⟨a, y, mo, d, h, mi, s, z, rfl, m, v7, k⟩ | ⟨nn, kd, x⟩
    · fail "go"
      rename_i p np
      exact k _ p (by fail "same") np upd_same
    · have vd := v7.v
      obtain ⟨h1, h2, h3, h4, h5, h6⟩ := id v7.v
      have hd : d ≤ 31 := Int.le_trans h6 (mlen_hi y mo)
      clear h6
      obtain ⟨_, a1, a2, b1, b2, c1, c2, z1, z2⟩ := id v7
      obtain ⟨C, dx, p, xc, ha, hp⟩ := id m
      have o := o_Moment
      obtain rfl := Value.ref.inj (XN.inj xc o.xn)
      have na := T.a_Moment_row C o.xn
      fail "go"
      all_goals
        refine g_ixAT (fun v => ∃ z, v = .str z ∧ As 3 z) (sq_WEEKDAYS _) (by fail "allA3") (Int.emod_nonneg _ (by decide)) (by show _ < (7 : Int); exact Int.emod_lt_of_pos _ (by decide)) ?_
        rintro v ⟨wd, rfl, awd⟩
        fail "go"
        refine ⟨log_lt (by omega), ?_⟩
        have azd := as_int (n := d) (by omega)
        fail "go"
        refine g_ixAT (fun v => ∃ z, v = .str z ∧ As 3 z) (sq_MONTHS _) (by fail "allA3") (by omega) (by show mo - 1 < (12 : Int); omega) ?_
        rintro v ⟨mm, rfl, amm⟩
        fail "go"
        refine ⟨log_lt (by omega), ?_⟩
        have azy := as_int (n := y) (by omega)
        fail "go"
        exact k _ _ _ _ _ _ _ _ (by fail "same") (by fail "h") (List.forall_mem_cons.mpr ⟨As.mono (by fail "as") (by omega), List.forall_mem_cons.mpr ⟨As.mono (by fail "as") (by omega), List.forall_mem_cons.mpr ⟨As.mono (by fail "as") (by omega), List.forall_mem_cons.mpr ⟨As.mono (by fail "as") (by omega), List.forall_mem_cons.mpr ⟨As.mono (by fail "as") (by omega), List.forall_mem_cons.mpr ⟨As.mono (by fail "as") (by omega), List.forall_mem_nil _⟩⟩⟩⟩⟩⟩)
    · cases kd
      all_goals fail "go"
      all_goals first | exact absurd rfl nn | exact x _ _ _ ‹_› (by fail "same") ‹_›
local macro_rules | `(tactic| fail "call") => `(tactic| ((with_reducible show sp_moment_pieces _ _ _ _ _); fail "zz"))

def sp_law_right (K : PySem.W.Frag) : Sp := fun vs H Q _ =>
  ∃ (d : Addr) (n : Nat) (c p : Addr) (y mo dd h mi s z : Int), vs = [.ref d, .ref p] ∧ DrawAt K n H d c ∧ n + 2 < 1000000000 ∧ SqT K H p [.int y, .int mo, .int dd, .int h, .int mi, .int s, .int z] ∧ Val7 y mo dd h mi s z ∧ Tbs H ∧ ∀ H', DrawAt K (n + 2) H' d c → Tbs H' → Q (.bl true) H'
theorem df_law_right (T : Txt P K mg base) : Df P w K mg base 13 "_law_right" s_law_right ["draw", "seven"] (sp_law_right K) := by
  have sc := sc_law_right
  obtain ⟨f, fd, c0, Pt, hm, F, TB, hmT, hu⟩ := T.t_law_right
  refine ⟨f, fd, hm, F.out, okC F sc (by fail "many") (fun A outer s H vs Q E hr h => ?_)⟩
  · obtain ⟨d, n, c, p, y, mo, dd, h, mi, s, z, rfl, D, hn, hp, v7, tb, k⟩ := h
    obtain ⟨C_Moment, o_Moment⟩ := T.o_Moment
    have hm_Moment := o_Moment.mg
    refine ⟨_, (pss_cons (ps_set (i := 2) sc.nd rfl (Or.inr rfl) (pe_callX (sp := sp_law_moment K) (df_law_moment T) takesN hr (by decide) b_law_moment_1_ b_law_moment_1__s (pa_cons (pv 1) pa_nil) pk_nil))
 (pss_cons (ps_set (i := 3) sc.nd rfl (Or.inr rfl) (pe_ix ix_seq (pe_lst (pa_cons pe_non (pa_cons pe_int (pa_cons pe_bl (pa_cons pe_str (pa_cons pe_str (pa_cons (pe_lst (pa_cons pe_str pa_nil)) (pa_cons (pe_tup (pa_cons pe_str pa_nil)) (pa_cons pe_dnewK (pa_cons (pe_op op_addA pe_str pe_str) (pa_cons (pv 2) pa_nil))))))))))) (pe_callG (sp := sp_law_next K) (df_law_next T) hr (by decide) b_law_next_2_ b_law_next_2__s (pa_cons (pv 0) (pa_cons pe_int pa_nil)) pk_nil) (fun _ _ => rfl)))
 (pss_cons (ps_set (i := 4) sc.nd rfl (Or.inr rfl) (pe_ix ix_seq (pe_lst (pa_cons pe_int (pa_cons pe_int (pa_cons pe_bl (pa_cons pe_str (pa_cons (pe_tup (pa_cons pe_str pa_nil)) (pa_cons (pe_lst (pa_cons (pv 2) pa_nil)) (pa_cons pe_dnewK (pa_cons pe_bl (pa_cons (pe_tup (pa_cons (pv 2) pa_nil)) (pa_cons pe_str pa_nil))))))))))) (pe_callG (sp := sp_law_next K) (df_law_next T) hr (by decide) b_law_next_2_ b_law_next_2__s (pa_cons (pv 0) (pa_cons pe_int pa_nil)) pk_nil) (fun _ _ => rfl)))
 (pss_cons (ps_set (i := 5) sc.nd rfl (Or.inl rfl) (pe_lst (pa_cons (pe_lam (TT := spL_law_said K) (gv_law_said T) TB rfl hmT hu hr (by decide) (show LamX.LamS (defScope s_law_right) _ from LamX.lamS_by (by decide +kernel)) b_law_said_1_ rfl (fun _ _ _ _ _ => rfl)
 (fun B out s2 H2 E f c' hr => (pe_callX (sp := sp_read_moment K) (df_read_moment T) (takes_of rfl rfl rfl rfl) hr (by decide) b_read_moment_1_ b_read_moment_1__s (pa_cons (pv 3) pa_nil) pk_nil))) pa_nil)))
 (pss_cons (ps_expr (pe_bm PySem.F.plainAttrs_list PySem.F.slot_list_append PySem.F.type_list_append mt_append (pv 5) (pa_cons (pe_lam (TT := spL_law_said K) (gv_law_said T) TB rfl hmT hu hr (by decide) (show LamX.LamS (defScope s_law_right) _ from LamX.lamS_by (by decide +kernel)) b_law_said_1_ rfl (fun _ _ _ _ _ => rfl)
 (fun B out s2 H2 E f c' hr => (pe_callX0 (sp := sp_read_moment K) (df_read_moment T) (takes_of rfl rfl rfl rfl) hr (by decide) b_read_moment_0_body b_read_moment_0_body_s (pk_cons (pv 3) pk_nil)))) pa_nil)))
 (pss_cons (ps_if (PW.pt (pw_or (pt_cmpR (op_neA hr) (pe_lc (own := [("one", 7)]) (g := gName 7) (tt := tYes) rfl sc.nd (pi_list (pv 5)) (blkOk_by (N := ["draw", "seven", "thing", "rough", "odd", "told", "others", "one"]) (sc := defScope s_law_right) (by decide +kernel)) (fun _ _ _ _ _ => (pg_name (i := 7) sc.nd rfl (Or.inl rfl))) (fun _ _ _ _ _ => pts_nil) (fun _ _ _ _ _ => (pe_ix (ixK (r := rIx) (K := K) rfl ix_seq) (pv 7) pe_int (fun _ _ => rfl)))) (pe_lst (pa_cons pe_str (pa_cons pe_str pa_nil))) (nomark _)) (pw_or1 (pt_cmpR (op_neA hr) (pe_lc (own := [("one", 7)]) (g := gName 7) (tt := tYes) rfl sc.nd (pi_list (pv 5)) (blkOk_by (N := ["draw", "seven", "thing", "rough", "odd", "told", "others", "one"]) (sc := defScope s_law_right) (by decide +kernel)) (fun _ _ _ _ _ => (pg_name (i := 7) sc.nd rfl (Or.inl rfl))) (fun _ _ _ _ _ => pts_nil) (fun _ _ _ _ _ => (pe_cmpR (Hf.OpR.or (selfK (K := K) rfl (op_self hr (by decide))) (opO (P := P) (w := w) (K := K) (mg := mg) (base := base) rfl rfl rfl rfl rfl (op_eqO hr))) (pe_ix (ixK (r := rIx) (K := K) rfl ix_seq) (pv 7) pe_int (fun _ _ => rfl)) (pv 3) (nomark _)))) (pe_lst (pa_cons pe_bl (pa_cons pe_bl pa_nil))) (nomark _))))) (pss_one (ps_ret pe_bl)) pss_nil)
 (pss_cons (ps_set (i := 5) sc.nd rfl (Or.inl rfl) (pe_lst (pa_cons (pe_lam (TT := spL_law_said K) (gv_law_said T) TB rfl hmT hu hr (by decide) (show LamX.LamS (defScope s_law_right) _ from LamX.lamS_by (by decide +kernel)) b_law_said_1_ rfl (fun _ _ _ _ _ => rfl)
 (fun B out s2 H2 E f c' hr => (pe_callX (sp := sp_moment_pieces K) (df_moment_pieces T) (takes_of rfl rfl rfl rfl) hr (by decide) b_moment_pieces_1_ b_moment_pieces_1__s (pa_cons (pv 4) pa_nil) pk_nil))) pa_nil)))
 (pss_cons (ps_expr (pe_bm PySem.F.plainAttrs_list PySem.F.slot_list_append PySem.F.type_list_append mt_append (pv 5) (pa_cons (pe_lam (TT := spL_law_said K) (gv_law_said T) TB rfl hmT hu hr (by decide) (show LamX.LamS (defScope s_law_right) _ from LamX.lamS_by (by decide +kernel)) b_law_said_1_ rfl (fun _ _ _ _ _ => rfl)
 (fun B out s2 H2 E f c' hr => (pe_callX0 (sp := sp_moment_pieces K) (df_moment_pieces T) (takes_of rfl rfl rfl rfl) hr (by decide) b_moment_pieces_0_moment b_moment_pieces_0_moment_s (pk_cons (pv 4) pk_nil)))) pa_nil)))
 (pss_cons (ps_expr (pe_bm PySem.F.plainAttrs_list PySem.F.slot_list_append PySem.F.type_list_append mt_append (pv 5) (pa_cons (pe_lam (TT := spL_law_said K) (gv_law_said T) TB rfl hmT hu hr (by decide) (show LamX.LamS (defScope s_law_right) _ from LamX.lamS_by (by decide +kernel)) b_law_said_1_ rfl (fun _ _ _ _ _ => rfl)
 (fun B out s2 H2 E f c' hr => (methK (K := K) rfl (pe_methC (g := @kg_Moment_is_before_1_) (sp := sp_Moment_is_before K) (pv 2) T.o_Moment (takes_of rfl rfl rfl rfl) (df_Moment_is_before T) hr (by decide) kb_Moment_is_before_1_ (pa_cons (pv 4) pa_nil) pk_nil)))) pa_nil)))
 (pss_cons (ps_expr (pe_bm PySem.F.plainAttrs_list PySem.F.slot_list_append PySem.F.type_list_append mt_append (pv 5) (pa_cons (pe_lam (TT := spL_law_said K) (gv_law_said T) TB rfl hmT hu hr (by decide) (show LamX.LamS (defScope s_law_right) _ from LamX.lamS_by (by decide +kernel)) b_law_said_1_ rfl (fun _ _ _ _ _ => rfl)
 (fun B out s2 H2 E f c' hr => (methK (K := K) rfl (pe_methC0 (g := @kg_Moment_is_before_0_other) (sp := sp_Moment_is_before K) (pv 2) T.o_Moment (takes_of rfl rfl rfl rfl) (df_Moment_is_before T) hr (by decide) kb_Moment_is_before_0_other (pk_cons (pv 4) pk_nil))))) pa_nil)))
 (pss_cons (ps_if (PW.pt (pw_or (pt_cmpR (op_neA hr) (pe_lc (own := [("one", 7)]) (g := gName 7) (tt := tYes) rfl sc.nd (pi_list (pv 5)) (blkOk_by (N := ["draw", "seven", "thing", "rough", "odd", "told", "others", "one"]) (sc := defScope s_law_right) (by decide +kernel)) (fun _ _ _ _ _ => (pg_name (i := 7) sc.nd rfl (Or.inl rfl))) (fun _ _ _ _ _ => pts_nil) (fun _ _ _ _ _ => (pe_ix (ixK (r := rIx) (K := K) rfl ix_seq) (pv 7) pe_int (fun _ _ => rfl)))) (pe_op op_mulA (pe_lst (pa_cons pe_str pa_nil)) pe_int) (nomark _)) (pw_or1 (pt_cmpR (op_neA hr) (pe_lc (own := [("one", 7)]) (g := gName 7) (tt := tYes) rfl sc.nd (pi_list (pv 5)) (blkOk_by (N := ["draw", "seven", "thing", "rough", "odd", "told", "others", "one"]) (sc := defScope s_law_right) (by decide +kernel)) (fun _ _ _ _ _ => (pg_name (i := 7) sc.nd rfl (Or.inl rfl))) (fun _ _ _ _ _ => pts_nil) (fun _ _ _ _ _ => (pe_cmpR (Hf.OpR.or (selfK (K := K) rfl (op_self hr (by decide))) (opO (P := P) (w := w) (K := K) (mg := mg) (base := base) rfl rfl rfl rfl rfl (op_eqO hr))) (pe_ix (ixK (r := rIx) (K := K) rfl ix_seq) (pv 7) pe_int (fun _ _ => rfl)) (pv 4) (nomark _)))) (pe_op op_mulA (pe_lst (pa_cons pe_bl pa_nil)) pe_int) (nomark _))))) (pss_one (ps_ret pe_bl)) pss_nil)
 (pss_cons (ps_set (i := 5) sc.nd rfl (Or.inl rfl) (pe_lst (pa_cons (pe_lam (TT := spL_law_said K) (gv_law_said T) TB rfl hmT hu hr (by decide) (show LamX.LamS (defScope s_law_right) _ from LamX.lamS_by (by decide +kernel)) b_law_said_1_ rfl (fun _ _ _ _ _ => rfl)
 (fun B out s2 H2 E f c' hr => (methK (K := K) rfl (pe_methC (g := @kg_Moment_is_before_1_) (sp := sp_Moment_is_before K) (pv 2) T.o_Moment (takes_of rfl rfl rfl rfl) (df_Moment_is_before T) hr (by decide) kb_Moment_is_before_1_ (pa_cons pe_non pa_nil) pk_nil)))) pa_nil)))
 (pss_cons (ps_expr (pe_bm PySem.F.plainAttrs_list PySem.F.slot_list_append PySem.F.type_list_append mt_append (pv 5) (pa_cons (pe_lam (TT := spL_law_said K) (gv_law_said T) TB rfl hmT hu hr (by decide) (show LamX.LamS (defScope s_law_right) _ from LamX.lamS_by (by decide +kernel)) b_law_said_1_ rfl (fun _ _ _ _ _ => rfl)
 (fun B out s2 H2 E f c' hr => (pe_callX (sp := sp_moment_pieces K) (df_moment_pieces T) (takes_of rfl rfl rfl rfl) hr (by decide) b_moment_pieces_1_ b_moment_pieces_1__s (pa_cons pe_non pa_nil) pk_nil))) pa_nil)))
 (pss_cons (ps_if (PW.pt (pw_or (pt_cmpR (op_neA hr) (pe_callB (call_reprQ hr) (by rfl) T.b_repr (by decide +kernel) (pa_cons (pv 5) pa_nil)) (pe_callB (call_reprQ hr) (by rfl) T.b_repr (by decide +kernel) (pa_cons (pe_lst (pa_cons (pe_tup (pa_cons pe_str (pa_cons pe_non pa_nil))) (pa_cons (pe_lst (pa_cons (pe_tup pa_nil) pa_nil)) pa_nil))) pa_nil)) (nomark _)) (pw_or1 (pt_cmpR (op_neA hr) (pe_callG (sp := sp_law_told K) (df_law_told T) hr (by decide) b_law_told_1_ b_law_told_1__s (pa_cons (pv 2) pa_nil) pk_nil) (pv 1) (nomark _))))) (pss_one (ps_ret pe_bl)) pss_nil)
 (pss_cons (ps_set (i := 6) sc.nd rfl (Or.inl rfl) (pe_lst (pa_cons (pv 4) (pa_cons (pv 3) (pa_cons (pe_callX (sp := sp_moment_pieces K) (df_moment_pieces T) takesN hr (by decide) b_moment_pieces_1_ b_moment_pieces_1__s (pa_cons (pv 2) pa_nil) pk_nil) (pa_cons (pe_joinA pe_str (pe_callX (sp := sp_moment_pieces K) (df_moment_pieces T) takesN hr (by decide) b_moment_pieces_1_ b_moment_pieces_1__s (pa_cons (pv 2) pa_nil) pk_nil)) (pa_cons pe_non (pa_cons (pe_propC (pv 2) T.o_Moment (df_Moment_year T) hr (by decide) (fun _ _ _ _ _ _ us hl => match us, hl with | [_], _ => rfl)) (pa_cons (pe_callTy call_list_of (by rfl) T.b_list (by decide +kernel) (pa_cons (pv 1) pa_nil)) pa_nil)))))))))
 (pss_one (ps_ret (pe_cmpR (op_eqA hr) (pe_lc (own := [("one", 7)]) (g := gName 7) rfl sc.nd (pi_list (pv 6)) (blkOk_by (N := ["draw", "seven", "thing", "rough", "odd", "told", "others", "one"]) (sc := defScope s_law_right) (by decide +kernel)) (fun _ _ _ _ _ => (pg_name (i := 7) sc.nd rfl (Or.inl rfl))) (fun _ _ _ _ _ => pts_one (PW.pt (pw_and (pt_cmpR op_isBl (pe_callB (callK (r := rIsi) (K := K) rfl call_isi) (by rfl) T.b_isinstance (by decide +kernel) (pa_cons (pv 7) (pa_cons (pe_globE (v := V.ref C_Moment) ⟨_, hm_Moment, rfl⟩) pa_nil))) pe_bl (nomark _)) (pw_and1 (pt_cmpR op_notBl (pe_cmpR (opO (P := P) (w := w) (K := K) (mg := mg) (base := base) rfl rfl rfl rfl rfl (op_eqO hr)) (pv 2) (pv 7) (nomark _)) pe_bl (nomark _)))))) (fun _ _ _ _ _ => pe_int)) (pe_lst pa_nil) (nomark _))))))))))))))))))), ?_⟩
    dsimp only [cxOf, Cx.wish, LamX.lamCx, L2.start, List.map, List.length, List.replicate, List.append, List.cons_append, List.nil_append, Nat.reduceAdd, Nat.reduceSub, Nat.zero_add]
    have ok := v7.ok
    fail "go"
    refine ⟨_, _, _, _, _, _, _, _, rfl, .inl (by fail "sq"), .int _, .int _, .int _, .int _, .int _, .int _, .int _, spm_ok ok (fun H1 a s1 na m1 => ?_)⟩
    fail "go"
    rename_i p1 n1 p2 n2 p3 n3 p4 n4 H2 r k2 D2 r0 r1
    have h1 : H2 p1 = some (.lst [.str "a"]) := by fail "h"
    have h2 : H2 p2 = some (.tup [.str "a"]) := by fail "h"
    have n3' : p3 ≠ d := by
      obtain ⟨_, _, _, _, g, _⟩ := id D
      exact Ne.symm (ne_of_none (upd_new n2 (upd_new n1 (s1 _ _ g))) n3)
    have h3 : H2 p3 = some (.dK []) := k2 _ _ n3' (by fail "h")
    have mH : Mom K H2 a [.int y, .int mo, .int dd, .int h, .int mi, .int s, .int z] := by
      obtain ⟨C, dx, q, xc, g1, g2⟩ := id m1
      exact ⟨C, dx, q, xc, by fail "h", by fail "h"⟩
    have tH : Tbs H2 := Tbs.keep k2 (DrawAt.new n4 (DrawAt.new n3 (DrawAt.new n2 (DrawAt.new n1 (D.same s1))))) (Tbs.same (H := H) (by fail "same") tb)
    have hp2 : SqT K H2 p [.int y, .int mo, .int dd, .int h, .int mi, .int s, .int z] := by fail "sq"
    have it1 : ∀ x ∈ [V.str "a"], ItS x := List.forall_mem_cons.mpr ⟨.inl ⟨rfl, by decide +kernel⟩, List.forall_mem_nil _⟩
    refine g_ixA (fun v => An K H2 v ∧ inB v MK = false) (by fail "sq") ?_ r0 (by show r < 10; exact r1) ?_
    · have q : ∀ {v : V} {vs : List V}, (An K H2 v ∧ inB v MK = false) → (∀ x ∈ vs, An K H2 x ∧ inB x MK = false) → ∀ x ∈ v :: vs, An K H2 x ∧ inB x MK = false := fun a b => List.forall_mem_cons.mpr ⟨a, b⟩
      exact q ⟨⟨.inl .non, .inl .non⟩, rfl⟩ (q ⟨⟨.inl (.int _), .inl (.int _)⟩, rfl⟩ (q ⟨⟨.inl (.bl _), .inl (.bl _)⟩, rfl⟩ (q ⟨⟨.inl (.str (As.mono (As.of (n := 3) (by decide) (by decide)) (by decide))), .inl (.str _)⟩, by decide +kernel⟩ (q ⟨⟨.inl (.str (As.mono (As.of (n := 3) (by decide) (by decide)) (by decide))), .inl (.str _)⟩, by decide +kernel⟩
        (q ⟨⟨.inl (.lst (.base (.lst h1))), .inl (.lst _ _ h1 it1)⟩, rfl⟩ (q ⟨⟨.inl (.tup (.base (.tup h2))), .inl (.tup _ _ h2 it1)⟩, rfl⟩ (q ⟨⟨.inl (.dct (.base (.dK h3))), .inl (.dct _ h3)⟩, rfl⟩ (q ⟨⟨.inl (.str (As.mono (As.of (n := 3) (by decide) (by decide)) (by decide))), .inl (.str _)⟩, by decide +kernel⟩ (q ⟨⟨.inr ⟨_, _, rfl, mH⟩, .inr ⟨_, _, _, _, _, _, _, _, rfl, mH, v7⟩⟩, rfl⟩ (List.forall_mem_nil _))))))))))
    rintro rough ⟨ha, hb⟩
    clear h1 h2 h3 k2 n1 n2 n3 n4 n3' m1 s1 na hp tb it1 D
    fail "go"
    rename_i p1 n1 p2 n2 p3 n3 p4 n4 p5 n5 H3 r2 k3 D3 r20 r21
    have h1 : H3 p1 = some (.tup [.str "Mon,"]) := by fail "h"
    have h2 : H3 p2 = some (.lst [.ref a]) := by fail "h"
    have h4 : H3 p4 = some (.tup [.ref a]) := by fail "h"
    have n3' : p3 ≠ d := by
      obtain ⟨_, _, _, _, g, _⟩ := id D2
      exact Ne.symm (ne_of_none (upd_new n2 (upd_new n1 g)) n3)
    have h3 : H3 p3 = some (.dK []) := k3 _ _ n3' (by fail "h")
    have iS : ∀ {z : Str}, ItS (.str z) := fun {z} => .inl ⟨rfl, by simp [eqV]⟩
    have iR : ∀ {b : Addr}, ItS (.ref b) := fun {b} => .inr ⟨b, rfl⟩
    refine g_ixA (fun v => An K H3 v ∧ Kd K H3 v ∧ v ≠ .non) (by fail "sq") ?_ r20 (by show r2 < 10; exact r21) ?_
    · have q : ∀ {v : V} {vs : List V}, (An K H3 v ∧ Kd K H3 v ∧ v ≠ .non) → (∀ x ∈ vs, An K H3 x ∧ Kd K H3 x ∧ x ≠ .non) → ∀ x ∈ v :: vs, An K H3 x ∧ Kd K H3 x ∧ x ≠ .non := fun a b => List.forall_mem_cons.mpr ⟨a, b⟩
      have mk : ∀ {v : V}, Kd K H3 v → SelfV K H3 v → v ≠ .non → An K H3 v ∧ Kd K H3 v ∧ v ≠ .non := fun a b c => ⟨⟨.inl a, .inl b⟩, a, c⟩
      exact q (mk (.int _) (.int _) (fun e => nomatch e)) (q (mk (.int _) (.int _) (fun e => nomatch e)) (q (mk (.bl _) (.bl _) (fun e => nomatch e)) (q (mk (.str (As.mono (As.of (n := 3) (by decide) (by decide)) (by decide))) (.str _) (fun e => nomatch e)) (q (mk (.tup (.base (.tup h1))) (.tup _ _ h1 (List.forall_mem_cons.mpr ⟨iS, List.forall_mem_nil _⟩)) (fun e => nomatch e))
        (q (mk (.lst (.base (.lst h2))) (.lst _ _ h2 (List.forall_mem_cons.mpr ⟨iR, List.forall_mem_nil _⟩)) (fun e => nomatch e)) (q (mk (.dct (.base (.dK h3))) (.dct _ h3) (fun e => nomatch e)) (q (mk (.bl _) (.bl _) (fun e => nomatch e)) (q (mk (.tup (.base (.tup h4))) (.tup _ _ h4 (List.forall_mem_cons.mpr ⟨iR, List.forall_mem_nil _⟩)) (fun e => nomatch e)) (q (mk (.str (As.mono (As.of (n := 3) (by decide) (by decide)) (by decide))) (.str _) (fun e => nomatch e)) (List.forall_mem_nil _))))))))))
    rintro odd ⟨oa, kdo, on⟩
    have DB := DrawAt.new (o := HO.lst [.int 0, .int 5, .bl true, .str "Mon", .ref p1, .ref p2, .ref p3, .bl false, .ref p4, .str ""]) n5 (DrawAt.new n4 (DrawAt.new n3 (DrawAt.new n2 (DrawAt.new n1 D2))))
    have ra : An K H3 rough := (ha.ext (ExtN.same (by fail "same"))).keep DB k3
    have m3 : Mom K H3 a [.int y, .int mo, .int dd, .int h, .int mi, .int s, .int z] := by
      obtain ⟨C, dx, q, xc, g1, g2⟩ := id mH
      exact ⟨C, dx, q, xc, by fail "h", by fail "h"⟩
    have t3 : Tbs H3 := Tbs.keep k3 DB (Tbs.same (by fail "same") tH)
    have hp3 : SqT K H3 p [.int y, .int mo, .int dd, .int h, .int mi, .int s, .int z] := by fail "sq"
    clear DB h1 h2 h3 h4 n3' k3 n1 n2 n3 n4 n5 hp2 tH mH ha D2 iS iR
    fail "go"
    refine Held.mk ?_
    with_reducible refine g_seq ?_
    refine tv_raise0 (w := "body") (v := rough) t3 rfl m_body ?_ (fun H4 l1 t1 T0 => ?_)
    · intro E1 Q1 H5 e5 t5 rz
      fail "go"
      exact ⟨_, rfl, (ra.ext e5).kd, hb, rz⟩
    with_reducible refine g_seq ?_
    refine tv_raise T0 rfl rfl m_body (by fail "nle") ?_ (fun H4 t2 T1 => ?_)
    · intro E1 Q1 H5 e5 t5 rz
      fail "go"
      exact ⟨_, rfl, (ra.ext e5).kd, hb, rz⟩
    clear T0
    dsimp only [List.cons_append, List.nil_append] at T1
    have hl := T1.hl
    fail "go"
    refine ⟨_, rfl, ⟨_, SqL.of hl⟩, lc_pure (xs := [.ref t1, .ref t2]) walk_list (fun H' s => Same.seq s (SqL.of hl)) (fun _ => true) (fun _ => .str "body") (by fail "nle") (fun _ => rfl) (fun _ _ _ _ => tst_yes) ?_ ?_⟩
    · intro x hx _ H' s' Q1 k1
      obtain ⟨pp, rfl, hpp⟩ := T1.hp x hx
      have hq := s' _ _ hpp
      fail "go"
      exact k1 _ (by fail "same")
    intro Dx Hc nD sc hD
    have hD2 : Hc Dx = some (.lst [.str "body", .str "body"]) := hD
    fail "go"
    refine g_neZ (d := .list [.str "body", .str "body"]) (by fail "dp") (by fail "dp") (by decide +kernel) (Sz.list (Szs.cons (Sz.str (n := 4) (by decide) (by decide)) (Szs.cons (Sz.str (n := 4) (by decide) (by decide)) (Szs.nil)))) (by decide) ?_
    fail "go"
    refine ⟨_, rfl, ⟨_, by fail "sq"⟩, lc_pure (xs := [.ref t1, .ref t2]) walk_list (fun H' s => Same.seq s (by fail "sq")) (fun _ => true) (fun _ => .bl true) (by fail "nle") (fun _ => rfl) (fun _ _ _ _ => tst_yes) ?_ ?_⟩
    · intro x hx _ H' s' Q1 k1
      obtain ⟨pp, rfl, hpp⟩ := T1.hp x hx
      have hq : H' pp = some (.tup [.str "body", rough]) := s' _ _ (by fail "h")
      fail "go"
      refine an_eq T (by omega) (ra.ext (ExtN.tr T1.e (ExtN.same (by fail "same")))) (fun Hz sz => ?_)
      exact k1 _ (by fail "same")
    intro Dy Hd nDy sd hDy
    have hD3 : Hd Dy = some (.lst [.bl true, .bl true]) := hDy
    fail "go"
    refine Held.mk ?_
    with_reducible refine g_seq ?_
    refine tv_raise0 (w := "content") (v := odd) (Tbs.same (H := H4) (by fail "same") T1.t) rfl m_content ?_ (fun H6 l2 u1 T2 => ?_)
    · intro E1 Q1 H5 e5 t5 rz
      have kd := kdo.ext (ExtN.tr (ExtN.tr T1.e (ExtN.same (by fail "same"))) e5)
      fail "go"
      exact ⟨_, rfl, .inr (.inr ⟨on, kd, rz⟩)⟩
    with_reducible refine g_seq ?_
    refine tv_raise T2 rfl rfl m_content (by fail "nle") ?_ (fun H6 u2 T3 => ?_)
    · intro E1 Q1 H5 e5 t5 rz
      have kd := kdo.ext (ExtN.tr (ExtN.tr T1.e (ExtN.same (by fail "same"))) e5)
      fail "go"
      exact ⟨_, rfl, .inr (.inr ⟨on, kd, rz⟩)⟩
    with_reducible refine g_seq ?_
    refine tv_raise T3 rfl rfl m_content (by fail "nle") ?_ (fun H6 u3 T4 => ?_)
    · intro E1 Q1 H5 e5 t5 rz
      have e35 := ExtN.tr (ExtN.tr T1.e (ExtN.same (by fail "same"))) e5
      have mm := m3.ext e35
      obtain ⟨Ca, dxa, qa, xca, haa, hpa⟩ := id mm
      obtain rfl := Value.ref.inj (XN.inj xca o_Moment.xn)
      fail "go"
      exact ⟨_, _, _, _, _, _, _, _, _, rfl, mm, v7, .inr ⟨kdo.ext e35, rz⟩⟩
    with_reducible refine g_seq ?_
    refine tv_raise T4 rfl rfl m_content (by fail "nle") ?_ (fun H6 u4 T5 => ?_)
    · intro E1 Q1 H5 e5 t5 rz
      have e35 := ExtN.tr (ExtN.tr T1.e (ExtN.same (by fail "same"))) e5
      have mm := m3.ext e35
      obtain ⟨Ca, dxa, qa, xca, haa, hpa⟩ := id mm
      obtain rfl := Value.ref.inj (XN.inj xca o_Moment.xn)
      fail "go"
      exact ⟨_, _, _, _, _, _, _, _, _, rfl, mm, v7, .inr ⟨kdo.ext e35, rz⟩⟩
    clear T2 T3 T4
    dsimp only [List.cons_append, List.nil_append] at T5
    have hl5 := T5.hl
    fail "go"
    refine ⟨_, rfl, ⟨_, SqL.of hl5⟩, lc_pure (xs := [.ref u1, .ref u2, .ref u3, .ref u4]) walk_list (fun H' s => Same.seq s (SqL.of hl5)) (fun _ => true) (fun _ => .str "content") (by fail "nle") (fun _ => rfl) (fun _ _ _ _ => tst_yes) ?_ ?_⟩
    · intro x hx _ H' s' Q1 k1
      obtain ⟨pp, rfl, hpp⟩ := T5.hp x hx
      have hq := s' _ _ hpp
      fail "go"
      exact k1 _ (by fail "same")
    intro Ex Hf nE sf hE
    have hE2 : Hf Ex = some (.lst [.str "content", .str "content", .str "content", .str "content"]) := hE
    fail "go"
    refine g_neZ (d := .list [.str "content", .str "content", .str "content", .str "content"]) (by fail "dp") (by fail "dp") (by decide +kernel) (Sz.list (Szs.cons (Sz.str (n := 7) (by decide) (by decide)) (Szs.cons (Sz.str (n := 7) (by decide) (by decide)) (Szs.cons (Sz.str (n := 7) (by decide) (by decide)) (Szs.cons (Sz.str (n := 7) (by decide) (by decide)) (Szs.nil)))))) (by decide) ?_
    fail "go"
    refine ⟨_, rfl, ⟨_, by fail "sq"⟩, lc_pure (xs := [.ref u1, .ref u2, .ref u3, .ref u4]) walk_list (fun H' s => Same.seq s (by fail "sq")) (fun _ => true) (fun _ => .bl true) (by fail "nle") (fun _ => rfl) (fun _ _ _ _ => tst_yes) ?_ ?_⟩
    · intro x hx _ H' s' Q1 k1
      obtain ⟨pp, rfl, hpp⟩ := T5.hp x hx
      have hq : H' pp = some (.tup [.str "content", odd]) := s' _ _ (by fail "h")
      fail "go"
      refine an_eq T (by omega) (oa.ext (ExtN.tr (ExtN.tr (ExtN.tr T1.e (ExtN.same (by fail "same"))) T5.e) (ExtN.same (by fail "same")))) (fun Hz sz => ?_)
      exact k1 _ (by fail "same")
    intro Ey Hg nEy sg hEy
    have hE3 : Hg Ey = some (.lst [.bl true, .bl true, .bl true, .bl true]) := hEy
    fail "go"
    refine Held.mk ?_
    with_reducible refine g_seq ?_
    refine told_raise0 (v := .non) (LamX.ExtN.refl _) (Tbs.same (H := H6) (by fail "same") T5.t) rfl m_content .non ?_ (fun H7 l3 w1 T6 => ?_)
    · intro E1 Q1 H5 e5 t5 rz
      have e35 := ExtN.tr (ExtN.tr (ExtN.tr (ExtN.tr T1.e (ExtN.same (by fail "same"))) T5.e) (ExtN.same (by fail "same"))) e5
      have mm := m3.ext e35
      obtain ⟨Ca, dxa, qa, xca, haa, hpa⟩ := id mm
      obtain rfl := Value.ref.inj (XN.inj xca o_Moment.xn)
      fail "go"
      exact ⟨_, _, _, _, _, _, _, _, _, rfl, mm, v7, .inr ⟨.non, rz⟩⟩
    with_reducible refine g_seq ?_
    refine told_ret (o := .tuple []) T6 rfl rfl rfl (by fail "nle") ?_ (fun H7 w2 T7 => ?_)
    · intro E1 Q1 H5 e5 t5 hq
      fail "go"
      exact ⟨_, rfl, .inl ⟨rfl, fun H' p s' np hp => hq _ _ (by fail "same") (.tup (SqT.of hp) .nil)⟩⟩
    clear T6
    dsimp only [List.cons_append, List.nil_append] at T7
    have hd := T7.dq
    have e37 : LamX.ExtN H3 H7 := ExtN.tr (ExtN.tr (ExtN.tr (ExtN.tr T1.e (ExtN.same (by fail "same"))) T5.e) (ExtN.same (by fail "same"))) T7.e
    have m7 := m3.ext e37
    obtain ⟨u1', u2', u3', u4', u5', u6'⟩ := id v7.v
    have ud : dd ≤ 31 := Int.le_trans u6' (mlen_hi y mo)
    obtain ⟨_, a1, a2, b1, b2, c1, c2, zz1, zz2⟩ := id v7
    clear u6'
    obtain ⟨Ca, dxa, qa, xca, haa, hpa⟩ := id m7
    obtain rfl := Value.ref.inj (XN.inj xca o_Moment.xn)
    fail "go"
    refine ⟨_, rfl, .inr (.inl ⟨a, _, _, _, _, _, _, _, rfl, m7.same (by fail "same"), v7, fun H8 pq x1 x2 x3 x4 x5 x6 s8 h8 hz8 => ?_⟩)⟩
    fail "go"
    refine ⟨_, rfl, .inr (.inl ⟨a, _, _, _, _, _, _, _, rfl, m7.same (by fail "same"), v7, fun H9 pr y1 y2 y3 y4 y5 y6 s9 h9 hz9 => ?_⟩)⟩
    have w1' := hz9 y1 (by simp)
    have w2' := hz9 y2 (by simp)
    have w3' := hz9 y3 (by simp)
    have w4' := hz9 y4 (by simp)
    have w5' := hz9 y5 (by simp)
    have w6' := hz9 y6 (by simp)
    refine ⟨_, pr, [y1, y2, y3, y4, y5, y6], rfl, rfl, .inr (SqT.of h9), ?_, ?_⟩
    · have := w1'.1
      have := w2'.1
      have := w3'.1
      have := w4'.1
      have := w5'.1
      have := w6'.1
      rw [show (Str.ofString " ").length = 1 by decide]
      simp only [List.map_cons, List.map_nil, List.sum_cons, List.sum_nil, List.length_cons, List.length_nil]
      omega
    have aj : As 5000 (Txt.join (Str.ofString " ") [y1, y2, y3, y4, y5, y6]) := by
      rw [TL.join_eq]
      show As 5000 (y1 ++ Str.ofString " " ++ (y2 ++ Str.ofString " " ++ (y3 ++ Str.ofString " " ++ (y4 ++ Str.ofString " " ++ (y5 ++ Str.ofString " " ++ y6)))))
      exact As.mono (by fail "as") (by omega)
    generalize Txt.join (Str.ofString " ") [y1, y2, y3, y4, y5, y6] = J at aj ⊢
    fail "go"
    rename_i HQ sQ pl npl po npo
    refine ⟨_, rfl, ⟨_, by fail "sq"⟩, lc_pure (xs := [odd, rough, .ref pq, .str J, .non, .int y, .ref pl]) walk_list (fun H' s => Same.seq s (by fail "sq")) (fun _ => false) (fun _ => .non) (by fail "nle") (fun _ => rfl) ?_ (fun _ _ h => nomatch h) ?_⟩
    · intro x hx H' s' Q1 k1
      have kx : KdM K H' x := by
        simp only [List.mem_cons, List.mem_nil_iff, or_false] at hx
        rcases hx with rfl | rfl | rfl | rfl | rfl | rfl | rfl
        · exact .inl (kdo.ext (ExtN.snoc e37 (by fail "same")))
        · exact ra.kd.ext (ExtN.snoc e37 (by fail "same"))
        · exact .inl (.tup (by fail "ty"))
        · exact .inl (.str (As.mono aj (by decide)))
        · exact .inl .non
        · exact .inl (.int _)
        · exact .inl (.lst (by fail "ty"))
      have mX : Mom K H' a [.int y, .int mo, .int dd, .int h, .int mi, .int s, .int z] := m7.same (by fail "same")
      rcases kx with kd | ⟨b, ys, rfl, mb⟩
      · have kd' := kd
        cases kd
        all_goals fail "go"
        all_goals refine eq_mom (ns := [y, mo, dd, h, mi, s, z]) (r := false) T (by omega) (mX.same (by fail "same")) (by fail "nle") v7.sm (.inr ⟨kd'.same (by fail "same"), rfl⟩) (b := false) rfl (fun Hb sb => ?_)
        all_goals fail "go"
        all_goals exact k1 _ (by fail "same")
      · obtain ⟨Cb, dxb, qb, xcb, hab, hpb⟩ := mb
        obtain rfl := Value.ref.inj (XN.inj xcb o_Moment.xn)
        fail "go"
        exact k1 _ (by fail "same")
    intro Dz Hz nz sz hz
    have gz : Hz Dz = some (.lst []) := hz
    fail "go"
    exact k _ (ExtN.draw (ExtN.snoc e37 (by fail "same")) D3) (Tbs.same (H := H7) (by fail "same") T7.t)
local macro_rules | `(tactic| fail "call") => `(tactic| ((with_reducible show sp_law_right _ _ _ _ _); refine ⟨_, _, _, _, _, _, _, _, _, _, _, rfl, by with_reducible (fail "dr"), by omega, by fail "sq", by assumption, by fail "tbs", fun H' D' t' => ?_⟩))

def sp_law (K : PySem.W.Frag) : Sp := fun vs H Q _ =>
  ∃ (a : Addr) (ns : List Int), vs = [.ref a] ∧ SqL K H a (ns.map V.int) ∧ ns.length ≤ 63 ∧ Tbs H ∧ ∀ H', Q (.bl true) H'
theorem df_law (T : Txt P K mg base) : Df P w K mg base 14 "law" s_law ["script"] (sp_law K) := by
  have sc := sc_law
  obtain ⟨f, hm, fd, F⟩ := T.d_law
  refine ⟨f, fd, hm, F, okG F sc (by fail "many") (fun cdv A outer s H vs Q E hr h => ?_)⟩
  · obtain ⟨a, ns, rfl, hs, hn, tb, k⟩ := h
    refine ⟨_, (pss_cons (ps_set (i := 1) sc.nd rfl (Or.inl rfl) (pe_callG (sp := sp_law_begin K) (df_law_begin T) hr (by decide) b_law_begin_1_ b_law_begin_1__s (pa_cons (pv 0) pa_nil) pk_nil))
 (pss_cons (ps_for PassesOwn.never rfl (pi_range1 rfl T.b_range (pa_cons (pe_op op_addA pe_int (pe_callB (call_min2 rfl) (by rfl) T.b_min (by decide +kernel) (pa_cons pe_int (pa_cons (pe_callB call_lenA (by rfl) T.b_len (by decide +kernel) (pa_cons (pv 0) pa_nil)) pa_nil)))) pa_nil)) (pg_name (i := 2) sc.nd rfl (Or.inl rfl)) (pss_one (ps_if (pt_not (pt_val (pe_callG (sp := sp_law_right K) (df_law_right T) hr (by decide) b_law_right_2_ b_law_right_2__s (pa_cons (pv 1) (pa_cons (pe_callG (sp := sp_law_seven K) (df_law_seven T) hr (by decide) b_law_seven_1_ b_law_seven_1__s (pa_cons (pv 1) pa_nil) pk_nil) pa_nil)) pk_nil))) (pss_one (ps_ret pe_bl)) pss_nil)))
 (pss_one (ps_ret pe_bl)))), ?_⟩
    dsimp only [cxOf, Cx.wish, L2.start, List.map, List.length, List.replicate, List.append, List.cons_append, List.nil_append, Nat.reduceAdd, Nat.reduceSub, Nat.zero_add]
    fail "go"
    rename_i H0 d c s0 nd D0
    have hj : (5 + if ((ns.map V.int).length : Int) < 4 then ((ns.map V.int).length : Int) else 4) ≤ 9 := by split <;> omega
    have hj0 : 0 ≤ (5 + if ((ns.map V.int).length : Int) < 4 then ((ns.map V.int).length : Int) else 4) := by split <;> omega
    refine ⟨by omega, by omega, for_range (fun i σ H' => (∃ t, σ = [some (.ref a), some (.ref d), t]) ∧ DrawAt K (60 * i) H' d c ∧ Tbs H') ⟨⟨none, rfl⟩, by fail "dr", Tbs.same (H := H) (by fail "same") tb⟩ ?_ ?_⟩
    · rintro i σ H1 hi ⟨⟨t, rfl⟩, D1, tb1⟩
      fail "go"
      exact ⟨⟨_, rfl⟩, by fail "dru", by assumption⟩
    · rintro σ H1 ⟨⟨t, rfl⟩, D1, tb1⟩
      fail "go"
      exact k _
omit [Tb] in
theorem fin_law {h : Heap} {fa : Addr} {p_law_right : Addr × Addr} (X : K.In h) (G : h.Ns mainGlobals mg) (hmg : mg "law" = some (.ref fa)) (t_law_right : IsTab K mg h "_law_right" s_law_right p_law_right) (ne : [p_law_right.2].Nodup) (T0 : Txt0 P K mg) :
    LawT P w K mg 14 63 "script" fa h := by
  letI tbi : Tb := ⟨[(p_law_right.2, ("_law_right" : Str) ++ ".<locals>." ++ "<lambda>")]⟩
  obtain ⟨f0, fd0, e0, F0⟩ := t_law_right.fn
  have TX : ∀ base : Heap, (∀ p ∈ [p_law_right], LamX.TabB base mg p.1 p.2) → Txt P K mg base := fun base B => { toTxt0 := T0, t_law_right := ⟨f0, fd0, _, _, e0, F0, B p_law_right (List.mem_cons_self), (List.mem_cons_self), tb_uniq ne (List.mem_cons_self)⟩ }
  obtain ⟨fd, hb, hF⟩ := endT (sp := sp_law K) hmg T0.d_law (fun _ _ _ _ _ _ _ => rfl) (fun base B => df_law (TX base B))
  exact ⟨fd, [p_law_right], sp_law K, (List.forall_mem_cons.mpr ⟨⟨t_law_right.tb, t_law_right.nl, t_law_right.hd⟩, (List.forall_mem_nil _)⟩), hb, fun H a ns hl ht hS => ⟨a, ns, rfl, hS, hl, (List.forall_mem_cons.mpr ⟨LamX.TabS.nil (ht p_law_right (List.mem_cons_self)), (List.forall_mem_nil _)⟩), fun _ => rfl⟩, fun base k g B => hF base B⟩
end Law
open PySem PySem.W PySem.Calls PyProof.Rows in
set_option maxRecDepth 100000 in
set_option maxHeartbeats 0 in
theorem PySem.Challenge.cw_headerfold_k40_moments_refused_holds : PySem.Challenge.rw_headerfold_k40_moments_refused.Holds := by
  w_on; o_law
  refine HandSHeadRun.head_any (r := OpenLaw.row PySem.Challenge.rw_headerfold_k40_moments_refused) (q := Law.qv) (H := Law.hk) (ob := Law.ob) (M := 40000) (loose := Law.nms) (d := HandSHeadRun.topDef (OpenLaw.row PySem.Challenge.rw_headerfold_k40_moments_refused).prog 72) (kwd := []) Law.ob_eq
    (by kernel_rfl) (fun s => by kernel_rfl) Law.run (by kernel_rfl) (by kernel_rfl) (by kernel_rfl) (by rfl) (by first | assumption | decide +kernel) (by decide +kernel) ⟨rfl, rfl, rfl, rfl, rfl, by decide +kernel⟩ ?hw ?hc
  case hw => w_witness2
  case hc =>
    refine Hf.walkH (l := PySem.Challenge.rw_headerfold_k40_moments_refused) (n := 63) (k := 14) (x := "script") rfl (by decide) (by kernel_rfl) ⟨⟨rfl, by decide, by decide⟩, rfl⟩ ?F
    intro w mg fa h Y G hmg0
    obtain ⟨K, KX, c⟩ := Y
    have hmg : mg ("law" : PySem.Str) = some (.ref fa) := by
      have e : (HandSHeadRun.topDef (OpenLaw.row PySem.Challenge.rw_headerfold_k40_moments_refused).prog 72).name = ("law" : PySem.Str) := by kernel_rfl
      rw [← e]
      exact hmg0
    refine ⟨K, KX, ?_⟩
    have T0 : Law.Txt0 (PySem.Challenge.rw_headerfold_k40_moments_refused).prog K mg := {
      d_law_begin := Hf.fd_fun KX G (c.fc 0) (c.fd 0 (d := Law.D_law_begin)) (c.pl 0 (d := Law.D_law_begin)),
      d_law_mixed := Hf.fd_fun KX G (c.fc 1) (c.fd 1 (d := Law.D_law_mixed)) (c.pl 1 (d := Law.D_law_mixed)),
      d_law_next := Hf.fd_fun KX G (c.fc 2) (c.fd 2 (d := Law.D_law_next)) (c.pl 2 (d := Law.D_law_next)),
      d_is_whole := Hf.fd_fun KX G (c.fc 3) (c.fd 3 (d := Law.D_is_whole)) (c.pl 3 (d := Law.D_is_whole)),
      d_has_leap_day := Hf.fd_fun KX G (c.fc 4) (c.fd 4 (d := Law.D_has_leap_day)) (c.pl 4 (d := Law.D_has_leap_day)),
      d_month_length := Hf.fd_fun KX G (c.fc 5) (c.fd 5 (d := Law.D_month_length)) (c.pl 5 (d := Law.D_month_length)),
      d_first_day := Hf.fd_fun KX G (c.fc 6) (c.fd 6 (d := Law.D_first_day)) (c.pl 6 (d := Law.D_first_day)),
      d_check_year := Hf.fd_fun KX G (c.fc 7) (c.fd 7 (d := Law.D_check_year)) (c.pl 7 (d := Law.D_check_year)),
      d_check_month := Hf.fd_fun KX G (c.fc 8) (c.fd 8 (d := Law.D_check_month)) (c.pl 8 (d := Law.D_check_month)),
      d_check_day := Hf.fd_fun KX G (c.fc 9) (c.fd 9 (d := Law.D_check_day)) (c.pl 9 (d := Law.D_check_day)),
      d_check_number := Hf.fd_fun KX G (c.fc 10) (c.fd 10 (d := Law.D_check_number)) (c.pl 10 (d := Law.D_check_number)),
      d_day_number := Hf.fd_fun KX G (c.fc 11) (c.fd 11 (d := Law.D_day_number)) (c.pl 11 (d := Law.D_day_number)),
      d_date_of := Hf.fd_fun KX G (c.fc 12) (c.fd 12 (d := Law.D_date_of)) (c.pl 12 (d := Law.D_date_of)),
      d_weekday_of := Hf.fd_fun KX G (c.fc 13) (c.fd 13 (d := Law.D_weekday_of)) (c.pl 13 (d := Law.D_weekday_of)),
      d_law_length := Hf.fd_fun KX G (c.fc 14) (c.fd 14 (d := Law.D_law_length)) (c.pl 14 (d := Law.D_law_length)),
      d_law_year := Hf.fd_fun KX G (c.fc 15) (c.fd 15 (d := Law.D_law_year)) (c.pl 15 (d := Law.D_law_year)),
      d_law_date := Hf.fd_fun KX G (c.fc 16) (c.fd 16 (d := Law.D_law_date)) (c.pl 16 (d := Law.D_law_date)),
      d_law_said := Hf.fd_fun KX G (c.fc 17) (c.fd 17 (d := Law.D_law_said)) (c.pl 17 (d := Law.D_law_said)),
      m_Moment___init__ := Hf.fd_meth (Hf.fc_cls KX G (c.fc 42)) (c.fc 18) (c.fd 18 (d := Law.D_Moment___init__)) (c.pl 18 (d := Law.D_Moment___init__)) rfl rfl,
      m_Moment_year := Hf.fd_prop (Hf.fc_cls KX G (c.fc 42)) (c.fc 19) (c.fd 19 (d := Law.D_Moment_year)) (c.pl 19 (d := Law.D_Moment_year)) rfl rfl,
      m_Moment_month := Hf.fd_prop (Hf.fc_cls KX G (c.fc 42)) (c.fc 20) (c.fd 20 (d := Law.D_Moment_month)) (c.pl 20 (d := Law.D_Moment_month)) rfl rfl,
      m_Moment_day := Hf.fd_prop (Hf.fc_cls KX G (c.fc 42)) (c.fc 21) (c.fd 21 (d := Law.D_Moment_day)) (c.pl 21 (d := Law.D_Moment_day)) rfl rfl,
      m_Moment_hour := Hf.fd_prop (Hf.fc_cls KX G (c.fc 42)) (c.fc 22) (c.fd 22 (d := Law.D_Moment_hour)) (c.pl 22 (d := Law.D_Moment_hour)) rfl rfl,
      m_Moment_minute := Hf.fd_prop (Hf.fc_cls KX G (c.fc 42)) (c.fc 23) (c.fd 23 (d := Law.D_Moment_minute)) (c.pl 23 (d := Law.D_Moment_minute)) rfl rfl,
      m_Moment_second := Hf.fd_prop (Hf.fc_cls KX G (c.fc 42)) (c.fc 24) (c.fd 24 (d := Law.D_Moment_second)) (c.pl 24 (d := Law.D_Moment_second)) rfl rfl,
      m_Moment_zone := Hf.fd_prop (Hf.fc_cls KX G (c.fc 42)) (c.fc 25) (c.fd 25 (d := Law.D_Moment_zone)) (c.pl 25 (d := Law.D_Moment_zone)) rfl rfl,
      d_local_seconds := Hf.fd_fun KX G (c.fc 26) (c.fd 26 (d := Law.D_local_seconds)) (c.pl 26 (d := Law.D_local_seconds)),
      m_Moment_weekday := Hf.fd_prop (Hf.fc_cls KX G (c.fc 42)) (c.fc 27) (c.fd 27 (d := Law.D_Moment_weekday)) (c.pl 27 (d := Law.D_Moment_weekday)) rfl rfl,
      m_Moment_instant := Hf.fd_prop (Hf.fc_cls KX G (c.fc 42)) (c.fc 28) (c.fd 28 (d := Law.D_Moment_instant)) (c.pl 28 (d := Law.D_Moment_instant)) rfl rfl,
      m_Moment___eq__ := Hf.fd_meth (Hf.fc_cls KX G (c.fc 42)) (c.fc 29) (c.fd 29 (d := Law.D_Moment___eq__)) (c.pl 29 (d := Law.D_Moment___eq__)) rfl rfl,
      d_law_zone := Hf.fd_fun KX G (c.fc 30) (c.fd 30 (d := Law.D_law_zone)) (c.pl 30 (d := Law.D_law_zone)),
      d_law_seven := Hf.fd_fun KX G (c.fc 31) (c.fd 31 (d := Law.D_law_seven)) (c.pl 31 (d := Law.D_law_seven)),
      d_law_moment := Hf.fd_fun KX G (c.fc 32) (c.fd 32 (d := Law.D_law_moment)) (c.pl 32 (d := Law.D_law_moment)),
      d_law_told := Hf.fd_fun KX G (c.fc 33) (c.fd 33 (d := Law.D_law_told)) (c.pl 33 (d := Law.D_law_told)),
      m_Moment_is_before := Hf.fd_meth (Hf.fc_cls KX G (c.fc 42)) (c.fc 34) (c.fd 34 (d := Law.D_Moment_is_before)) (c.pl 34 (d := Law.D_Moment_is_before)) rfl rfl,
      d_consists_of := Hf.fd_fun KX G (c.fc 35) (c.fd 35 (d := Law.D_consists_of)) (c.pl 35 (d := Law.D_consists_of)),
      d_is_body := Hf.fd_fun KX G (c.fc 36) (c.fd 36 (d := Law.D_is_body)) (c.pl 36 (d := Law.D_is_body)),
      d_read_moment := Hf.fd_fun KX G (c.fc 37) (c.fd 37 (d := Law.D_read_moment)) (c.pl 37 (d := Law.D_read_moment)),
      d_two := Hf.fd_fun KX G (c.fc 38) (c.fd 38 (d := Law.D_two)) (c.pl 38 (d := Law.D_two)),
      d_moment_pieces := Hf.fd_fun KX G (c.fc 39) (c.fd 39 (d := Law.D_moment_pieces)) (c.pl 39 (d := Law.D_moment_pieces)),
      d_law := Hf.fd_fun KX G (c.fc 41) (c.fd 41 (d := Law.D_law)) (c.pl 41 (d := Law.D_law)),
      x_BadBody := Hf.fc_x Hf.xb_VE KX G (c.fc 73) rfl (c.fd 42 (d := Law.X_BadBody)) rfl rfl rfl rfl rfl rfl (by first | rfl | kernel_rfl) ⟨by decide, by decide, by decide, by decide, by decide⟩ (by decide) (fun _ => rfl) (fun _ _ _ _ _ _ _ _ _ => rfl) (fun _ _ _ _ _ _ _ _ _ => rfl),
      x_BadContent := Hf.fc_x Hf.xb_VE KX G (c.fc 74) rfl (c.fd 43 (d := Law.X_BadContent)) rfl rfl rfl rfl rfl rfl (by first | rfl | kernel_rfl) ⟨by decide, by decide, by decide, by decide, by decide⟩ (by decide) (fun _ => rfl) (fun _ _ _ _ _ _ _ _ _ => rfl) (fun _ _ _ _ _ _ _ _ _ => rfl),
      x_BadDate := Hf.fc_x Hf.xb_VE KX G (c.fc 75) rfl (c.fd 44 (d := Law.X_BadDate)) rfl rfl rfl rfl rfl rfl (by first | rfl | kernel_rfl) ⟨by decide, by decide, by decide, by decide, by decide⟩ (by decide) (fun _ => rfl) (fun _ _ _ _ _ _ _ _ _ => rfl) (fun _ _ _ _ _ _ _ _ _ => rfl),
      x_BadHeader := Hf.fc_x Hf.xb_VE KX G (c.fc 76) rfl (c.fd 45 (d := Law.X_BadHeader)) rfl rfl rfl rfl rfl rfl (by first | rfl | kernel_rfl) ⟨by decide, by decide, by decide, by decide, by decide⟩ (by decide) (fun _ => rfl) (fun _ _ _ _ _ _ _ _ _ => rfl) (fun _ _ _ _ _ _ _ _ _ => rfl),
      x_BadNumber := Hf.fc_x Hf.xb_VE KX G (c.fc 77) rfl (c.fd 46 (d := Law.X_BadNumber)) rfl rfl rfl rfl rfl rfl (by first | rfl | kernel_rfl) ⟨by decide, by decide, by decide, by decide, by decide⟩ (by decide) (fun _ => rfl) (fun _ _ _ _ _ _ _ _ _ => rfl) (fun _ _ _ _ _ _ _ _ _ => rfl),
      x_BadText := Hf.fc_x Hf.xb_VE KX G (c.fc 78) rfl (c.fd 47 (d := Law.X_BadText)) rfl rfl rfl rfl rfl rfl (by first | rfl | kernel_rfl) ⟨by decide, by decide, by decide, by decide, by decide⟩ (by decide) (fun _ => rfl) (fun _ _ _ _ _ _ _ _ _ => rfl) (fun _ _ _ _ _ _ _ _ _ => rfl),
      x_BadWidth := Hf.fc_x Hf.xb_VE KX G (c.fc 79) rfl (c.fd 48 (d := Law.X_BadWidth)) rfl rfl rfl rfl rfl rfl (by first | rfl | kernel_rfl) ⟨by decide, by decide, by decide, by decide, by decide⟩ (by decide) (fun _ => rfl) (fun _ _ _ _ _ _ _ _ _ => rfl) (fun _ _ _ _ _ _ _ _ _ => rfl),
      x_NoCode := Hf.fc_x Hf.xb_LE KX G (c.fc 80) rfl (c.fd 49 (d := Law.X_NoCode)) rfl rfl rfl rfl rfl rfl (by first | rfl | kernel_rfl) ⟨by decide, by decide, by decide, by decide, by decide⟩ (by decide) (fun _ => rfl) (fun _ _ _ _ _ _ _ _ _ => rfl) (fun _ _ _ _ _ _ _ _ _ => rfl),
      n_AbsentError := Hf.fc_nm KX G (c.fc 70),
      n_HeaderError := Hf.fc_nm KX G (c.fc 71),
      n_LetterError := Hf.fc_nm KX G (c.fc 72),
      e_BadBody := Hf.fc_exm (c.fc 81),
      e_BadContent := Hf.fc_exm (c.fc 82),
      e_BadDate := Hf.fc_exm (c.fc 83),
      e_BadNumber := Hf.fc_exm (c.fc 84),
      i_BadBody_BadBody := Hf.fc_kit (c.fc 85),
      i_BadBody_BadContent := Hf.fc_kit (c.fc 86),
      i_BadBody_BadDate := Hf.fc_kit (c.fc 87),
      i_BadBody_BadHeader := Hf.fc_kit (c.fc 88),
      i_BadBody_BadNumber := Hf.fc_kit (c.fc 89),
      i_BadBody_BadText := Hf.fc_kit (c.fc 90),
      i_BadBody_BadWidth := Hf.fc_kit (c.fc 91),
      i_BadBody_LookupError := Hf.fc_kitT (c.fc 92),
      i_BadBody_NoCode := Hf.fc_kit (c.fc 93),
      i_BadBody_RuntimeError := Hf.fc_kitT (c.fc 94),
      i_BadBody_ValueError := Hf.fc_kitT (c.fc 95),
      i_BadContent_BadBody := Hf.fc_kit (c.fc 96),
      i_BadContent_BadContent := Hf.fc_kit (c.fc 97),
      i_BadContent_BadDate := Hf.fc_kit (c.fc 98),
      i_BadContent_BadHeader := Hf.fc_kit (c.fc 99),
      i_BadContent_BadNumber := Hf.fc_kit (c.fc 100),
      i_BadContent_BadText := Hf.fc_kit (c.fc 101),
      i_BadContent_BadWidth := Hf.fc_kit (c.fc 102),
      i_BadContent_LookupError := Hf.fc_kitT (c.fc 103),
      i_BadContent_NoCode := Hf.fc_kit (c.fc 104),
      i_BadContent_RuntimeError := Hf.fc_kitT (c.fc 105),
      i_BadContent_ValueError := Hf.fc_kitT (c.fc 106),
      i_BadDate_BadBody := Hf.fc_kit (c.fc 107),
      i_BadDate_BadContent := Hf.fc_kit (c.fc 108),
      i_BadDate_BadDate := Hf.fc_kit (c.fc 109),
      i_BadDate_BadHeader := Hf.fc_kit (c.fc 110),
      i_BadDate_BadNumber := Hf.fc_kit (c.fc 111),
      i_BadDate_BadText := Hf.fc_kit (c.fc 112),
      i_BadDate_BadWidth := Hf.fc_kit (c.fc 113),
      i_BadDate_LookupError := Hf.fc_kitT (c.fc 114),
      i_BadDate_NoCode := Hf.fc_kit (c.fc 115),
      i_BadDate_RuntimeError := Hf.fc_kitT (c.fc 116),
      i_BadDate_ValueError := Hf.fc_kitT (c.fc 117),
      i_BadNumber_BadBody := Hf.fc_kit (c.fc 118),
      i_BadNumber_BadContent := Hf.fc_kit (c.fc 119),
      i_BadNumber_BadDate := Hf.fc_kit (c.fc 120),
      i_BadNumber_BadHeader := Hf.fc_kit (c.fc 121),
      i_BadNumber_BadNumber := Hf.fc_kit (c.fc 122),
      i_BadNumber_BadText := Hf.fc_kit (c.fc 123),
      i_BadNumber_BadWidth := Hf.fc_kit (c.fc 124),
      i_BadNumber_LookupError := Hf.fc_kitT (c.fc 125),
      i_BadNumber_NoCode := Hf.fc_kit (c.fc 126),
      i_BadNumber_RuntimeError := Hf.fc_kitT (c.fc 127),
      i_BadNumber_ValueError := Hf.fc_kitT (c.fc 128),
      o_Moment := ⟨_, Hf.fc_cls KX G (c.fc 42)⟩,
      a_Moment_row := Hf.fc_noatC (Hf.fc_cls KX G (c.fc 42)) (c.fc 43),
      ne_Moment := Hf.fc_nebC (Hf.fc_cls KX G (c.fc 42)) (c.fc 44),
      b_LookupError := Hf.fc_free KX G (c.fc 45),
      b_RuntimeError := Hf.fc_free KX G (c.fc 46),
      b_ValueError := Hf.fc_free KX G (c.fc 47),
      b_abs := Hf.fc_free KX G (c.fc 48),
      b_all := Hf.fc_free KX G (c.fc 49),
      b_bool := Hf.fc_free KX G (c.fc 50),
      b_int := Hf.fc_free KX G (c.fc 51),
      b_isinstance := Hf.fc_free KX G (c.fc 52),
      b_len := Hf.fc_free KX G (c.fc 53),
      b_list := Hf.fc_free KX G (c.fc 54),
      b_min := Hf.fc_free KX G (c.fc 55),
      b_range := Hf.fc_free KX G (c.fc 56),
      b_repr := Hf.fc_free KX G (c.fc 57),
      b_str := Hf.fc_free KX G (c.fc 58),
      b_sum := Hf.fc_free KX G (c.fc 59),
      c_LAST_YEAR := Hf.fc_con KX G (c.fc 60),
      c_LENGTHS := Hf.fc_tup KX G (c.fc 61),
      c_CYCLE_YEARS := Hf.fc_con KX G (c.fc 62),
      c_CYCLE_DAYS := Hf.fc_con KX G (c.fc 63),
      c_LAST_DAY := Hf.fc_con KX G (c.fc 64),
      c_MARKS := Hf.fc_con KX G (c.fc 65),
      c_WEEKDAYS := Hf.fc_tup KX G (c.fc 66),
      c_MONTHS := Hf.fc_tup KX G (c.fc 67),
      c_DAY_SECONDS := Hf.fc_con KX G (c.fc 68),
      c_MOST_ZONE := Hf.fc_con KX G (c.fc 69) }
    exact Law.fin_law (p_law_right := He.cT K ("_law_right", none)) KX G hmg (Hf.fd_tab KX G c (by simp [Law.tf]) (c.fc 40) (c.fd 40 (d := Law.D_law_right)) (c.pl 40 (d := Law.D_law_right))) c.nd T0
