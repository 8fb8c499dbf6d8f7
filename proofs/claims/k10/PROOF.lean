import PyProof.Rows.All
import Wide.All
import OpenK.AllK
import Wide.FinOn
import HandS.ForMost
import HandS.Flow
import KE.KExcSuper
import KE.KExcIs
import KE.KExcInit
import KE.KTryMore
import HandS.Exc
import HandS.IsInst
import HandS.TupAny
import HandS.TupMul
import HandS.Steps
import HandS.Conv
import HandS.Codes
import HandS.StrMore
import HandS.Style
import HandS.Walk
import PyProof.ReprRoads
import PyProof.StrLawsRepr
import KE.GoesMore
import PyProof.StrLawsIn
import HandS.ExcValue
import HandS.SetFor
import PyProof.EqKinds
import HandS.Lambda
import KE.KNestM
import HandS.Property
import HandS.Defaults
import HandS.OwnEq
import HandS.NoneIn
import PyProof.InstEq
import KE.KOpsOwn
import HandS.SlotsOwn
import HandS.Wide
import HandS.More
import HandS.ClsMeth
import HandS.HeadNt
import OpenK.KOps
import KE.KCallOwn
import HandS.MakeKw
import PyProof.EnumMake
import OpenK.KMeth
import HandS.Star
import HandS.Replace
import HandS.Zip
import KE.GoesZip
import KE.KDflt
import PyProof.StrBlock2
import HandS.Head2
import HandS.HeadHook4
import PySem.Challenge.RW_headerfold_k10_payloads_read
set_option Elab.async false
set_option linter.all false
set_option maxRecDepth 100000
set_option maxHeartbeats 4000000
namespace Hf
open PySem L2 PySem.Spec PyProof.Rows

/-! ### calls where nothing is being shown (repr's own guard list is known) -/
structure RG (k : Nat) (A : Around) : Prop where
  rm : Room k A
  gd : A.guards = some []
theorem RG.mono {j k : Nat} {A : Around} (r : RG k A) (h : j ≤ k) : RG j A := ⟨r.rm.mono h, r.gd⟩
theorem RG.deeper {k : Nat} {A : Around} (r : RG (k + 1) A) (env : Env) : RG k (A.deeper env) := ⟨r.rm.deeper env, r.gd⟩
structure FnG (P : Program) (w : World) (K : PySem.W.Frag) (mg : Str → Option Value) (base : Heap) (CX : CXT) (k : Nat) (f : Addr) (fd : FuncData) (ps : List Str) (sp : Sp) : Prop where
  many : ∀ xs H Q E, sp xs H Q E → xs.length = ps.length
  go : ∀ (A : Around) (outer : List Env) (s : Shared) (H : Hp) (args : Args) (us : List Value) (xs : List V) (Q : VK) (E : XK), RG k A → Env0 P w K mg base A outer s H → BindsTo s fd args (ps.zip us) →
    Vals xs us → sp xs H Q E → codeAny (model P w) A (.call (.ref f) args) (CR CX outer P w H s Q E) s
section
variable {P : Program} {w : World} {K : PySem.W.Frag} {mg : Str → Option Value} {base : Heap}
theorem FnG.mono {CX : CXT} {j k : Nat} {f : Addr} {fd : FuncData} {ps : List Str} {sp : Sp} (F : FnG P w K mg base CX j f fd ps sp) (h : j ≤ k) : FnG P w K mg base CX k f fd ps sp :=
  ⟨F.many, fun A outer s H args us xs Q E r => F.go A outer s H args us xs Q E (r.mono h)⟩
theorem FnG.imp {CX : CXT} {k : Nat} {f : Addr} {fd : FuncData} {ps : List Str} {sp sp' : Sp} (F : FnG P w K mg base CX k f fd ps sp) (h : ∀ xs H Q E, sp' xs H Q E → sp xs H Q E) : FnG P w K mg base CX k f fd ps sp' :=
  ⟨fun xs H Q E q => F.many xs H Q E (h _ _ _ _ q), fun A outer s H args us xs Q E r e0 b v q => F.go A outer s H args us xs Q E r e0 b v (h _ _ _ _ q)⟩
/-- a def of the text, by its body -/
theorem fnG_of {CX : CXT} {k : Nat} {f : Addr} {name qual : Str} {pa : Arguments} {bd : List Stmt} {sc : Scope} {dV kV doc pm cdv ct oc : Value} {an od : Option Addr} {osl : Array (Option Value)} {N ps : List Str} {sp : Sp}
    (lk : K.lookup f = some ⟨oc, od, .func (PySem.W.fnOf name qual pa bd sc dV kV doc pm an cdv ct), osl⟩) (hcd : PySem.W.codeIn K cdv qual = true) (S : FnScope N ps sc) (many : ∀ xs H Q E, sp xs H Q E → xs.length = ps.length)
    (hb : ∀ (A : Around) (outer : List Env) (s : Shared) (H : Hp) (xs : List V) (Q : VK) (E : XK), RG k (A.deeper (envOfC qual sc s.heap.objs.size f cdv)) → sp xs H Q E →
      ∃ t, PSs (cxOf CX P w K mg base N qual sc f cdv A outer s H E) bd t ∧ t { nx := fun _ H' => Q .non H', rt := Q } (start N xs) H) :
    FnG P w K mg base CX (k + 1) f (PySem.W.fnOf name qual pa bd sc dV kV doc pm an cdv ct) ps sp := by
  refine ⟨many, ?_⟩
  intro A outer s H args us xs Q E r e0 bt rv q
  have n1 := many _ _ _ _ q
  have kin : K.In s.heap := e0.mod.kin.keeps (fun b o z => (e0.bs b o z).1)
  have lim : s.heap.NoLimit := e0.mod.nolimit.keeps (fun b o z => (e0.bs b o z).1)
  have kinds : ∀ y ∈ ps.zip us, sc.names.lookup y.1 = some .local ∨ (sc.names.lookup y.1 = some .cell ∧ ((cellsFrom (s.heap.objs.size + 1) sc.names []).lookup y.1).isSome = true) := by
    rintro ⟨n, v⟩ hy
    rcases S.par n (List.of_mem_zip hy).1 with z | z
    · left; exact z
    · right; exact ⟨z, PySem.W.cellsFrom_some _ _ _ (.inl z)⟩
  refine codeAny_call_function r.rm.depth (kin _ _ lk) rfl S.co S.gen rfl (PySem.W.codeRec_of kin hcd) (bt _ _ _ _ ?_)
  refine wpAny_newFunctionEnv_cells S.kind kinds ?_
  intro env he s1 x
  subst he
  refine ⟨lim.keeps x.toInCall.keep, codeAny_func ?_⟩
  obtain ⟨t, ht, hq⟩ := hb A outer s H xs Q E (r.deeper _) q
  have I := inv_start (CX := CX) (E := E) (qual := qual) (f := f) (cd := cdv) S r.rm.hd e0 n1 rv x
  refine wpAny_mono (ht.run [] s1 (start N xs) H _ I hq) ?_ (fun e s' z => z)
  intro fl s' z
  match fl, z with
  | .ret u, ⟨v, σ', H', J, rv', q'⟩ => exact ⟨v, H', J.os, J.bare, J.base, J.hok, rv', q'⟩
  | .next, ⟨σ', H', J, q'⟩ => exact ⟨V.non, H', J.os, J.bare, J.base, J.hok, rfl, q'⟩
  | .brk, ⟨_, _, _, q'⟩ => exact q'.elim
  | .cont, ⟨_, _, _, q'⟩ => exact q'.elim
/-- .. that lets no exception out -/
theorem okG {x qual : Str} {st : Stmt} {f : Addr} {fd : FuncData} {N ps : List Str} {k : Nat} {sp : Sp} (F : Fun K x qual st f fd) (S : FnScope N ps (defScope st)) (many : ∀ xs H Q E, sp xs H Q E → xs.length = ps.length)
    (hb : ∀ (cdv : Value) (A : Around) (outer : List Env) (s : Shared) (H : Hp) (xs : List V) (Q : VK) (E : XK), RG k (A.deeper (envOfC qual (defScope st) s.heap.objs.size f cdv)) → sp xs H Q E →
      ∃ t, PSs (cxOf CX0 P w K mg base N qual (defScope st) f cdv A outer s H E).nox (defBody st) t ∧ t { nx := fun _ H' => Q .non H', rt := Q } (start N xs) H) : FnG P w K mg base CX0 (k + 1) f fd ps sp := by
  obtain ⟨oc, od, kV, doc, pm, an, cdv, ct, osl, rfl, lk, hcd⟩ := F.ex
  refine fnG_of lk hcd S many ?_
  intro A outer s H xs Q E r q
  obtain ⟨t, h, z⟩ := hb cdv A outer s H xs Q E r q
  exact ⟨t, h.nox, z⟩
end

/-! ### calls by name -/
/-- how n positional values and the keywords ks come to the parameters -/
def Bnd (st : Stmt) (x qual : Str) (ps : List Str) (n : Nat) (ks : List Str) (g : {α : Type} → List α → List α → List α) : Prop :=
  ∀ (kV doc pm : Value) (an : Option Addr) (cdv ct : Value) (us ws : List Value), us.length = n → ws.length = ks.length →
    bindArgs (PySem.W.fnOf x qual (defArgs st) (defBody st) (defScope st) .none kV doc pm an cdv ct) ⟨us, ks.zip ws⟩ = pure (ps.zip (g us ws)) ∧ (g us ws).length = ps.length
/-- g is a shuffle: it hands on what stands in pairs -/
def Shuf (n m : Nat) (g : {α : Type} → List α → List α → List α) : Prop :=
  ∀ (xs : List V) (us : List Value) (zs : List V) (ws : List Value), Vals xs us → Vals zs ws → us.length = n → ws.length = m → Vals (g xs zs) (g us ws)
def tCallG (n m : Nat) (sp : Sp) (g : List V → List V → List V) (t tk : TA) : TE := fun σ H Q => t σ H fun xs H1 => tk σ H1 fun zs H2 => xs.length = n ∧ zs.length = m ∧ sp (g xs zs) H2 Q E0
/-- a def of the module under its name, with its promise -/
structure Df (P : Program) (w : World) (K : PySem.W.Frag) (mg : Str → Option Value) (base : Heap) (k : Nat) (x : Str) (st : Stmt) (ps : List Str) (sp : Sp) : Prop where
  ex : ∃ (f : Addr) (fd : FuncData), mg x = some (.ref f) ∧ Fun K x x st f fd ∧ FnG P w K mg base CX0 k f fd ps sp
section
variable {X : Cx} {k j n m : Nat} {ps ks : List Str} {sp : Sp} {x : Str} {st : Stmt} {p pos : Pos} {e : Expr} {es : List Expr} {kws : List Keyword} {t tk : TA} {g : {α : Type} → List α → List α → List α}
theorem goG {qual : Str} {pins : List (Addr × Obj)} {σ : L2.St} {H : Hp} {s : Shared} {Q : VK} {f : Addr} {fd : FuncData} {us ws : List Value} {xs zs : List V} (F : FnG X.prog X.w X.K X.mg X.base CX0 k f fd ps sp) (U : Fun X.K x qual st f fd)
    (hr : RG k X.A) (hb : Bnd st x qual ps n ks g) (hs : Shuf n ks.length g) (I : Inv X pins σ H s) (r : Vals xs us) (rz : Vals zs ws) (hn : xs.length = n) (hm : zs.length = ks.length) (q : sp (g xs zs) H Q E0) :
    wpAny (model X.prog X.w) X.A (call (.ref f) us (ks.zip ws)) (EP X pins σ Q) X.xe s := by
  obtain ⟨oc, od, kV, doc, pm, an, cdv, ct, osl, rfl, lk, hcd⟩ := U.ex
  have l1 : us.length = n := r.length ▸ hn
  have l2 : ws.length = ks.length := rz.length ▸ hm
  refine wpAny_call (codeAny_mono (F.go X.A X.stack s H ⟨us, ks.zip ws⟩ (g us ws) (g xs zs) Q E0 hr I.env0 (.of_eq (hb kV doc pm an cdv ct us ws l1 l2).1) (hs _ _ _ _ r rz l1 l2) q) ?_)
  intro res s' z
  match res, z with
  | .error e, z => exact z.elim
  | .ok (.ret u), z => exact I.after z
  | .ok .next, z => exact z.elim
  | .ok .brk, z => exact z.elim
  | .ok .cont, z => exact z.elim
theorem pe_callG (D : Df X.prog X.w X.K X.mg X.base k x st ps sp) (hr : RG j X.A) (hj : k ≤ j) (hb : Bnd st x x ps n ks g) (hs : Shuf n ks.length g) (ha : PA X (e :: es) t) (hkw : PK X kws tk) (hg : Gl X x := by rfl)
    (hall : (backToKw pos (keywordEach kws X.env)).all (·.1.isSome) = true := by rfl) (hks : (backToKw pos (keywordEach kws X.env)).filterMap (·.1) = ks := by rfl) (hdb : (x == ("__debug__" : Str)) = false := by decide)
    (he : starEach (e :: es) X.env = (false, eval e X.env) :: starEach es X.env := by rfl) (hpl : ((backTo pos (starEach (e :: es) X.env)).any (·.1) || (backToKw pos (keywordEach kws X.env)).any (·.1.isNone)) = false := by rfl) :
    PE X (.Call (.Name x p) (e :: es) kws pos) (tCallG n ks.length sp (fun a b => g a b) t tk) := by
  obtain ⟨f, fd, hm, U, F⟩ := D.ex
  refine ⟨?_⟩
  intro pins s σ H Q I h
  refine wpAny_Call_Name_kw (ld_glob I hg hm ?_ hdb)
  refine PySem.W.callWith_KW (h₀ := X.base) I.ok.mod.kin U.kp hall ?_ hpl he
  refine thn (ha.run pos pins s σ H _ I h) ?_
  rintro us s1 ⟨xs, H1, I1, r, q⟩
  refine thn (hkw.run pos pins s1 σ H1 _ I1 q) ?_
  rintro ws s2 ⟨zs, H2, I2, rz, q1, q2, q3⟩
  refine ⟨I2.kIn, ?_⟩
  rw [hks]
  exact goG F U (hr.mono hj) hb hs I2 r rz q1 q2 q3
theorem pe_callG0 (D : Df X.prog X.w X.K X.mg X.base k x st ps sp) (hr : RG j X.A) (hj : k ≤ j) (hb : Bnd st x x ps 0 ks g) (hs : Shuf 0 ks.length g) (hkw : PK X kws tk) (hg : Gl X x := by rfl)
    (hall : (backToKw pos (keywordEach kws X.env)).all (·.1.isSome) = true := by rfl) (hks : (backToKw pos (keywordEach kws X.env)).filterMap (·.1) = ks := by rfl) (hdb : (x == ("__debug__" : Str)) = false := by decide)
    (hpl : ((backTo pos (starEach [] X.env)).any (·.1) || (backToKw pos (keywordEach kws X.env)).any (·.1.isNone)) = false := by rfl) :
    PE X (.Call (.Name x p) [] kws pos) (tCallG 0 ks.length sp (fun a b => g a b) tNil tk) := by
  obtain ⟨f, fd, hm, U, F⟩ := D.ex
  refine ⟨?_⟩
  intro pins s σ H Q I h
  refine wpAny_Call_Name_kw (ld_glob I hg hm ?_ hdb)
  refine PySem.W.callWith_KW0 (h₀ := X.base) I.ok.mod.kin U.kp hall ?_ hpl
  refine thn (hkw.run pos pins s σ H _ I h) ?_
  rintro ws s2 ⟨zs, H2, I2, rz, q1, q2, q3⟩
  refine ⟨I2.kIn, ?_⟩
  rw [hks]
  exact goG F U (hr.mono hj) hb hs I2 .nil rz q1 q2 q3
end
/-! ### how many values -/
theorem vals_0 {xs : List V} {us : List Value} (r : Vals xs us) (h : us.length = 0) : xs = [] ∧ us = [] := by
  cases r with
  | nil => exact ⟨rfl, rfl⟩
  | cons _ _ => exact nomatch h
theorem vals_S {n : Nat} {xs : List V} {us : List Value} (r : Vals xs us) (h : us.length = n + 1) : ∃ x u xs' us', xs = x :: xs' ∧ us = u :: us' ∧ RelV x u ∧ Vals xs' us' ∧ us'.length = n := by
  cases r with
  | nil => exact nomatch h
  | cons a b => exact ⟨_, _, _, _, rfl, rfl, a, b, Nat.succ.inj h⟩
end Hf

set_option Elab.async false
set_option linter.all false
set_option maxRecDepth 100000
set_option maxHeartbeats 4000000
namespace Hf
open PySem L2 PySem.Spec PyProof.Rows

/-! ### the end of a law -/
theorem lawG {P : Program} {w : World} {K : PySem.W.Frag} {mg mb : Str → Option Value} {k : Nat} {fa a : Addr} {fd : FuncData} {x : Str} {sp : Sp} {s₁ : Shared} {vs : List Value} {ns : List Int}
    (kin : K.In s₁.heap) (gl : s₁.heap.Ns mainGlobals mg) (bl : s₁.heap.Ns builtinsNs mb) (bb : ∀ x : Str, x ≠ "__name__" → mb x = bootBuiltins x) (lim : s₁.heap.NoLimit) (gn : s₁.gens = #[])
    (oa : s₁.heap.get? a = some { cls := .type "list", data := .seq vs.toArray }) (it : IntsAre vs ns) (sz : ns.length ≤ sizeLine) (rm : RG k callerA)
    (F : ∀ base : Heap, K.In base → base.Ns mainGlobals mg → FnG P w K mg base CX0 k fa fd [x] sp) (bd : ∀ (s : Shared) (u : Value), BindsTo s fd ⟨[u], []⟩ [(x, u)])
    (top : ∀ H : Hp, Only H → SqL K H a (ns.map V.int) → sp [.ref a] H (fun v _ => v = .bl true) E0) :
    codeAny (model P w) callerA (.call (.ref fa) ⟨[.ref a], []⟩) (fun r s' => r = .ok (.ret (.bool true)) ∧ OldK s₁.heap s'.heap ∧ s'.os = s₁.os ∧ AllBare s'.gens) s₁ := by
  have rv : Vals (ns.map V.int) vs := vals_ints it
  have n1 : vs.length = ns.length := it.length
  -- one abstract heap, in which at most the script is told
  have one : ∀ H : Hp, Only H → SqL K H a (ns.map V.int) → HOk P w H s₁.heap → (∀ b, H b ≠ none → b = a) → (H a ≠ none → K.lookup a = none) →
      codeAny (model P w) callerA (.call (.ref fa) ⟨[.ref a], []⟩) (fun r s' => r = .ok (.ret (.bool true)) ∧ OldK s₁.heap s'.heap ∧ s'.os = s₁.os ∧ AllBare s'.gens) s₁ := by
    intro H only seq hok at_a k_a
    have dictFree : ∀ b o es ep, s₁.heap.get? b = some o → o.data = .dict es ep → H b = none := by
      intro b o es ep ho hd
      refine Classical.byContradiction (fun hn => ?_)
      have eb := at_a b hn
      subst eb
      rw [oa] at ho
      have ho' := Option.some.inj ho
      subst ho'
      exact nomatch hd
    have nsOf : ∀ b m, s₁.heap.Ns b m → (hidT s₁.heap H).Ns b m := by
      rintro b m ⟨o, es, ep, h1, h2, h3⟩
      exact ⟨o, es, ep, hidT_get h1 (dictFree b o es ep h1 h2), h2, h3⟩
    have kinB : K.In (hidT s₁.heap H) := by
      intro b o hb
      refine hidT_get (kin b o hb) (Classical.byContradiction (fun hn => ?_))
      have eb := at_a b hn
      subst eb
      rw [k_a hn] at hb
      exact nomatch hb
    have md : Mod K mg (hidT s₁.heap H) := by
      obtain ⟨mc, c1, c2⟩ := lim
      exact ⟨kinB, nsOf _ _ gl, ⟨mb, nsOf _ _ bl, bb⟩, ⟨mc, nsOf _ _ c1, c2⟩⟩
    have e0 : Env0 P w K mg (hidT s₁.heap H) callerA [] s₁ H := ⟨rfl, md, fun b o z => of_hidT z, Nat.le_of_eq (hidT_size _ _), trivial, fun b hb => (List.not_mem_nil hb).elim, hok, .of_eq gn⟩
    refine codeAny_mono ((F _ kinB (nsOf _ _ gl)).go callerA [] s₁ H ⟨[.ref a], []⟩ [.ref a] [.ref a] _ _ rm e0 (bd s₁ (.ref a)) (.cons rfl .nil) (top H only seq)) ?_
    intro r s' z
    match r, z with
    | .error e, z => exact z.elim
    | .ok .next, z => exact z.elim
    | .ok .brk, z => exact z.elim
    | .ok .cont, z => exact z.elim
    | .ok (.ret u), ⟨v, H', os, bare, un, hok', rr, ev⟩ =>
      have ev' : v = .bl true := ev
      subst ev'
      have eu : u = Value.bool true := rr
      subst eu
      refine ⟨rfl, OldK.of_keep (fun b o hb => ?_), os, bare⟩
      cases q : H b with
      | none => exact un.keep b o hb q (fun z => (List.not_mem_nil z).elim) (fun z => (List.not_mem_nil z).elim)
      | some u =>
        rcases only b with z | ⟨ob, xs, z⟩
        · rw [q] at z; exact nomatch z
        · obtain ⟨e1, _⟩ := hok b _ z
          obtain ⟨e2, _⟩ := hok' b _ (un.frzs b ob _ z)
          rw [hb] at e1
          have e1' := Option.some.inj e1
          subst e1'
          exact e2
  by_cases hk : K.lookup a = none
  · refine one (fun b => if b = a then some (.frz { cls := .type "list", data := .seq vs.toArray } (.lst (ns.map V.int))) else none) ?_ ?_ ?_ ?_ (fun _ => hk)
    · intro b
      by_cases hb : b = a
      · right; exact ⟨_, _, if_pos hb⟩
      · left; exact if_neg hb
    · left; right; exact ⟨_, if_pos rfl⟩
    · intro b u z
      by_cases hb : b = a
      · subst hb
        have z' := Option.some.inj ((if_pos rfl).symm.trans z)
        subst z'
        exact ⟨oa, by rw [List.length_map]; exact sz, vs, _, rv, oa⟩
      · exact nomatch ((if_neg hb).symm.trans z)
    · intro b z
      exact Classical.byContradiction fun hb => z (if_neg hb)
  · obtain ⟨o, ho⟩ := Option.ne_none_iff_exists'.mp hk
    have eo := kin a o ho
    rw [oa] at eo
    have eo' := Option.some.inj eo
    subst eo'
    refine one (fun _ => none) (fun _ => .inl rfl) (.inr ⟨_, vs.toArray, _, ho, rfl, rfl, rfl, by rw [List.size_toArray, n1]; exact sz, by simpa using rv⟩) (fun _ _ z => nomatch z) (fun _ z => (z rfl).elim) (fun z => (z rfl).elim)
theorem walkG {l : PySem.W.OpenLaw} {n k : Nat} {q : Program} {loose : List Str} {XP : (Str → Option Value) → Heap → Prop} {YP : World → Heap → Prop} {d : DefRec} {K : Params → PySem.W.Frag} {sp : World → Sp} {x : Str}
    (hn : l.most = some n) (hn2 : n ≤ sizeLine) (hdf : d.params.defaults = []) (rm : RG k callerA) (hY : ∀ (w : World) (h : Heap), YP w h → (K w.params).In h)
    (F : ∀ (w : World) (mg : Str → Option Value) (fa : Addr) (h : Heap), (K w.params).In h → h.Ns mainGlobals mg → mg d.name = some (.ref fa) →
      ∃ fd : FuncData, (∀ (s : Shared) (u : Value), BindsTo s fd ⟨[u], []⟩ [(x, u)]) ∧ ∀ base : Heap, (K w.params).In base → base.Ns mainGlobals mg → FnG l.prog w (K w.params) mg base CX0 k fa fd [x] (sp w))
    (top : ∀ (w : World) (H : Hp) (a : Addr) (ns : List Int), ns.length ≤ n → Only H → SqL (K w.params) H a (ns.map V.int) → sp w [.ref a] H (fun v _ => v = .bl true) E0) :
    PySem.W.WalkO q loose XP YP l.row.toRowW d [] (fun f vs => PySem.call f vs) := by
  refine Att.attach_call hn hdf ?_
  intro w s₀ s₁ mg mb fa o pm cd doc a vs ns G Y ho hd hcd hmg hobj hints hlen hg
  have kin := hY w _ Y
  obtain ⟨fd, hb, hF⟩ := F w mg fa _ kin G.T.g hmg
  exact lawG kin G.T.g G.T.b G.T.builtins G.T.nolimit hg hobj hints (Nat.le_trans hlen hn2) rm hF hb (fun H hO hS => top w H a ns hlen hO hS)


/-! ### repr of data -/
mutual
theorem dp_plain {K : PySem.W.Frag} {H : Hp} : ∀ (d : PyData) (v : V), Dp K H v d → d.hasDict = false
  | .none, _, _ => by simp only [PyData.hasDict]
  | .bool _, _, _ => by simp only [PyData.hasDict]
  | .int _, _, _ => by simp only [PyData.hasDict]
  | .str _, _, _ => by simp only [PyData.hasDict]
  | .list ds, _, .lst _ ha => by
    simp only [PyData.hasDict]
    exact dps_plain ds _ ha
  | .tuple ds, _, .tup _ ha => by
    simp only [PyData.hasDict]
    exact dps_plain ds _ ha
theorem dps_plain {K : PySem.W.Frag} {H : Hp} : ∀ (ds : List PyData) (vs : List V), DpAll K H vs ds → PyData.hasDictAll ds = false
  | [], _, _ => by simp only [PyData.hasDictAll]
  | d :: ds, _, .cons h1 h2 => by
    simp only [PyData.hasDictAll, dp_plain d _ h1, dps_plain ds _ h2, Bool.or_self]
end
def Shows (d : PyData) : Prop := d.showable = true ∧ d.depth ≤ 40 ∧ d.shown.length ≤ sizeLine
def rRepr (K : PySem.W.Frag) : List V → Hp → VK → Prop := fun vs H Q => ∃ v d, vs = [v] ∧ Dp K H v d ∧ Shows d ∧ Q (.str d.shown) H
theorem call_repr {X : Cx} {k : Nat} (hr : RG k X.A) : CallR X (.builtin "repr") (rRepr X.K) := by
  intro pins s σ H xs us Q I r h
  obtain ⟨v, d, rfl, hd, ⟨h1, h2, h3⟩, q⟩ := h
  cases r with
  | cons rv rn =>
    rename_i u us'
    cases rn
    obtain ⟨as, rd⟩ := Dp.reads I d v u hd rv
    have hu : X.A.units + 64 < cLine := hr.rm.units
    have nd := PyData.noDict_hsm (as := as) (dp_plain d v hd)
    cases rd with
    | none =>
      simp only [PyData.shown] at q
      exact P.repr_of_none ⟨.str _, H, I.tok _, ⟨_, rfl⟩, q⟩
    | bool b =>
      simp only [PyData.shown] at q
      exact P.repr_of_bool ⟨.str _, H, I.tok _, ⟨_, rfl⟩, q⟩
    | int i t =>
      simp only [PyData.shown] at q
      exact P.repr_of_int (by simpa [PyData.showable] using h1) ⟨.str _, H, I.tok _, ⟨_, rfl⟩, q⟩
    | str x t =>
      simp only [PyData.shown] at q h3
      exact P.repr_of_str ⟨.str _, H, I.tok _, ⟨_, rfl⟩, q⟩ h3
    | list a b c e =>
      exact repr_of_reads' (.list a b c e) h1 nd hr.gd (by omega) (fun _ _ z => z) (fun h' u' tk kp => ⟨.str _, H, I.kept kp, ⟨_, rfl⟩, q⟩) h3
    | tuple a b c e =>
      exact repr_of_reads' (.tuple a b c e) h1 nd hr.gd (by omega) (fun _ _ z => z) (fun h' u' tk kp => ⟨.str _, H, I.kept kp, ⟨_, rfl⟩, q⟩) h3
    | dict a b c e f => cases hd
end Hf

set_option Elab.async false
set_option linter.all false
set_option maxRecDepth 100000
set_option maxHeartbeats 4000000
namespace Hf
open PySem L2 PySem.Spec PyProof.Rows
open PySem.HandSPX (excO)

/-! ### own exceptions: class X(F) over a built-in B, whose __init__ hands a text to super() and keeps its argument -/
def xArgs (fld : Str) (p1 p2 : Pos) : Arguments := { posonlyargs := [], args := [{ arg := "self", annotation := none, pos := p1 }, { arg := fld, annotation := none, pos := p2 }], vararg := none, kwonlyargs := [], kw_defaults := [], kwarg := none, defaults := [] }
def xBody (fld txt : Str) (r0 r1 r2 r3 r4 r5 r6 r7 r8 r9 : Pos) : List Stmt :=
  [.Expr (.Call (.Attribute (.Call (.Name "super" r0) [] [] r1) "__init__" r2) [.Constant (.str txt) 0 r3] [] r4) r5, .Assign [.Attribute (.Name "self" r6) fld r7] (.Name fld r8) r9]
def xScope (fld : Str) : Scope := { kind := .function, names := [(PySem.Str.ofString "self", .local), (fld, .local), (PySem.Str.ofString "__class__", .free), (PySem.Str.ofString "super", .globalImplicit)], isGenerator := false, isCoroutine := false, more := [] }
/-- the call super().__init__(txt), at its places in the text -/
def XCall (txt : Str) (r0 r1 r2 r3 r4 : Pos) : Prop := ∀ env : Env, eval (.Call (.Attribute (.Call (.Name "super" r0) [] [] r1) "__init__" r2) [.Constant (.str txt) 0 r3] [] r4) env = (do
  let ov ← attributeBase (.Call (.Name "super" r0) [] [] r1) "__init__" env (eval (.Call (.Name "super" r0) [] [] r1) env)
  standAt r2.atName
  let (f, first) ← holding [ov] (getMethod ov "__init__" (do return (← importBound (.Call (.Name "super" r0) [] [] r1) env).getD true))
  callWith r4 f first (backTo r4 (starEach [.Constant (.str txt) 0 r3] env)) [])
example : XCall "a" ⟨7, 8, 7, 13⟩ ⟨7, 8, 7, 15⟩ ⟨7, 8, 7, 24⟩ ⟨7, 25, 7, 37⟩ ⟨7, 8, 7, 38⟩ := fun _ => rfl
/-- a built-in exception class, as a base -/
structure XBase (B newId initId : String) (bm : List Value) : Prop where
  fb : ExcBaseFacts B newId initId bm
  kx : PySem.W.KxsFacts B initId
  sf : StoreFacts B bm "object.__setattr__" "object"
theorem xb_VE : XBase "ValueError" "ValueError.__new__" "ValueError.__init__" [.type "ValueError", .type "Exception", .type "BaseException", .type "object"] := ⟨F.excBase_ValueError, PySem.W.kxs_ValueError, F.store_ValueError⟩
theorem xb_RE : XBase "RuntimeError" "RuntimeError.__new__" "RuntimeError.__init__" [.type "RuntimeError", .type "Exception", .type "BaseException", .type "object"] := ⟨F.excBase_RuntimeError, PySem.W.kxs_RuntimeError, F.store_RuntimeError⟩
theorem xb_LE : XBase "LookupError" "LookupError.__new__" "LookupError.__init__" [.type "LookupError", .type "Exception", .type "BaseException", .type "object"] := ⟨F.excBase_LookupError, PySem.W.kxs_LookupError, F.store_LookupError⟩
/-- what the text says of the exception's class at C and of its __init__ at fI -/
structure XTxt (P : Program) (K : PySem.W.Frag) (fld : Str) (C fI : Addr) : Prop where
  cls : ∃ B newId initId bmB, XBase B newId initId bmB ∧ PySem.W.excInitIn K C bmB newId = true ∧ PySem.W.excOver K C bmB = true ∧ PySem.W.ks_superIn K C C "__init__" = some (some (.builtin initId)) ∧ PySem.W.subIn K (.ref C) (.type B) = some true
  sa : PySem.W.findIn K (.ref C) "__setattr__" = some (some (.builtin "object.__setattr__"))
  tk : PySem.W.takerIn K C fld = some none
  hd : PySem.W.hasDictIn K C = true
  iC : PySem.W.findIn K (.ref C) "__init__" = some (some (.ref fI))
  tI : PySem.W.typeIn K (.ref fI) = some (.type "function")
  mC : PySem.W.mroIn K C (.ref C) = some true
  nsu : PySem.W.nsIn K mainGlobals "super" = some none
  nop : PySem.W.nsIn K cStatics "thirdparty.any" = some none
  top : (P.main.scope.names.lookup ("super" : Str)).isSome = false
  nf : (fld == ("__debug__" : Str)) = false ∧ fld ≠ "self" ∧ (xScope fld).names.lookup fld = some .local ∧ (xScope fld).names.lookup ("__class__" : Str) = some .free ∧ (xScope fld).names.lookup ("super" : Str) = some .globalImplicit
  fn : ∃ (oc : Value) (od : Option Addr) (doc pm : Value) (an : Option Addr) (cda : Addr) (ct : Value) (osl : Array (Option Value)) (qual txt : Str) (cc : Addr) (p1 p2 r0 r1 r2 r3 r4 r5 r6 r7 r8 r9 : Pos)
    (ccl cl : Value) (cdd cld : Option Addr) (vs : Array Value) (ccs csl : Array (Option Value)) (file : Str) (tf : Tok),
    K.lookup fI = some ⟨oc, od, .func (PySem.W.ksFn "__init__" qual (xArgs fld p1 p2) (xBody fld txt r0 r1 r2 r3 r4 r5 r6 r7 r8 r9) (xScope fld) .none .none doc pm an (.ref cda) ct cc), osl⟩ ∧ PySem.W.codeIn K (.ref cda) qual = true ∧
    K.lookup cda = some ⟨ccl, cdd, .fields vs, ccs⟩ ∧ vs[2]? = some (.str file tf) ∧ ((P.main.file : Str) == file) = true ∧ K.lookup cc = some ⟨cl, cld, .cell (some (.ref C)), csl⟩ ∧ txt.length ≤ 1000 ∧ XCall txt r0 r1 r2 r3 r4 ∧
    (∀ a b, bindArgs (PySem.W.ksFn "__init__" qual (xArgs fld p1 p2) (xBody fld txt r0 r1 r2 r3 r4 r5 r6 r7 r8 r9) (xScope fld) .none .none doc pm an (.ref cda) ct cc) ⟨[a, b], []⟩ = pure [(("self" : Str), a), (fld, b)]) ∧
    ∀ a b, bindArgs (PySem.W.ksFn "__init__" qual (xArgs fld p1 p2) (xBody fld txt r0 r1 r2 r3 r4 r5 r6 r7 r8 r9) (xScope fld) .none .none doc pm an (.ref cda) ct cc) ⟨[a], [(fld, b)]⟩ = pure [(("self" : Str), a), (fld, b)]

section
variable {prog : Program} {w : World} {A : Around} {R : Result → Shared → Prop} {E : Value → Shared → Prop} {K : PySem.W.Frag} {x C : Addr} {hp : Heap} {g : Array GenState} {d : Drawn} {t : Nat} {os : OsState}
/-- the first field laid into an exception that has no dict yet -/
theorem x_store {B newId initId : String} {bm : List Value} {fld : Str} {tk : Tok} {v : Value} {fv : Array Value} (XB : XBase B newId initId bm) (X : K.In hp) (gx : hp.get? x = some { cls := .ref C, data := .fields fv }) (ov : PySem.W.excOver K C bm = true)
    (nt : PySem.W.takerIn K C fld = some none) (dI : PySem.W.hasDictIn K C = true)
    (fin : ∀ h2 tk2 dx, (∀ b o, b ≠ x → hp.get? b = some o → h2.get? b = some o) → hp.objs.size ≤ dx → dx ≠ x → h2.get? x = some { cls := .ref C, dict := some dx, data := .fields fv } → h2.Ns1 dx (fun y => if y = fld then some v else none) → R (.ok (.ret .none)) ⟨h2, g, d, tk2, os⟩) :
    codeAny (model prog w) A (.call (.builtin "object.__setattr__") ⟨[.ref x, .str fld tk, v], []⟩) R ⟨hp, g, d, t, os⟩ := by
  have xlt : x ≠ hp.objs.size := Nat.ne_of_lt (Heap.lt_size gx)
  obtain ⟨cd, ecd, hd⟩ := PySem.W.any_some dI
  have look : PySem.W.Looks (model prog w) hp (classData C) cd := PySem.W.looks_clsIn X ecd
  refine PySem.W.osa_openX (od := none) XB.sf X ⟨gx, rfl, rfl, trivial⟩ ov nt fun b => ?_
  have hd' : cd.hasDict = true := hd
  obtain ⟨n1, n2, n3, n4, n5, n6, n7, n8, n9, n10, n11⟩ := cd
  dsimp only at hd'
  subst hd'
  unfold Builtin.ObjectAttr.storeInOwnDict Builtin.ObjectAttr.ownDictForStores
  repeat (first | (with_reducible refine HandSPX.store_in_new ?_ ?_) | (with_reducible refine wpAny_loadPart_at gx ?_) | (with_reducible refine look.at ?_) | wp_step)
  · refine ⟨_, #[], _, (Heap.get?_update_ne _ _ _ _ xlt.symm).trans (Heap.get?_push_at rfl rfl), rfl, ?_, fun _ => rfl⟩
    intro e he
    exact absurd he (by simp)
  · intro h2 tk2 ns2 sb2
    have gx' : (hp.push { cls := .type "dict", data := .dict #[] }).get? x = some { cls := .ref C, data := .fields fv } := Heap.get?_push_of_some _ gx
    refine fin h2 tk2 hp.objs.size ?_ (Nat.le_refl _) xlt.symm ((sb2.2 x xlt).trans (Heap.get?_update_self _ gx' rfl)) ns2
    intro b o hb ho
    exact (sb2.2 b (Nat.ne_of_lt (Heap.lt_size ho))).trans ((Heap.get?_update_ne _ _ _ _ hb).trans (Heap.get?_push_of_some _ ho))
/-- the bound __init__ of the base called: the args are laid anew -/
theorem x_base {B newId initId : String} {bm : List Value} {u t0 : Addr} {rest : List Value} {Q : Value → Shared → Prop} (XB : XBase B newId initId bm) (X : K.In hp) (q : PySem.W.excInitIn K C bm newId = true) (gx : hp.get? x = some (excO C t0))
    (gu : hp.get? u = some (PySem.W.kxs_mw initId x)) (sz : rest.length ≤ sizeLine) (fin : ∀ h2 t2, (∀ b o, b ≠ x → hp.get? b = some o → h2.get? b = some o) → h2.get? x = some (excO C t2) → Q .none ⟨h2, g, d, t, os⟩) :
    wpAny (model prog w) A (call (.ref u) rest) Q E ⟨hp, g, d, t, os⟩ := by
  obtain ⟨nm, N', qn, bs, bm', hdct, sn, sub, ab, col, dd, k0, k1, k2, k3, k5, gC, _⟩ := PySem.W.excInit_of X q
  refine wpAny_call (codeAny_of_tree ?_)
  show wpAny _ A.in1 (callAny (.ref u) ⟨rest, []⟩) _ _ _
  simp only [callAny]
  refine wpAny_bind (wpAny_load gu ?_)
  simp only [PySem.W.kxs_mw, show (Value.type "method-wrapper" == Value.type "method" || Value.type "method-wrapper" == Value.type "builtin_function_or_method" || Value.type "method-wrapper" == Value.type "method-wrapper") = true by decide, if_true]
  refine PySem.W.KFB.if_so (by decide) (wpAny_bind (PySem.W.check_bound_init XB.fb.toExcCallFacts gC gx rfl (wpAny_bind (wpAny_pure (wpAny_pure ?_)))))
  exact ⟨plainId_quiet XB.fb.init.plain _, codeAny_builtin XB.fb.initEntry (PySem.W.exc_init_tree (cls := .ref C) (t0 := t0) (dv := none) (c2 := .none) (c3 := .none) (b4 := .bool false) gx sz fun h2 a b _ => fin h2 _ a b)⟩
/-- what __init__ leaves of a fresh exception at x -/
structure XEnd (h h2 : Heap) (x C dx t2 : Addr) (fld : Str) (v : Value) : Prop where
  keep : ∀ b o, b ≠ x → h.get? b = some o → h2.get? b = some o
  obj : h2.get? x = some { cls := .ref C, dict := some dx, data := .fields #[.ref t2, .none, .none, .none, .bool false, .none] }
  dbig : h.objs.size ≤ dx
  dne : dx ≠ x
  ns : h2.Ns1 dx (fun y => if y = fld then some v else none)
theorem x_init {fld : Str} {fI t0 : Addr} {v : Value} {args : Args} {mg mb : Str → Option Value} (T : XTxt prog K fld C fI) (X : K.In hp) (lim : hp.NoLimit) (G : hp.Ns mainGlobals mg) (Bn : hp.Ns builtinsNs mb) (hb : mb "super" = bootBuiltins "super")
    (gx : hp.get? x = some (excO C t0)) (nx : K.lookup x = none) (room : A.depth < recursionLimit) (ar : args = ⟨[.ref x, v], []⟩ ∨ args = ⟨[.ref x], [(fld, v)]⟩)
    (fin : ∀ h2 tk2 dx t2, XEnd hp h2 x C dx t2 fld v → R (.ok (.ret .none)) ⟨h2, g, d, tk2, os⟩) :
    codeAny (model prog w) A (.call (.ref fI) args) R ⟨hp, g, d, t, os⟩ := by
  obtain ⟨oc, od, doc, pm, an, cda, ct, osl, qual, txt, cc, p1, p2, r0, r1, r2, r3, r4, r5, r6, r7, r8, r9, ccl, cl, cdd, cld, vs, ccs, csl, file, tf, lk, cod, lc, hvs, hfile, lcell, txl, hcall, hbd⟩ := T.fn
  obtain ⟨B, newId, initId, bm, XB, q, ov, ksu, sB⟩ := T.cls
  obtain ⟨nf1, nf2, nf3, nf4, nf5⟩ := T.nf
  refine ks_codeAny_call_defAt (binds := [(("self" : Str), .ref x), (fld, v)]) room (X _ _ lk) rfl lim (PySem.W.codeRec_of X cod) rfl (BindsTo.of_eq (by rcases ar with e | e <;> rw [e]; exact hbd.1 _ _; exact hbd.2 _ _)) ?_ ?_ (fun h1 hn k => ?_) rfl rfl rfl
  · intro y hy
    simp only [xScope, List.mem_cons, List.not_mem_nil, or_false] at hy
    rcases hy with rfl | rfl | rfl | rfl <;> exact fun z => nomatch z
  · intro y hy
    rcases List.mem_cons.mp hy with rfl | hy
    · rfl
    · rw [List.mem_singleton.mp hy]
      exact nf3
  have X1 : K.In h1 := X.keeps k
  have gx1 := k _ _ gx
  have gI : hp.objs.size < h1.objs.size := hn.lt
  have ms : List.lookup ("self" : Str) [((fld : Str), v), (("self" : Str), Value.ref x)] = some (.ref x) := by
    rw [List.lookup_cons, show (("self" : Str) == fld) = false from beq_eq_false_iff_ne.mpr (Ne.symm nf2), List.lookup_cons, beq_self_eq_true]
  have mf : List.lookup fld [((fld : Str), v), (("self" : Str), Value.ref x)] = some v := by
    rw [List.lookup_cons, beq_self_eq_true]
  have I1 : PySem.W.InstAt h1 x (excO C t0) C none := ⟨gx1, rfl, rfl, trivial⟩
  show _root_.PySem.wpAt _ (A.deeper (PySem.W.ksEnv qual (xScope fld) hp.objs.size fI (.ref cda) cc)) (.func (xBody fld txt r0 r1 r2 r3 r4 r5 r6 r7 r8 r9) (PySem.W.ksEnv qual (xScope fld) hp.objs.size fI (.ref cda) cc))
    (execs (_ :: _) (PySem.W.ksEnv qual (xScope fld) hp.objs.size fI (.ref cda) cc)) _ _ _
  refine ks_wpAt_execs_cons (ks_wpAt_Expr_any ?_)
  refine ks_wpAt_MethodCall ?_ (hcall _)
  refine ks_wpAt_super_base nf5 nf4 (by decide) rfl (X1 _ _ lk) rfl rfl rfl (X1 _ _ lc) rfl hvs hfile T.top ?_
  refine PySem.W.ks_loadName_global rfl nf5 (Calls.loadGlobal_builtin (G.keeps k) ?_ (Bn.keeps k) (hb.trans ?_) ⟨rfl, ?_⟩)
  · exact PySem.W.mg_none_of X G T.nsu
  · first | rfl | kernel_rfl
  refine wpAny_loadName_free rfl nf4 rfl ⟨_, X1 _ _ lcell, rfl⟩ ?_
  refine wpAny_loadName_local rfl rfl hn ms ?_
  obtain ⟨cdD, ecd, _⟩ := PySem.W.any_some T.hd
  obtain ⟨oD, gD, dD⟩ : ∃ oD, h1.get? C = some oD ∧ oD.data = .cls cdD := by
    unfold PySem.W.clsIn at ecd
    split at ecd
    · rename_i c d' cd' sl ho
      cases ecd
      exact ⟨_, X1 _ _ ho, rfl⟩
    · cases ecd
  refine ks_wpAny_isType_cls gD dD ⟨rfl, ?_⟩
  refine ks_wpAny_call_super gD dD gx1 rfl (fun c z => nomatch z) (PySem.W.looks_mroIn X1 T.mC) (fun h3 e3 k3 => ?_)
  have X3 : K.In h3 := X1.keeps k3
  have gx3 := k3 _ _ gx1
  have I3 : PySem.W.InstAt h3 x (excO C t0) C none := ⟨gx3, rfl, rfl, trivial⟩
  have in3 : PySem.W.Looks (model prog w) h3 (isInstance (.ref x) (.type B)) true := I3.type.andThen (PySem.W.looks_subIn X3 sB)
  have xC : x ≠ C := PySem.W.ks_ne X3 I3 ecd
  have ksu' : PySem.W.alongIn K "__init__" ((cdD.mro.dropWhile (· != .ref C)).drop 1) = some (some (.builtin initId)) := by
    unfold PySem.W.ks_superIn at ksu
    rw [ecd] at ksu
    exact ksu
  refine PySem.W.kxs_getMethod XB.kx e3 (PySem.W.looks_opaque X3 T.nop) (l₀ := cdD.mro) (fun A' Q' E' s' k' q' => wpAny_bind ((PySem.W.looks_clsIn X3 ecd) A' _ E' s' k' (wpAny_pure q'))) rfl X3 ksu' in3 xC (by decide) ?_
  show wpAny _ _ (callWith r4 (.ref h3.objs.size) [] ((false, eval (.Constant (.str txt) 0 r3) _) :: backTo r4 (starEach [] _)) []) _ _ _
  have k4 : ∀ b o, h3.get? b = some o → (h3.push (PySem.W.kxs_mw initId x)).get? b = some o := fun b o z => Heap.get?_push_of_some _ z
  have g4 : (h3.push (PySem.W.kxs_mw initId x)).get? h3.objs.size = some (PySem.W.kxs_mw initId x) := Heap.get?_push_at rfl rfl
  refine PySem.W.kxs_callWith (i := initId) (x := x) rfl ?_
  refine Calls.evalArgs_plain (Calls.spliced_cons (wpAny_Constant_str (Calls.spliced_nil ⟨g4, ?_⟩)))
  refine x_base XB (X3.keeps k4) q (k4 _ _ gx3) g4 (by rw [sizeLine_eq]; exact (by decide : 1 ≤ 16777216)) fun h5 t5 k5 e5 => ?_
  -- self.fld = fld
  have a1 : ∀ b o, h1.get? b = some o → (h3.push (PySem.W.kxs_mw initId x)).get? b = some o := fun b o z => k4 _ _ (k3 _ _ z)
  have X5 : K.In h5 := fun b o z => k5 b o (fun y => by rw [y, nx] at z; cases z) (X3.keeps k4 b o z)
  have neL : hp.objs.size ≠ x := Nat.ne_of_gt (Heap.lt_size gx)
  have hn5 : h5.Ns hp.objs.size (fun y => List.lookup y [((fld : Str), v), (("self" : Str), Value.ref x)]) := by
    obtain ⟨oL, es, ep, gL, r⟩ := id hn
    exact ⟨oL, es, ep, k5 _ _ neL (a1 _ _ gL), r⟩
  refine wpAt_of_wpAny ?_
  refine wpAny_execs_cons (plainObj_wpAny_Assign_Attribute ?_)
  refine wpAny_Name (wpAny_loadName_local rfl nf3 hn5 mf ?_) nf1
  refine wpAny_Name (wpAny_loadName_local rfl rfl hn5 ms ?_)
  refine PySem.W.set_plain X5 (ox := excO C t5) (od := none) ⟨e5, rfl, rfl, trivial⟩ T.sa ?_
  refine x_store XB X5 e5 ov T.tk T.hd (fun h6 tk6 dx k6 dn dne e6 n6 => ?_)
  have big : hp.objs.size ≤ h5.objs.size := Nat.le_of_lt hn5.lt
  exact wpAny_execs_nil (fin h6 tk6 dx t5 ⟨fun b o hb z => k6 b o hb (k5 b o hb (a1 b o (k b o z))), e6, Nat.le_trans big dn, dne, n6⟩)
/-- an exception that was made -/
structure XMade (h h2 : Heap) (e C d : Addr) (fld : Str) (v : Value) : Prop where
  keep : ∀ b o, h.get? b = some o → h2.get? b = some o
  new : h.objs.size ≤ e
  obj : ∃ oe vs, h2.get? e = some oe ∧ oe.cls = .ref C ∧ oe.dict = some d ∧ oe.data = .fields vs ∧ vs[1]? = some .none
  dbig : h.objs.size ≤ d
  dne : d ≠ e
  ns : h2.Ns1 d (fun y => if y = fld then some v else none)
theorem x_made {fld : Str} {fI : Addr} {v : Value} {mg mb : Str → Option Value} (T : XTxt prog K fld C fI) (X : K.In hp) (lim : hp.NoLimit) (G : hp.Ns mainGlobals mg) (Bn : hp.Ns builtinsNs mb) (hb : mb "super" = bootBuiltins "super")
    (room : A.depth + 1 < recursionLimit) (fin : ∀ h2 tk2 e dx, XMade hp h2 e C dx fld v → R (.ok (.ret (.ref e))) ⟨h2, g, d, tk2, os⟩) :
    codeAny (model prog w) A (.call (.ref C) ⟨[v], []⟩) R ⟨hp, g, d, t, os⟩ := by
  obtain ⟨B, newId, initId, bm, XB, q, ov, ksu, sB⟩ := T.cls
  obtain ⟨nm, N', qn, bs, bm', hdct, sn, sub, ab, col, dd, k0, k1, k2, k3, k5, gC, hT⟩ := PySem.W.excInit_of X q
  have up : ∀ b o, hp.get? b = some o → ((hp.push (PySem.W.kdv_tup [v])).push (excO C hp.objs.size)).get? b = some o := fun b o z => Heap.get?_push_of_some _ (Heap.get?_push_of_some _ z)
  have gx : ((hp.push (PySem.W.kdv_tup [v])).push (excO C hp.objs.size)).get? (hp.objs.size + 1) = some (excO C hp.objs.size) := by heap_get
  have nx : K.lookup (hp.objs.size + 1) = none := by
    cases z : K.lookup (hp.objs.size + 1) with
    | none => rfl
    | some o => exact absurd (Nat.lt_of_succ_lt (Heap.lt_size (X _ _ z))) (Nat.lt_irrefl _)
  refine HandSPX.call_own XB.fb hT gC (PySem.W.looks_findIn X T.iC) (fun self => PySem.W.bind_fn X self T.tI) (by rw [sizeLine_eq]; exact (by decide : 1 ≤ 16777216)) ?_
  refine x_init T (X.keeps up) (lim.keeps up) (G.keeps up) (Bn.keeps up) hb gx nx (by show A.depth + 1 < recursionLimit; exact room) (.inl rfl) fun h2 tk2 dx t2 Z => ?_
  have sz : ((hp.push (PySem.W.kdv_tup [v])).push (excO C hp.objs.size)).objs.size = hp.objs.size + 1 + 1 := by
    rw [Heap.size_push, Heap.size_push]
  have big := Z.dbig
  rw [sz] at big
  refine ⟨rfl, fin h2 tk2 (hp.objs.size + 1) dx ⟨fun b o z => ?_, Nat.le_succ _, ⟨_, _, Z.obj, rfl, rfl, rfl, rfl⟩, by omega, Z.dne, Z.ns⟩⟩
  exact Z.keep b o (Nat.ne_of_lt (Nat.lt_succ_of_lt (Heap.lt_size z))) (up b o z)
end

/-- what more the class says: its instances' fields are read, isinstance asks them -/
structure XIs (K : PySem.W.Frag) (C : Addr) : Prop where
  ga : PySem.W.findIn K (.ref C) "__getattribute__" = some (some (.builtin "BaseException.__getattribute__"))
  gg : PySem.W.findIn K (.ref C) "__getattr__" = some none
  ex : PySem.W.subIn K (.ref C) (.type "BaseException") = some true
  cl : (PySem.W.clsIn K C).isSome = true
  ca : PySem.W.findIn K (.ref C) "__class__" = some (some (.builtin "object.__class__"))
  sp : PySem.W.specialIn K (.builtin "object.__class__") "__get__" = some (some (.builtin "getset_descriptor.__get__"))
  tk : PySem.W.takesIn K (.builtin "object.__class__") = some true
  mo : PySem.W.mroIn K C (.type "object") = some true
/-- nm is the class cls, by the text -/
def XN (K : PySem.W.Frag) (nm : Str) (cls : Value) : Prop := PySem.W.nsIn K mainGlobals nm = some (some cls)
/-- an own exception class with one field -/
structure XCls (P : Program) (K : PySem.W.Frag) (mg : Str → Option Value) (nm fld : Str) : Prop where
  ex : ∃ C fI, XN K nm (.ref C) ∧ mg nm = some (.ref C) ∧ XTxt P K fld C fI ∧ PySem.W.keepIn K (.ref C) = true ∧ XIs K C ∧ PySem.W.typeIn K (.ref C) = some (.type "type") ∧ PySem.W.findIn K (.ref C) fld = some none
def tMkX (K : PySem.W.Frag) (nm fld : Str) (ta : TA) : L2.St → Hp → XK → Prop := fun σ H Q => ta σ H fun vs H1 => ∃ v, vs = [v] ∧ ∀ cls d, XN K nm cls → H1 d = none → Q cls (some d) (upd H1 d (.xd [(fld, v)]))
theorem relO_x {fld : Str} {v : V} {u : Value} (r : RelV v u) (f : Str) : RelO (List.lookup f [((fld : Str), v)]) (if f = fld then some u else none) := by
  by_cases q : f = fld
  · subst q
    rw [if_pos rfl, List.lookup_cons, beq_self_eq_true]
    exact r
  · rw [if_neg q, List.lookup_cons, beq_eq_false_iff_ne.mpr q]
    trivial
section
variable {X : Cx} {nm fld : Str} {a : Expr} {ta : TA} {p pos : Pos} {k : Nat}
theorem pmk_x (T : XCls X.prog X.K X.mg nm fld) (hr : RG k X.A) (hk : 2 ≤ k) (ha : PA X [a] ta) (hg : Gl X nm := by rfl)
    (he : starEach (a :: []) X.env = (false, eval a X.env) :: starEach [] X.env := by rfl) (hpl : (backTo pos (starEach [] X.env)).any (·.1) = false := by rfl) (hdb : (nm == ("__debug__" : Str)) = false := by decide) :
    PMk X (.Call (.Name nm p) [a] [] pos) (tMkX X.K nm fld ta) := by
  obtain ⟨C, fI, xn, gC, TX, kC, xi, tyC, noN⟩ := T.ex
  intro pins s σ H Q I h
  refine wpAny_Call_Name_kw (ld_glob I hg gC ?_ hdb)
  refine PySem.W.callWith_K (h₀ := X.base) I.ok.mod.kin kC (thn (ha.run pos pins s σ H _ I h) fun us s1 hh => ?_) he hpl
  obtain ⟨vs, H1, I1, r1, v, ev, q1⟩ := hh
  subst ev
  refine ⟨I1.kIn, ?_⟩
  cases r1 with
  | cons rv rn =>
    rename_i v' us'
    cases rn
    show wpAny _ _ (call (.ref C) [v']) _ _ _
    have hlim := I1.nolimit
    obtain ⟨mb, hB, hbb⟩ := I1.mod.blt
    have hG := I1.mod.glob.keeps I1.bk
    have hB' := hB.keeps I1.bk
    obtain ⟨hp, g, dr, tk, os⟩ := s1
    refine wpAny_call (x_made TX I1.kIn hlim hG hB' (hbb _ (by decide)) (by have := hr.rm.depth; have := (hr.rm.mono hk).dp; omega) fun h2 tk2 e d M => ?_)
    show MkP X pins σ Q (.ref e) ⟨h2, g, dr, tk2, os⟩
    obtain ⟨oe, fv, hoe, hc, hd, hdat, h1⟩ := M.obj
    have hns := M.ns
    obtain ⟨G, g1, g2⟩ := restrict h2 fun b => decide (b ≠ e)
    have gk : ∀ b, b ≠ e → G.get? b = h2.get? b := fun b hb => g1 b (decide_eq_true hb)
    have ge : G.get? e = none := g2 e (by simp)
    have old : ∀ b o, hp.get? b = some o → G.get? b = some o := fun b o z => (gk b (Nat.ne_of_lt (Nat.lt_of_lt_of_le (Heap.lt_size z) M.new))).trans (M.keep b o z)
    have ob : ObjOk X.prog X.w (upd H1 d (.xd [((fld : Str), v)])) G d (.xd [((fld : Str), v)]) :=
      ⟨_, hns.at (fun o z => (gk d M.dne).trans z), fun f => relO_x rv f⟩
    have J : Inv X pins σ (upd H1 d (.xd [((fld : Str), v)])) ⟨G, g, dr, tk2, os⟩ := I1.laid (t' := tk2) old M.dbig ob
    refine ⟨e, oe, fv, ⟨G, g, dr, tk2, os⟩, _, .ref C, some d, rfl, J, fun b o z => ?_, ge, hoe, ⟨hc, hd⟩, hdat, h1, ?_, rfl, I1.bare, raises_own xi.ex tyC, q1 _ d xn (I1.hok.fresh M.dbig)⟩
    · by_cases hb : b = e
      · have z' : G.get? b = some o := z
        rw [hb, ge] at z'
        cases z'
      · exact (gk b hb).symm.trans z
    · rw [upd_ne (Ne.symm M.dne)]
      exact I1.hok.fresh M.new
/-- raise X(e) -/
def tRaiseX (K : PySem.W.Frag) (nm fld : Str) (W : WX) (ta : TA) : TS := fun _ σ H => tMkX K nm fld ta σ H fun cls d H' => W cls d σ H'
theorem ps_raiseX {W : WX} {pos2 : Pos} (T : XCls X.prog X.K X.mg nm fld) (hc : X.calm = true) (hr : RG k X.A) (hk : 2 ≤ k) (tk : Takes X W) (ha : PA X [a] ta) (hg : Gl X nm := by rfl)
    (he : starEach (a :: []) X.env = (false, eval a X.env) :: starEach [] X.env := by rfl) (hpl : (backTo pos (starEach [] X.env)).any (·.1) = false := by rfl) (hdb : (nm == ("__debug__" : Str)) = false := by decide) :
    PS X (.Raise (some (.Call (.Name nm p) [a] [] pos)) none pos2) (tRaiseX X.K nm fld W ta) := ps_raise hc tk (pmk_x T hr hk ha hg he hpl hdb)
end

/-! ### defs that may raise, and their calls -/
structure DfX (P : Program) (w : World) (K : PySem.W.Frag) (mg : Str → Option Value) (base : Heap) (k : Nat) (x : Str) (st : Stmt) (ps : List Str) (sp : Sp) : Prop where
  ex : ∃ (f : Addr) (fd : FuncData), mg x = some (.ref f) ∧ Fun K x x st f fd ∧ FnG P w K mg base (L2.CX P w) k f fd ps sp
section
variable {P : Program} {w : World} {K : PySem.W.Frag} {mg : Str → Option Value} {base : Heap}
theorem okX {x qual : Str} {st : Stmt} {f : Addr} {fd : FuncData} {N ps : List Str} {k : Nat} {sp : Sp} (F : Fun K x qual st f fd) (S : FnScope N ps (defScope st)) (many : ∀ xs H Q E, sp xs H Q E → xs.length = ps.length)
    (hb : ∀ (cdv : Value) (A : Around) (outer : List Env) (s : Shared) (H : Hp) (xs : List V) (Q : VK) (E : XK), RG k (A.deeper (envOfC qual (defScope st) s.heap.objs.size f cdv)) → sp xs H Q E →
      ∃ t, PSs (cxOf (L2.CX P w) P w K mg base N qual (defScope st) f cdv A outer s H E) (defBody st) t ∧ t { nx := fun _ H' => Q .non H', rt := Q } (start N xs) H) : FnG P w K mg base (L2.CX P w) (k + 1) f fd ps sp := by
  obtain ⟨oc, od, kV, doc, pm, an, cdv, ct, osl, rfl, lk, hcd⟩ := F.ex
  exact fnG_of lk hcd S many fun A outer s H xs Q E r q => hb cdv A outer s H xs Q E r q
end
def tCallX (n m : Nat) (sp : Sp) (g : List V → List V → List V) (W : WX) (t tk : TA) : TE := fun σ H Q => t σ H fun xs H1 => tk σ H1 fun zs H2 => xs.length = n ∧ zs.length = m ∧ sp (g xs zs) H2 Q (fun cls d H' => W cls d σ H')
section
variable {X : Cx} {W : WX} {k j n m : Nat} {ps ks : List Str} {sp : Sp} {x : Str} {st : Stmt} {p pos : Pos} {e : Expr} {es : List Expr} {kws : List Keyword} {t tk : TA} {g : {α : Type} → List α → List α → List α}
theorem goX {qual : Str} {pins : List (Addr × Obj)} {σ : L2.St} {H : Hp} {s : Shared} {Q : VK} {f : Addr} {fd : FuncData} {us ws : List Value} {xs zs : List V} (tw : Takes X W) (F : FnG X.prog X.w X.K X.mg X.base (L2.CX X.prog X.w) k f fd ps sp) (U : Fun X.K x qual st f fd)
    (hr : RG k X.A) (hb : Bnd st x qual ps n ks g) (hs : Shuf n ks.length g) (I : Inv X pins σ H s) (r : Vals xs us) (rz : Vals zs ws) (hn : xs.length = n) (hm : zs.length = ks.length) (q : sp (g xs zs) H Q (fun cls d H' => W cls d σ H')) :
    wpAny (model X.prog X.w) X.A (call (.ref f) us (ks.zip ws)) (EP X pins σ Q) X.xe s := by
  obtain ⟨oc, od, kV, doc, pm, an, cdv, ct, osl, rfl, lk, hcd⟩ := U.ex
  have l1 : us.length = n := r.length ▸ hn
  have l2 : ws.length = ks.length := rz.length ▸ hm
  refine wpAny_call (codeAny_mono (F.go X.A X.stack s H ⟨us, ks.zip ws⟩ (g us ws) (g xs zs) Q _ hr I.env0 (.of_eq (hb kV doc pm an cdv ct us ws l1 l2).1) (hs _ _ _ _ r rz l1 l2) q) ?_)
  intro res s' z
  match res, z with
  | .error e, z => exact tw _ _ (XE.of_call I (fun cls d H' h => h) z)
  | .ok (.ret u), z => exact I.after z
  | .ok .next, z => exact z.elim
  | .ok .brk, z => exact z.elim
  | .ok .cont, z => exact z.elim
theorem pe_callX (D : DfX X.prog X.w X.K X.mg X.base k x st ps sp) (tw : Takes X W) (hr : RG j X.A) (hj : k ≤ j) (hb : Bnd st x x ps n ks g) (hs : Shuf n ks.length g) (ha : PA X (e :: es) t) (hkw : PK X kws tk) (hg : Gl X x := by rfl)
    (hall : (backToKw pos (keywordEach kws X.env)).all (·.1.isSome) = true := by rfl) (hks : (backToKw pos (keywordEach kws X.env)).filterMap (·.1) = ks := by rfl) (hdb : (x == ("__debug__" : Str)) = false := by decide)
    (he : starEach (e :: es) X.env = (false, eval e X.env) :: starEach es X.env := by rfl) (hpl : ((backTo pos (starEach (e :: es) X.env)).any (·.1) || (backToKw pos (keywordEach kws X.env)).any (·.1.isNone)) = false := by rfl) :
    PE X (.Call (.Name x p) (e :: es) kws pos) (tCallX n ks.length sp (fun a b => g a b) W t tk) := by
  obtain ⟨f, fd, hm, U, F⟩ := D.ex
  refine ⟨?_⟩
  intro pins s σ H Q I h
  refine wpAny_Call_Name_kw (ld_glob I hg hm ?_ hdb)
  refine PySem.W.callWith_KW (h₀ := X.base) I.ok.mod.kin U.kp hall ?_ hpl he
  refine thn (ha.run pos pins s σ H _ I h) ?_
  rintro us s1 ⟨xs, H1, I1, r, q⟩
  refine thn (hkw.run pos pins s1 σ H1 _ I1 q) ?_
  rintro ws s2 ⟨zs, H2, I2, rz, q1, q2, q3⟩
  refine ⟨I2.kIn, ?_⟩
  rw [hks]
  exact goX tw F U (hr.mono hj) hb hs I2 r rz q1 q2 q3
theorem pe_callX0 (D : DfX X.prog X.w X.K X.mg X.base k x st ps sp) (tw : Takes X W) (hr : RG j X.A) (hj : k ≤ j) (hb : Bnd st x x ps 0 ks g) (hs : Shuf 0 ks.length g) (hkw : PK X kws tk) (hg : Gl X x := by rfl)
    (hall : (backToKw pos (keywordEach kws X.env)).all (·.1.isSome) = true := by rfl) (hks : (backToKw pos (keywordEach kws X.env)).filterMap (·.1) = ks := by rfl) (hdb : (x == ("__debug__" : Str)) = false := by decide)
    (hpl : ((backTo pos (starEach [] X.env)).any (·.1) || (backToKw pos (keywordEach kws X.env)).any (·.1.isNone)) = false := by rfl) :
    PE X (.Call (.Name x p) [] kws pos) (tCallX 0 ks.length sp (fun a b => g a b) W tNil tk) := by
  obtain ⟨f, fd, hm, U, F⟩ := D.ex
  refine ⟨?_⟩
  intro pins s σ H Q I h
  refine wpAny_Call_Name_kw (ld_glob I hg hm ?_ hdb)
  refine PySem.W.callWith_KW0 (h₀ := X.base) I.ok.mod.kin U.kp hall ?_ hpl
  refine thn (hkw.run pos pins s σ H _ I h) ?_
  rintro ws s2 ⟨zs, H2, I2, rz, q1, q2, q3⟩
  refine ⟨I2.kIn, ?_⟩
  rw [hks]
  exact goX tw F U (hr.mono hj) hb hs I2 .nil rz q1 q2 q3
end

/-! ### an exception kept as a value -/
/-- at a: an exception of the class cls, its dict at d -/
def ExV (cls : Value) (d : Option Addr) (a : Addr) : HO := .ext fun h => ∃ (oe : Obj) (vs : Array Value), h.get? a = some oe ∧ Zc cls d oe ∧ oe.data = .fields vs
theorem exV_ok {P : Program} {w : World} {H : Hp} {h : Heap} {a : Addr} {cls : Value} {d : Option Addr} {oe : Obj} {vs : Array Value} (e : h.get? a = some oe) (z : Zc cls d oe) (dt : oe.data = .fields vs) : ObjOk P w H h a (ExV cls d a) :=
  ⟨⟨oe, vs, e, z, dt⟩, ⟨oe, e⟩, fun _ _ ⟨o, v, q, r⟩ k => ⟨o, v, k o q, r⟩⟩
theorem Inv.noteX {X : Cx} {pins : List (Addr × Obj)} {σ : L2.St} {H : Hp} {s : Shared} {a : Addr} {cls : Value} {d : Option Addr} {oe : Obj} {vs : Array Value} (I : Inv X pins σ H s) (n0 : X.s_0.heap.get? a = none)
    (ga : s.heap.get? a = some oe) (z : Zc cls d oe) (dt : oe.data = .fields vs) (na : H a = none) (nL : a ≠ X.env.locals) (np : ∀ p ∈ X.pn ++ pins, p.1 ≠ a) : Inv X pins σ (upd H a (ExV cls d a)) s := by
  have ne0 : ∀ b o, X.s_0.heap.get? b = some o → b ≠ a := by
    intro b o e q
    rw [q, n0] at e
    cases e
  have b0 := I.base
  refine ⟨I.ok, I.os, I.bare, ⟨b0.keep, b0.slot, fun b o e n hb => ?_, b0.there, fun b xs e => ?_, fun b o u e => ?_, fun b ps e => ?_⟩, I.loc, I.cell, ?_, fun x c e => ?_, fun p hp => ?_, ?_, I.len⟩
  · rw [upd_ne (ne0 b o e)]
    exact b0.free b o e n hb
  · have q := b0.tups b xs e
    rw [upd_ne (ne_of_none q na)]
    exact q
  · have q := b0.frzs b o u e
    rw [upd_ne (ne_of_none q na)]
    exact q
  · obtain ⟨m, q⟩ := b0.tbls b ps e
    exact ⟨m, by rw [upd_ne (ne_of_none q na)]; exact q⟩
  · rw [upd_ne (Ne.symm nL)]
    exact I.free
  · have nc : c ≠ a := by
      intro q
      obtain ⟨v, oc, hc, hd⟩ := I.cell x c e
      rw [q, ga] at hc
      cases hc
      rw [dt] at hd
      cases hd
    rw [upd_ne nc]
    exact I.freeC x c e
  · obtain ⟨p1, p2, p3, p4, p5⟩ := I.pin p hp
    exact ⟨p1, by rw [upd_ne (np p hp)]; exact p2, p3, p4, p5⟩
  · intro b u e
    by_cases hb : b = a
    · subst hb
      rw [upd_same] at e
      cases e
      exact exV_ok ga z dt
    · rw [upd_ne hb] at e
      refine (I.hok b u e).stay (fun c v _ q => q) (fun c q => ?_) fun c xs q => ?_
      · rw [upd_ne (ne_of_none q na)]
        exact q
      · rw [upd_ne (ne_of_none q na)]
        exact q

/-! ### try: .. except (A, B, C) as e: .., the exception kept behind it -/
theorem flyK {B h h2 : Heap} {l : List Env} {a : Addr} {Z : Obj → Prop} (x : HandSPX.FlyingZ B l a Z h) (k : ∀ b o, h.get? b = some o → h2.get? b = some o) : HandSPX.FlyingZ B l a Z h2 := by
  obtain ⟨q1, q2, q3, oe, vs, T, oT, ts, he, hz, hd, hv, hn, hne, hT, hdT, hf⟩ := x
  exact ⟨fun b o z => k b o (q1 b o z), q2, q3.of_keeps fun b o z _ => ⟨o, k b o z, rfl⟩, oe, vs, T, oT, ts, k _ _ he, hz, hd, hv, hn, hne, k _ _ hT, hdT, hf⟩
/-- what the clause wishes of an exception of the body: its class is one of the three; behind the suite the exception is tracked, and its name (slot i) is gone -/
def wTup (K : PySem.W.Frag) (cs : List Value) (i : Nat) (ts : Addr → Value → Option Addr → TS) (D : Ends) : WX := fun cls d σ H =>
  PySem.W.exmAny K cls cs = some true ∧ ∀ a, H a = none →
    ts a cls d { nx := fun σ' H' => H' a = none ∧ D.nx (σ'.set i none) (upd H' a (ExV cls d a)), rt := fun _ _ => False, bk := fun _ _ => False, ct := fun _ _ => False } (σ.set i (some (.ref a))) H
section
variable {X : Cx} {x1 x2 x3 n : Str} {c1 c2 c3 : Value} {i kk : Nat} {body suite : List Stmt} {b₀ : Stmt} {np1 np2 np3 tp pos pos' : Pos} {tb : WX → TS} {ts : Addr → Value → Option Addr → TS}
theorem ps_try_tup (hs : X.stack = X.env :: X.outer) (hf : X.env.frame = some X.env.locals) (hex : X.ex = []) (hN : X.N.Nodup) (hi : X.N[i]? = some n) (hln : X.env.kindOf n = some .local) (m1 : Names X x1 c1) (m2 : Names X x2 c2) (m3 : Names X x3 c3)
    (hb : ∀ (W : WX) (pn : List (Addr × Obj)) (xe : Value → Shared → Prop), Takes (X.tr pn xe) W → PassesOwn (model X.prog X.w) X.A X.env xe → PSs (X.tr pn xe) body (tb W))
    (hsu : ∀ (a : Addr) (oe : Obj) (cls : Value) (d : Option Addr) (pn : List (Addr × Obj)), Zc cls d oe → (∃ vs, oe.data = .fields vs) → PSs (X.suite a ((a, oe) :: pn)) (b₀ :: suite) (ts a cls d)) :
    PS X (.Try body [.ExceptHandler (some (.Tuple [.Name x1 np1, .Name x2 np2, .Name x3 np3] kk tp)) (some n) (b₀ :: suite) pos'] [] [] pos) (fun D σ H => tb (wTup X.K [c1, c2, c3] i ts D) D σ H) := by
  refine ⟨fun pins s σ H D I h => ?_⟩
  have ok := I.ok
  have hfr : X.A.frames = some (X.env :: X.outer) := by rw [ok.frames, hs]
  have hloc : Loc X.env.scope n := .inl hln
  refine wpAny_Try_except ?_
  refine wpAny_mono ((hb (wTup X.K [c1, c2, c3] i ts D) (X.pn ++ pins) _ (fun u s' xx => ?_) PassesOwn.looking).run [] s σ H D (I.toTry _) h) (fun f s1 hsp => ?_) (fun e s1 he => he)
  · obtain ⟨a, B, sI, pins', σ', H', cls, d, rfl, J', nb, up, sky, na, os, ag, hmat, hyes⟩ := xx
    have J : Inv X pins σ' H' sI := J'.ofTry ok
    have sky' : Sky B (X.env :: X.outer) a (Zc cls d) X.env.locals s'.heap := by rw [← hs]; exact sky
    show wpAny (model X.prog X.w) X.A (noteFrame (.ref a) X.env) _ _ _
    refine Sky.land Zc.steady hfr hf sky' fun h3 fl3 up3 => ?_
    have J3 : Inv X pins σ' H' { s' with heap := h3 } := J.landed nb fl3.1 (up.trans up3) os ag
    obtain ⟨oe3, vs3, he3, hz3, hd3⟩ := fl3.there
    have nfr : a ∉ frs (X.env :: X.outer) := by
      intro hm
      obtain ⟨_, o', e', hnf⟩ := fl3.2.2.1.mem hm
      rw [he3] at e'
      cases e'
      exact hnf _ hd3
    have nL : a ≠ X.env.locals := fun z => nfr (List.mem_filterMap.mpr ⟨X.env, List.mem_cons_self, by rw [hf, z]⟩)
    have nF : a ∉ X.fs := by
      intro hm
      obtain ⟨e, he, q⟩ := List.mem_filterMap.mp hm
      exact nfr (List.mem_filterMap.mpr ⟨e, List.mem_cons_of_mem _ he, q⟩)
    have nI : sI.heap.get? a = none := by
      cases q : sI.heap.get? a with
      | none => rfl
      | some o =>
        have z := nb a o q (by rw [hs]; exact nfr)
        rw [fl3.2.1] at z
        cases z
    have n0 : X.s_0.heap.get? a = none := by
      cases q : X.s_0.heap.get? a with
      | none => rfl
      | some o =>
        obtain ⟨o', z⟩ := J.base.there a o q (by rw [hex]; exact fun z => nomatch z)
        rw [nI] at z
        cases z
    have np : ∀ p ∈ X.pn ++ pins, p.1 ≠ a := by
      intro p hp q
      have z := (J.pin p hp).1
      rw [q, nI] at z
      cases z
    have S3 := J3.suite he3 hd3 na nL nF
    refine wpAny_handleBy_cons (codeAny_handlers_test ?_) (by intro q; cases q)
    have LT : PySem.W.Looks (model X.prog X.w) h3 (typeOf (.ref a)) cls := fun A Q E s k q => wpAny_typeOf_ref (k _ _ he3) (by rw [hz3.1]; exact q)
    have test : ∀ {x : Str} {c : Value} {np : Pos} {Q : Value → Shared → Prop} {E : Value → Shared → Prop}, Names X x c → Q c { s' with heap := h3 } → wpAny (model X.prog X.w) (X.A.mark (some (.ref a))) (eval (.Name x np) X.env) Q E { s' with heap := h3 } := by
      intro x c np Q E hc q
      obtain ⟨hg, hdbg, hm | ⟨hm, hv, hnn⟩⟩ := hc
      · exact ld_glob (X := X.suite a ((a, oe3) :: (X.pn ++ pins))) S3 hg hm q hdbg
      · exact ld_blt (X := X.suite a ((a, oe3) :: (X.pn ++ pins))) S3 hg hm hv q hnn hdbg
    refine wpAny_Tuple (wpAny_items_cons (test m1 (wpAny_items_cons (test m2 (wpAny_items_cons (test m3 (wpAny_items_nil ⟨by size_fits, ?_⟩)))))))
    have kp : ∀ b o, h3.get? b = some o → (h3.push { cls := .type "tuple", data := .seq [c1, c2, c3].toArray }).get? b = some o := fun _ _ z => Heap.get?_push_of_some _ z
    have fl4 := flyK fl3 kp
    have J4 : Inv X pins σ' H' { s' with heap := h3.push { cls := .type "tuple", data := .seq [c1, c2, c3].toArray } } := J.landed nb fl4.1 ((up.trans up3).trans (Heap.UpToSlots.of_keeps kp)) os ag
    refine (PySem.W.exm_tup3 J4.kIn (LT.keeps kp) (Heap.get?_push_size h3 rfl) hmat).here ?_
    refine codeAny_handlers_suite_as ?_
    refine HandSPX.lands_againZ fl4 fun h5 fl5 up5 => ?_
    have J5 : Inv X pins σ' H' { s' with heap := h5 } := J.landed nb fl5.1 (((up.trans up3).trans (Heap.UpToSlots.of_keeps kp)).trans up5) os ag
    obtain ⟨oe5, vs5, he5, hz5, hd5⟩ := fl5.there
    have S5 := J5.suite he5 hd5 na nL nF
    refine store_ok (X := X.suite a ((a, oe5) :: (X.pn ++ pins))) (v := .ref a) S5 hN hi hloc rfl (fun s6 S6 => ?_) (.inr hln)
    refine wpAny_mono ((hsu a oe5 cls d (X.pn ++ pins) hz5 ⟨_, hd5⟩).run [] s6 _ H' _ S6 (hyes a na)) (fun f s7 hsp => ?_) (fun _ _ z => False.elim z)
    match f, hsp with
    | .next, ⟨σ7, H7, S7, hn7, q7⟩ =>
      have g7 := (S7.pin (a, oe5) (List.mem_append_left _ List.mem_cons_self)).1
      have I7 : Inv X pins σ7 H7 s7 := S7.unsuite ok
      have I8 := Inv.noteX I7 n0 g7 hz5 hd5 hn7 nL np
      exact gone_ok I8 hN hi hln fun s9 J9 => ⟨_, _, J9, q7⟩
    | .brk, ⟨_, _, _, q⟩ => exact q.elim
    | .cont, ⟨_, _, _, q⟩ => exact q.elim
    | .ret u, ⟨_, _, _, _, _, q⟩ => exact q.elim
  · match f, hsp with
    | .next, ⟨σ', H', J', q⟩ => exact wpAny_execs_nil ⟨σ', H', J'.ofTry ok, q⟩
    | .brk, ⟨σ', H', J', q⟩ => exact ⟨σ', H', J'.ofTry ok, q⟩
    | .cont, ⟨σ', H', J', q⟩ => exact ⟨σ', H', J'.ofTry ok, q⟩
    | .ret u, ⟨v, σ', H', J', r, q⟩ => exact ⟨v, σ', H', J'.ofTry ok, r, q⟩
end
end Hf

set_option Elab.async false
set_option linter.all false
set_option maxRecDepth 100000
set_option maxHeartbeats 4000000
namespace Hf
open PySem L2 PySem.Spec PyProof.Rows

/-! ### one rule for each operator, whatever the operands are -/
theorem OpR.or {X : Cx} {f : Value → Value → Sem Value} {r1 r2 : R2} (a : OpR X f r1) (b : OpR X f r2) : OpR X f (fun x y H Q => r1 x y H Q ∨ r2 x y H Q) :=
  fun pins s σ H x y v u Q I rx ry h => h.elim (a pins s σ H x y v u Q I rx ry) (b pins s σ H x y v u Q I rx ry)
def rAddI : R2 := rI0 fun i j => .int (i + j)
def rAddT : R2 := fun x y H Q => ∃ i j, x = .str i ∧ y = .str j ∧ i.length + j.length ≤ sizeLine ∧ Q (.str (i ++ j)) H
def rAddL (K : PySem.W.Frag) : R2 := fun x y H Q => ∃ l b xs zs, x = .ref l ∧ y = .ref b ∧ SqL K H l xs ∧ SqL K H b zs ∧ xs.length + zs.length ≤ sizeLine ∧ ∀ p, H p = none → Q (.ref p) (upd H p (.lst (xs ++ zs)))
theorem op_addL {X : Cx} : OpR X (binaryOp .Add) (rAddL X.K) := by
  intro pins s σ H x y v u Q I rx ry h
  obtain ⟨l, b, xs, zs, rfl, rfl, h1, h2, sz, q⟩ := h
  have e1 : v = Value.ref l := rx
  have e2 : u = Value.ref b := ry
  subst e1
  subst e2
  obtain ⟨i1, r1, ⟨o1, n1, g1, c1, d1, t1⟩, _⟩ := I.list h1
  obtain ⟨i2, r2, ⟨o2, n2, g2, c2, d2, t2⟩, _⟩ := I.list h2
  have l1 := r1.length
  have l2 := r2.length
  obtain ⟨k1, e1, dt1, sl1⟩ := o1
  obtain ⟨k2, e2, dt2, sl2⟩ := o2
  simp only at c1 d1 t1 c2 d2 t2
  subst c1 d1 t1 c2 d2 t2
  refine concat_meets ⟨_, g1, rfl⟩ ⟨_, g2, rfl⟩ noFill_list_add seq_list_add PySem.F.slot_list_add PySem.F.entry_list_add (PySem.F.args_list_add_2 _ _)
    (list_addW l b i1.toArray i2.toArray n1 n2 _ _ sl1 sl2 (by rw [List.size_toArray, List.size_toArray]; omega)) ⟨g1, g2, ?_⟩
  rw [show i1.toArray ++ i2.toArray = (i1 ++ i2).toArray by simp]
  exact ⟨.ref _, _, I.lnew (t' := s.toks) (r1.append r2) (by rw [List.length_append]; omega), rfl, q _ I.fresh⟩
def rAddA (K : PySem.W.Frag) : R2 := fun x y H Q => rAddI x y H Q ∨ (rAddT x y H Q ∨ (rAddL K x y H Q ∨ rCatA K x y H Q))
theorem op_addA {X : Cx} : OpR X (binaryOp .Add) (rAddA X.K) := op_add.or (op_add_str.or (op_addL.or op_catA))
def rSubA : R2 := rI0 fun i j => .int (i - j)
def rMulI : R2 := rI CMul fun i j => .int (i * j)
def rMulA (K : PySem.W.Frag) : R2 := fun x y H Q => rMulI x y H Q ∨ rRep x y H Q
theorem op_mulA {X : Cx} : OpR X (binaryOp .Mult) (rMulA X.K) := op_mul.or op_rep
def rDivA : R2 := rI CDiv fun i j => .int (i / j)
def rModA : R2 := rI (fun _ j => 0 < j) fun i j => .int (i % j)
def rPowA : R2 := rI CPow fun i j => .int (i ^ j.toNat)
theorem op_subA {X : Cx} : OpR X (binaryOp .Sub) rSubA := op_sub
theorem op_divA {X : Cx} : OpR X (binaryOp .FloorDiv) rDivA := op_fdiv
theorem op_modA {X : Cx} : OpR X (binaryOp .Mod) rModA := op_mod
theorem op_powA {X : Cx} : OpR X (binaryOp .Pow) rPowA := op_pow
def rEqA (K : PySem.W.Frag) : R2 := fun x y H Q => rEq x y H Q ∨ rEqD K x y H Q
def rNeA (K : PySem.W.Frag) : R2 := fun x y H Q => rNe x y H Q ∨ rNeD K x y H Q
theorem op_eqA {X : Cx} {k : Nat} (hr : RG k X.A) : OpR X (compareOp .Eq) (rEqA X.K) := op_eq.or (op_eqD hr.rm.units)
theorem op_neA {X : Cx} {k : Nat} (hr : RG k X.A) : OpR X (compareOp .NotEq) (rNeA X.K) := op_ne.or (op_neD hr.rm.units)
def rLtA : R2 := fun x y H Q => (∃ i j, x = .int i ∧ y = .int j ∧ Q (.bl (decide (i < j))) H) ∨ (∃ i j, x = .str i ∧ y = .str j ∧ Q (.bl (decide (i.cps.toList < j.cps.toList))) H)
def rLeA : R2 := fun x y H Q => (∃ i j, x = .int i ∧ y = .int j ∧ Q (.bl (decide (i ≤ j))) H) ∨ (∃ i j, x = .str i ∧ y = .str j ∧ Q (.bl (!decide (j.cps.toList < i.cps.toList))) H)
def rGtA : R2 := fun x y H Q => (∃ i j, x = .int i ∧ y = .int j ∧ Q (.bl (decide (j < i))) H) ∨ (∃ i j, x = .str i ∧ y = .str j ∧ Q (.bl (decide (j.cps.toList < i.cps.toList))) H)
def rGeA : R2 := fun x y H Q => (∃ i j, x = .int i ∧ y = .int j ∧ Q (.bl (decide (j ≤ i))) H) ∨ (∃ i j, x = .str i ∧ y = .str j ∧ Q (.bl (!decide (i.cps.toList < j.cps.toList))) H)
theorem op_ltA {X : Cx} : OpR X (compareOp .Lt) rLtA := OpR.or (r1 := rI0 fun i j => .bl (decide (i < j))) op_lt op_lt_str
theorem op_leA {X : Cx} : OpR X (compareOp .LtE) rLeA := OpR.or (r1 := rI0 fun i j => .bl (decide (i ≤ j))) op_le op_le_str
theorem op_gtA {X : Cx} : OpR X (compareOp .Gt) rGtA := OpR.or (r1 := rI0 fun i j => .bl (decide (j < i))) op_gt op_gt_str
theorem op_geA {X : Cx} : OpR X (compareOp .GtE) rGeA := OpR.or (r1 := rI0 fun i j => .bl (decide (j ≤ i))) op_ge op_ge_str
def rInA (K : PySem.W.Frag) : R2 := fun x y H Q => rIn K false x y H Q ∨ rInS x y H Q
def rNotInA (K : PySem.W.Frag) : R2 := fun x y H Q => rIn K true x y H Q ∨ rNotInS x y H Q
theorem op_inA {X : Cx} : OpR X (compareOp .In) (rInA X.K) := op_in_seq.or op_inS
theorem op_notInA {X : Cx} : OpR X (compareOp .NotIn) (rNotInA X.K) := op_notIn_seq.or op_notInS
def rIsA : R2 := rIsN
def rIsNotA : R2 := rNotN
theorem op_isA {X : Cx} : OpR X (compareOp .Is) rIsA := op_isN1
theorem op_isNotA {X : Cx} : OpR X (compareOp .IsNot) rIsNotA := op_notN1
def ipAddA : TIp := fun x y H Q => (∃ i j, x = .int i ∧ y = .int j ∧ Q (.int (i + j)) H) ∨ (∃ i j, x = .str i ∧ y = .str j ∧ i.length + j.length ≤ sizeLine ∧ Q (.str (i ++ j)) H)
theorem ip_addA {X : Cx} : PIp X .Add ipAddA := fun pins s σ H x y v u Q I rx ry h => h.elim (fun h => ip_add pins s σ H x y v u Q I rx ry h) (fun h => iop_add_str pins s σ H x y v u Q I rx ry h)
def ipSubA : TIp := ipI fun i j => i - j
theorem ip_subA {X : Cx} : PIp X .Sub ipSubA := ip_sub
def rLenA (K : PySem.W.Frag) : List V → Hp → VK → Prop := fun xs H Q => ∃ x n, xs = [x] ∧ LenV K x H n ∧ Q (.int n) H
theorem call_lenA {X : Cx} : CallR X (.builtin "len") (rLenA X.K) := call_len

/-! ### readings, one step at a time -/
section
variable {σ : L2.St} {H : Hp} {Q : VK} {K : PySem.W.Frag} {ta tb tc : TE} {v x y : V} {D : Ends} {t u : TS} {tt tu : TT} {i j : Int}
theorem g_var {n : Nat} (h : σ[n]? = some (some v)) (q : Q v H) : tVar n σ H Q := ⟨v, h, q⟩
theorem g_c (q : Q v H) : tC v σ H Q := q
theorem g_op {r : R2} (q : ta σ H fun x H1 => tb σ H1 fun y H2 => r x y H2 Q) : tOp r ta tb σ H Q := q
theorem g_chain {r r' : R2} (q : ta σ H fun x H1 => tb σ H1 fun y H2 => r x y H2 fun z H3 => ∃ k, z = .bl k ∧ if k = true then tc σ H3 fun w H4 => r' y w H4 Q else Q (.bl false) H3) : tChain r r' ta tb tc σ H Q := q
theorem g_test {Q : Bool → Hp → Prop} (q : ta σ H fun x H1 => ∃ k, x = .bl k ∧ Q k H1) : tTest ta σ H Q := q
theorem g_tB {Q : Bool → Hp → Prop} (q : ta σ H fun x H1 => ∃ k, x = .bl k ∧ Q k H1) : tB ta σ H Q := q
theorem g_bl {b : Bool} {P : Bool → Prop} (q : P b) : ∃ k, V.bl b = V.bl k ∧ P k := ⟨b, rfl, q⟩
theorem g_and {Q : Bool → Hp → Prop} (q : tt σ H fun c H1 => if c = true then tu σ H1 Q else Q false H1) : tAnd tt tu σ H Q := q
theorem g_or {Q : Bool → Hp → Prop} (q : tt σ H fun c H1 => if c = true then Q true H1 else tu σ H1 Q) : tOr tt tu σ H Q := q
theorem g_not {Q : Bool → Hp → Prop} (q : tt σ H fun c H1 => Q (!c) H1) : tNot tt σ H Q := q
theorem g_andV (q : ta σ H fun x H1 => ∃ c, x = .bl c ∧ if c = true then tb σ H1 Q else Q (.bl false) H1) : tAndV ta tb σ H Q := q
theorem g_orV (q : ta σ H fun x H1 => ∃ c, x = .bl c ∧ if c = true then Q (.bl true) H1 else tb σ H1 Q) : tOrV ta tb σ H Q := q
theorem g_notV (q : ta σ H fun x H1 => ∃ c, x = .bl c ∧ Q (.bl (!c)) H1) : tNotV ta σ H Q := q
theorem g_ifE (q : tt σ H fun c H1 => if c = true then ta σ H1 Q else tb σ H1 Q) : tIf tt ta tb σ H Q := q
theorem g_seq (q : t { nx := u D, rt := D.rt, bk := D.bk, ct := D.ct } σ H) : tSeq t u D σ H := q
theorem g_asg {n : Nat} (q : ta σ H fun x H1 => D.nx (σ.set n (some x)) H1) : tAsg ta (gName n) D σ H := q
theorem g_ret (q : ta σ H D.rt) : tRet ta D σ H := q
theorem g_ifS (q : tt σ H fun c H1 => if c = true then t D σ H1 else u D σ H1) : tIfS tt t u D σ H := q
theorem g_next (q : D.nx σ H) : tNext D σ H := q
theorem g_drop (q : ta σ H fun _ H1 => D.nx σ H1) : tDrop ta D σ H := q
theorem g_nil {Q : List V → Hp → Prop} (q : Q [] H) : tNil σ H Q := q
theorem g_cons {tr : TA} {Q : List V → Hp → Prop} (q : ta σ H fun x H1 => tr σ H1 fun xs H2 => Q (x :: xs) H2) : tCons ta tr σ H Q := q
theorem g_tup {t : TA} (q : t σ H fun xs H1 => xs.length ≤ sizeLine ∧ ∀ p, H1 p = none → Q (.ref p) (upd H1 p (.tup xs))) : tTup t σ H Q := q
theorem g_lst {t : TA} (q : t σ H fun xs H1 => xs.length ≤ sizeLine ∧ ∀ p, H1 p = none → Q (.ref p) (upd H1 p (.lst xs))) : tLst t σ H Q := q
theorem g_sz {xs : List V} {P : Prop} (h : xs.length ≤ 100000) (q : P) : xs.length ≤ sizeLine ∧ P := ⟨Nat.le_trans h (by decide), q⟩
theorem g_cb {r : List V → Hp → VK → Prop} {t : TA} (q : t σ H fun xs H1 => r xs H1 Q) : tCB r t σ H Q := q
theorem g_callG {n m : Nat} {sp : Sp} {g : List V → List V → List V} {t tk : TA} (q : t σ H fun xs H1 => tk σ H1 fun zs H2 => xs.length = n ∧ zs.length = m ∧ sp (g xs zs) H2 Q E0) : tCallG n m sp g t tk σ H Q := q
theorem g_args {n m : Nat} {xs zs : List V} {P : Prop} (h1 : xs.length = n) (h2 : zs.length = m) (q : P) : xs.length = n ∧ zs.length = m ∧ P := ⟨h1, h2, q⟩
theorem g_spx {sp : Sp} {xs : List V} {E : XK} (q : sp xs H Q E) : sp xs H Q E := q
theorem g_sp {sp : Sp} {xs : List V} (q : sp xs H Q E0) : sp xs H Q E0 := q
theorem g_addI (q : Q (.int (i + j)) H) : rAddA K (.int i) (.int j) H Q := .inl ⟨i, j, rfl, rfl, q⟩
theorem g_addT {a b : Str} (h : a.length + b.length ≤ sizeLine) (q : Q (.str (a ++ b)) H) : rAddA K (.str a) (.str b) H Q := .inr (.inl ⟨a, b, rfl, rfl, h, q⟩)
theorem g_addL {a b : Addr} {xs ys : List V} (h1 : SqL K H a xs) (h2 : SqL K H b ys) (h : xs.length + ys.length ≤ sizeLine) (q : ∀ p, H p = none → Q (.ref p) (upd H p (.lst (xs ++ ys)))) : rAddA K (.ref a) (.ref b) H Q := .inr (.inr (.inl ⟨a, b, xs, ys, rfl, rfl, h1, h2, h, q⟩))
theorem g_sub (q : Q (.int (i - j)) H) : rSubA (.int i) (.int j) H Q := ⟨i, j, rfl, rfl, q⟩
theorem g_mulI (c : CMul i j) (q : Q (.int (i * j)) H) : rMulA K (.int i) (.int j) H Q := .inl ⟨i, j, rfl, rfl, c, q⟩
theorem g_rep {a : Addr} {xs : List V} (h : H a = some (.lst xs)) (h1 : -(2 ^ 63) ≤ j) (h2 : j < 2 ^ 63) (h3 : xs.length * j.toNat ≤ sizeLine) (q : ∀ p, H p = none → Q (.ref p) (upd H p (.lst (List.replicate j.toNat xs).flatten))) : rMulA K (.ref a) (.int j) H Q := .inr ⟨a, j, xs, rfl, rfl, h, h1, h2, h3, q⟩
theorem flat1 {α : Type} (x : α) : ∀ n : Nat, (List.replicate n [x]).flatten = List.replicate n x
  | 0 => rfl
  | n + 1 => by rw [List.replicate_succ, List.flatten_cons, flat1 x n, List.replicate_succ]; rfl
theorem g_rep1 {a : Addr} (h : H a = some (.lst [x])) (h1 : -(2 ^ 63) ≤ j) (h2 : j < 2 ^ 63) (h3 : j.toNat ≤ 1000) (q : ∀ p, H p = none → Q (.ref p) (upd H p (.lst (List.replicate j.toNat x)))) : rMulA K (.ref a) (.int j) H Q :=
  g_rep h h1 h2 (by show 1 * j.toNat ≤ sizeLine; rw [Nat.one_mul]; exact Nat.le_trans h3 (by decide)) (by rw [flat1]; exact q)
theorem g_div (c : CDiv i j) (q : Q (.int (i / j)) H) : rDivA (.int i) (.int j) H Q := ⟨i, j, rfl, rfl, c, q⟩
theorem g_mod (c : 0 < j) (q : Q (.int (i % j)) H) : rModA (.int i) (.int j) H Q := ⟨i, j, rfl, rfl, c, q⟩
theorem g_pow (c : CPow i j) (q : Q (.int (i ^ j.toNat)) H) : rPowA (.int i) (.int j) H Q := ⟨i, j, rfl, rfl, c, q⟩
theorem v_int : decide (V.int i = V.int j) = decide (i = j) := by by_cases h : i = j <;> simp [h]
theorem v_bl {a b : Bool} : decide (V.bl a = V.bl b) = decide (a = b) := by by_cases h : a = b <;> simp [h]
theorem v_str {a b : Str} : decide (V.str a = V.str b) = decide (a = b) := by by_cases h : a = b <;> simp [h]
theorem g_eqI (q : Q (.bl (decide (i = j))) H) : rEqA K (.int i) (.int j) H Q := .inl ⟨rfl, by rw [v_int]; exact q⟩
theorem g_eqB {a b : Bool} (q : Q (.bl (decide (a = b))) H) : rEqA K (.bl a) (.bl b) H Q := .inl ⟨rfl, by rw [v_bl]; exact q⟩
theorem g_eqT {a b : Str} (q : Q (.bl (decide (a = b))) H) : rEqA K (.str a) (.str b) H Q := .inl ⟨rfl, by rw [v_str]; exact q⟩
theorem g_neI (q : Q (.bl (!decide (i = j))) H) : rNeA K (.int i) (.int j) H Q := .inl ⟨rfl, by rw [v_int]; exact q⟩
theorem g_neB {a b : Bool} (q : Q (.bl (!decide (a = b))) H) : rNeA K (.bl a) (.bl b) H Q := .inl ⟨rfl, by rw [v_bl]; exact q⟩
theorem g_neT {a b : Str} (q : Q (.bl (!decide (a = b))) H) : rNeA K (.str a) (.str b) H Q := .inl ⟨rfl, by rw [v_str]; exact q⟩
theorem g_eqD {d e : PyData} (h1 : Dp K H x d) (h2 : Dp K H y e) (s1 : SeqAt.shaped d = true) (s2 : SeqAt.shaped e = true) (q : Q (.bl (PyData.eqv d e)) H) : rEqA K x y H Q := .inr ⟨d, e, h1, h2, s1, s2, q⟩
theorem g_neD {d e : PyData} (h1 : Dp K H x d) (h2 : Dp K H y e) (s1 : SeqAt.shaped d = true) (s2 : SeqAt.shaped e = true) (q : Q (.bl (!PyData.eqv d e)) H) : rNeA K x y H Q := .inr ⟨d, e, h1, h2, s1, s2, q⟩
theorem g_ltI (q : Q (.bl (decide (i < j))) H) : rLtA (.int i) (.int j) H Q := .inl ⟨i, j, rfl, rfl, q⟩
theorem g_leI (q : Q (.bl (decide (i ≤ j))) H) : rLeA (.int i) (.int j) H Q := .inl ⟨i, j, rfl, rfl, q⟩
theorem g_gtI (q : Q (.bl (decide (j < i))) H) : rGtA (.int i) (.int j) H Q := .inl ⟨i, j, rfl, rfl, q⟩
theorem g_geI (q : Q (.bl (decide (j ≤ i))) H) : rGeA (.int i) (.int j) H Q := .inl ⟨i, j, rfl, rfl, q⟩
theorem g_inS {c : Nat} {z : Str} (q : Q (.bl (decide (c ∈ z.cps.toList))) H) : rInA K (.str ⟨#[c]⟩) (.str z) H Q := .inr ⟨c, z, rfl, rfl, q⟩
theorem g_niS {c : Nat} {z : Str} (q : Q (.bl (!decide (c ∈ z.cps.toList))) H) : rNotInA K (.str ⟨#[c]⟩) (.str z) H Q := .inr ⟨c, z, rfl, rfl, q⟩
theorem g_inT {a : Addr} {xs : List V} (h : SqT K H a xs) (h1 : flatV x = true) (h2 : xs.all flatV = true) (q : Q (.bl (inV x xs)) H) : rInA K x (.ref a) H Q := .inl ⟨a, xs, rfl, .inr h, h1, h2, q⟩
theorem g_inL {a : Addr} {xs : List V} (h : SqL K H a xs) (h1 : flatV x = true) (h2 : xs.all flatV = true) (q : Q (.bl (inV x xs)) H) : rInA K x (.ref a) H Q := .inl ⟨a, xs, rfl, .inl h, h1, h2, q⟩
theorem g_ixL {a : Addr} {xs : List V} (h : SqL K H a xs) (h1 : atI xs i = some v) (q : Q v H) : rIx K (.ref a) (.int i) H Q := .inl ⟨a, xs, i, v, rfl, rfl, h, h1, q⟩
theorem g_ixT {a : Addr} {xs : List V} (h : SqT K H a xs) (h1 : atI xs i = some v) (q : Q v H) : rIx K (.ref a) (.int i) H Q := .inr (.inl ⟨a, xs, i, v, rfl, rfl, h, h1, q⟩)
theorem g_ixS {z : Str} {c : Nat} (h : z.length ≤ sizeLine) (h1 : atI z.cps.toList i = some c) (q : Q (.str ⟨#[c]⟩) H) : rIx K (.str z) (.int i) H Q := .inr (.inr ⟨z, i, c, rfl, rfl, h, h1, q⟩)
theorem g_lenT {z : Str} (h : z.length ≤ sizeLine) (q : Q (.int z.length) H) : rLenA K [.str z] H Q := ⟨_, _, rfl, ⟨h, rfl⟩, q⟩
theorem g_lenL {a : Addr} {xs : List V} (h : SqL K H a xs) (q : Q (.int xs.length) H) : rLenA K [.ref a] H Q := ⟨_, _, rfl, .inl ⟨xs, h, rfl⟩, q⟩
theorem g_lenU {a : Addr} {xs : List V} (h : SqT K H a xs) (q : Q (.int xs.length) H) : rLenA K [.ref a] H Q := ⟨_, _, rfl, .inr ⟨xs, h, rfl⟩, q⟩
theorem g_isi {T tn : String} {b : Bool} (ty : TyX K H x (.type tn)) (h : kitB tn T = some b) (q : Q (.bl b) H) : rIsi K [x, .ty T] H Q := ⟨x, .ty T, _, _, b, rfl, .ty T, ty, kit_ty h, q⟩
theorem g_repr {d : PyData} (h : Dp K H v d) (h2 : Shows d) (q : Q (.str d.shown) H) : rRepr K [v] H Q := ⟨v, d, rfl, h, h2, q⟩
theorem g_ite {p A B : Prop} [Decidable p] (h1 : p → A) (h2 : ¬ p → B) : if decide p = true then A else B := by
  by_cases h : p
  · rw [if_pos (decide_eq_true h)]; exact h1 h
  · rw [if_neg (by rw [decide_eq_false h]; exact Bool.false_ne_true)]; exact h2 h
theorem g_iteN {p A B : Prop} [Decidable p] (h1 : p → B) (h2 : ¬ p → A) : if (!decide p) = true then A else B := by
  by_cases h : p
  · rw [if_neg (by rw [decide_eq_true h]; decide)]; exact h1 h
  · rw [if_pos (by rw [decide_eq_false h]; rfl)]; exact h2 h
theorem g_iteT {p A B : Prop} [Decidable p] (h : p) (q : A) : if decide p = true then A else B := by rw [if_pos (decide_eq_true h)]; exact q
theorem g_iteF {p A B : Prop} [Decidable p] (h : ¬ p) (q : B) : if decide p = true then A else B := by rw [if_neg (by rw [decide_eq_false h]; exact Bool.false_ne_true)]; exact q
theorem g_iteNT {p A B : Prop} [Decidable p] (h : ¬ p) (q : A) : if (!decide p) = true then A else B := by rw [if_pos (by rw [decide_eq_false h]; rfl)]; exact q
theorem g_iteNF {p A B : Prop} [Decidable p] (h : p) (q : B) : if (!decide p) = true then A else B := by rw [if_neg (by rw [decide_eq_true h]; decide)]; exact q
theorem g_iteNtt {A B : Prop} (q : B) : if (!true) = true then A else B := q
theorem g_iteNff {A B : Prop} (q : A) : if (!false) = true then A else B := q
theorem g_iteb {b : Bool} {A B : Prop} (h1 : b = true → A) (h2 : b = false → B) : if b = true then A else B := by
  cases b with
  | true => exact h1 rfl
  | false => exact h2 rfl
theorem g_iteNb {b : Bool} {A B : Prop} (h1 : b = false → A) (h2 : b = true → B) : if (!b) = true then A else B := by
  cases b with
  | true => exact h2 rfl
  | false => exact h1 rfl
end
end Hf
namespace Hf
open PySem L2 PySem.Spec PyProof.Rows
/-! ### heaps -/
section
variable {H H1 H2 : Hp} {a p : Addr} {o : HO} {K : PySem.W.Frag} {xs : List V}
theorem Same.at_ (e : Same H H1) (h : H a = some o) : H1 a = some o := e a o h
theorem Same.seqT (e : Same H H1) (h : SqT K H a xs) : SqT K H1 a xs := by
  rcases h with (h | ⟨o, h⟩) | h
  · exact .inl (.inl (e _ _ h))
  · exact .inl (.inr ⟨o, e _ _ h⟩)
  · exact .inr h
theorem Same.upd (hp : H p = none) (e : Same H H1) : Same H (upd H1 p o) := fun b u z => by
  rw [upd_ne (ne_of_none z hp)]
  exact e b u z
theorem seq_new (hp : H p = none) (h : SqL K H a xs) : SqL K (upd H p o) a xs := (Same.upd hp (Same.refl H)).seq h
theorem seqT_new (hp : H p = none) (h : SqT K H a xs) : SqT K (upd H p o) a xs := Same.seqT (Same.upd hp (Same.refl H)) h
theorem free_upd (h : upd H p o a = none) : H a = none := by
  by_cases e : a = p
  · subst e; rw [upd_same] at h; exact nomatch h
  · rw [upd_ne e] at h; exact h
mutual
theorem Same.dp (e : Same H H1) : ∀ (d : PyData) (v : V), Dp K H v d → Dp K H1 v d
  | .none, _, .non => .non
  | .bool _, _, .bl _ => .bl _
  | .int _, _, .int _ => .int _
  | .str _, _, .str _ => .str _
  | .list ds, _, .lst h1 h2 => .lst (e.seq h1) (Same.dps e ds _ h2)
  | .tuple ds, _, .tup h1 h2 => .tup (Same.seqT e h1) (Same.dps e ds _ h2)
theorem Same.dps (e : Same H H1) : ∀ (ds : List PyData) (vs : List V), DpAll K H vs ds → DpAll K H1 vs ds
  | [], _, .nil => .nil
  | d :: ds, _, .cons h1 h2 => .cons (Same.dp e d _ h1) (Same.dps e ds _ h2)
end
end
section
variable {H H1 : Hp} {Q : VK} {v w : V}
/-- the end of a def that leaves all as it was -/
theorem fin {P : Hp → Prop} (k : ∀ H', Same H H' → Q v H') (e : w = v) (s : Same H H1) : Q w H1 := e ▸ k H1 s
theorem finI {i j : Int} (k : ∀ H', Same H H' → Q (.int i) H') (e : j = i) (s : Same H H1) : Q (.int j) H1 := e ▸ k H1 s
theorem finB {b c : Bool} (k : ∀ H', Same H H' → Q (.bl b) H') (e : c = b) (s : Same H H1) : Q (.bl c) H1 := e ▸ k H1 s
theorem finT {b c : Str} (k : ∀ H', Same H H' → Q (.str b) H') (e : c = b) (s : Same H H1) : Q (.str c) H1 := e ▸ k H1 s
end
/-! ### names of the module -/
theorem pe_globE {X : Cx} {x : Str} {v : V} {pos : Pos} (h : ∃ u, X.mg x = some u ∧ RelV v u) (hg : Gl X x := by rfl) (hd : (x == ("__debug__" : Str)) = false := by decide) : PE X (.Name x pos) (tC v) := by
  obtain ⟨u, h1, h2⟩ := h
  exact pe_glob hg h1 h2 hd
/-! ### isinstance against built-in types -/
theorem k_int_int : kitB "int" "int" = some true := by decide +kernel
theorem k_int_bool : kitB "int" "bool" = some false := by decide +kernel
theorem k_bool_bool : kitB "bool" "bool" = some true := by decide +kernel
theorem k_bool_int : kitB "bool" "int" = some true := by decide +kernel
theorem k_str_str : kitB "str" "str" = some true := by decide +kernel
theorem k_str_int : kitB "str" "int" = some false := by decide +kernel
theorem k_int_str : kitB "int" "str" = some false := by decide +kernel
section
variable {H : Hp} {K : PySem.W.Frag} {Q : VK} {i : Int} {b : Bool} {z : Str}
theorem g_isiII (q : Q (.bl true) H) : rIsi K [.int i, .ty "int"] H Q := g_isi (.base (.int _)) k_int_int q
theorem g_isiIB (q : Q (.bl false) H) : rIsi K [.int i, .ty "bool"] H Q := g_isi (.base (.int _)) k_int_bool q
theorem g_isiBB (q : Q (.bl true) H) : rIsi K [.bl b, .ty "bool"] H Q := g_isi (.base (.bl _)) k_bool_bool q
theorem g_isiBI (q : Q (.bl true) H) : rIsi K [.bl b, .ty "int"] H Q := g_isi (.base (.bl _)) k_bool_int q
theorem g_isiSS (q : Q (.bl true) H) : rIsi K [.str z, .ty "str"] H Q := g_isi (.base (.str _)) k_str_str q
theorem g_isiSI (q : Q (.bl false) H) : rIsi K [.str z, .ty "int"] H Q := g_isi (.base (.str _)) k_str_int q
theorem g_isiIS (q : Q (.bl false) H) : rIsi K [.int i, .ty "str"] H Q := g_isi (.base (.int _)) k_int_str q
end
end Hf

set_option Elab.async false
set_option linter.all false
set_option maxRecDepth 100000
set_option maxHeartbeats 4000000
namespace Hf
open PySem L2 PySem.Spec PyProof.Rows
/-! ### loops -/
section
variable {σ : L2.St} {H : Hp} {Q : VK} {K : PySem.W.Frag} {D : Ends} {c : TT} {tb : TS} {wi : TI} {g : TG} {te : TE} {ta : TA} {v : V}
theorem g_name {n : Nat} {Q : L2.St → Hp → Prop} (q : Q (σ.set n (some v)) H) : gName n v σ H Q := q
theorem g_while (W : Nat → L2.St → Hp → Prop) (m : Nat) (h0 : W m σ H)
    (hs : ∀ m σ H, W m σ H → c σ H fun b H1 => if b = true then ∃ N : L2.St → Hp → Prop, (∀ σ' H', N σ' H' → ∃ m', m' < m ∧ W m' σ' H') ∧ tb { D with nx := N, ct := N, bk := D.nx } σ H1 else D.nx σ H1) : tWhile c tb D σ H :=
  ⟨W, ⟨m, h0⟩, hs⟩
theorem g_turn {W : Nat → L2.St → Hp → Prop} {m : Nat} (q : tb { D with nx := fun σ' H' => ∃ m', m' < m ∧ W m' σ' H', ct := fun σ' H' => ∃ m', m' < m ∧ W m' σ' H', bk := D.nx } σ H) :
    ∃ N : L2.St → Hp → Prop, (∀ σ' H', N σ' H' → ∃ m', m' < m ∧ W m' σ' H') ∧ tb { D with nx := N, ct := N, bk := D.nx } σ H := ⟨_, fun _ _ n => n, q⟩
theorem g_for1 (q : ta σ H fun vs H1 => ∃ j : Int, vs = [.int j] ∧ -(2 ^ 62) ≤ j ∧ j < 2 ^ 62 ∧ ∃ W : Nat → Nat → L2.St → Hp → Prop, (∃ m, W 0 m σ H1) ∧ ∀ i m σ H, W i m σ H →
  ((Itr 0 j.toNat).stop i H ∧ D.nx σ H) ∨ ((Itr 0 j.toNat).go i H ∧ ∃ N : L2.St → Hp → Prop, (∀ σ' H', N σ' H' → ∃ m', m' < m ∧ W (i + 1) m' σ' H') ∧ ∀ x H', (Itr 0 j.toNat).yld i H x H' → g x σ H' fun σ2 H2 => tb { D with nx := N, ct := N, bk := D.nx } σ2 H2)) : tFor (iRng1 ta) g tb D σ H := q
theorem g_for2 (q : ta σ H fun vs H1 => ∃ i j : Int, vs = [.int i, .int j] ∧ (-(2 ^ 62) ≤ i ∧ i < 2 ^ 62 ∧ -(2 ^ 62) ≤ j ∧ j < 2 ^ 62) ∧ ∃ W : Nat → Nat → L2.St → Hp → Prop, (∃ m, W 0 m σ H1) ∧ ∀ k m σ H, W k m σ H →
  ((Itr i (j - i).toNat).stop k H ∧ D.nx σ H) ∨ ((Itr i (j - i).toNat).go k H ∧ ∃ N : L2.St → Hp → Prop, (∀ σ' H', N σ' H' → ∃ m', m' < m ∧ W (k + 1) m' σ' H') ∧ ∀ x H', (Itr i (j - i).toNat).yld k H x H' → g x σ H' fun σ2 H2 => tb { D with nx := N, ct := N, bk := D.nx } σ2 H2)) : tFor (iRng2 ta) g tb D σ H := q
end
/-! ### comprehensions whose element is a plain value -/
/-- te gives v, whatever was laid meanwhile -/
def Evs (te : TE) (σ : L2.St) (H : Hp) (v : V) : Prop := ∀ Q : VK, (∀ H', Same H H' → Q v H') → te σ H Q
section
variable {σ : L2.St} {H : Hp} {Q : VK} {K : PySem.W.Frag} {te : TE} {ta : TA} {vs : List Nat} {j : Nat}
theorem range_snoc {α : Type} (n : Nat) (f : Nat → α) : (List.range (n + 1)).map f = (List.range n).map f ++ [f n] := by rw [List.range_succ, List.map_append]; rfl
theorem lc_map {lo : Int} {n : Nat} {Qd : Addr → Hp → Prop} (f : Nat → V) (hn : n ≤ 1000000) (hw : ∀ v, wipe ((wipe σ vs).set j (some v)) vs = wipe σ vs)
    (he : ∀ i : Nat, i < n → ∀ H', Same H H' → Evs te ((wipe σ vs).set j (some (.int (lo + i)))) H' (f i))
    (q : ∀ D H', H D = none → Same H H' → H' D = some (.lst ((List.range n).map f)) → Qd D H') :
    ∀ D, H D = none → ∃ W : Nat → Nat → Hp → Prop, (∃ m, W 0 m (upd H D (.lst []))) ∧ ∀ i m H, W i m H → ((Itr lo n).stop i H ∧ Qd D H) ∨ ((Itr lo n).go i H ∧ ∃ Nx : Hp → Prop, (∀ H', Nx H' → ∃ m', m' < m ∧ W (i + 1) m' H') ∧
      ∀ x H', (Itr lo n).yld i H x H' → gName j x (wipe σ vs) H' fun σ2 H2 => wipe σ2 vs = wipe σ vs ∧ tYes σ2 H2 fun b H3 => if b = true then te σ2 H3 fun y H4 => ∃ acc, H4 D = some (.lst acc) ∧ acc.length < sizeLine ∧ Nx (upd H4 D (.lst (acc ++ [y]))) else Nx H3) := by
  intro D hD
  refine lc_range (lo := lo) (n := n) (fun i H' => Same H H' ∧ H' D = some (.lst ((List.range i).map f))) ⟨Same.upd hD (Same.refl H), upd_same⟩ ?_ (fun H' p => q D H' hD p.1 p.2)
  rintro i H' hi ⟨s, hd⟩
  refine ⟨hw _, ?_⟩
  dsimp only [tYes]
  rw [if_pos rfl]
  refine he i hi H' s _ (fun H2 s2 => ⟨_, s2 D _ hd, ?_, Same.upd hD (Same.trans s s2), ?_⟩)
  · rw [List.length_map, List.length_range]
    exact Nat.lt_of_le_of_lt (Nat.le_trans (Nat.le_of_lt hi) hn) (by decide)
  · rw [range_snoc]
    exact upd_same
theorem g_lc1 {g : TG} {tt : TT} (q : ta σ H fun ws H1 => ∃ j : Int, ws = [.int j] ∧ -(2 ^ 62) ≤ j ∧ j < 2 ^ 62 ∧ ∀ D, H1 D = none → ∃ W : Nat → Nat → Hp → Prop, (∃ m, W 0 m (upd H1 D (.lst []))) ∧ ∀ i m H, W i m H → ((Itr 0 j.toNat).stop i H ∧ Q (.ref D) H) ∨
      ((Itr 0 j.toNat).go i H ∧ ∃ Nx : Hp → Prop, (∀ H', Nx H' → ∃ m', m' < m ∧ W (i + 1) m' H') ∧ ∀ x H', (Itr 0 j.toNat).yld i H x H' → g x (wipe σ vs) H' fun σ2 H2 => wipe σ2 vs = wipe σ vs ∧ tt σ2 H2 fun b H3 =>
        if b = true then te σ2 H3 fun y H4 => ∃ acc, H4 D = some (.lst acc) ∧ acc.length < sizeLine ∧ Nx (upd H4 D (.lst (acc ++ [y]))) else Nx H3)) : tLc (iRng1 ta) g tt te vs σ H Q := q
theorem g_lc2 {g : TG} {tt : TT} (q : ta σ H fun ws H1 => ∃ i j : Int, ws = [.int i, .int j] ∧ (-(2 ^ 62) ≤ i ∧ i < 2 ^ 62 ∧ -(2 ^ 62) ≤ j ∧ j < 2 ^ 62) ∧ ∀ D, H1 D = none → ∃ W : Nat → Nat → Hp → Prop, (∃ m, W 0 m (upd H1 D (.lst []))) ∧ ∀ k m H, W k m H → ((Itr i (j - i).toNat).stop k H ∧ Q (.ref D) H) ∨
      ((Itr i (j - i).toNat).go k H ∧ ∃ Nx : Hp → Prop, (∀ H', Nx H' → ∃ m', m' < m ∧ W (k + 1) m' H') ∧ ∀ x H', (Itr i (j - i).toNat).yld k H x H' → g x (wipe σ vs) H' fun σ2 H2 => wipe σ2 vs = wipe σ vs ∧ tt σ2 H2 fun b H3 =>
        if b = true then te σ2 H3 fun y H4 => ∃ acc, H4 D = some (.lst acc) ∧ acc.length < sizeLine ∧ Nx (upd H4 D (.lst (acc ++ [y]))) else Nx H3)) : tLc (iRng2 ta) g tt te vs σ H Q := q
theorem g_sum {a : Addr} {xs : List V} (ns : List Int) (h : SqL K H a xs) (e : xs = ns.map V.int) (q : Q (.int ns.sum) H) : rSum K [.ref a] H Q := ⟨a, ns, rfl, e ▸ h, q⟩
theorem g_par {i j : Nat} {D : Ends} (q : ta σ H fun vs H1 => ∃ v w, vs = [v, w] ∧ D.nx ((σ.set i (some v)).set j (some w)) H1) : tPar i j ta D σ H := q
theorem g_par3 {i j l : Nat} {D : Ends} (q : ta σ H fun vs H1 => ∃ u v w, vs = [u, v, w] ∧ D.nx (((σ.set i (some u)).set j (some v)).set l (some w)) H1) : tPar3 i j l ta D σ H := q
theorem g_two {v w : V} {P : V → V → Prop} (q : P v w) : ∃ a b, [v, w] = [a, b] ∧ P a b := ⟨v, w, rfl, q⟩
theorem g_three {u v w : V} {P : V → V → V → Prop} (q : P u v w) : ∃ a b c, [u, v, w] = [a, b, c] ∧ P a b c := ⟨u, v, w, rfl, q⟩
end
/-! ### draws -/
def drawK (c : Addr) (a l u : Int) : List (Key × V) := [(.inr "cells", .ref c), (.inr "at", .int a), (.inr "left", .int l), (.inr "used", .int u)]
/-- the state of the draws at d (the cells at c), behind at most n draws -/
def DrawAt (K : PySem.W.Frag) (n : Nat) (H : Hp) (d c : Addr) : Prop :=
  ∃ (ns : List Int) (a l u : Int), H d = some (.dK (drawK c a l u)) ∧ H c = some (.lst (ns.map V.int)) ∧ 0 < ns.length ∧ ns.length ≤ 64 ∧ 0 ≤ a ∧ a ≤ n ∧ 0 ≤ u ∧ u ≤ n
/-- all but d is as it was -/
def Keep (d : Addr) (H H' : Hp) : Prop := ∀ b o, b ≠ d → H b = some o → H' b = some o
theorem Keep.refl (d : Addr) (H : Hp) : Keep d H H := fun _ _ _ h => h
theorem Keep.of {d : Addr} {H H' : Hp} (s : Same H H') : Keep d H H' := fun b o _ h => s b o h
theorem Keep.trans {d : Addr} {H H1 H2 : Hp} (a : Keep d H H1) (b : Keep d H1 H2) : Keep d H H2 := fun c o n h => b c o n (a c o n h)
theorem Keep.same {d : Addr} {H H1 H2 : Hp} (a : Keep d H H1) (b : Same H1 H2) : Keep d H H2 := fun c o n h => b c o (a c o n h)
theorem Keep.set {d : Addr} {H H1 : Hp} {o : HO} (a : Keep d H H1) : Keep d H (upd H1 d o) := fun c u n h => by rw [upd_ne n]; exact a c u n h
theorem Keep.new {d p : Addr} {H H1 : Hp} {o : HO} (hp : H p = none) (a : Keep d H H1) : Keep d H (upd H1 p o) := fun c u n h => by rw [upd_ne (ne_of_none h hp)]; exact a c u n h
def notD : HO → Bool
  | .dK _ => false
  | .frz _ u => notD u
  | _ => true
section
variable {K : PySem.W.Frag} {n m : Nat} {H H1 : Hp} {d a p c : Addr} {o : HO} {xs : List V}
theorem DrawAt.ne (D : DrawAt K n H d c) (h : H a = some o) (no : notD o = true) : a ≠ d := fun e => by
  obtain ⟨ns, x, l, u, hd, _⟩ := D
  rw [e, hd] at h
  have h' := Option.some.inj h
  subst h'
  exact Bool.false_ne_true no
theorem Keep.at_ (k : Keep d H H1) (D : DrawAt K n H d c) (h : H a = some o) (no : notD o = true := by with_unfolding_all rfl) : H1 a = some o := k a o (D.ne h no) h
theorem Keep.seq (k : Keep d H H1) (D : DrawAt K n H d c) (h : SqL K H a xs) : SqL K H1 a xs := by
  rcases h with (h | ⟨o, h⟩) | h
  · exact .inl (.inl (k.at_ D h))
  · exact .inl (.inr ⟨o, k.at_ D h⟩)
  · exact .inr h
theorem Keep.seqT (k : Keep d H H1) (D : DrawAt K n H d c) (h : SqT K H a xs) : SqT K H1 a xs := by
  rcases h with (h | ⟨o, h⟩) | h
  · exact .inl (.inl (k.at_ D h))
  · exact .inl (.inr ⟨o, k.at_ D h⟩)
  · exact .inr h
theorem Keep.free (k : Keep d H H1) (h : H1 a = none) (D1 : DrawAt K m H1 d c) : H a = none := by
  cases e : H a with
  | none => rfl
  | some o =>
    by_cases q : a = d
    · obtain ⟨ns, x, l, u, hd, _⟩ := D1
      rw [q, hd] at h
      exact nomatch h
    · rw [k a o q e] at h
      exact nomatch h
theorem DrawAt.same (s : Same H H1) (D : DrawAt K n H d c) : DrawAt K n H1 d c := by
  obtain ⟨ns, x, l, u, hd, hs, r⟩ := D
  exact ⟨ns, x, l, u, s _ _ hd, s _ _ hs, r⟩
theorem DrawAt.new (hp : H p = none) (D : DrawAt K n H d c) : DrawAt K n (upd H p o) d c := DrawAt.same (Same.upd hp (Same.refl H)) D
theorem DrawAt.put (D : DrawAt K n H d c) (h1 : p ≠ d) (h2 : p ≠ c) : DrawAt K n (upd H p o) d c := by
  obtain ⟨ns, x, l, u, hd, hs, r⟩ := D
  exact ⟨ns, x, l, u, by rw [upd_ne (Ne.symm h1)]; exact hd, by rw [upd_ne (Ne.symm h2)]; exact hs, r⟩
theorem DrawAt.off (D : DrawAt K n H d c) (hp : H p = none) : p ≠ d ∧ p ≠ c := by
  obtain ⟨ns, x, l, u, hd, hs, r⟩ := D
  exact ⟨Ne.symm (ne_of_none hd hp), Ne.symm (ne_of_none hs hp)⟩
theorem DrawAt.mono (h : n ≤ m) (D : DrawAt K n H d c) : DrawAt K m H d c := by
  obtain ⟨ns, x, l, u, hd, hs, h1, h2, h3, h4, h5, h6⟩ := D
  exact ⟨ns, x, l, u, hd, hs, h1, h2, h3, by omega, h5, by omega⟩
end
theorem DrawAt.up {K : PySem.W.Frag} {n m : Nat} {H : Hp} {d c : Addr} (D : DrawAt K n H d c) (h : n ≤ m) : DrawAt K m H d c := D.mono h
section
variable {H H1 : Hp} {a p d : Addr} {o u : HO}
theorem Same.new (hp : H1 p = none) (s : Same H H1) : Same H (L2.upd H1 p o) := Same.trans s (Same.upd hp (Same.refl H1))
theorem Keep.fresh (hp : H1 p = none) (s : Keep d H H1) : Keep d H (upd H1 p o) := s.same (Same.upd hp (Same.refl H1))
theorem upd_new (hp : H p = none) (h : H a = some u) : upd H p o a = some u := by rw [upd_ne (ne_of_none h hp)]; exact h
theorem upd_off (n : a ≠ p) (h : H a = some u) : upd H p o a = some u := by rw [upd_ne n]; exact h
end
theorem dk_cells {c : Addr} {a l u : Int} : valV (drawK c a l u) (Sum.inr "cells") = some (.ref c) := rfl
theorem dk_at {c : Addr} {a l u : Int} : valV (drawK c a l u) (Sum.inr "at") = some (.int a) := rfl
theorem dk_left {c : Addr} {a l u : Int} : valV (drawK c a l u) (Sum.inr "left") = some (.int l) := rfl
theorem dk_used {c : Addr} {a l u : Int} : valV (drawK c a l u) (Sum.inr "used") = some (.int u) := rfl
theorem pk_at {c : Addr} {a l u b : Int} : putK (drawK c a l u) (Sum.inr "at") (.int b) = drawK c b l u := rfl
theorem pk_left {c : Addr} {a l u b : Int} : putK (drawK c a l u) (Sum.inr "left") (.int b) = drawK c a b u := rfl
theorem pk_used {c : Addr} {a l u b : Int} : putK (drawK c a l u) (Sum.inr "used") (.int b) = drawK c a l b := rfl
/-- what d[s] = v asks, d in the slot n -/
def DPutAt (σ : L2.St) (n : Nat) (s : Str) (v : V) (H : Hp) (P : Hp → Prop) : Prop := tVar n σ H fun x H2 => tC (.str s) σ H2 fun y H3 => ∃ a H4, x = .ref a ∧ DPut H3 a y v H4 ∧ P H4
section
variable {σ : L2.St} {H : Hp} {Q : VK} {d c : Addr} {a l u b : Int} {td ty tv : TE} {D : Ends}
theorem g_dcells {n : Nat} (hv : σ[n]? = some (some (.ref d))) (h : H d = some (.dK (drawK c a l u))) (q : Q (.ref c) H) : tDGet (tVar n) (tC (.str "cells")) σ H Q := ⟨_, hv, d, _, rfl, dk_cells ▸ DGet.k (k := Sum.inr "cells") h, q⟩
theorem g_dat {n : Nat} (hv : σ[n]? = some (some (.ref d))) (h : H d = some (.dK (drawK c a l u))) (q : Q (.int a) H) : tDGet (tVar n) (tC (.str "at")) σ H Q := ⟨_, hv, d, _, rfl, dk_at ▸ DGet.k (k := Sum.inr "at") h, q⟩
theorem g_dleft {n : Nat} (hv : σ[n]? = some (some (.ref d))) (h : H d = some (.dK (drawK c a l u))) (q : Q (.int l) H) : tDGet (tVar n) (tC (.str "left")) σ H Q := ⟨_, hv, d, _, rfl, dk_left ▸ DGet.k (k := Sum.inr "left") h, q⟩
theorem g_dused {n : Nat} (hv : σ[n]? = some (some (.ref d))) (h : H d = some (.dK (drawK c a l u))) (q : Q (.int u) H) : tDGet (tVar n) (tC (.str "used")) σ H Q := ⟨_, hv, d, _, rfl, dk_used ▸ DGet.k (k := Sum.inr "used") h, q⟩
theorem g_dput {n : Nat} {s : Str} (q : tv σ H fun v H1 => DPutAt σ n s v H1 (D.nx σ)) : sDPut (tVar n) (tC (.str s)) tv D σ H := q
theorem g_pat {n : Nat} {P : Hp → Prop} (hv : σ[n]? = some (some (.ref d))) (h : H d = some (.dK (drawK c a l u))) (q : P (upd H d (.dK (drawK c b l u)))) : DPutAt σ n "at" (.int b) H P := ⟨_, hv, d, _, rfl, DPut.k (k := Sum.inr "at") h (by show 4 < sizeLine; decide), q⟩
theorem g_pleft {n : Nat} {P : Hp → Prop} (hv : σ[n]? = some (some (.ref d))) (h : H d = some (.dK (drawK c a l u))) (q : P (upd H d (.dK (drawK c a b u)))) : DPutAt σ n "left" (.int b) H P := ⟨_, hv, d, _, rfl, DPut.k (k := Sum.inr "left") h (by show 4 < sizeLine; decide), q⟩
theorem g_pused {n : Nat} {P : Hp → Prop} (hv : σ[n]? = some (some (.ref d))) (h : H d = some (.dK (drawK c a l u))) (q : P (upd H d (.dK (drawK c a l b)))) : DPutAt σ n "used" (.int b) H P := ⟨_, hv, d, _, rfl, DPut.k (k := Sum.inr "used") h (by show 4 < sizeLine; decide), q⟩
end
theorem at_ints {ns : List Int} {i : Int} (h0 : 0 ≤ i) (h1 : i < ns.length) : ∃ x, atI (ns.map V.int) i = some (.int x) ∧ ns[i.toNat]? = some x := by
  have hl : i.toNat < ns.length := by omega
  refine ⟨ns[i.toNat], ?_, List.getElem?_eq_getElem hl⟩
  obtain ⟨m, rfl⟩ : ∃ m : Nat, i = (m : Int) := ⟨i.toNat, by omega⟩
  refine atI_nat ?_
  have h2 : m < ns.length := by omega
  rw [List.getElem?_map, List.getElem?_eq_getElem h2]
  rfl
/-- a comprehension over a range whose element draws -/
theorem lc_draw {K : PySem.W.Frag} {lo : Int} {n : Nat} {σ : L2.St} {H1 : Hp} {te : TE} {vs : List Nat} {j : Nat} {d c : Addr} {Qd : Addr → Hp → Prop} (PV : V → Prop) (m : Nat → Nat) (hn : n ≤ 1000000) (hw : ∀ v, wipe ((wipe σ vs).set j (some v)) vs = wipe σ vs)
    (D0 : DrawAt K (m 0) H1 d c)
    (he : ∀ i : Nat, i < n → ∀ H', Keep d H1 H' → DrawAt K (m i) H' d c → ∀ Q : VK, (∀ H2 y, Keep d H' H2 → DrawAt K (m (i + 1)) H2 d c → PV y → Q y H2) → te ((wipe σ vs).set j (some (.int (lo + i)))) H' Q)
    (q : ∀ D H' ys, H1 D = none → Keep d H1 H' → DrawAt K (m n) H' d c → H' D = some (.lst ys) → ys.length = n → (∀ y ∈ ys, PV y) → Qd D H') :
    ∀ D, H1 D = none → ∃ W : Nat → Nat → Hp → Prop, (∃ m, W 0 m (upd H1 D (.lst []))) ∧ ∀ i m H, W i m H → ((Itr lo n).stop i H ∧ Qd D H) ∨ ((Itr lo n).go i H ∧ ∃ Nx : Hp → Prop, (∀ H', Nx H' → ∃ m', m' < m ∧ W (i + 1) m' H') ∧
      ∀ x H', (Itr lo n).yld i H x H' → gName j x (wipe σ vs) H' fun σ2 H2 => wipe σ2 vs = wipe σ vs ∧ tYes σ2 H2 fun b H3 => if b = true then te σ2 H3 fun y H4 => ∃ acc, H4 D = some (.lst acc) ∧ acc.length < sizeLine ∧ Nx (upd H4 D (.lst (acc ++ [y]))) else Nx H3) := by
  intro D hD
  refine lc_range (lo := lo) (n := n) (fun i H' => ∃ ys, H' D = some (.lst ys) ∧ ys.length = i ∧ (∀ y ∈ ys, PV y) ∧ DrawAt K (m i) H' d c ∧ Keep d H1 H') ⟨[], upd_same, rfl, (fun y hy => nomatch hy), D0.new hD, Keep.fresh hD (Keep.refl _ _)⟩ ?_ ?_
  · rintro i H' hi ⟨ys, hy, hl, hp, Dr, kp⟩
    refine ⟨hw _, ?_⟩
    dsimp only [tYes]
    rw [if_pos rfl]
    refine he i hi H' kp Dr _ (fun H2 y k2 D2 py => ⟨ys, k2.at_ Dr hy, ?_, ys ++ [y], upd_same, ?_, ?_, D2.put (D0.off hD).1 (D0.off hD).2, fun b o n h => ?_⟩)
    · rw [hl]
      exact Nat.lt_of_le_of_lt (Nat.le_trans (Nat.le_of_lt hi) hn) (by decide)
    · rw [List.length_append, hl]; rfl
    · intro z hz
      rcases List.mem_append.mp hz with h | h
      · exact hp z h
      · rw [List.mem_singleton.mp h]; exact py
    · rw [upd_ne (ne_of_none h hD)]
      exact k2 b o n (kp b o n h)
  · rintro H' ⟨ys, hy, hl, hp, Dr, kp⟩
    exact q D H' ys hD kp Dr hy hl hp
theorem g_pc {tk tv : TE} {r : List (TE × TE)} {σ : L2.St} {H : Hp} {Q : List (V × V) → Hp → Prop} (q : tk σ H fun k H1 => tv σ H1 fun v H2 => tPairs r σ H2 fun ps H3 => Q ((k, v) :: ps) H3) : tPairs ((tk, tv) :: r) σ H Q := q
theorem g_pn {σ : L2.St} {H : Hp} {Q : List (V × V) → Hp → Prop} (q : Q [] H) : tPairs [] σ H Q := q
end Hf

set_option Elab.async false
set_option linter.all false
set_option maxRecDepth 100000
set_option maxHeartbeats 4000000
namespace Hf
open PySem L2 PySem.Spec PyProof.Rows
/-! ### how long a shown datum is, at most -/
structure Sh (n k : Nat) (d : PyData) : Prop where
  s : d.showable = true
  k : d.depth ≤ k
  n : d.shown.length ≤ n
  c : d.canLay0 = true
structure Shs (n k : Nat) (ds : List PyData) : Prop where
  s : PyData.showableAll ds = true
  k : PyData.depthAll ds ≤ k
  n : ((PyData.shownAll ds).map (·.length)).sum + 2 * (PyData.shownAll ds).length ≤ n
  c : PyData.canLayAll0 ds = true
theorem Sh.non : Sh 4 0 .none := ⟨by simp only [PyData.showable], by simp only [PyData.depth]; omega, by simp only [PyData.shown]; decide, by simp only [PyData.canLay0]⟩
theorem Sh.bl (b : Bool) : Sh 5 0 (.bool b) := ⟨by simp only [PyData.showable], by simp only [PyData.depth]; omega, by simp only [PyData.shown]; cases b <;> decide, by simp only [PyData.canLay0]⟩
theorem Sh.int {i : Int} (h : i.natAbs < 10 ^ 40) : Sh 41 0 (.int i) := by
  have h2 : i.natAbs.log2 < 1920 := by
    by_cases z : i.natAbs = 0
    · rw [z]; decide
    · exact (Nat.log2_lt z).mpr (Nat.lt_of_lt_of_le h (Nat.le_trans (show 10 ^ 40 ≤ 2 ^ 140 by decide) (Nat.pow_le_pow_right (by decide) (by decide))))
  refine ⟨by simp only [PyData.showable]; exact decide_eq_true h2, by simp only [PyData.depth]; omega, ?_, ?_⟩
  · simp only [PyData.shown]
    have q := int_text_length_le10 (a := i) (k := 40) (by omega) h
    show (Str.ofString (toString i)).length ≤ 41
    have e : (Str.ofString (toString i)).length = (toString i).length := PySem.ofString_length _
    omega
  · simp only [PyData.canLay0]
theorem Sh.list {n k : Nat} {ds : List PyData} (h : Shs n k ds) : Sh (n + 3) (k + 1) (.list ds) :=
  ⟨by simp only [PyData.showable]; exact h.s, by simp only [PyData.depth]; have := h.k; omega, by simp only [PyData.shown]; have := h.n; have := listText_len_le (PyData.shownAll ds); omega, by simp only [PyData.canLay0]; exact h.c⟩
theorem Sh.tup {n k : Nat} {ds : List PyData} (h : Shs n k ds) : Sh (n + 3) (k + 1) (.tuple ds) :=
  ⟨by simp only [PyData.showable]; exact h.s, by simp only [PyData.depth]; have := h.k; omega, by simp only [PyData.shown]; have := h.n; have := tupleText_len_le (PyData.shownAll ds); omega, by simp only [PyData.canLay0]; exact h.c⟩
theorem Shs.nil : Shs 0 0 [] := ⟨by simp only [PyData.showableAll], by simp only [PyData.depthAll]; omega, by simp only [PyData.shownAll]; decide, by simp only [PyData.canLayAll0]⟩
theorem Shs.cons {n m k l : Nat} {d : PyData} {ds : List PyData} (a : Sh n k d) (b : Shs m l ds) : Shs (n + m + 2) (k + l) (d :: ds) := by
  refine ⟨by simp only [PyData.showableAll, a.s, b.s, Bool.and_self], ?_, ?_, by simp only [PyData.canLayAll0, a.c, b.c, Bool.and_self]⟩
  · simp only [PyData.depthAll]
    have := a.k
    have := b.k
    omega
  · simp only [PyData.shownAll, List.map_cons, List.sum_cons, List.length_cons]
    have := a.n
    have := b.n
    omega
theorem Sh.shows {n k : Nat} {d : PyData} (h : Sh n k d) (hn : n ≤ 1000000) (hk : k ≤ 40) : Shows d := ⟨h.s, Nat.le_trans h.k hk, Nat.le_trans h.n (Nat.le_trans hn (by decide))⟩
theorem Sh.shaped {n k : Nat} {d : PyData} (h : Sh n k d) (hk : k ≤ 60) : SeqAt.shaped d = true := by
  unfold SeqAt.shaped
  rw [h.c, decide_eq_true (Nat.le_trans h.k (by omega : k ≤ 64))]
  rfl
/-- two values that are the same datum -/
theorem g_eqS {H : Hp} {K : PySem.W.Frag} {Q : VK} {x y : V} {d : PyData} {n k : Nat} (h1 : Dp K H x d) (h2 : Dp K H y d) (s : Sh n k d) (hk : k ≤ 60) (q : Q (.bl true) H) : rEqA K x y H Q :=
  g_eqD h1 h2 (s.shaped hk) (s.shaped hk) (by rw [SeqAt.eqv_refl d s.c]; exact q)
theorem g_neS {H : Hp} {K : PySem.W.Frag} {Q : VK} {x y : V} {d : PyData} {n k : Nat} (h1 : Dp K H x d) (h2 : Dp K H y d) (s : Sh n k d) (hk : k ≤ 60) (q : Q (.bl false) H) : rNeA K x y H Q :=
  g_neD h1 h2 (s.shaped hk) (s.shaped hk) (by rw [SeqAt.eqv_refl d s.c]; exact q)
theorem g_reprS {H : Hp} {K : PySem.W.Frag} {Q : VK} {v : V} {d : PyData} {n k : Nat} (h : Dp K H v d) (s : Sh n k d) (hn : n ≤ 1000000) (hk : k ≤ 40) (q : Q (.str d.shown) H) : rRepr K [v] H Q := g_repr h (s.shows hn hk) q
theorem at_all {xs : List V} {i : Int} (P : V → Prop) (all : ∀ v ∈ xs, P v) (h0 : 0 ≤ i) (h1 : i < xs.length) : ∃ v, atI xs i = some v ∧ P v := by
  obtain ⟨m, rfl⟩ : ∃ m : Nat, i = (m : Int) := ⟨i.toNat, by omega⟩
  have h2 : m < xs.length := by omega
  exact ⟨xs[m], atI_nat (List.getElem?_eq_getElem h2), all _ (List.getElem_mem h2)⟩
theorem g_ixA {K : PySem.W.Frag} {H : Hp} {Q : VK} {a : Addr} {i : Int} {xs : List V} (P : V → Prop) (h : SqL K H a xs) (all : ∀ v ∈ xs, P v) (h0 : 0 ≤ i) (h1 : i < xs.length) (q : ∀ v, P v → Q v H) : rIx K (.ref a) (.int i) H Q := by
  obtain ⟨v, hv, pv⟩ := at_all P all h0 h1
  exact g_ixL h hv (q v pv)
section
variable {K : PySem.W.Frag} {σ : L2.St} {H : Hp} {Q : L2.St → Hp → Prop} {a : Addr} {xs : List V} {te : TE} {g : TG} {D : Ends} {v : V} {n : Nat} {t : TGs}
theorem g_asgG (q : te σ H fun x H1 => g x σ H1 D.nx) : tAsg te g D σ H := q
theorem g_gtup (h : SqT K H a xs) (hl : xs.length = n) (q : t xs σ H Q) : gTup K n t (.ref a) σ H Q := ⟨a, xs, rfl, h, hl, q⟩
theorem g_gnil (q : Q σ H) : gNil [] σ H Q := ⟨rfl, q⟩
theorem g_gcons (q : g v σ H fun σ' H' => t xs σ' H' Q) : gCons g t (v :: xs) σ H Q := ⟨v, xs, rfl, q⟩
theorem g_retN (q : D.rt .non H) : tRet (tC .non) D σ H := q
end
theorem dps_ints {K : PySem.W.Frag} {H : Hp} : ∀ xs : List Int, DpAll K H (xs.map V.int) (xs.map PyData.int)
  | [] => .nil
  | x :: xs => .cons (.int x) (dps_ints xs)
theorem shs_ints : ∀ xs : List Int, (∀ x ∈ xs, x.natAbs < 10 ^ 40) → Shs (43 * xs.length) 0 (xs.map PyData.int)
  | [], _ => Shs.nil
  | x :: xs, h => by
    have a := Shs.cons (Sh.int (h x List.mem_cons_self)) (shs_ints xs fun y hy => h y (List.mem_cons_of_mem _ hy))
    rw [List.length_cons, show 43 * (xs.length + 1) = 41 + 43 * xs.length + 2 by omega]
    exact a
theorem g_i1 {i : Int} {P : Int → Prop} (q : P i) : ∃ j : Int, [V.int i] = [V.int j] ∧ P j := ⟨i, rfl, q⟩
theorem g_i2 {i j : Int} {P : Int → Int → Prop} (q : P i j) : ∃ a b : Int, [V.int i, V.int j] = [V.int a, V.int b] ∧ P a b := ⟨i, j, rfl, q⟩
theorem g_neMap {K : PySem.W.Frag} {H : Hp} {Q : VK} {a b : Addr} (g : Nat → Int) (n : Nat) (h1 : SqL K H a ((List.range n).map fun i => V.int (g i))) (h2 : SqL K H b ((List.range n).map fun i => V.int (g i))) (hb : ∀ i, i < n → (g i).natAbs < 10 ^ 40)
    (q : Q (.bl false) H) : rNeA K (.ref a) (.ref b) H Q := by
  have e : (List.range n).map (fun i => V.int (g i)) = ((List.range n).map g).map V.int := by rw [List.map_map]; rfl
  rw [e] at h1 h2
  refine g_neS (Dp.lst h1 (dps_ints _)) (Dp.lst h2 (dps_ints _)) (Sh.list (shs_ints _ ?_)) (by omega) q
  intro x hx
  obtain ⟨i, hi, rfl⟩ := List.mem_map.mp hx
  exact hb i (List.mem_range.mp hi)
end Hf

set_option Elab.async false
set_option linter.all false
set_option maxRecDepth 100000
set_option maxHeartbeats 4000000
namespace Hf
open PySem L2 PySem.Spec PyProof.Rows
/-! ### signs and texts -/
/-- the codes of a text -/
abbrev cs (z : Str) : List Nat := z.cps.toList
def sg (c : Nat) : V := .str ⟨#[c]⟩
theorem cs_len (z : Str) : (cs z).length = z.length := by show z.cps.toList.length = z.cps.size; simp
theorem cs_app (a b : Str) : cs (a ++ b) = cs a ++ cs b := by
  show (a.cps ++ b.cps).toList = _
  simp
theorem len_app (a b : Str) : (a ++ b).length = a.length + b.length := by
  show (a.cps ++ b.cps).size = _
  rw [Array.size_append]
  rfl
theorem str_ext {a b : Str} (h : cs a = cs b) : a = b := by
  cases a; cases b
  have h' : Array.toList _ = Array.toList _ := h
  exact congrArg Str.mk (Array.toList_inj.mp h')
/-- at most n signs, all of them below 128 -/
def As (n : Nat) (z : Str) : Prop := z.length ≤ n ∧ ∀ c ∈ cs z, c < 128
theorem As.of {n : Nat} {z : Str} (h : z.length ≤ n) (k : ∀ c ∈ cs z, c < 128) : As n z := ⟨h, k⟩
theorem As.mono {n m : Nat} {z : Str} (h : As n z) (l : n ≤ m) : As m z := ⟨Nat.le_trans h.1 l, h.2⟩
theorem As.app {n m : Nat} {a b : Str} (h : As n a) (k : As m b) : As (n + m) (a ++ b) :=
  ⟨by rw [len_app]; have := h.1; have := k.1; omega, fun c hc => by rw [cs_app] at hc; rcases List.mem_append.mp hc with z | z; exact h.2 c z; exact k.2 c z⟩
theorem As.line {n : Nat} {z : Str} (h : As n z) (l : n ≤ 1000000) : z.length ≤ sizeLine := Nat.le_trans h.1 (Nat.le_trans l (by decide))
theorem As.line2 {n m : Nat} {a b : Str} (h : As n a) (k : As m b) (l : n + m ≤ 1000000) : a.length + b.length ≤ sizeLine := by
  have := h.1
  have := k.1
  exact Nat.le_trans (by omega : _ ≤ 1000000) (by decide)
/-! ### comprehensions over what stands still, with a plain test and a plain element -/
/-- tt says b, whatever was laid meanwhile -/
def Tst (tt : TT) (σ : L2.St) (H : Hp) (b : Bool) : Prop := ∀ Q : Bool → Hp → Prop, (∀ H', Same H H' → Q b H') → tt σ H Q
theorem tst_yes {σ : L2.St} {H : Hp} : Tst tYes σ H true := fun Q q => q H (Same.refl H)
section
variable {σ : L2.St} {H : Hp} {Q : VK} {K : PySem.W.Frag} {te : TE} {tt : TT} {ta : TA} {vs : List Nat} {j : Nat} {J : It} {G : Hp → Prop} {D : Ends} {g : TG} {tb : TS}
theorem lc_pure {xs : List V} {Qd : Addr → Hp → Prop} (w : Walk J xs.length G (YAt xs)) (hG : ∀ H', Same H H' → G H') (p : V → Bool) (f : V → V) (hn : xs.length ≤ 1000000) (hw : ∀ v, wipe ((wipe σ vs).set j (some v)) vs = wipe σ vs)
    (ht : ∀ x, x ∈ xs → ∀ H', Same H H' → Tst tt ((wipe σ vs).set j (some x)) H' (p x))
    (he : ∀ x, x ∈ xs → p x = true → ∀ H', Same H H' → Evs te ((wipe σ vs).set j (some x)) H' (f x))
    (q : ∀ D H', H D = none → Same H H' → H' D = some (.lst ((xs.filter p).map f)) → Qd D H') :
    ∀ D, H D = none → ∃ W : Nat → Nat → Hp → Prop, (∃ m, W 0 m (upd H D (.lst []))) ∧ ∀ i m H, W i m H → (J.stop i H ∧ Qd D H) ∨ (J.go i H ∧ ∃ Nx : Hp → Prop, (∀ H', Nx H' → ∃ m', m' < m ∧ W (i + 1) m' H') ∧
      ∀ x H', J.yld i H x H' → gName j x (wipe σ vs) H' fun σ2 H2 => wipe σ2 vs = wipe σ vs ∧ tt σ2 H2 fun b H3 => if b = true then te σ2 H3 fun y H4 => ∃ acc, H4 D = some (.lst acc) ∧ acc.length < sizeLine ∧ Nx (upd H4 D (.lst (acc ++ [y]))) else Nx H3) := by
  intro D hD
  refine lc_it w (fun i H' => Same H H' ∧ H' D = some (.lst (((xs.take i).filter p).map f))) ⟨Same.upd hD (Same.refl H), upd_same⟩ (fun i H' _ h => hG H' h.1) ?_ (fun H' h => q D H' hD h.1 (by rw [h.2, List.take_length]))
  rintro i x H0 H' hi ⟨s, hd⟩ ⟨rfl, hx⟩
  have mem : x ∈ xs := List.mem_of_getElem? hx
  have tk : xs.take (i + 1) = xs.take i ++ [x] := by rw [List.take_succ, hx]; rfl
  refine ⟨hw _, ?_⟩
  refine ht x mem H' s _ (fun H2 s2 => ?_)
  cases hp : p x with
  | false =>
    rw [if_neg Bool.false_ne_true]
    refine ⟨Same.trans s s2, ?_⟩
    rw [tk, List.filter_append, show [x].filter p = [] by simp [hp], List.append_nil]
    exact s2 _ _ hd
  | true =>
    rw [if_pos rfl]
    refine he x mem hp H2 (Same.trans s s2) _ (fun H3 s3 => ⟨_, s3 _ _ (s2 _ _ hd), ?_, Same.upd hD (Same.trans (Same.trans s s2) s3), ?_⟩)
    · rw [List.length_map]
      have a := List.length_filter_le p (xs.take i)
      have b : (xs.take i).length ≤ xs.length := by rw [List.length_take]; omega
      have c : 1000000 < sizeLine := by decide
      omega
    · rw [upd_same, tk, List.filter_append, List.map_append, show [x].filter p = [x] by simp [hp]]
      rfl
theorem walk_sg {z : Str} : Walk (Its z) ((cs z).map sg).length (fun _ => True) (YAt ((cs z).map sg)) := by
  have e : ((cs z).map sg).length = z.cps.size := by simp
  rw [e]
  refine (walk_str (z := z)).mono (fun _ h => h) (fun i H x H' hi _ y => ⟨y.1, ?_⟩)
  obtain ⟨_, c, hc, rfl⟩ := y
  rw [List.getElem?_map, Array.getElem?_toList, hc]
  rfl
theorem lc_str {z : Str} {Qd : Addr → Hp → Prop} (p : Nat → Bool) (f : Nat → V) (hn : z.length ≤ 1000000) (hw : ∀ v, wipe ((wipe σ vs).set j (some v)) vs = wipe σ vs)
    (ht : ∀ c, c ∈ cs z → ∀ H', Same H H' → Tst tt ((wipe σ vs).set j (some (.str ⟨#[c]⟩))) H' (p c))
    (he : ∀ c, c ∈ cs z → p c = true → ∀ H', Same H H' → Evs te ((wipe σ vs).set j (some (.str ⟨#[c]⟩))) H' (f c))
    (q : ∀ D H', H D = none → Same H H' → H' D = some (.lst (((cs z).filter p).map f)) → Qd D H') :
    ∀ D, H D = none → ∃ W : Nat → Nat → Hp → Prop, (∃ m, W 0 m (upd H D (.lst []))) ∧ ∀ i m H, W i m H → ((Its z).stop i H ∧ Qd D H) ∨ ((Its z).go i H ∧ ∃ Nx : Hp → Prop, (∀ H', Nx H' → ∃ m', m' < m ∧ W (i + 1) m' H') ∧
      ∀ x H', (Its z).yld i H x H' → gName j x (wipe σ vs) H' fun σ2 H2 => wipe σ2 vs = wipe σ vs ∧ tt σ2 H2 fun b H3 => if b = true then te σ2 H3 fun y H4 => ∃ acc, H4 D = some (.lst acc) ∧ acc.length < sizeLine ∧ Nx (upd H4 D (.lst (acc ++ [y]))) else Nx H3) := by
  let un : V → Nat := fun v => match v with | .str y => y.cps.toList.headD 0 | _ => 0
  have us : ∀ c, un (sg c) = c := fun c => rfl
  refine lc_pure (Qd := Qd) (walk_sg (z := z)) (fun _ _ => True.intro) (fun v => p (un v)) (fun v => f (un v)) (by simp only [List.length_map]; rw [cs_len]; exact hn) hw ?_ ?_ ?_
  · intro x hx
    obtain ⟨c, hc, rfl⟩ := List.mem_map.mp hx
    exact ht c hc
  · intro x hx hp
    obtain ⟨c, hc, rfl⟩ := List.mem_map.mp hx
    exact he c hc hp
  · intro D H' hD s h
    refine q D H' hD s ?_
    rw [h, List.filter_map, List.map_map]
    rfl
/-- over a text in the slot n -/
theorem g_lcS {n : Nat} {z : Str} (hv : σ[n]? = some (some (.str z))) (p : Nat → Bool) (f : Nat → V) (hn : z.length ≤ 1000000) (hw : ∀ v, wipe ((wipe σ vs).set j (some v)) vs = wipe σ vs)
    (ht : ∀ c, c ∈ cs z → ∀ H', Same H H' → Tst tt ((wipe σ vs).set j (some (.str ⟨#[c]⟩))) H' (p c))
    (he : ∀ c, c ∈ cs z → p c = true → ∀ H', Same H H' → Evs te ((wipe σ vs).set j (some (.str ⟨#[c]⟩))) H' (f c))
    (q : ∀ D H', H D = none → Same H H' → H' D = some (.lst (((cs z).filter p).map f)) → Q (.ref D) H') : tLc (iStr (tVar n)) (gName j) tt te vs σ H Q :=
  ⟨_, hv, z, rfl, lc_str (Qd := fun D H => Q (.ref D) H) p f hn hw ht he q⟩
theorem g_lcE {t0 : TE} (q : t0 σ H fun v H1 => ∃ z, v = V.str z ∧ ∀ D, H1 D = none → ∃ W : Nat → Nat → Hp → Prop, (∃ m, W 0 m (upd H1 D (.lst []))) ∧ ∀ i m H, W i m H →
      ((Its z).stop i H ∧ Q (.ref D) H) ∨ ((Its z).go i H ∧ ∃ Nx : Hp → Prop, (∀ H', Nx H' → ∃ m', m' < m ∧ W (i + 1) m' H') ∧ ∀ x H', (Its z).yld i H x H' → g x (wipe σ vs) H' fun σ2 H2 => wipe σ2 vs = wipe σ vs ∧ tt σ2 H2 fun b H3 =>
        if b = true then te σ2 H3 fun y H4 => ∃ acc, H4 D = some (.lst acc) ∧ acc.length < sizeLine ∧ Nx (upd H4 D (.lst (acc ++ [y]))) else Nx H3)) : tLc (iStr t0) g tt te vs σ H Q := q
theorem g_forE {t0 : TE} (q : t0 σ H fun v H1 => ∃ a, v = V.ref a ∧ (∃ xs, SqL K H1 a xs) ∧ ∃ W : Nat → Nat → L2.St → Hp → Prop, (∃ m, W 0 m σ H1) ∧ ∀ i m σ H, W i m σ H →
      ((Itl K a).stop i H ∧ D.nx σ H) ∨ ((Itl K a).go i H ∧ ∃ N : L2.St → Hp → Prop, (∀ σ' H', N σ' H' → ∃ m', m' < m ∧ W (i + 1) m' σ' H') ∧ ∀ x H', (Itl K a).yld i H x H' → g x σ H' fun σ2 H2 => tb { D with nx := N, ct := N, bk := D.nx } σ2 H2)) : tFor (iList K t0) g tb D σ H := q
theorem for_lst {a : Addr} {xs : List V} (Pv : Nat → L2.St → Hp → Prop) (h : SqL K H a xs) (h0 : Pv 0 σ H) (hl : ∀ i σ' H', i ≤ xs.length → Pv i σ' H' → SqL K H' a xs)
    (hs : ∀ i x σ' H', i < xs.length → xs[i]? = some x → Pv i σ' H' → tb { D with nx := Pv (i + 1), ct := Pv (i + 1), bk := D.nx } (σ'.set j (some x)) H') (hd : ∀ σ' H', Pv xs.length σ' H' → D.nx σ' H') :
    (∃ xs, SqL K H a xs) ∧ ∃ W : Nat → Nat → L2.St → Hp → Prop, (∃ m, W 0 m σ H) ∧ ∀ i m σ H, W i m σ H →
      ((Itl K a).stop i H ∧ D.nx σ H) ∨ ((Itl K a).go i H ∧ ∃ N : L2.St → Hp → Prop, (∀ σ' H', N σ' H' → ∃ m', m' < m ∧ W (i + 1) m' σ' H') ∧ ∀ x H', (Itl K a).yld i H x H' → gName j x σ H' fun σ2 H2 => tb { D with nx := N, ct := N, bk := D.nx } σ2 H2) := by
  refine ⟨⟨xs, h⟩, for_it walk_list Pv h0 hl ?_ hd⟩
  rintro i x σ' H1 H' hi p ⟨rfl, hx⟩
  exact hs i x σ' H' hi hx p
/-- over a list in the slot n -/
theorem g_lcL {n : Nat} {a : Addr} {xs : List V} (hv : σ[n]? = some (some (.ref a))) (h : SqL K H a xs) (p : V → Bool) (f : V → V) (hn : xs.length ≤ 1000000) (hw : ∀ v, wipe ((wipe σ vs).set j (some v)) vs = wipe σ vs)
    (ht : ∀ x, x ∈ xs → ∀ H', Same H H' → Tst tt ((wipe σ vs).set j (some x)) H' (p x))
    (he : ∀ x, x ∈ xs → p x = true → ∀ H', Same H H' → Evs te ((wipe σ vs).set j (some x)) H' (f x))
    (q : ∀ D H', H D = none → Same H H' → H' D = some (.lst ((xs.filter p).map f)) → Q (.ref D) H') : tLc (iList K (tVar n)) (gName j) tt te vs σ H Q :=
  ⟨_, hv, a, rfl, ⟨xs, h⟩, lc_pure (Qd := fun D H => Q (.ref D) H) walk_list (fun _ s => s.seq h) p f hn hw ht he q⟩
theorem flt_all {α : Type} (xs : List α) : xs.filter (fun _ => true) = xs := List.filter_eq_self.mpr fun _ _ => rfl
theorem g_lcS1 {n : Nat} {z : Str} (hv : σ[n]? = some (some (.str z))) (f : Nat → V) (hn : z.length ≤ 1000000) (hw : ∀ v, wipe ((wipe σ vs).set j (some v)) vs = wipe σ vs)
    (he : ∀ c, c ∈ cs z → ∀ H', Same H H' → Evs te ((wipe σ vs).set j (some (.str ⟨#[c]⟩))) H' (f c))
    (q : ∀ D H', H D = none → Same H H' → H' D = some (.lst ((cs z).map f)) → Q (.ref D) H') : tLc (iStr (tVar n)) (gName j) tYes te vs σ H Q :=
  g_lcS hv (fun _ => true) f hn hw (fun _ _ _ _ => tst_yes) (fun c hc _ => he c hc) (fun D H' hD s h => q D H' hD s (by rw [h, flt_all]))
theorem g_lcL1 {n : Nat} {a : Addr} {xs : List V} (hv : σ[n]? = some (some (.ref a))) (h : SqL K H a xs) (f : V → V) (hn : xs.length ≤ 1000000) (hw : ∀ v, wipe ((wipe σ vs).set j (some v)) vs = wipe σ vs)
    (he : ∀ x, x ∈ xs → ∀ H', Same H H' → Evs te ((wipe σ vs).set j (some x)) H' (f x))
    (q : ∀ D H', H D = none → Same H H' → H' D = some (.lst (xs.map f)) → Q (.ref D) H') : tLc (iList K (tVar n)) (gName j) tYes te vs σ H Q :=
  g_lcL hv h (fun _ => true) f hn hw (fun _ _ _ _ => tst_yes) (fun x hx _ => he x hx) (fun D H' hD s h => q D H' hD s (by rw [h, flt_all]))
/-- a for over a text in the slot n -/
theorem g_forS {n : Nat} {z : Str} {j : Nat} (hv : σ[n]? = some (some (.str z))) (Pv : Nat → L2.St → Hp → Prop) (h0 : Pv 0 σ H)
    (hs : ∀ i c σ' H', i < z.length → (cs z)[i]? = some c → Pv i σ' H' → tb { D with nx := Pv (i + 1), ct := Pv (i + 1), bk := D.nx } (σ'.set j (some (.str ⟨#[c]⟩))) H') (hd : ∀ σ' H', Pv z.length σ' H' → D.nx σ' H') : tFor (iStr (tVar n)) (gName j) tb D σ H := by
  refine ⟨_, hv, z, rfl, for_it walk_str Pv h0 (fun _ _ _ _ _ => True.intro) ?_ hd⟩
  rintro i x σ' H1 H' hi p ⟨rfl, c, hc, rfl⟩
  exact hs i c σ' H' hi (by rw [Array.getElem?_toList]; exact hc) p
theorem g_forL {n : Nat} {a : Addr} {xs : List V} {j : Nat} (hv : σ[n]? = some (some (.ref a))) (h : SqL K H a xs) (Pv : Nat → L2.St → Hp → Prop) (h0 : Pv 0 σ H) (hl : ∀ i σ' H', i ≤ xs.length → Pv i σ' H' → SqL K H' a xs)
    (hs : ∀ i x σ' H', i < xs.length → xs[i]? = some x → Pv i σ' H' → tb { D with nx := Pv (i + 1), ct := Pv (i + 1), bk := D.nx } (σ'.set j (some x)) H') (hd : ∀ σ' H', Pv xs.length σ' H' → D.nx σ' H') : tFor (iList K (tVar n)) (gName j) tb D σ H := by
  refine ⟨_, hv, a, rfl, ⟨xs, h⟩, for_it walk_list Pv h0 hl ?_ hd⟩
  rintro i x σ' H1 H' hi p ⟨rfl, hx⟩
  exact hs i x σ' H' hi hx p
end
section
variable {σ : L2.St} {H : Hp} {Q : VK} {K : PySem.W.Frag} {i : Int} {x y : V}
theorem g_any {a : Addr} {xs : List V} (bs : List Bool) (h : SqL K H a xs) (e : xs = bs.map V.bl) (q : Q (.bl (bs.any id)) H) : rAny K [.ref a] H Q := ⟨a, bs, rfl, e ▸ h, q⟩
theorem g_all {a : Addr} {xs : List V} (bs : List Bool) (h : SqL K H a xs) (e : xs = bs.map V.bl) (q : Q (.bl (bs.all id)) H) : rAll K [.ref a] H Q := ⟨a, bs, rfl, e ▸ h, q⟩
/-- one sign, however it is written -/
theorem g_inC {s z : Str} {c : Nat} (e : s = ⟨#[c]⟩) (q : Q (.bl (decide (c ∈ cs z))) H) : rInA K (.str s) (.str z) H Q := .inr ⟨c, z, by rw [e], rfl, q⟩
theorem g_niC {s z : Str} {c : Nat} (e : s = ⟨#[c]⟩) (q : Q (.bl (!decide (c ∈ cs z))) H) : rNotInA K (.str s) (.str z) H Q := .inr ⟨c, z, by rw [e], rfl, q⟩
theorem lt1 (a b : Nat) : ([a] < [b]) ↔ a < b := by simp [List.cons_lt_cons_iff]
theorem g_leC {s t : Str} {a b : Nat} (e : s = ⟨#[a]⟩) (f : t = ⟨#[b]⟩) (q : Q (.bl (decide (a ≤ b))) H) : rLeA (.str s) (.str t) H Q := by
  subst e f
  refine .inr ⟨_, _, rfl, rfl, ?_⟩
  have z : (!decide ((#[b] : Array Nat).toList < (#[a] : Array Nat).toList)) = decide (a ≤ b) := by
    show (!decide ([b] < [a])) = decide (a ≤ b)
    by_cases h : b < a
    · rw [decide_eq_true ((lt1 b a).mpr h), decide_eq_false (by omega)]; rfl
    · rw [decide_eq_false (fun k => h ((lt1 b a).mp k)), decide_eq_true (by omega)]; rfl
  rw [z]
  exact q
theorem g_ltC {s t : Str} {a b : Nat} (e : s = ⟨#[a]⟩) (f : t = ⟨#[b]⟩) (q : Q (.bl (decide (a < b))) H) : rLtA (.str s) (.str t) H Q := by
  subst e f
  refine .inr ⟨_, _, rfl, rfl, ?_⟩
  have z : decide ((#[a] : Array Nat).toList < (#[b] : Array Nat).toList) = decide (a < b) := by
    show decide ([a] < [b]) = decide (a < b)
    by_cases h : a < b
    · rw [decide_eq_true ((lt1 a b).mpr h), decide_eq_true h]
    · rw [decide_eq_false (fun k => h ((lt1 a b).mp k)), decide_eq_false h]
  rw [z]
  exact q
end
section
variable {σ : L2.St} {H : Hp} {Q : VK} {K : PySem.W.Frag} {i : Int} {x y : V} {ta tb : TE}
theorem g_un {r : V → Hp → VK → Prop} (q : ta σ H fun x H1 => r x H1 Q) : tUn r ta σ H Q := q
theorem g_neg (q : Q (.int (-i)) H) : rU (fun i => .int (-i)) (.int i) H Q := ⟨i, rfl, q⟩
theorem g_m0 {r : V → List V → Hp → VK → Prop} (q : ta σ H fun x H1 => (∃ a, x = .str a) ∧ r x [] H1 Q) : tM0 r ta σ H Q := q
theorem g_m1 {r : V → List V → Hp → VK → Prop} (q : ta σ H fun x H1 => (∃ a, x = .str a) ∧ tb σ H1 fun y H2 => r x [y] H2 Q) : tM1 r ta tb σ H Q := q
theorem g_str {z : Str} {P : Prop} (q : P) : (∃ a, V.str z = .str a) ∧ P := ⟨⟨z, rfl⟩, q⟩
theorem g_sl {r : V → Option Int → Option Int → Hp → VK → Prop} {tl th : TO} (q : ta σ H fun x H1 => tl σ H1 fun l H2 => th σ H2 fun u H3 => r x l u H3 Q) : tSl r ta tl th σ H Q := q
theorem g_part {Q : Option Int → Hp → Prop} (q : ta σ H fun x H1 => ∃ i, x = .int i ∧ Q (some i) H1) : tPart ta σ H Q := q
theorem g_nopart {Q : Option Int → Hp → Prop} (q : Q none H) : tNoPart σ H Q := q
theorem g_isint {P : Int → Prop} (q : P i) : ∃ j, V.int i = .int j ∧ P j := ⟨i, rfl, q⟩
theorem g_slS {z : Str} {lo hi : Option Int} (h : z.length ≤ sizeLine) (q : Q (.str (cutS z lo hi)) H) : rSlS (.str z) lo hi H Q := ⟨z, rfl, h, q⟩
end
theorem As.cut {n : Nat} {z : Str} {lo hi : Option Int} (h : As n z) : As n (cutS z lo hi) := by
  have e : cs (cutS z lo hi) = ((cs z).drop (HT.sIx z.length 0 lo)).take (HT.sIx z.length z.length hi - HT.sIx z.length 0 lo) := by simp [cutS]
  refine ⟨?_, fun c hc => ?_⟩
  · rw [← cs_len, e, List.length_take, List.length_drop]
    have := h.1
    have := cs_len z
    omega
  · rw [e] at hc
    exact h.2 c (List.mem_of_mem_drop (List.mem_of_mem_take hc))
/-! ### rules within a comprehension -/
theorem opK {X : Cx} {f : Value → Value → Sem Value} {r : PySem.W.Frag → R2} {K : PySem.W.Frag} (h : X.K = K) (o : OpR X f (r X.K)) : OpR X f (r K) := h ▸ o
theorem callK {X : Cx} {v : Value} {r : PySem.W.Frag → List V → Hp → VK → Prop} {K : PySem.W.Frag} (h : X.K = K) (o : CallR X v (r X.K)) : CallR X v (r K) := h ▸ o
theorem ixK {X : Cx} {r : PySem.W.Frag → R2} {K : PySem.W.Frag} (h : X.K = K) (o : IxR X (r X.K)) : IxR X (r K) := h ▸ o
/-! ### things of any kind -/
theorem tyx_same {K : PySem.W.Frag} {H H1 : Hp} (e : Same H H1) {v : V} {t : Value} (h : TyX K H v t) : TyX K H1 v t := by
  cases h with
  | base b =>
    refine .base ?_
    cases b with
    | non => exact .non
    | bl x => exact .bl x
    | int i => exact .int i
    | str x => exact .str x
    | flt x => exact .flt x
    | lst h => exact .lst (e _ _ h)
    | frz h => exact .frz (e _ _ h)
    | tup h => exact .tup (e _ _ h)
    | dK h => exact .dK (e _ _ h)
    | dT h => exact .dT (e _ _ h)
    | ins h a b c d f => exact .ins (e _ _ h) a b c d f
  | byt b => exact .byt b
  | set h => exact .set (e _ _ h)
  | kList h c => exact .kList h c
  | kTuple h c => exact .kTuple h c
  | kDict h c => exact .kDict h c
  | fTuple h => exact .fTuple (e _ _ h)
  | fDict h => exact .fDict (e _ _ h)
theorem tyx_keep {K : PySem.W.Frag} {H H1 : Hp} {d : Addr} (e : Keep d H H1) {v : V} {t : Value} (nv : v ≠ .ref d) (h : TyX K H v t) : TyX K H1 v t := by
  have nd : ∀ {a : Addr}, V.ref a ≠ .ref d → a ≠ d := fun n q => n (congrArg V.ref q)
  cases h with
  | base b =>
    refine .base ?_
    cases b with
    | non => exact .non
    | bl x => exact .bl x
    | int i => exact .int i
    | str x => exact .str x
    | flt x => exact .flt x
    | lst h => exact .lst (e _ _ (nd nv) h)
    | frz h => exact .frz (e _ _ (nd nv) h)
    | tup h => exact .tup (e _ _ (nd nv) h)
    | dK h => exact .dK (e _ _ (nd nv) h)
    | dT h => exact .dT (e _ _ (nd nv) h)
    | ins h a b c d f => exact .ins (e _ _ (nd nv) h) a b c d f
  | byt b => exact .byt b
  | set h => exact .set (e _ _ (nd nv) h)
  | kList h c => exact .kList h c
  | kTuple h c => exact .kTuple h c
  | kDict h c => exact .kDict h c
  | fTuple h => exact .fTuple (e _ _ (nd nv) h)
  | fDict h => exact .fDict (e _ _ (nd nv) h)
/-! ### isinstance, by the type -/
theorem k_NoneType_str : kitB "NoneType" "str" = some false := by decide +kernel
theorem k_NoneType_int : kitB "NoneType" "int" = some false := by decide +kernel
theorem k_NoneType_bool : kitB "NoneType" "bool" = some false := by decide +kernel
theorem k_NoneType_tuple : kitB "NoneType" "tuple" = some false := by decide +kernel
theorem k_NoneType_list : kitB "NoneType" "list" = some false := by decide +kernel
theorem k_NoneType_dict : kitB "NoneType" "dict" = some false := by decide +kernel
theorem k_bool_str : kitB "bool" "str" = some false := by decide +kernel
theorem k_bool_tuple : kitB "bool" "tuple" = some false := by decide +kernel
theorem k_bool_list : kitB "bool" "list" = some false := by decide +kernel
theorem k_bool_dict : kitB "bool" "dict" = some false := by decide +kernel
theorem k_tuple_str : kitB "tuple" "str" = some false := by decide +kernel
theorem k_tuple_int : kitB "tuple" "int" = some false := by decide +kernel
theorem k_tuple_bool : kitB "tuple" "bool" = some false := by decide +kernel
theorem k_tuple_tuple : kitB "tuple" "tuple" = some true := by decide +kernel
theorem k_tuple_list : kitB "tuple" "list" = some false := by decide +kernel
theorem k_tuple_dict : kitB "tuple" "dict" = some false := by decide +kernel
theorem k_list_str : kitB "list" "str" = some false := by decide +kernel
theorem k_list_int : kitB "list" "int" = some false := by decide +kernel
theorem k_list_bool : kitB "list" "bool" = some false := by decide +kernel
theorem k_list_tuple : kitB "list" "tuple" = some false := by decide +kernel
theorem k_list_list : kitB "list" "list" = some true := by decide +kernel
theorem k_list_dict : kitB "list" "dict" = some false := by decide +kernel
theorem k_dict_str : kitB "dict" "str" = some false := by decide +kernel
theorem k_dict_int : kitB "dict" "int" = some false := by decide +kernel
theorem k_dict_bool : kitB "dict" "bool" = some false := by decide +kernel
theorem k_dict_tuple : kitB "dict" "tuple" = some false := by decide +kernel
theorem k_dict_list : kitB "dict" "list" = some false := by decide +kernel
theorem k_dict_dict : kitB "dict" "dict" = some true := by decide +kernel
theorem k_int_tuple : kitB "int" "tuple" = some false := by decide +kernel
theorem k_int_list : kitB "int" "list" = some false := by decide +kernel
theorem k_int_dict : kitB "int" "dict" = some false := by decide +kernel
theorem k_str_bool : kitB "str" "bool" = some false := by decide +kernel
theorem k_str_tuple : kitB "str" "tuple" = some false := by decide +kernel
theorem k_str_list : kitB "str" "list" = some false := by decide +kernel
theorem k_str_dict : kitB "str" "dict" = some false := by decide +kernel
theorem g_append {K : PySem.W.Frag} {σ : L2.St} {H : Hp} {Q : VK} {t : TA} {n : Nat} {l : Addr} {xs : List V} (hv : σ[n]? = some (some (.ref l))) (h : H l = some (.lst xs))
    (q : t σ H fun ys H1 => rAppend (.ref l) ys H1 Q) : tBM K "list" rAppend (tVar n) t σ H Q :=
  ⟨_, hv, .inl ⟨rfl, xs, SqL.of h⟩, q⟩
theorem g_app {H : Hp} {Q : VK} {l : Addr} {xs : List V} {y : V} (h : H l = some (.lst xs)) (z : xs.length ≤ 100000) (q : Q .non (upd H l (.lst (xs ++ [y])))) : rAppend (.ref l) [y] H Q :=
  ⟨l, xs, y, rfl, rfl, h, Nat.lt_of_le_of_lt z (by decide), q⟩
theorem Same.put {H H1 : Hp} {l : Addr} {o : HO} (h : H l = none) (s : Same H H1) : Same H (L2.upd H1 l o) := fun b u n => by
  rw [upd_ne (ne_of_none n h)]
  exact s b u n
def rJoin (K : PySem.W.Frag) : V → List V → Hp → VK → Prop := fun x xs H Q => ∃ a p, ∃ ys : List Str, x = .str a ∧ xs = [.ref p] ∧ (SqL K H p (ys.map V.str) ∨ SqT K H p (ys.map V.str)) ∧ (ys.map (·.length)).sum + ys.length * a.length ≤ 16777216 ∧ Q (.str (Txt.join a ys)) H
theorem pe_joinA {X : Cx} {o e : Expr} {to te : TE} {apos pos : Pos} (ho : PE X o to) (he : PE X e te) (hs : starEach [e] X.env = [(false, eval e X.env)] := by rfl) (hbase : attributeBase o "join" X.env (eval o X.env) = eval o X.env := by rfl) (hline : (apos.endLine == pos.line) = true := by rfl) :
    PE X (.Call (.Attribute o "join" apos) [e] [] pos) (tM1 (rJoin X.K) to te) := pe_join ho he hs hbase hline
/-! ### signs that are written -/
theorem sg_c10 : Str.ofString "\n" = ⟨#[10]⟩ := by decide +kernel
theorem sg_c32 : Str.ofString " " = ⟨#[32]⟩ := by decide +kernel
theorem sg_c33 : Str.ofString "!" = ⟨#[33]⟩ := by decide +kernel
theorem sg_c34 : Str.ofString "\"" = ⟨#[34]⟩ := by decide +kernel
theorem sg_c35 : Str.ofString "#" = ⟨#[35]⟩ := by decide +kernel
theorem sg_c36 : Str.ofString "$" = ⟨#[36]⟩ := by decide +kernel
theorem sg_c37 : Str.ofString "%" = ⟨#[37]⟩ := by decide +kernel
theorem sg_c38 : Str.ofString "&" = ⟨#[38]⟩ := by decide +kernel
theorem sg_c39 : Str.ofString "'" = ⟨#[39]⟩ := by decide +kernel
theorem sg_c40 : Str.ofString "(" = ⟨#[40]⟩ := by decide +kernel
theorem sg_c41 : Str.ofString ")" = ⟨#[41]⟩ := by decide +kernel
theorem sg_c42 : Str.ofString "*" = ⟨#[42]⟩ := by decide +kernel
theorem sg_c43 : Str.ofString "+" = ⟨#[43]⟩ := by decide +kernel
theorem sg_c44 : Str.ofString "," = ⟨#[44]⟩ := by decide +kernel
theorem sg_c45 : Str.ofString "-" = ⟨#[45]⟩ := by decide +kernel
theorem sg_c46 : Str.ofString "." = ⟨#[46]⟩ := by decide +kernel
theorem sg_c47 : Str.ofString "/" = ⟨#[47]⟩ := by decide +kernel
theorem sg_c48 : Str.ofString "0" = ⟨#[48]⟩ := by decide +kernel
theorem sg_c49 : Str.ofString "1" = ⟨#[49]⟩ := by decide +kernel
theorem sg_c50 : Str.ofString "2" = ⟨#[50]⟩ := by decide +kernel
theorem sg_c51 : Str.ofString "3" = ⟨#[51]⟩ := by decide +kernel
theorem sg_c52 : Str.ofString "4" = ⟨#[52]⟩ := by decide +kernel
theorem sg_c53 : Str.ofString "5" = ⟨#[53]⟩ := by decide +kernel
theorem sg_c54 : Str.ofString "6" = ⟨#[54]⟩ := by decide +kernel
theorem sg_c55 : Str.ofString "7" = ⟨#[55]⟩ := by decide +kernel
theorem sg_c56 : Str.ofString "8" = ⟨#[56]⟩ := by decide +kernel
theorem sg_c57 : Str.ofString "9" = ⟨#[57]⟩ := by decide +kernel
theorem sg_c58 : Str.ofString ":" = ⟨#[58]⟩ := by decide +kernel
theorem sg_c59 : Str.ofString ";" = ⟨#[59]⟩ := by decide +kernel
theorem sg_c60 : Str.ofString "<" = ⟨#[60]⟩ := by decide +kernel
theorem sg_c61 : Str.ofString "=" = ⟨#[61]⟩ := by decide +kernel
theorem sg_c62 : Str.ofString ">" = ⟨#[62]⟩ := by decide +kernel
theorem sg_c63 : Str.ofString "?" = ⟨#[63]⟩ := by decide +kernel
theorem sg_c64 : Str.ofString "@" = ⟨#[64]⟩ := by decide +kernel
theorem sg_c65 : Str.ofString "A" = ⟨#[65]⟩ := by decide +kernel
theorem sg_c66 : Str.ofString "B" = ⟨#[66]⟩ := by decide +kernel
theorem sg_c67 : Str.ofString "C" = ⟨#[67]⟩ := by decide +kernel
theorem sg_c68 : Str.ofString "D" = ⟨#[68]⟩ := by decide +kernel
theorem sg_c69 : Str.ofString "E" = ⟨#[69]⟩ := by decide +kernel
theorem sg_c70 : Str.ofString "F" = ⟨#[70]⟩ := by decide +kernel
theorem sg_c71 : Str.ofString "G" = ⟨#[71]⟩ := by decide +kernel
theorem sg_c72 : Str.ofString "H" = ⟨#[72]⟩ := by decide +kernel
theorem sg_c73 : Str.ofString "I" = ⟨#[73]⟩ := by decide +kernel
theorem sg_c74 : Str.ofString "J" = ⟨#[74]⟩ := by decide +kernel
theorem sg_c75 : Str.ofString "K" = ⟨#[75]⟩ := by decide +kernel
theorem sg_c76 : Str.ofString "L" = ⟨#[76]⟩ := by decide +kernel
theorem sg_c77 : Str.ofString "M" = ⟨#[77]⟩ := by decide +kernel
theorem sg_c78 : Str.ofString "N" = ⟨#[78]⟩ := by decide +kernel
theorem sg_c79 : Str.ofString "O" = ⟨#[79]⟩ := by decide +kernel
theorem sg_c80 : Str.ofString "P" = ⟨#[80]⟩ := by decide +kernel
theorem sg_c81 : Str.ofString "Q" = ⟨#[81]⟩ := by decide +kernel
theorem sg_c82 : Str.ofString "R" = ⟨#[82]⟩ := by decide +kernel
theorem sg_c83 : Str.ofString "S" = ⟨#[83]⟩ := by decide +kernel
theorem sg_c84 : Str.ofString "T" = ⟨#[84]⟩ := by decide +kernel
theorem sg_c85 : Str.ofString "U" = ⟨#[85]⟩ := by decide +kernel
theorem sg_c86 : Str.ofString "V" = ⟨#[86]⟩ := by decide +kernel
theorem sg_c87 : Str.ofString "W" = ⟨#[87]⟩ := by decide +kernel
theorem sg_c88 : Str.ofString "X" = ⟨#[88]⟩ := by decide +kernel
theorem sg_c89 : Str.ofString "Y" = ⟨#[89]⟩ := by decide +kernel
theorem sg_c90 : Str.ofString "Z" = ⟨#[90]⟩ := by decide +kernel
theorem sg_c91 : Str.ofString "[" = ⟨#[91]⟩ := by decide +kernel
theorem sg_c92 : Str.ofString "\\" = ⟨#[92]⟩ := by decide +kernel
theorem sg_c93 : Str.ofString "]" = ⟨#[93]⟩ := by decide +kernel
theorem sg_c94 : Str.ofString "^" = ⟨#[94]⟩ := by decide +kernel
theorem sg_c95 : Str.ofString "_" = ⟨#[95]⟩ := by decide +kernel
theorem sg_c96 : Str.ofString "`" = ⟨#[96]⟩ := by decide +kernel
theorem sg_c97 : Str.ofString "a" = ⟨#[97]⟩ := by decide +kernel
theorem sg_c98 : Str.ofString "b" = ⟨#[98]⟩ := by decide +kernel
theorem sg_c99 : Str.ofString "c" = ⟨#[99]⟩ := by decide +kernel
theorem sg_c100 : Str.ofString "d" = ⟨#[100]⟩ := by decide +kernel
theorem sg_c101 : Str.ofString "e" = ⟨#[101]⟩ := by decide +kernel
theorem sg_c102 : Str.ofString "f" = ⟨#[102]⟩ := by decide +kernel
theorem sg_c103 : Str.ofString "g" = ⟨#[103]⟩ := by decide +kernel
theorem sg_c104 : Str.ofString "h" = ⟨#[104]⟩ := by decide +kernel
theorem sg_c105 : Str.ofString "i" = ⟨#[105]⟩ := by decide +kernel
theorem sg_c106 : Str.ofString "j" = ⟨#[106]⟩ := by decide +kernel
theorem sg_c107 : Str.ofString "k" = ⟨#[107]⟩ := by decide +kernel
theorem sg_c108 : Str.ofString "l" = ⟨#[108]⟩ := by decide +kernel
theorem sg_c109 : Str.ofString "m" = ⟨#[109]⟩ := by decide +kernel
theorem sg_c110 : Str.ofString "n" = ⟨#[110]⟩ := by decide +kernel
theorem sg_c111 : Str.ofString "o" = ⟨#[111]⟩ := by decide +kernel
theorem sg_c112 : Str.ofString "p" = ⟨#[112]⟩ := by decide +kernel
theorem sg_c113 : Str.ofString "q" = ⟨#[113]⟩ := by decide +kernel
theorem sg_c114 : Str.ofString "r" = ⟨#[114]⟩ := by decide +kernel
theorem sg_c115 : Str.ofString "s" = ⟨#[115]⟩ := by decide +kernel
theorem sg_c116 : Str.ofString "t" = ⟨#[116]⟩ := by decide +kernel
theorem sg_c117 : Str.ofString "u" = ⟨#[117]⟩ := by decide +kernel
theorem sg_c118 : Str.ofString "v" = ⟨#[118]⟩ := by decide +kernel
theorem sg_c119 : Str.ofString "w" = ⟨#[119]⟩ := by decide +kernel
theorem sg_c120 : Str.ofString "x" = ⟨#[120]⟩ := by decide +kernel
theorem sg_c121 : Str.ofString "y" = ⟨#[121]⟩ := by decide +kernel
theorem sg_c122 : Str.ofString "z" = ⟨#[122]⟩ := by decide +kernel
theorem sg_c123 : Str.ofString "{" = ⟨#[123]⟩ := by decide +kernel
theorem sg_c124 : Str.ofString "|" = ⟨#[124]⟩ := by decide +kernel
theorem sg_c125 : Str.ofString "}" = ⟨#[125]⟩ := by decide +kernel
theorem sg_c126 : Str.ofString "~" = ⟨#[126]⟩ := by decide +kernel
section
variable {σ : L2.St} {H : Hp} {Q : VK} {K : PySem.W.Frag} {i : Int}
theorem g_ixSA {n : Nat} {z : Str} (hz : As n z) (hn : n ≤ 1000000) (h0 : 0 ≤ i) (h1 : i < z.length) (q : ∀ c, c ∈ cs z → Q (.str ⟨#[c]⟩) H) : rIx K (.str z) (.int i) H Q := by
  obtain ⟨m, rfl⟩ : ∃ m : Nat, i = (m : Int) := ⟨i.toNat, by omega⟩
  have h2 : m < (cs z).length := by rw [cs_len]; omega
  exact g_ixS (hz.line hn) (atI_nat (List.getElem?_eq_getElem h2)) (q _ (List.getElem_mem h2))
theorem strs_of : ∀ ys : List V, (∀ y ∈ ys, ∃ s, y = V.str s ∧ As 1 s) → ∃ ss : List Str, ys = ss.map V.str ∧ ∀ s ∈ ss, As 1 s
  | [], _ => ⟨[], rfl, fun _ h => nomatch h⟩
  | y :: ys, h => by
    obtain ⟨s, rfl, hs⟩ := h y List.mem_cons_self
    obtain ⟨ss, rfl, hss⟩ := strs_of ys fun z hz => h z (List.mem_cons_of_mem _ hz)
    exact ⟨s :: ss, rfl, fun z hz => by rcases List.mem_cons.mp hz with e | e; exact e ▸ hs; exact hss z e⟩
theorem as_join : ∀ ss : List Str, (∀ s ∈ ss, As 1 s) → As ss.length (Str.join (Str.ofString "") ss)
  | [], _ => ⟨by decide, fun c hc => nomatch hc⟩
  | [x], h => h x List.mem_cons_self
  | x :: y :: r, h => by
    have a := h x List.mem_cons_self
    have b := as_join (y :: r) fun z hz => h z (List.mem_cons_of_mem _ hz)
    have e0 : As 0 (Str.ofString "") := ⟨by decide, by decide⟩
    have k := (a.app e0).app b
    have e : 1 + 0 + (y :: r).length = (x :: y :: r).length := by simp only [List.length_cons]; omega
    rw [e] at k
    exact k
theorem len_sum : ∀ ss : List Str, (∀ s ∈ ss, As 1 s) → (ss.map (·.length)).sum ≤ ss.length
  | [], _ => Nat.le_refl _
  | x :: r, h => by
    have a := (h x List.mem_cons_self).1
    have b := len_sum r fun z hz => h z (List.mem_cons_of_mem _ hz)
    simp only [List.map_cons, List.sum_cons, List.length_cons]
    omega
theorem g_join0 {p : Addr} {ys : List V} (h : SqL K H p ys) (all : ∀ y ∈ ys, ∃ s, y = V.str s ∧ As 1 s) (hl : ys.length ≤ 1000) (q : ∀ z, As ys.length z → Q (.str z) H) : rJoin K (.str (Str.ofString "")) [.ref p] H Q := by
  obtain ⟨ss, rfl, hs⟩ := strs_of ys all
  refine ⟨_, p, ss, rfl, rfl, .inl h, ?_, q _ ?_⟩
  · have a := len_sum ss hs
    rw [List.length_map] at hl
    rw [show (Str.ofString "").length = 0 by decide]
    omega
  · rw [List.length_map, TL.join_eq]
    exact as_join ss hs
theorem dps_sg : ∀ ys : List Nat, DpAll K H (ys.map sg) (ys.map fun c => PyData.str ⟨#[c]⟩)
  | [] => .nil
  | _ :: ys => .cons (.str _) (dps_sg ys)
theorem lay_sg : ∀ ys : List Nat, (∀ c ∈ ys, c < 128) → PyData.canLayAll0 (ys.map fun c => PyData.str ⟨#[c]⟩) = true
  | [], _ => by simp only [List.map_nil, PyData.canLayAll0]
  | c :: ys, h => by
    have a := h c List.mem_cons_self
    have b := lay_sg ys fun z hz => h z (List.mem_cons_of_mem _ hz)
    simp only [List.map_cons, PyData.canLayAll0, b, Bool.and_true, PyData.canLay0]
    show (#[c] : Array Nat).all (· < 0x110000) = true
    simp
    omega
theorem dep_sg : ∀ ys : List Nat, PyData.depthAll (ys.map fun c => PyData.str ⟨#[c]⟩) = 0
  | [] => by simp only [List.map_nil, PyData.depthAll]
  | c :: ys => by simp only [List.map_cons, PyData.depthAll, dep_sg ys, PyData.depth]; rfl
theorem g_eqNil {a b : Addr} {ys : List Nat} (h1 : SqL K H a (ys.map sg)) (hy : ∀ c ∈ ys, c < 128) (h2 : SqL K H b []) (q : Q (.bl ys.isEmpty) H) : rEqA K (.ref a) (.ref b) H Q := by
  refine g_eqD (d := .list (ys.map fun c => .str ⟨#[c]⟩)) (e := .list []) (Dp.lst h1 (dps_sg ys)) (Dp.lst h2 .nil) ?_ ?_ ?_
  · unfold SeqAt.shaped
    simp only [PyData.canLay0, PyData.depth, lay_sg ys hy, dep_sg]
    decide
  · decide
  · cases ys with
    | nil => exact q
    | cons c r => exact q
end
end Hf

set_option Elab.async false
set_option linter.all false
set_option maxRecDepth 100000
set_option maxHeartbeats 4000000
namespace Hf
open PySem L2 PySem.Spec PyProof.Rows

/-! ### repr of data with empty dicts in it -/
mutual
inductive Rq (h : Heap) : Value → PyData → Prop
  | non : Rq h .none .none
  | bl (b : Bool) : Rq h (.bool b) (.bool b)
  | int (i : Int) (t : Tok) : Rq h (.int i t) (.int i)
  | str (x : Str) (t : Tok) : Rq h (.str x t) (.str x)
  | lst {a : Addr} {o : Obj} {vs : Array Value} {n : Nat} {xs : List PyData} : h.get? a = some o → o.cls = .type "list" → o.data = .seq vs n → RqAll h vs.toList xs → Rq h (.ref a) (.list xs)
  | tup {a : Addr} {o : Obj} {vs : Array Value} {n : Nat} {xs : List PyData} : h.get? a = some o → o.cls = .type "tuple" → o.data = .seq vs n → RqAll h vs.toList xs → Rq h (.ref a) (.tuple xs)
  | dct {a : Addr} {o : Obj} {n : Nat} : h.get? a = some o → o.cls = .type "dict" → o.data = .dict #[] n → (a == sysModules) = false → Rq h (.ref a) (.dict [])
inductive RqAll (h : Heap) : List Value → List PyData → Prop
  | nil : RqAll h [] []
  | cons {v : Value} {vs : List Value} {d : PyData} {ds : List PyData} : Rq h v d → RqAll h vs ds → RqAll h (v :: vs) (d :: ds)
end
mutual
theorem Rq.reads {h : Heap} : ∀ {v : Value} {d : PyData}, Rq h v d → ∃ as, Reads h v d as
  | _, _, .non => ⟨_, .none⟩
  | _, _, .bl b => ⟨_, .bool b⟩
  | _, _, .int i t => ⟨_, .int i t⟩
  | _, _, .str x t => ⟨_, .str x t⟩
  | _, _, .lst g c e r => by
    obtain ⟨as, q⟩ := RqAll.reads r
    exact ⟨_, .list g c e q⟩
  | _, _, .tup g c e r => by
    obtain ⟨as, q⟩ := RqAll.reads r
    exact ⟨_, .tuple g c e q⟩
  | _, _, .dct g c e _ => ⟨_, .dict g c e .nil .nil⟩
theorem RqAll.reads {h : Heap} : ∀ {vs : List Value} {ds : List PyData}, RqAll h vs ds → ∃ as, ReadsAll h vs ds as
  | _, _, .nil => ⟨_, .nil⟩
  | _, _, .cons r rs => by
    obtain ⟨as, q⟩ := Rq.reads r
    obtain ⟨bs, p⟩ := RqAll.reads rs
    exact ⟨_, .cons q p⟩
end
section
variable {prog : Program} {w : World} {h : Heap}
theorem apart {a : Addr} {d : PyData} {as bs : List Addr} {n : Nat} (r : Reads h (.ref a) d as) (lt : n < d.depth) (b : ReadAtMost h n bs) : a ∉ bs ∧ ReadAtMost h d.depth (a :: bs) :=
  ⟨not_mem_of_deeper r lt b, ReadAtMost.cons r (Nat.le_of_lt lt) b⟩
mutual
theorem Rq.shows : ∀ {v : Value} {d : PyData}, Rq h v d → d.showable = true → d.shown.length ≤ sizeLine → ∃ bs, ReadAtMost h d.depth bs ∧ ReprK prog w bs h d.depth v d.shown
  | _, _, .non, _, _ => ⟨[], (fun _ z => nomatch z), by simp only [PyData.shown]; exact .of_is ReprIs.none _ _ _⟩
  | _, _, .bl b, _, _ => ⟨[], (fun _ z => nomatch z), by simp only [PyData.shown]; exact .of_is (ReprIs.bool b) _ _ _⟩
  | _, _, .int i t, s, _ => ⟨[], (fun _ z => nomatch z), by simp only [PyData.shown]; exact .of_is (ReprIs.int t (by simpa [PyData.showable] using s)) _ _ _⟩
  | _, _, .str x t, _, z => ⟨[], (fun _ z => nomatch z), by simp only [PyData.shown]; exact .of_is (ReprIs.str x t (by simpa only [PyData.shown] using z)) _ _ _⟩
  | _, _, .lst (a := a) (vs := vs) (xs := xs) g c e r, s, z => by
    have sz : (listText (PyData.shownAll xs)).length ≤ sizeLine := by simpa only [PyData.shown] using z
    obtain ⟨bs, ba, k⟩ := RqAll.shows r (by simpa [PyData.showable] using s) (fun t m => Nat.le_trans (listText_mem_le m) sz)
    obtain ⟨as, q⟩ := RqAll.reads r
    obtain ⟨p1, p2⟩ := apart (.list g c e q) (by simp only [PyData.depth]; omega) ba
    refine ⟨a :: bs, p2, ?_⟩
    simp only [PyData.depth, PyData.shown]
    obtain ⟨l⟩ := vs
    cases l with
    | nil =>
      have r' : RqAll h [] xs := r
      cases r'
      simp only [PyData.shownAll, listText_nil]
      exact ReprK.listEmpty g c e
    | cons x l => exact ReprK.list g c e p1 (by simpa using k.length_eq) (fun i y f => k.item i y (by simpa using f))
  | _, _, .tup (a := a) (xs := xs) g c e r, s, z => by
    have sz : (tupleText (PyData.shownAll xs)).length ≤ sizeLine := by simpa only [PyData.shown] using z
    obtain ⟨bs, ba, k⟩ := RqAll.shows r (by simpa [PyData.showable] using s) (fun t m => Nat.le_trans (tupleText_mem_le m) sz)
    obtain ⟨as, q⟩ := RqAll.reads r
    obtain ⟨p1, p2⟩ := apart (.tuple g c e q) (by simp only [PyData.depth]; omega) ba
    refine ⟨a :: bs, p2, ?_⟩
    simp only [PyData.depth, PyData.shown]
    exact ReprK.tuple g c e p1 k
  | _, _, .dct (a := a) g c e n, _, _ => by
    have rd : Reads h (.ref a) (.dict []) _ := .dict g c e .nil .nil
    refine ⟨[a], fun b m => ?_, ?_⟩
    · rw [List.mem_singleton.mp m]
      exact ⟨_, _, rd, Nat.le_refl _⟩
    · simp only [PyData.depth, PyData.depthKv, PyData.shown, PyData.shownKv]
      exact ReprK.dict (as := []) g c e n (fun z => nomatch z) .nil
theorem RqAll.shows : ∀ {vs : List Value} {ds : List PyData}, RqAll h vs ds → PyData.showableAll ds = true → (∀ t ∈ PyData.shownAll ds, t.length ≤ sizeLine) → ∃ bs, ReadAtMost h (PyData.depthAll ds) bs ∧ ReprAllK prog w bs h (PyData.depthAll ds) vs (PyData.shownAll ds)
  | _, _, .nil, _, _ => ⟨[], (fun _ z => nomatch z), by simp only [PyData.shownAll]; exact .nil⟩
  | _, _, .cons (d := d) (ds := ds) r rs, s, z => by
    obtain ⟨s1, s2⟩ : d.showable = true ∧ PyData.showableAll ds = true := by simpa [PyData.showableAll] using s
    obtain ⟨b1, m1, k1⟩ := Rq.shows r s1 (z _ (by simp only [PyData.shownAll]; exact List.mem_cons_self))
    obtain ⟨b2, m2, k2⟩ := RqAll.shows rs s2 (fun t m => z t (by simp only [PyData.shownAll]; exact List.mem_cons_of_mem _ m))
    have u1 : d.depth ≤ PyData.depthAll (d :: ds) := by simp only [PyData.depthAll]; exact Nat.le_max_left _ _
    have u2 : PyData.depthAll ds ≤ PyData.depthAll (d :: ds) := by simp only [PyData.depthAll]; exact Nat.le_max_right _ _
    refine ⟨b1 ++ b2, (m1.mono u1).append (m2.mono u2), ?_⟩
    simp only [PyData.shownAll]
    exact .cons ((k1.more fun b q => List.mem_append_left _ q).level_le u1) (k2.more_le (fun b q => List.mem_append_right _ q) u2)
end
/-- repr(v), whatever it is -/
theorem rq_repr {A : Around} {E : Value → Shared → Prop} {s : Shared} {Q : Value → Shared → Prop} {v : Value} {d : PyData} (r : Rq s.heap v d) (sh : d.showable = true) (gd : A.guards = some []) (un : A.units + (d.depth + 1) < cLine) (sz : d.shown.length ≤ sizeLine)
    (fin : ∀ h' u tk, (∀ b o, s.heap.get? b = some o → h'.get? b = some o) → Q (.str d.shown u) { s with heap := h', toks := tk }) : wpAny (model prog w) A (call (.builtin "repr") [v]) Q E s := by
  cases r with
  | non =>
    simp only [PyData.shown] at fin
    exact P.repr_of_none (fin s.heap _ _ fun _ _ z => z)
  | bl b =>
    simp only [PyData.shown] at fin
    exact P.repr_of_bool (fin s.heap _ _ fun _ _ z => z)
  | int i t =>
    simp only [PyData.shown] at fin
    exact P.repr_of_int (by simpa [PyData.showable] using sh) (fin s.heap _ _ fun _ _ z => z)
  | str x t =>
    simp only [PyData.shown] at fin sz
    exact P.repr_of_str (fin s.heap _ _ fun _ _ z => z) sz
  | @lst a o vs n xs g c e r =>
    have sz' : (listText (PyData.shownAll xs)).length ≤ sizeLine := by simpa only [PyData.shown] using sz
    obtain ⟨bs, ba, k⟩ := RqAll.shows (prog := prog) (w := w) r (by simpa [PyData.showable] using sh) (fun t m => Nat.le_trans (listText_mem_le m) sz')
    obtain ⟨as, q⟩ := RqAll.reads r
    obtain ⟨p1, _⟩ := apart (.list g c e q) (by simp only [PyData.depth]; omega) ba
    simp only [PyData.depth] at un
    simp only [PyData.shown] at fin
    refine call_repr_slot (by omega) ⟨o, g, c⟩ F.slot_list_repr.toG ?_
    obtain ⟨l⟩ := vs
    cases l with
    | nil =>
      have r' : RqAll s.heap [] xs := r
      cases r'
      simp only [PyData.shownAll, listText_nil] at fin
      exact call_list_repr_empty ⟨o, g, c⟩ g e ⟨_, _, rfl, fin s.heap _ _ fun _ _ z => z⟩
    | cons x l =>
      exact call_list_reprK g c e p1 (by simpa using k.length_eq) (fun i y f => k.item i y (by simpa using f)) gd (fun b _ => Clear.nil b) (by show A.units + 1 + _ < cLine; omega) (fun _ _ z => z) (fun h' u tk z => ⟨_, _, rfl, fin h' u tk z⟩) sz'
  | @tup a o vs n xs g c e r =>
    have sz' : (tupleText (PyData.shownAll xs)).length ≤ sizeLine := by simpa only [PyData.shown] using sz
    obtain ⟨bs, ba, k⟩ := RqAll.shows (prog := prog) (w := w) r (by simpa [PyData.showable] using sh) (fun t m => Nat.le_trans (tupleText_mem_le m) sz')
    obtain ⟨as, q⟩ := RqAll.reads r
    obtain ⟨p1, _⟩ := apart (.tuple g c e q) (by simp only [PyData.depth]; omega) ba
    simp only [PyData.depth] at un
    simp only [PyData.shown] at fin
    exact call_repr_slot (by omega) ⟨o, g, c⟩ F.slot_tuple_repr (call_tuple_reprK g c e p1 k gd (fun b _ => Clear.nil b) (by show A.units + 1 + _ < cLine; omega) (fun _ _ z => z) (fun h' u tk z => ⟨_, _, rfl, fin h' u tk z⟩) sz')
  | @dct a o n g c e ne =>
    simp only [PyData.depth, PyData.depthKv] at un
    simp only [PyData.shown, PyData.shownKv] at fin sz
    exact call_repr_slot (by omega) ⟨o, g, c⟩ F.slot_dict_repr (call_dict_reprK (as := []) (d := 0) g c e ne (fun z => nomatch z) .nil gd (fun b _ => Clear.nil b) (by show A.units + 1 + _ < cLine; omega) (fun _ _ z => z) (fun h' u tk z => ⟨_, _, rfl, fin h' u tk z⟩) sz)
end

/-! the same, of abstract values -/
mutual
inductive Dq (K : PySem.W.Frag) (H : Hp) : V → PyData → Prop
  | non : Dq K H .non .none
  | bl (b : Bool) : Dq K H (.bl b) (.bool b)
  | int (i : Int) : Dq K H (.int i) (.int i)
  | str (x : Str) : Dq K H (.str x) (.str x)
  | lst {a : Addr} {xs : List V} {ds : List PyData} : SqL K H a xs → DqAll K H xs ds → Dq K H (.ref a) (.list ds)
  | tup {a : Addr} {xs : List V} {ds : List PyData} : SqT K H a xs → DqAll K H xs ds → Dq K H (.ref a) (.tuple ds)
  | dct {a : Addr} : H a = some (.dK []) → Dq K H (.ref a) (.dict [])
inductive DqAll (K : PySem.W.Frag) (H : Hp) : List V → List PyData → Prop
  | nil : DqAll K H [] []
  | cons {v : V} {vs : List V} {d : PyData} {ds : List PyData} : Dq K H v d → DqAll K H vs ds → DqAll K H (v :: vs) (d :: ds)
end
section
variable {X : Cx} {pins : List (Addr × Obj)} {σ : L2.St} {H : Hp} {s : Shared}
mutual
theorem Dq.rq (I : Inv X pins σ H s) : ∀ {v : V} {d : PyData} {u : Value}, Dq X.K H v d → RelV v u → Rq s.heap u d
  | _, _, _, .non, r => by
    cases r
    exact .non
  | _, _, _, .bl b, r => by
    cases r
    exact .bl b
  | _, _, _, .int i, r => by
    obtain ⟨t, rfl⟩ := r
    exact .int i t
  | _, _, _, .str x, r => by
    obtain ⟨t, rfl⟩ := r
    exact .str x t
  | _, _, _, .lst q a, r => by
    cases r
    obtain ⟨its, rv, ⟨o, n, ho, hc, _, hd⟩, _⟩ := I.list q
    exact .lst ho hc hd (DqAll.rq I a rv)
  | _, _, _, .tup q a, r => by
    cases r
    obtain ⟨its, rv, ⟨o, ho, hc, n, hd⟩, _⟩ := I.tuple q
    exact .tup ho hc hd (DqAll.rq I a rv)
  | _, _, _, .dct q, r => by
    cases r
    obtain ⟨_, ne, vs, kv, dd⟩ := dk_of I.hok q
    cases kv
    obtain ⟨o, es, ep, ho, hc, hd, _, hp, _⟩ := dd
    have e0 : es = #[] := by
      obtain ⟨l⟩ := es
      cases l with
      | nil => rfl
      | cons e l => cases hp
    subst e0
    exact .dct ho hc.1 hd ne
theorem DqAll.rq (I : Inv X pins σ H s) : ∀ {vs : List V} {ds : List PyData} {us : List Value}, DqAll X.K H vs ds → Vals vs us → RqAll s.heap us ds
  | _, _, _, .nil, r => by
    cases r
    exact .nil
  | _, _, _, .cons q qs, r => by
    cases r with
    | cons r1 r2 => exact .cons (Dq.rq I q r1) (DqAll.rq I qs r2)
end
end

/-! ### sizes -/
structure Sz (n k : Nat) (d : PyData) : Prop where
  s : d.showable = true
  k : d.depth ≤ k
  n : d.shown.length ≤ n
structure Szs (n k : Nat) (ds : List PyData) : Prop where
  s : PyData.showableAll ds = true
  k : PyData.depthAll ds ≤ k
  n : ((PyData.shownAll ds).map (·.length)).sum + 2 * (PyData.shownAll ds).length ≤ n
theorem Sz.of {n k : Nat} {d : PyData} (h : Sh n k d) : Sz n k d := ⟨h.s, h.k, h.n⟩
theorem Szs.of {n k : Nat} {ds : List PyData} (h : Shs n k ds) : Szs n k ds := ⟨h.s, h.k, h.n⟩
theorem Sz.non : Sz 4 0 .none := .of .non
theorem Sz.bl (b : Bool) : Sz 5 0 (.bool b) := .of (.bl b)
theorem Sz.int {i : Int} (h : i.natAbs < 10 ^ 40) : Sz 41 0 (.int i) := .of (.int h)
theorem Sz.str {z : Str} {n : Nat} (h : z.length ≤ n) (c : ∀ x ∈ z.cps.toList, x < 128) : Sz (10 * n + 2) 0 (.str z) := by
  refine ⟨by simp only [PyData.showable], by simp only [PyData.depth]; omega, ?_⟩
  simp only [PyData.shown]
  have q := StrLaws.reprText_len z (fun x hx => Nat.lt_of_lt_of_le (c x hx) (by decide))
  omega
theorem Sz.list {n k : Nat} {ds : List PyData} (h : Szs n k ds) : Sz (n + 3) (k + 1) (.list ds) :=
  ⟨by simp only [PyData.showable]; exact h.s, by simp only [PyData.depth]; have := h.k; omega, by simp only [PyData.shown]; have := h.n; have := listText_len_le (PyData.shownAll ds); omega⟩
theorem Sz.tup {n k : Nat} {ds : List PyData} (h : Szs n k ds) : Sz (n + 3) (k + 1) (.tuple ds) :=
  ⟨by simp only [PyData.showable]; exact h.s, by simp only [PyData.depth]; have := h.k; omega, by simp only [PyData.shown]; have := h.n; have := tupleText_len_le (PyData.shownAll ds); omega⟩
theorem Sz.dct : Sz 2 1 (.dict []) := ⟨by simp only [PyData.showable, PyData.showableKv], by simp only [PyData.depth, PyData.depthKv]; omega, by simp only [PyData.shown, PyData.shownKv]; decide +kernel⟩
theorem Szs.nil : Szs 0 0 [] := .of .nil
theorem Szs.cons {n m k l : Nat} {d : PyData} {ds : List PyData} (a : Sz n k d) (b : Szs m l ds) : Szs (n + m + 2) (max k l) (d :: ds) := by
  refine ⟨by simp only [PyData.showableAll, a.s, b.s, Bool.and_self], ?_, ?_⟩
  · simp only [PyData.depthAll]
    have := a.k
    have := b.k
    omega
  · simp only [PyData.shownAll, List.map_cons, List.sum_cons, List.length_cons]
    have := a.n
    have := b.n
    omega
theorem Szs.map {α : Type} {f : α → PyData} {n k : Nat} : ∀ {xs : List α}, (∀ x ∈ xs, Sz n k (f x)) → Szs ((n + 2) * xs.length) k (xs.map f)
  | [], _ => ⟨by simp only [List.map_nil, PyData.showableAll], by simp only [List.map_nil, PyData.depthAll]; omega, by simp only [List.map_nil, PyData.shownAll]; simp⟩
  | x :: xs, h => by
    have q := Szs.cons (h x List.mem_cons_self) (Szs.map fun y hy => h y (List.mem_cons_of_mem _ hy))
    have e : (n + 2) * (x :: xs).length = n + (n + 2) * xs.length + 2 := by
      rw [List.length_cons, Nat.mul_succ]
      omega
    rw [e, List.map_cons]
    rw [Nat.max_self] at q
    exact q
/-- repr, over data with empty dicts, too -/
def rReprQ (K : PySem.W.Frag) : List V → Hp → VK → Prop := fun vs H Q => ∃ v d, vs = [v] ∧ Dq K H v d ∧ Shows d ∧ Q (.str d.shown) H
theorem call_reprQ {X : Cx} {k : Nat} (hr : RG k X.A) : CallR X (.builtin "repr") (rReprQ X.K) := by
  intro pins s σ H xs us Q I r h
  obtain ⟨v, d, rfl, hd, ⟨h1, h2, h3⟩, q⟩ := h
  cases r with
  | cons rv rn =>
    rename_i u us'
    cases rn
    have hu : X.A.units + 64 < cLine := hr.rm.units
    exact rq_repr (Dq.rq I hd rv) h1 hr.gd (by omega) h3 fun h' u tk kp => ⟨.str _, H, I.kept kp, ⟨_, rfl⟩, q⟩
theorem g_reprQ {H : Hp} {K : PySem.W.Frag} {Q : VK} {v : V} {d : PyData} {n k : Nat} (h : Dq K H v d) (s : Sz n k d) (hn : n ≤ 1000000) (hk : k ≤ 40) (q : Q (.str d.shown) H) : rReprQ K [v] H Q :=
  ⟨v, d, rfl, h, ⟨s.s, Nat.le_trans s.k hk, Nat.le_trans s.n (Nat.le_trans hn (by decide))⟩, q⟩
mutual
theorem Dq.of {K : PySem.W.Frag} {H : Hp} : ∀ {v : V} {d : PyData}, Dp K H v d → Dq K H v d
  | _, _, .non => .non
  | _, _, .bl b => .bl b
  | _, _, .int i => .int i
  | _, _, .str x => .str x
  | _, _, .lst h a => .lst h (DqAll.of a)
  | _, _, .tup h a => .tup h (DqAll.of a)
theorem DqAll.of {K : PySem.W.Frag} {H : Hp} : ∀ {vs : List V} {ds : List PyData}, DpAll K H vs ds → DqAll K H vs ds
  | _, _, .nil => .nil
  | _, _, .cons a b => .cons (Dq.of a) (DqAll.of b)
end
mutual
theorem Dq.same {K : PySem.W.Frag} {H H' : Hp} (s : Same H H') : ∀ {v : V} {d : PyData}, Dq K H v d → Dq K H' v d
  | _, _, .non => .non
  | _, _, .bl b => .bl b
  | _, _, .int i => .int i
  | _, _, .str x => .str x
  | _, _, .lst h a => .lst (Same.seq s h) (DqAll.same s a)
  | _, _, .tup h a => .tup (Same.seqT s h) (DqAll.same s a)
  | _, _, .dct h => .dct (s _ _ h)
theorem DqAll.same {K : PySem.W.Frag} {H H' : Hp} (s : Same H H') : ∀ {vs : List V} {ds : List PyData}, DqAll K H vs ds → DqAll K H' vs ds
  | _, _, .nil => .nil
  | _, _, .cons a b => .cons (Dq.same s a) (DqAll.same s b)
end
mutual
theorem dp_same {K : PySem.W.Frag} {H H' : Hp} (s : Same H H') : ∀ {v : V} {d : PyData}, Dp K H v d → Dp K H' v d
  | _, _, .non => .non
  | _, _, .bl b => .bl b
  | _, _, .int i => .int i
  | _, _, .str x => .str x
  | _, _, .lst h a => .lst (Same.seq s h) (dps_same s a)
  | _, _, .tup h a => .tup (Same.seqT s h) (dps_same s a)
theorem dps_same {K : PySem.W.Frag} {H H' : Hp} (s : Same H H') : ∀ {vs : List V} {ds : List PyData}, DpAll K H vs ds → DpAll K H' vs ds
  | _, _, .nil => .nil
  | _, _, .cons a b => .cons (dp_same s a) (dps_same s b)
end
theorem g_neZ {H : Hp} {K : PySem.W.Frag} {Q : VK} {x y : V} {d : PyData} {n k : Nat} (h1 : Dp K H x d) (h2 : Dp K H y d) (c : d.canLay0 = true) (s : Sz n k d) (hk : k ≤ 60) (q : Q (.bl false) H) : rNeA K x y H Q := by
  have sh : SeqAt.shaped d = true := by
    unfold SeqAt.shaped
    rw [c, decide_eq_true (Nat.le_trans s.k (by omega : k ≤ 64))]
    rfl
  exact g_neD h1 h2 sh sh (by rw [SeqAt.eqv_refl d c]; exact q)
theorem g_eqZ {H : Hp} {K : PySem.W.Frag} {Q : VK} {x y : V} {d : PyData} {n k : Nat} (h1 : Dp K H x d) (h2 : Dp K H y d) (c : d.canLay0 = true) (s : Sz n k d) (hk : k ≤ 60) (q : Q (.bl true) H) : rEqA K x y H Q := by
  have sh : SeqAt.shaped d = true := by
    unfold SeqAt.shaped
    rw [c, decide_eq_true (Nat.le_trans s.k (by omega : k ≤ 64))]
    rfl
  exact g_eqD h1 h2 sh sh (by rw [SeqAt.eqv_refl d c]; exact q)
theorem cl_map {α : Type} {f : α → PyData} (h : ∀ x, (f x).canLay0 = true) : ∀ xs : List α, PyData.canLayAll0 (xs.map f) = true
  | [] => by simp only [List.map_nil, PyData.canLayAll0]
  | x :: xs => by simp only [List.map_cons, PyData.canLayAll0, h x, cl_map h xs, Bool.and_self]
theorem Sz.mono {n m k l : Nat} {d : PyData} (h : Sz n k d) (a : n ≤ m) (b : k ≤ l) : Sz m l d := ⟨h.s, Nat.le_trans h.k b, Nat.le_trans h.n a⟩
theorem Dq.new {K : PySem.W.Frag} {H : Hp} {p : Addr} {u : HO} {v : V} {d : PyData} (n : H p = none) (h : Dq K H v d) : Dq K (upd H p u) v d := Dq.same (Same.upd n (Same.refl H)) h
end Hf

set_option Elab.async false
set_option linter.all false
set_option maxRecDepth 100000
set_option maxHeartbeats 4000000
namespace Hf
open PySem L2 PySem.Spec PyProof.Rows

/-! ### enumerate(text) -/
/-- the signs of x, each in a new pair with its place -/
def IteS (x : Str) : It := ⟨fun i _ => i < x.cps.size, fun i H v H' => ∃ T c, v = .ref T ∧ H T = none ∧ x.cps[i]? = some c ∧ H' = upd H T (.tup [.int (i : Nat), .str ⟨#[c]⟩]), fun i _ => i = x.cps.size⟩
theorem turn_enumS {P : Program} {w : World} {K : PySem.W.Frag} {elts : List Expr} {kk : Nat} {tpos : Pos} (x : Str) (t : Tok) (e it : Addr) :
    Turn P w K (.Tuple elts kk tpos) (IteS x) [e, it] e (fun i h => (∃ old, IsEnum h e it ((i : Nat) : Int) old) ∧ h.IsStrIter it (strIterType x) x t i ∧ e ≠ it) where
  mem := by simp
  obj := by
    rintro i h ⟨⟨old, he⟩, ⟨o, ho, hc, hd⟩, _⟩ b hb
    rcases List.mem_cons.mp hb with z | z
    · rw [z]
      exact ⟨_, he, fun v q => nomatch q⟩
    · rw [List.mem_singleton.mp z]
      exact ⟨o, ho, fun v q => by rw [hd] at q; cases q⟩
  keep := by
    rintro i h h' ⟨⟨old, he⟩, ⟨o, ho, r⟩, hne⟩ k
    exact ⟨⟨old, k e (by simp) _ he⟩, ⟨o, k it (by simp) o ho, r⟩, hne⟩
  item := by
    intro X hP hw hK hc i pins s σ H E I hf st hg
    subst hP hw hK
    obtain ⟨⟨old, he⟩, hit, hne⟩ := st
    have lt_e : e < s.heap.objs.size := Heap.lt_size he
    have lt_it : it < s.heap.objs.size := by
      obtain ⟨o, z, _⟩ := id hit
      exact Heap.lt_size z
    have D := Draws.text (prog := X.prog) (w := X.w) (A := X.A.in1) (I.ok.hd hc) it x t
    refine wpAny_pyNext_enum_itemD D he hit hg hne (by simpa using hne) fun v h' tk hv ho hit' hT hsz hk => ?_
    obtain ⟨c, u, hcx, rfl⟩ := hv
    refine ⟨_, rfl, wpAny_letOwnedTupleGo_enum (s := { s with heap := h', toks := tk + 1 }) ho fun h'' he' sb => ?_⟩
    have gT : h''.get? s.heap.objs.size = some { cls := .type "tuple", data := .seq #[.int i tk, .str ⟨#[c]⟩ u] } := (sb.2 _ (Nat.ne_of_gt lt_e)).trans hT
    have new : ObjOk X.prog X.w (upd H s.heap.objs.size (.tup [.int (i : Nat), .str ⟨#[c]⟩])) h'' s.heap.objs.size (.tup [.int (i : Nat), .str ⟨#[c]⟩]) :=
      ⟨by show 2 ≤ sizeLine; decide, [.int i tk, .str ⟨#[c]⟩ u], .cons ⟨_, rfl⟩ (.cons ⟨_, rfl⟩ .nil), ⟨_, gT, rfl, _, rfl⟩⟩
    have I1 : Inv X pins σ (upd H s.heap.objs.size (.tup [.int (i : Nat), .str ⟨#[c]⟩])) { s with heap := h'', toks := tk + 1 } :=
      I.turnedNew (ch := [e, it]) (fun b ob hb q => (sb.2 b (fun z => hb (by simp [z]))).trans (hk b ob (fun z => hb (by simp [z])) (fun z => hb (by simp [z])) q)) hf (Nat.le_refl _) new
    refine ⟨.ref s.heap.objs.size, _, I1, rfl, ⟨_, c, rfl, I.hok.fresh (Nat.le_refl _), hcx, rfl⟩, ⟨⟨.str ⟨#[c]⟩ u, ?_⟩, ?_, hne⟩, fun b hb => ?_⟩
    · have e1 : ((i + 1 : Nat) : Int) = (i : Int) + 1 := by omega
      rw [e1]
      exact he'
    · obtain ⟨o, z, r⟩ := hit'
      exact ⟨o, (sb.2 it (Ne.symm hne)).trans z, r⟩
    · have lt_b : b < s.heap.objs.size := by
        rcases List.mem_cons.mp hb with z | z
        · rw [z]
          exact lt_e
        · rw [List.mem_singleton.mp z]
          exact lt_it
      rw [upd_ne (Nat.ne_of_lt lt_b)]
      exact (hf b hb).1
  done := by
    intro X hP hw hK hc i pins s σ H E I hf st hg
    subst hP hw hK
    obtain ⟨⟨old, he⟩, hit, hne⟩ := st
    have hi : i = x.cps.size := hg
    subst hi
    obtain ⟨f0, f1, f2, f3, f4, f5⟩ := hf it (by simp)
    have D := Draws.text (prog := X.prog) (w := X.w) (A := X.A.in1) (I.ok.hd hc) it x t
    exact wpAny_pyNext_enum_endD D he hit fun h' eb => ⟨rfl, I.turned (t' := s.toks) (fun b o hb q => eb b o hb q) f0 f1 f3 f4 f5⟩
  self := fun A i s Q E st h => by
    obtain ⟨⟨_, he⟩, _⟩ := st
    exact wpAny_pyIter_enum he h
def iEnumS (ta : TA) : TI := fun σ H R => ta σ H fun vs H1 => ∃ x, vs = [.str x] ∧ R (IteS x) H1
theorem pi_enumS {X : Cx} {e : Expr} {ta : TA} {p pos tpos : Pos} {elts : List Expr} {kk : Nat} (hg : Gl X "enumerate") (hm : X.mg "enumerate" = none) (ha : PA X [e] ta) (hs : starEach [e] X.env = [(false, eval e X.env)] := by rfl) :
    PI X (.Tuple elts kk tpos) (.Call (.Name "enumerate" p) [e] [] pos) (iEnumS ta) := by
  refine ⟨fun pins s σ H R I h => ?_⟩
  refine Call_ (ld_blt I hg hm boot_enumerate (PyProof.Rows.callWith_type1 (thn (ha.run pos pins s σ H _ I h) fun us s1 ⟨vs, H1, I1, r1, x, ev, q⟩ => ?_) hs rfl))
  subst ev
  cases r1 with
  | cons r rr =>
    cases rr
    obtain ⟨t, rfl⟩ := r
    refine call_enumerate_str fun h' he hit hsz hk => wpAny_pyIter_enum he ?_
    have I2 : Inv X pins σ H1 { s1 with heap := h' } := I1.kept (t' := s1.toks) hk
    refine ⟨s1.heap.objs.size + 1, [s1.heap.objs.size + 1, s1.heap.objs.size], _, _, H1, rfl, I2, turn_enumS x t (s1.heap.objs.size + 1) s1.heap.objs.size, ⟨⟨.none, he⟩, hit, Nat.succ_ne_self _⟩, fun b hb => ?_, q⟩
    have hle : s1.heap.objs.size ≤ b := by
      rcases List.mem_cons.mp hb with z | z
      · rw [z]
        exact Nat.le_add_right _ _
      · rw [List.mem_singleton.mp z]
        exact Nat.le_refl _
    exact I1.fpOk hle (I1.hok.fresh hle)
theorem walk_enumS {z : Str} : Walk (IteS z) z.cps.size (fun _ => True) (fun i H v H' => ∃ T c, v = .ref T ∧ H T = none ∧ z.cps[i]? = some c ∧ H' = upd H T (.tup [.int (i : Nat), .str ⟨#[c]⟩])) :=
  ⟨fun _ _ hi _ => hi, fun _ _ => rfl, fun _ _ _ _ _ _ y => y⟩
section
variable {σ : L2.St} {H : Hp} {D : Ends} {tb : TS} {K : PySem.W.Frag}
/-- for j, m in enumerate(the text in the slot n) -/
theorem g_forES {n j m N : Nat} {z : Str} (hN : 2 = N) (hv : σ[n]? = some (some (.str z))) (Pv : Nat → L2.St → Hp → Prop) (h0 : Pv 0 σ H)
    (hs : ∀ i c σ' H1 H' T, i < z.length → (cs z)[i]? = some c → Pv i σ' H1 → H1 T = none → H' = upd H1 T (.tup [.int (i : Nat), .str ⟨#[c]⟩]) →
      tb { D with nx := Pv (i + 1), ct := Pv (i + 1), bk := D.nx } ((σ'.set j (some (.int (i : Nat)))).set m (some (.str ⟨#[c]⟩))) H')
    (hd : ∀ σ' H', Pv z.length σ' H' → D.nx σ' H') : tFor (iEnumS (tCons (tVar n) tNil)) (gTup K N (gCons (gName j) (gCons (gName m) gNil))) tb D σ H := by
  subst hN
  refine ⟨_, hv, z, rfl, for_it walk_enumS Pv h0 (fun _ _ _ _ _ => True.intro) ?_ hd⟩
  rintro i x σ' H1 H' hi p ⟨T, c, rfl, hT, hc, e⟩
  refine ⟨T, _, rfl, .inl (.inl (by rw [e]; exact upd_same)), rfl, _, _, rfl, _, _, rfl, rfl, ?_⟩
  exact hs i c σ' H1 H' T hi (by rw [Array.getElem?_toList]; exact hc) p hT e
end

theorem takesN {X : Cx} : Takes X (fun _ _ _ _ => False) := fun _ _ ⟨_, _, _, _, _, _, _, _, _, _, _, _, _, _, _, _, z⟩ => z.elim
/-! ### an exception held as a value -/
/-- the class cls has instances with the field fld -/
def XFld (K : PySem.W.Frag) (cls : Value) (fld : Str) : Prop := ∃ C, cls = .ref C ∧ XIs K C ∧ PySem.W.findIn K (.ref C) fld = some none ∧ PySem.W.hasDictIn K C = true
theorem XCls.fld {P : Program} {K : PySem.W.Frag} {mg : Str → Option Value} {nm fld : Str} {cls : Value} (T : XCls P K mg nm fld) (h : XN K nm cls) : XFld K cls fld := by
  obtain ⟨C, fI, xn, gC, TX, kC, xi, tyC, noN⟩ := T.ex
  have e := xn.symm.trans h
  simp only [Option.some.injEq] at e
  subst e
  exact ⟨C, rfl, xi, noN, TX.hd⟩
theorem XCls.nm {P : Program} {K : PySem.W.Frag} {mg : Str → Option Value} {nm fld : Str} (T : XCls P K mg nm fld) : ∃ C, XN K nm (.ref C) ∧ mg nm = some (.ref C) := by
  obtain ⟨C, fI, xn, gC, _⟩ := T.ex
  exact ⟨C, xn, gC⟩
/-- at a: an exception of the class cls whose only field fld is v -/
def XAt (H : Hp) (a : Addr) (cls : Value) (fld : Str) (v : V) : Prop := ∃ d, H a = some (ExV cls (some d) a) ∧ H d = some (.xd [(fld, v)])
theorem XAt.same {H H' : Hp} {a : Addr} {cls : Value} {fld : Str} {v : V} (h : XAt H a cls fld v) (s : Same H H') : XAt H' a cls fld v := by
  obtain ⟨d, h1, h2⟩ := h
  exact ⟨d, s _ _ h1, s _ _ h2⟩
def tXv (K : PySem.W.Frag) (fld : Str) (te : TE) : TE := fun σ H Q => te σ H fun x H1 => ∃ a cls v, x = .ref a ∧ XAt H1 a cls fld v ∧ XFld K cls fld ∧ Q v H1
theorem instX {X : Cx} {pins : List (Addr × Obj)} {σ : L2.St} {H : Hp} {s : Shared} {a C : Addr} {fld : Str} {v : V} (I : Inv X pins σ H s) (h : XAt H a (.ref C) fld v) :
    ∃ oe od u, PySem.W.InstAt s.heap a oe C (some od) ∧ PySem.W.lookIn fld od = some (some u) ∧ RelV v u := by
  obtain ⟨d, h1, h2⟩ := h
  obtain ⟨⟨oe, vs, go, ⟨z1, z2⟩, dt⟩, _, _⟩ := I.hok a _ h1
  have hx : ObjOk X.prog X.w H s.heap d (.xd [((fld : Str), v)]) := I.hok d _ h2
  obtain ⟨mA, hns, hr⟩ := hx
  obtain ⟨od, ho, hl⟩ := lookIn_ns hns
  have l : List.lookup fld [((fld : Str), v)] = some v := by rw [List.lookup_cons, beq_self_eq_true]
  obtain ⟨u, hu, ru⟩ := RelO.some_of (v := v) (o := mA fld) (by rw [← l]; exact hr fld)
  exact ⟨oe, od, u, ⟨go, z1, by unfold PySem.W.notCls; rw [dt] <;> rfl, by rw [z2]; exact ho⟩, by rw [hl, hu], ru⟩
section
variable {X : Cx} {e : Expr} {te : TE} {pos : Pos} {fld : Str}
theorem pe_xv (he : PE X e te) (hb : attributeBase e fld X.env (eval e X.env) = eval e X.env := by rfl) : PE X (.Attribute e fld pos) (tXv X.K fld te) := by
  refine ⟨fun pins s σ H Q I h => ?_⟩
  refine attr_of hb (thn (he.run pins s σ H _ I h) fun u s1 hh => ?_)
  obtain ⟨x, H1, I1, rx, a, cls, v, ex, xa, ⟨C, ec, xi, no, hd⟩, q⟩ := hh
  subst ex ec
  obtain rfl : u = Value.ref a := rx
  obtain ⟨oe, od, u, J, lk, ru⟩ := instX I1 xa
  exact HandSPX.exc_get I1.kIn J xi.ga xi.gg xi.ex (PySem.W.findObj_own hd no rfl lk) (handed_of ru) ⟨v, H1, I1.tok _, ru, q⟩
/-- isinstance(e, c), e such an exception, c a class -/
def rIsX (K : PySem.W.Frag) : List V → Hp → VK → Prop := fun xs H Q => ∃ (a C : Addr) (f : Str) (v c : V) (cv : Value) (b : Bool), xs = [.ref a, c] ∧ XAt H a (.ref C) f v ∧ XIs K C ∧ (∀ u, RelV c u → u = cv) ∧ PySem.W.kitOne K (.ref C) cv = some b ∧ Q (.bl b) H
theorem call_isX : CallR X (.builtin "isinstance") (rIsX X.K) := by
  intro pins s σ H xs us Q I r h
  obtain ⟨a, C, f, v, c, cv, b, rfl, xa, xi, hcv, e, q⟩ := h
  cases r with
  | cons rx rr =>
    cases rr with
    | cons rt rr =>
      cases rr
      cases rx
      have ec := hcv _ rt
      subst ec
      obtain ⟨oe, od, u, J, lk, ru⟩ := instX I xa
      exact PySem.W.kia_one (PySem.W.kitx_exc xi.cl xi.ga xi.gg xi.ex xi.ca xi.sp xi.tk xi.mo) I.kIn J e (fun z => nomatch z) fun tk => ⟨.bl b, H, I.kept (t' := tk) fun _ _ z => z, rfl, q⟩
end
section
variable {K : PySem.W.Frag} {H : Hp} {Q : VK} {σ : L2.St}
theorem g_isXC {a C C' : Addr} {f : Str} {v : V} {b : Bool} (xa : XAt H a (.ref C) f v) (xi : XIs K C) (k : PySem.W.kitOne K (.ref C) (.ref C') = some b) (q : Q (.bl b) H) : rIsX K [.ref a, .ref C'] H Q :=
  ⟨a, C, f, v, .ref C', .ref C', b, rfl, xa, xi, fun u r => r, k, q⟩
theorem g_isXT {a C : Addr} {T : String} {f : Str} {v : V} {b : Bool} (xa : XAt H a (.ref C) f v) (xi : XIs K C) (k : PySem.W.kitOne K (.ref C) (.type T) = some b) (q : Q (.bl b) H) : rIsX K [.ref a, .ty T] H Q :=
  ⟨a, C, f, v, .ty T, .type T, b, rfl, xa, xi, fun u r => r, k, q⟩
theorem g_xv {fld : Str} {te : TE} (q : te σ H fun x H1 => ∃ a cls v, x = .ref a ∧ XAt H1 a cls fld v ∧ XFld K cls fld ∧ Q v H1) : tXv K fld te σ H Q := q
theorem g_callX {n m : Nat} {sp : Sp} {g : List V → List V → List V} {W : WX} {t tk : TA} (q : t σ H fun xs H1 => tk σ H1 fun zs H2 => xs.length = n ∧ zs.length = m ∧ sp (g xs zs) H2 Q (fun cls d H' => W cls d σ H')) : tCallX n m sp g W t tk σ H Q := q
theorem g_raiseX {nm fld : Str} {W : WX} {ta : TA} {D : Ends} (q : ta σ H fun vs H1 => ∃ v, vs = [v] ∧ ∀ cls d, XN K nm cls → H1 d = none → W cls d σ (upd H1 d (.xd [(fld, v)]))) : tRaiseX K nm fld W ta D σ H := q
end
theorem As.sign {n i c : Nat} {z : Str} (h : As n z) (hc : (cs z)[i]? = some c) : As 1 (⟨#[c]⟩ : Str) :=
  As.of (Nat.le_refl _) (fun x hx => by
    have e : x = c := by simpa [cs] using hx
    rw [e]
    exact h.2 c (List.mem_of_getElem? hc))
theorem g_exc1 {v : V} {P : V → Prop} (q : P v) : ∃ y, [v] = [y] ∧ P y := ⟨v, rfl, q⟩
/-! ### further readings -/
section
variable {K : PySem.W.Frag} {H : Hp} {Q : VK} {σ : L2.St} {D : Ends} {te : TE} {ta : TA} {ti : TIp} {tb : TS}
theorem g_aug {i : Nat} {x : V} (hv : σ[i]? = some (some x)) (q : te σ H fun y H1 => ti x y H1 fun z H2 => D.nx (σ.set i (some z)) H2) : tAug i te ti D σ H := ⟨x, hv, q⟩
theorem g_iaddT {a b : Str} (h : a.length + b.length ≤ sizeLine) (q : Q (.str (a ++ b)) H) : ipAddA (.str a) (.str b) H Q := .inr ⟨a, b, rfl, rfl, h, q⟩
theorem g_iaddI {a b : Int} (q : Q (.int (a + b)) H) : ipAddA (.int a) (.int b) H Q := .inl ⟨a, b, rfl, rfl, q⟩
theorem g_then {k : V → Hp → VK → Prop} (q : te σ H fun x H' => k x H' Q) : tThen te k σ H Q := q
theorem g_tupL {a : Addr} {xs : List V} (h : SqL K H a xs) (q : ∀ p, H p = none → Q (.ref p) (upd H p (.tup xs))) : kTup K (.ref a) H Q := .inl ⟨a, xs, rfl, h, q⟩
theorem g_tupT {a : Addr} {xs : List V} (h : SqT K H a xs) (q : Q (.ref a) H) : kTup K (.ref a) H Q := .inr ⟨a, xs, rfl, h, q⟩
theorem g_revL (q : te σ H fun x H1 => ∃ a xs, x = .ref a ∧ SqL K H1 a xs ∧ ∀ p, H1 p = none → Q (.ref p) (upd H1 p (.lst xs.reverse))) : tRevL K te σ H Q := q
def rCntS (x : V) (xs : List V) (H : Hp) (Q : VK) : Prop := ∃ a b, x = .str a ∧ xs = [.str b] ∧ Q (.int (Txt.count a b)) H
theorem mt_countS {X : Cx} : MtR X "str.count" rCntS := mt_count
theorem g_cntS {n : Nat} {z : Str} {t : TA} (hv : σ[n]? = some (some (.str z))) (q : t σ H fun ys H1 => rCntS (.str z) ys H1 Q) : tBM K "str" rCntS (tVar n) t σ H Q := ⟨_, hv, rfl, q⟩
theorem g_cnt1 {a b : Str} (q : Q (.int (Txt.count a b)) H) : rCntS (.str a) [.str b] H Q := ⟨a, b, rfl, rfl, q⟩
/-- for j in range(lo, .., -1), n turns -/
theorem for_dn {lo : Int} {n j : Nat} (Pv : Nat → L2.St → Hp → Prop) (h0 : Pv 0 σ H) (hs : ∀ i σ' H', i < n → Pv i σ' H' → tb { D with nx := Pv (i + 1), ct := Pv (i + 1), bk := D.nx } (σ'.set j (some (.int (lo - (i : Nat))))) H') (hd : ∀ σ' H', Pv n σ' H' → D.nx σ' H') :
    ∃ W : Nat → Nat → L2.St → Hp → Prop, (∃ m, W 0 m σ H) ∧ ∀ i m σ H, W i m σ H →
      ((Itc lo (-1) n).stop i H ∧ D.nx σ H) ∨ ((Itc lo (-1) n).go i H ∧ ∃ N : L2.St → Hp → Prop, (∀ σ' H', N σ' H' → ∃ m', m' < m ∧ W (i + 1) m' σ' H') ∧ ∀ x H', (Itc lo (-1) n).yld i H x H' → gName j x σ H' fun σ2 H2 => tb { D with nx := N, ct := N, bk := D.nx } σ2 H2) := by
  refine for_it walk_rangeC Pv h0 (fun _ _ _ _ _ => True.intro) ?_ hd
  rintro i x σ' H1 H' hi p ⟨rfl, rfl⟩
  have e : lo + (i : Nat) * (-1) = lo - (i : Nat) := by omega
  show gName j (.int (lo + (i : Nat) * (-1))) σ' _ _
  rw [e]
  exact hs i σ' _ hi p
theorem g_for3 {g : TG} (q : ta σ H fun vs H1 => ∃ (i j c : Int) (n : Nat), vs = [.int i, .int j, .int c] ∧ RgC i j c n ∧ ∃ W : Nat → Nat → L2.St → Hp → Prop, (∃ m, W 0 m σ H1) ∧ ∀ k m σ H, W k m σ H →
    ((Itc i c n).stop k H ∧ D.nx σ H) ∨ ((Itc i c n).go k H ∧ ∃ N : L2.St → Hp → Prop, (∀ σ' H', N σ' H' → ∃ m', m' < m ∧ W (k + 1) m' σ' H') ∧ ∀ x H', (Itc i c n).yld k H x H' → g x σ H' fun σ2 H2 => tb { D with nx := N, ct := N, bk := D.nx } σ2 H2)) : tFor (iRng3 ta) g tb D σ H := q
end
section
variable {K : PySem.W.Frag} {H : Hp} {Q : VK} {a : Addr}
theorem g_isRN (q : Q (.bl false) H) : rIsA (.ref a) .non H Q := ⟨rfl, by
  have e : decide (V.ref a = V.non) = false := decide_eq_false (fun z => nomatch z)
  rw [e]
  exact q⟩
theorem g_isNN (q : Q (.bl true) H) : rIsA .non .non H Q := ⟨rfl, q⟩
end
theorem XN.inj {K : PySem.W.Frag} {nm : Str} {c c2 : Value} (h : XN K nm c) (k : XN K nm c2) : c = c2 := by
  have e := h.symm.trans k
  simp only [Option.some.injEq] at e
  exact e
theorem XCls.is {P : Program} {K : PySem.W.Frag} {mg : Str → Option Value} {nm fld : Str} {C : Addr} (T : XCls P K mg nm fld) (h : XN K nm (.ref C)) : XIs K C := by
  obtain ⟨C', fI, xn, gC, TX, kC, xi, tyC, noN⟩ := T.ex
  cases XN.inj xn h
  exact xi
theorem XAt.new {H : Hp} {a d : Addr} {cls : Value} {fld : Str} {v : V} (na : upd H d (.xd [(fld, v)]) a = none) : XAt (upd (upd H d (.xd [(fld, v)])) a (ExV cls (some d) a)) a cls fld v :=
  ⟨d, upd_same, upd_off (fun e => by rw [e, upd_same] at na; cases na) upd_same⟩
/-! ### comprehensions whose element is a new object -/
inductive Fa2 {α β : Type} (P : α → β → Prop) : List α → List β → Prop
  | nil : Fa2 P [] []
  | cons {a : α} {b : β} {as : List α} {bs : List β} : P a b → Fa2 P as bs → Fa2 P (a :: as) (b :: bs)
section
variable {α β : Type} {P P' : α → β → Prop}
theorem Fa2.mono (h : ∀ a b, P a b → P' a b) : ∀ {as : List α} {bs : List β}, Fa2 P as bs → Fa2 P' as bs
  | _, _, .nil => .nil
  | _, _, .cons p r => .cons (h _ _ p) (Fa2.mono h r)
theorem Fa2.snoc {a : α} {b : β} (p : P a b) : ∀ {as : List α} {bs : List β}, Fa2 P as bs → Fa2 P (as ++ [a]) (bs ++ [b])
  | _, _, .nil => .cons p .nil
  | _, _, .cons q r => .cons q (Fa2.snoc p r)
theorem Fa2.len : ∀ {as : List α} {bs : List β}, Fa2 P as bs → as.length = bs.length
  | _, _, .nil => rfl
  | _, _, .cons _ r => congrArg (· + 1) (Fa2.len r)
end
section
variable {K : PySem.W.Frag} {H : Hp} {Q : VK} {σ : L2.St} {te t0 : TE} {vs : List Nat} {j : Nat} {tt : TT} {g : TG}
theorem lc_relL {a : Addr} {xs : List V} {Qd : Addr → Hp → Prop} (PV : Addr → V → V → Hp → Prop) (h : SqL K H a xs) (hn : xs.length ≤ 1000000) (hw : ∀ v, wipe ((wipe σ vs).set j (some v)) vs = wipe σ vs)
    (hst : ∀ D x y H1 H2, PV D x y H1 → (∀ b o, b ≠ D → H1 b = some o → H2 b = some o) → PV D x y H2)
    (he : ∀ x, x ∈ xs → ∀ D H1, H D = none → Same H H1 → (∃ acc, H1 D = some (.lst acc)) → ∀ Q : VK, (∀ y H2, Same H1 H2 → PV D x y H2 → Q y H2) → te ((wipe σ vs).set j (some x)) H1 Q)
    (q : ∀ D H' ys, H D = none → Same H H' → H' D = some (.lst ys) → Fa2 (fun x y => PV D x y H') xs ys → Qd D H') :
    (∃ xs, SqL K H a xs) ∧ ∀ D, H D = none → ∃ W : Nat → Nat → Hp → Prop, (∃ m, W 0 m (upd H D (.lst []))) ∧ ∀ i m H, W i m H → ((Itl K a).stop i H ∧ Qd D H) ∨ ((Itl K a).go i H ∧ ∃ Nx : Hp → Prop, (∀ H', Nx H' → ∃ m', m' < m ∧ W (i + 1) m' H') ∧
      ∀ x H', (Itl K a).yld i H x H' → gName j x (wipe σ vs) H' fun σ2 H2 => wipe σ2 vs = wipe σ vs ∧ tYes σ2 H2 fun b H3 => if b = true then te σ2 H3 fun y H4 => ∃ acc, H4 D = some (.lst acc) ∧ acc.length < sizeLine ∧ Nx (upd H4 D (.lst (acc ++ [y]))) else Nx H3) := by
  refine ⟨⟨xs, h⟩, fun D hD => ?_⟩
  refine lc_it walk_list (fun i H' => Same H H' ∧ ∃ ys, H' D = some (.lst ys) ∧ Fa2 (fun x y => PV D x y H') (xs.take i) ys) ⟨Same.upd hD (Same.refl H), [], upd_same, .nil⟩ (fun i H' _ k => k.1.seq h) ?_ ?_
  · rintro i x H0 H' hi ⟨s, ys, hd, rl⟩ ⟨rfl, hx⟩
    have mem : x ∈ xs := List.mem_of_getElem? hx
    have tk : xs.take (i + 1) = xs.take i ++ [x] := by rw [List.take_succ, hx]; rfl
    refine ⟨hw _, ?_⟩
    dsimp only [tYes]
    rw [if_pos rfl]
    refine he x mem D _ hD s ⟨ys, hd⟩ _ fun y H2 s2 pv => ⟨ys, s2 D _ hd, ?_, Same.put hD (Same.trans s s2), _, upd_same, ?_⟩
    · have l := rl.len
      rw [List.length_take] at l
      exact Nat.lt_of_le_of_lt (Nat.le_trans (by omega) hn) (by decide)
    · rw [tk]
      have up : ∀ b o, b ≠ D → H2 b = some o → upd H2 D (.lst (ys ++ [y])) b = some o := fun b o hb e => by rw [upd_ne hb]; exact e
      exact Fa2.snoc (P := fun x' y' => PV D x' y' (upd H2 D (.lst (ys ++ [y])))) (hst D x y H2 _ pv up) (rl.mono fun x' y' p => hst D x' y' _ _ (hst D x' y' _ _ p fun b o _ e => s2 b o e) up)
  · rintro H' ⟨s, ys, hd, rl⟩
    rw [List.take_length] at rl
    exact q D H' ys hD s hd rl
theorem g_lcLE (q : t0 σ H fun v H1 => ∃ a, v = V.ref a ∧ (∃ xs, SqL K H1 a xs) ∧ ∀ D, H1 D = none → ∃ W : Nat → Nat → Hp → Prop, (∃ m, W 0 m (upd H1 D (.lst []))) ∧ ∀ i m H, W i m H →
      ((Itl K a).stop i H ∧ Q (.ref D) H) ∨ ((Itl K a).go i H ∧ ∃ Nx : Hp → Prop, (∀ H', Nx H' → ∃ m', m' < m ∧ W (i + 1) m' H') ∧ ∀ x H', (Itl K a).yld i H x H' → g x (wipe σ vs) H' fun σ2 H2 => wipe σ2 vs = wipe σ vs ∧ tt σ2 H2 fun b H3 =>
        if b = true then te σ2 H3 fun y H4 => ∃ acc, H4 D = some (.lst acc) ∧ acc.length < sizeLine ∧ Nx (upd H4 D (.lst (acc ++ [y]))) else Nx H3)) : tLc (iList K t0) g tt te vs σ H Q := q
end
/-! ### what the program's top has left of the error classes -/
section
variable {P : Program} {K : PySem.W.Frag} {h : Heap} {mg : Str → Option Value}
theorem mkX {nm fld : Str} {C fI : Addr} {B newId initId : String} {bmB : List Value} {oc : Value} {od : Option Addr} {doc pm : Value} {an : Option Addr} {cda : Addr} {ct : Value} {osl : Array (Option Value)} {qual txt : Str} {cc : Addr} {p1 p2 r0 r1 r2 r3 r4 r5 r6 r7 r8 r9 : Pos}
    {ccl cl : Value} {cdd cld : Option Addr} {vs : Array Value} {ccs csl : Array (Option Value)} {file : Str} {tf : Tok} (xb : XBase B newId initId bmB) (X : K.In h) (G : h.Ns mainGlobals mg) (a1 : PySem.W.nsIn K mainGlobals nm = some (some (.ref C)))
    (a2 : PySem.W.findIn K (.ref C) "__init__" = some (some (.ref fI)))
    (a3 : K.lookup fI = some ⟨oc, od, .func (PySem.W.ksFn "__init__" qual (xArgs fld p1 p2) (xBody fld txt r0 r1 r2 r3 r4 r5 r6 r7 r8 r9) (xScope fld) .none .none doc pm an (.ref cda) ct cc), osl⟩)
    (a4 : K.lookup cda = some ⟨ccl, cdd, .fields vs, ccs⟩) (a5 : K.lookup cc = some ⟨cl, cld, .cell (some (.ref C)), csl⟩) (a6 : vs[2]? = some (.str file tf)) (b1 : PySem.W.excInitIn K C bmB newId = true) (b2 : PySem.W.excOver K C bmB = true)
    (b3 : PySem.W.ks_superIn K C C "__init__" = some (some (.builtin initId))) (b4 : PySem.W.subIn K (.ref C) (.type B) = some true) (b5 : PySem.W.findIn K (.ref C) "__setattr__" = some (some (.builtin "object.__setattr__"))) (b6 : PySem.W.takerIn K C fld = some none)
    (b7 : PySem.W.hasDictIn K C = true) (b8 : PySem.W.typeIn K (.ref fI) = some (.type "function")) (b9 : PySem.W.mroIn K C (.ref C) = some true) (c1 : PySem.W.nsIn K mainGlobals "super" = some none) (c2 : PySem.W.nsIn K cStatics "thirdparty.any" = some none)
    (c3 : (P.main.scope.names.lookup ("super" : Str)).isSome = false) (c4 : (fld == ("__debug__" : Str)) = false ∧ fld ≠ "self" ∧ (xScope fld).names.lookup fld = some .local ∧ (xScope fld).names.lookup ("__class__" : Str) = some .free ∧ (xScope fld).names.lookup ("super" : Str) = some .globalImplicit)
    (c5 : PySem.W.codeIn K (.ref cda) qual = true) (c6 : ((P.main.file : Str) == file) = true) (c7 : txt.length ≤ 1000) (c8 : XCall txt r0 r1 r2 r3 r4)
    (c9 : ∀ a b, bindArgs (PySem.W.ksFn "__init__" qual (xArgs fld p1 p2) (xBody fld txt r0 r1 r2 r3 r4 r5 r6 r7 r8 r9) (xScope fld) .none .none doc pm an (.ref cda) ct cc) ⟨[a, b], []⟩ = pure [(("self" : Str), a), (fld, b)])
    (c10 : ∀ a b, bindArgs (PySem.W.ksFn "__init__" qual (xArgs fld p1 p2) (xBody fld txt r0 r1 r2 r3 r4 r5 r6 r7 r8 r9) (xScope fld) .none .none doc pm an (.ref cda) ct cc) ⟨[a], [(fld, b)]⟩ = pure [(("self" : Str), a), (fld, b)])
    (d1 : PySem.W.keepIn K (.ref C) = true) (d2 : PySem.W.typeIn K (.ref C) = some (.type "type")) (d3 : PySem.W.findIn K (.ref C) fld = some none) (e1 : PySem.W.findIn K (.ref C) "__getattribute__" = some (some (.builtin "BaseException.__getattribute__")))
    (e2 : PySem.W.findIn K (.ref C) "__getattr__" = some none) (e3 : PySem.W.subIn K (.ref C) (.type "BaseException") = some true) (e4 : (PySem.W.clsIn K C).isSome = true) (e5 : PySem.W.findIn K (.ref C) "__class__" = some (some (.builtin "object.__class__")))
    (e6 : PySem.W.specialIn K (.builtin "object.__class__") "__get__" = some (some (.builtin "getset_descriptor.__get__"))) (e7 : PySem.W.takesIn K (.builtin "object.__class__") = some true) (e8 : PySem.W.mroIn K C (.type "object") = some true) : XCls P K mg nm fld :=
  ⟨C, fI, a1, PySem.W.mg_of X G a1, ⟨⟨B, newId, initId, bmB, xb, b1, b2, b3, b4⟩, b5, b6, b7, a2, b8, b9, c1, c2, c3, c4, ⟨oc, od, doc, pm, an, cda, ct, osl, qual, txt, cc, p1, p2, r0, r1, r2, r3, r4, r5, r6, r7, r8, r9, ccl, cl, cdd, cld, vs, ccs, csl, file, tf, a3, c5, a4, a6, c6, a5, c7, c8, c9, c10⟩⟩,
    d1, ⟨e1, e2, e3, e4, e5, e6, e7, e8⟩, d2, d3⟩
theorem mkN {nm : Str} {C : Addr} (X : K.In h) (G : h.Ns mainGlobals mg) (a1 : PySem.W.nsIn K mainGlobals nm = some (some (.ref C))) : ∃ C, XN K nm (.ref C) ∧ mg nm = some (.ref C) := ⟨C, a1, PySem.W.mg_of X G a1⟩
theorem mkE {nm n1 n2 n3 : Str} {c : Value} {C1 C2 C3 : Addr} (a0 : PySem.W.nsIn K mainGlobals nm = some (some c)) (a1 : PySem.W.nsIn K mainGlobals n1 = some (some (.ref C1))) (a2 : PySem.W.nsIn K mainGlobals n2 = some (some (.ref C2)))
    (a3 : PySem.W.nsIn K mainGlobals n3 = some (some (.ref C3))) (e : PySem.W.exmAny K c [.ref C1, .ref C2, .ref C3] = some true) : ∀ cls C1 C2 C3, XN K nm cls → XN K n1 (.ref C1) → XN K n2 (.ref C2) → XN K n3 (.ref C3) → PySem.W.exmAny K cls [.ref C1, .ref C2, .ref C3] = some true := by
  intro cls D1 D2 D3 h0 h1 h2 h3
  cases XN.inj a0 h0
  cases XN.inj a1 h1
  cases XN.inj a2 h2
  cases XN.inj a3 h3
  exact e
theorem mkI {nm n1 : Str} {C C1 : Addr} {b : Bool} (a0 : PySem.W.nsIn K mainGlobals nm = some (some (.ref C))) (a1 : PySem.W.nsIn K mainGlobals n1 = some (some (.ref C1))) (e : PySem.W.kitOne K (.ref C) (.ref C1) = some b) :
    ∀ C C2, XN K nm (.ref C) → XN K n1 (.ref C2) → PySem.W.kitOne K (.ref C) (.ref C2) = some b := by
  intro D D1 h0 h1
  cases XN.inj a0 h0
  cases XN.inj a1 h1
  exact e
theorem mkIT {nm : Str} {C : Addr} {T : String} {b : Bool} (a0 : PySem.W.nsIn K mainGlobals nm = some (some (.ref C))) (e : PySem.W.kitOne K (.ref C) (.type T) = some b) : ∀ C, XN K nm (.ref C) → PySem.W.kitOne K (.ref C) (.type T) = some b := by
  intro D h0
  cases XN.inj a0 h0
  exact e
end
end Hf

set_option Elab.async false
set_option linter.all false
set_option maxRecDepth 100000
set_option maxHeartbeats 4000000
namespace Hf
open PySem L2 PySem.Spec PyProof.Rows
open PySem.HandSPX (excO)
/-! ### X(fld=e): an own exception made by name, and as a value -/
section
variable {prog : Program} {w : World} {M : Model} {A : Around} {E : Value → Shared → Prop} {R : Result → Shared → Prop} {h : Heap} {g : Array GenState} {d : Drawn} {t : Nat} {os : OsState}
variable {nm q : Str} {C N : Addr} {bs bm bmB : List Value} {hdct : Bool} {sn : List Str} {sub : List Value} {ab : Bool} {col : Option Bool} {dd : Option Addr} {k0 k1 k2 k3 k5 : Option Value} {B newId initId : String} {kw : List (Str × Value)}
theorem kw_check_type {Q : Unit → Shared → Prop} (gC : h.get? C = some (excClassObj nm q C N bs bm hdct sn sub ab col dd k0 k1 k2 k3 k5 newId)) (fin : Q () ⟨h, g, d, t, os⟩) : wpAny M A (checkBuiltinCall "type.__call__" ⟨[.ref C], kw⟩) Q E ⟨h, g, d, t, os⟩ := by
  have f3 := tc_sub
  have hT : (⟨h, g, d, t, os⟩ : Shared).TypeIs (.ref C) "type" := ⟨_, gC, rfl⟩
  simp only [checkBuiltinCall, tc_kind, tc_split]
  repeat (any_goals (first | assumption | (with_reducible refine wpAny_loadPart_at gC ?_) | (with_reducible refine wpAny_onRaise ?_) | (with_reducible refine wpAny_map ?_) | wp_step))
theorem kw_check_new (F : ExcBaseFacts B newId initId bmB) (hT : ∀ X : String, bm.contains (.type X) = bmB.contains (.type X)) {Q : Unit → Shared → Prop}
    (gC : h.get? C = some (excClassObj nm q C N bs bm hdct sn sub ab col dd k0 k1 k2 k3 k5 newId)) (fin : Q () ⟨h, g, d, t, os⟩) : wpAny M A (checkBuiltinCall newId ⟨[.ref C], kw⟩) Q E ⟨h, g, d, t, os⟩ := by
  have isB : (Value.ref C :: bm).contains (.type B) = true := by rw [List.contains_cons, hT, F.hasB, Bool.or_true]
  have star := F.noStar
  simp only [checkBuiltinCall, F.newKind, F.newSplit, F.newRow]
  repeat (first | (refine wpAny_loadPart_at gC ?_) | (refine wpAny_isSubtype_exc gC ?_; rw [isB]) | (refine wpAny_staticBase_exc gC ?_) | (refine wpAny_madeBy_exc gC ?_) | simp only [bne_self_eq_false, Bool.false_eq_true, if_false] | wp_step)
  exact fin
theorem kw_new (F : ExcBaseFacts B newId initId bmB) (hT : ∀ X : String, bm.contains (.type X) = bmB.contains (.type X)) (gC : h.get? C = some (excClassObj nm q C N bs bm hdct sn sub ab col dd k0 k1 k2 k3 k5 newId))
    (fin : R (.ok (.ret (.ref (h.objs.size + 1)))) ⟨(h.push (PySem.W.kdv_tup [])).push (excO C h.objs.size), g, d, t, os⟩) : codeAny (model prog w) A (.builtin newId ⟨[.ref C], kw⟩) R ⟨h, g, d, t, os⟩ := by
  have ends := F.ends
  have c1 : (Value.ref C :: bm).contains (.type B) = true := by rw [List.contains_cons, hT, F.hasB, Bool.or_true]
  have c2 : (Value.ref C :: bm).contains (.type "AttributeError") = false := by rw [List.contains_cons, hT, F.noAttr]; rfl
  have c3 : (Value.ref C :: bm).contains (.type "NameError") = false := by rw [List.contains_cons, hT, F.noName]; rfl
  refine codeAny_builtinAt F.entry ?_
  unfold Builtin.«BaseException.__new__»
  refine _root_.PySem.wpAt_bind ?_
  show _root_.PySem.wpAt _ _ _ (stack >>= _) _ _ _
  refine _root_.PySem.wpAt_bind (_root_.PySem.wpAt_stack fun p below => _root_.PySem.wpAt_of_wpAny ?_)
  wp_walk
  refine _root_.PySem.wpAt_of_wpAny ?_
  rw [F.owner]
  repeat (first | (with_reducible refine wpAny_madeHere_exc F.canon gC ?_) | (with_reducible refine wpAny_loadPart_at gC ?_) | (with_reducible refine wpAny_isSubtype_exc gC ?_; first | rw [c1] | rw [c2] | rw [c3]) | wp_step)
  show R _ _
  rw [Heap.size_push]
  exact fin
theorem kw_type_call (F : ExcBaseFacts B newId initId bmB) (hT : ∀ X : String, bm.contains (.type X) = bmB.contains (.type X)) {fI : Addr} {Q : Fin → Shared → Prop} (gC : h.get? C = some (excClassObj nm q C N bs bm hdct sn sub ab col dd k0 k1 k2 k3 k5 newId))
    (li : PySem.W.Looks (model prog w) h (typeLookup (.ref C) "__init__") (some (.ref fI))) (lb : ∀ self, PySem.W.Looks (model prog w) h (bindSpecial (.ref fI) self) (.ref fI, [self]))
    (fin : codeAny (model prog w) A (.call (.ref fI) ⟨[.ref (h.objs.size + 1)], kw⟩)
      (fun r s' => match r with | .ok (.ret v) => v = .none ∧ Q (.done (.ret (.ref (h.objs.size + 1)))) s' | .ok _ => False | .error e => E e s') ⟨(h.push (PySem.W.kdv_tup [])).push (excO C h.objs.size), g, d, t, os⟩) :
    wpAny (model prog w) A (Builtin.«type.__call__» ⟨[.ref C], kw⟩) Q E ⟨h, g, d, t, os⟩ := by
  repeat (first | (with_reducible refine wpAny_loadPart_at gC ?_) | (with_reducible refine wpAny_madeBy_exc gC ?_) | wp_step)
  refine codeAny_call_builtin_code (Code.quiet_builtin _ F.quiet) (kw_check_new F hT gC ?_)
  refine kw_new F hT gC ?_
  show wpAny _ _ _ _ _ _
  have up : ∀ b o, h.get? b = some o → ((h.push (PySem.W.kdv_tup [])).push (excO C h.objs.size)).get? b = some o := fun b o e => Heap.get?_push_of_some _ (Heap.get?_push_of_some _ e)
  have gC2 := up _ _ gC
  have gx : ((h.push (PySem.W.kdv_tup [])).push (excO C h.objs.size)).get? (h.objs.size + 1) = some (excO C h.objs.size) := by heap_get
  have inC : (Value.ref C :: bm).contains (.ref C) = true := by simp
  have li2 := li.keeps up
  have lb2 := (lb (.ref (h.objs.size + 1))).keeps up
  unfold isInstance
  repeat (first | (with_reducible refine wpAny_loadPart_at gx ?_) | (with_reducible refine wpAny_isSubtype_exc gC2 ?_; rw [inC]) | wp_step)
  show wpAny _ _ (typeLookup (.ref C) _) _ _ _
  refine li2.at (wpAny_holding (wpAny_bind (lb2.at (wpAny_bind (wpAny_call (codeAny_mono fin fun r s' z => ?_))))))
  rcases r with e | (v | _ | _ | _) <;> first | exact z | exact z.elim | skip
  obtain ⟨rfl, z⟩ := z
  first
    | exact wpAny_pure (wpAny_pure z)
    | (wp_walk; exact z)
theorem kw_call_own (F : ExcBaseFacts B newId initId bmB) (hT : ∀ X : String, bm.contains (.type X) = bmB.contains (.type X)) {fI : Addr} (gC : h.get? C = some (excClassObj nm q C N bs bm hdct sn sub ab col dd k0 k1 k2 k3 k5 newId))
    (li : PySem.W.Looks (model prog w) h (typeLookup (.ref C) "__init__") (some (.ref fI))) (lb : ∀ self, PySem.W.Looks (model prog w) h (bindSpecial (.ref fI) self) (.ref fI, [self]))
    (fin : codeAny (model prog w) (A.under (.builtin "type.__call__" ⟨[.ref C], kw⟩)) (.call (.ref fI) ⟨[.ref (h.objs.size + 1)], kw⟩) (PySem.W.InitBack (h.objs.size + 1) R) ⟨(h.push (PySem.W.kdv_tup [])).push (excO C h.objs.size), g, d, t, os⟩) :
    codeAny (model prog w) A (.call (.ref C) ⟨[], kw⟩) R ⟨h, g, d, t, os⟩ := by
  have f1 := tc_lookup
  have f2 := tc_bind (.ref C)
  have hTy : (⟨h, g, d, t, os⟩ : Shared).TypeIs (.ref C) "type" := ⟨_, gC, rfl⟩
  refine codeAny_of_tree ?_
  show wpAny _ _ (callAny (.ref C) _) _ _ _
  repeat (any_goals (first | assumption | (with_reducible refine wpAny_loadPart_at gC ?_) | wp_step))
  refine ⟨rfl, codeAny_call_builtin_at (Code.quiet_builtin _ (by decide +kernel)) entry_typeCall (kw_check_type gC (kw_type_call F hT gC li lb (codeAny_mono fin fun r s' z => ?_)))⟩
  rcases r with e | (v | _ | _ | _) <;> exact z
end
section
variable {prog : Program} {w : World} {A : Around} {R : Result → Shared → Prop} {K : PySem.W.Frag} {C : Addr} {hp : Heap} {g : Array GenState} {d : Drawn} {t : Nat} {os : OsState}
/-- X(v) and X(fld=v) -/
theorem x_madeA {fld : Str} {fI : Addr} {v : Value} {mg mb : Str → Option Value} {args : Args} (T : XTxt prog K fld C fI) (X : K.In hp) (lim : hp.NoLimit) (G : hp.Ns mainGlobals mg) (Bn : hp.Ns builtinsNs mb) (hb : mb "super" = bootBuiltins "super")
    (room : A.depth + 1 < recursionLimit) (ar : args = ⟨[v], []⟩ ∨ args = ⟨[], [(fld, v)]⟩) (fin : ∀ h2 tk2 e dx, XMade hp h2 e C dx fld v → R (.ok (.ret (.ref e))) ⟨h2, g, d, tk2, os⟩) :
    codeAny (model prog w) A (.call (.ref C) args) R ⟨hp, g, d, t, os⟩ := by
  rcases ar with e | e
  · rw [e]
    exact x_made T X lim G Bn hb room fin
  rw [e]
  obtain ⟨B, newId, initId, bm, XB, q, ov, ksu, sB⟩ := T.cls
  obtain ⟨nm, N', qn, bs, bm', hdct, sn, sub, ab, col, dd, k0, k1, k2, k3, k5, gC, hT⟩ := PySem.W.excInit_of X q
  have up : ∀ b o, hp.get? b = some o → ((hp.push (PySem.W.kdv_tup [])).push (excO C hp.objs.size)).get? b = some o := fun b o z => Heap.get?_push_of_some _ (Heap.get?_push_of_some _ z)
  have gx : ((hp.push (PySem.W.kdv_tup [])).push (excO C hp.objs.size)).get? (hp.objs.size + 1) = some (excO C hp.objs.size) := by heap_get
  have nx : K.lookup (hp.objs.size + 1) = none := by
    cases z : K.lookup (hp.objs.size + 1) with
    | none => rfl
    | some o => exact absurd (Nat.lt_of_succ_lt (Heap.lt_size (X _ _ z))) (Nat.lt_irrefl _)
  refine kw_call_own XB.fb hT gC (PySem.W.looks_findIn X T.iC) (fun self => PySem.W.bind_fn X self T.tI) ?_
  refine x_init T (X.keeps up) (lim.keeps up) (G.keeps up) (Bn.keeps up) hb gx nx (by show A.depth + 1 < recursionLimit; exact room) (.inr rfl) fun h2 tk2 dx t2 Z => ?_
  have sz : ((hp.push (PySem.W.kdv_tup [])).push (excO C hp.objs.size)).objs.size = hp.objs.size + 1 + 1 := by
    rw [Heap.size_push, Heap.size_push]
  have big := Z.dbig
  rw [sz] at big
  refine ⟨rfl, fin h2 tk2 (hp.objs.size + 1) dx ⟨fun b o z => ?_, Nat.le_succ _, ⟨_, _, Z.obj, rfl, rfl, rfl, rfl⟩, by omega, Z.dne, Z.ns⟩⟩
  exact Z.keep b o (Nat.ne_of_lt (Nat.lt_succ_of_lt (Heap.lt_size z))) (up b o z)
end
theorem made_inv {X : Cx} {pins : List (Addr × Obj)} {σ : L2.St} {H : Hp} {hp h2 : Heap} {g : Array GenState} {dr : Drawn} {tk tk2 : Nat} {os : OsState} {e C d : Addr} {fld : Str} {v : V} {v' : Value} (I : Inv X pins σ H ⟨hp, g, dr, tk, os⟩) (M : XMade hp h2 e C d fld v') (rv : RelV v v') :
    ∃ H2, Same H H2 ∧ XAt H2 e (.ref C) fld v ∧ Inv X pins σ H2 ⟨h2, g, dr, tk2, os⟩ := by
  obtain ⟨oe, fv, hoe, hc, hd, hdat, h1⟩ := M.obj
  have hns := M.ns
  obtain ⟨G, g1, g2⟩ := restrict h2 fun b => decide (b ≠ e)
  have gk : ∀ b, b ≠ e → G.get? b = h2.get? b := fun b hb => g1 b (decide_eq_true hb)
  have ge : G.get? e = none := g2 e (by simp)
  have old : ∀ b o, hp.get? b = some o → G.get? b = some o := fun b o z => (gk b (Nat.ne_of_lt (Nat.lt_of_lt_of_le (Heap.lt_size z) M.new))).trans (M.keep b o z)
  have ob : ObjOk X.prog X.w (upd H d (.xd [((fld : Str), v)])) G d (.xd [((fld : Str), v)]) := ⟨_, hns.at (fun o z => (gk d M.dne).trans z), fun f => relO_x rv f⟩
  have J : Inv X pins σ (upd H d (.xd [((fld : Str), v)])) ⟨G, g, dr, tk, os⟩ := I.laid (t' := tk) old M.dbig ob
  have nd : H d = none := I.hok.fresh M.dbig
  have ne0 : upd H d (.xd [((fld : Str), v)]) e = none := by
    rw [upd_ne (Ne.symm M.dne)]
    exact I.hok.fresh M.new
  have back : ∀ b o, G.get? b = some o → h2.get? b = some o := fun b o z => by
    by_cases hb : b = e
    · rw [hb, ge] at z
      cases z
    · exact (gk b hb).symm.trans z
  refine ⟨_, ?_, XAt.new ne0, J.laidN (t' := tk2) back ge ne0 (exV_ok hoe ⟨hc, hd⟩ hdat)⟩
  exact Same.trans (Same.upd nd (Same.refl H)) (Same.upd ne0 (Same.refl _))
/-- y is an error of the class nm, its field fld being w -/
def XE (K : PySem.W.Frag) (H : Hp) (w : V) (nm fld : Str) (y : V) : Prop := ∃ a C, y = .ref a ∧ XN K nm (.ref C) ∧ XIs K C ∧ XFld K (.ref C) fld ∧ XAt H a (.ref C) fld w
theorem XE.same {K : PySem.W.Frag} {H H' : Hp} {w : V} {nm fld : Str} {y : V} (s : Same H H') (h : XE K H w nm fld y) : XE K H' w nm fld y := by
  obtain ⟨a, C, e1, e2, e3, e4, e5⟩ := h
  exact ⟨a, C, e1, e2, e3, e4, e5.same s⟩
theorem XE.up {K : PySem.W.Frag} {H H' : Hp} {w : V} {nm fld : Str} {y : V} (h : XE K H w nm fld y) (s : Same H H') : XE K H' w nm fld y := h.same s
theorem g_xe {K : PySem.W.Frag} {H : Hp} {w : V} {nm fld : Str} {y : V} {P : V → Prop} (h : XE K H w nm fld y) (q : P w) : ∃ a cls v, y = .ref a ∧ XAt H a cls fld v ∧ XFld K cls fld ∧ P v := by
  obtain ⟨a, C, e1, e2, e3, e4, e5⟩ := h
  exact ⟨a, _, w, e1, e5, e4, q⟩
/-- an own exception as a value -/
def tMkV (K : PySem.W.Frag) (nm fld : Str) (ta : TA) : TE := fun σ H Q => ta σ H fun vs H1 => ∃ v, vs = [v] ∧ ∀ y H2, Same H1 H2 → XE K H2 v nm fld y → Q y H2
section
variable {X : Cx} {nm fld : Str} {a : Expr} {ta : TA} {p pos : Pos} {k : Nat} {kws : List Keyword}
theorem pe_mkX (T : XCls X.prog X.K X.mg nm fld) (hr : RG k X.A) (hk : 2 ≤ k) (ha : PA X [a] ta) (hg : Gl X nm := by rfl)
    (he : starEach (a :: []) X.env = (false, eval a X.env) :: starEach [] X.env := by rfl) (hpl : (backTo pos (starEach [] X.env)).any (·.1) = false := by rfl) (hdb : (nm == ("__debug__" : Str)) = false := by decide) :
    PE X (.Call (.Name nm p) [a] [] pos) (tMkV X.K nm fld ta) := by
  obtain ⟨C, fI, xn, gC, TX, kC, xi, tyC, noN⟩ := T.ex
  refine ⟨fun pins s σ H Q I h => ?_⟩
  refine wpAny_Call_Name_kw (ld_glob I hg gC ?_ hdb)
  refine PySem.W.callWith_K (h₀ := X.base) I.ok.mod.kin kC (thn (ha.run pos pins s σ H _ I h) fun us s1 hh => ?_) he hpl
  obtain ⟨vs, H1, I1, r1, v, ev, q1⟩ := hh
  subst ev
  refine ⟨I1.kIn, ?_⟩
  cases r1 with
  | cons rv rn =>
    rename_i v' us'
    cases rn
    show wpAny _ _ (call (.ref C) [v']) _ _ _
    have hlim := I1.nolimit
    obtain ⟨mb, hB, hbb⟩ := I1.mod.blt
    have hG := I1.mod.glob.keeps I1.bk
    have hB' := hB.keeps I1.bk
    obtain ⟨hp, g, dr, tk, os⟩ := s1
    refine wpAny_call (x_madeA TX I1.kIn hlim hG hB' (hbb _ (by decide)) (by have := (hr.rm.mono hk).dp; omega) (.inl rfl) fun h2 tk2 e d M => ?_)
    obtain ⟨H2, s2, xa, J⟩ := made_inv (tk2 := tk2) I1 M rv
    exact ⟨.ref e, H2, J, rfl, q1 _ H2 s2 ⟨e, C, rfl, xn, xi, ⟨C, rfl, xi, noN, TX.hd⟩, xa⟩⟩
theorem pe_mkXk (T : XCls X.prog X.K X.mg nm fld) (hr : RG k X.A) (hk : 2 ≤ k) (hkw : PK X kws ta) (hg : Gl X nm := by rfl) (hall : (backToKw pos (keywordEach kws X.env)).all (·.1.isSome) = true := by rfl)
    (hks : (backToKw pos (keywordEach kws X.env)).filterMap (·.1) = [fld] := by rfl) (hdb : (nm == ("__debug__" : Str)) = false := by decide)
    (hpl : ((backTo pos (starEach [] X.env)).any (·.1) || (backToKw pos (keywordEach kws X.env)).any (·.1.isNone)) = false := by rfl) : PE X (.Call (.Name nm p) [] kws pos) (tMkV X.K nm fld ta) := by
  obtain ⟨C, fI, xn, gC, TX, kC, xi, tyC, noN⟩ := T.ex
  refine ⟨fun pins s σ H Q I h => ?_⟩
  refine wpAny_Call_Name_kw (ld_glob I hg gC ?_ hdb)
  refine PySem.W.callWith_KW0 (h₀ := X.base) I.ok.mod.kin kC hall ?_ hpl
  refine thn (hkw.run pos pins s σ H _ I h) ?_
  rintro ws s1 ⟨zs, H1, I1, rz, v, ev, q1⟩
  subst ev
  refine ⟨I1.kIn, ?_⟩
  rw [hks]
  cases rz with
  | cons rv rn =>
    rename_i v' us'
    cases rn
    show wpAny _ _ (call (.ref C) [] [(fld, v')]) _ _ _
    have hlim := I1.nolimit
    obtain ⟨mb, hB, hbb⟩ := I1.mod.blt
    have hG := I1.mod.glob.keeps I1.bk
    have hB' := hB.keeps I1.bk
    obtain ⟨hp, g, dr, tk, os⟩ := s1
    refine wpAny_call (x_madeA TX I1.kIn hlim hG hB' (hbb _ (by decide)) (by have := (hr.rm.mono hk).dp; omega) (.inr rfl) fun h2 tk2 e d M => ?_)
    obtain ⟨H2, s2, xa, J⟩ := made_inv (tk2 := tk2) I1 M rv
    exact ⟨.ref e, H2, J, rfl, q1 _ H2 s2 ⟨e, C, rfl, xn, xi, ⟨C, rfl, xi, noN, TX.hd⟩, xa⟩⟩
end
theorem g_mkV {K : PySem.W.Frag} {H : Hp} {Q : VK} {σ : L2.St} {nm fld : Str} {ta : TA} (q : ta σ H fun vs H1 => ∃ v, vs = [v] ∧ ∀ y H2, Same H1 H2 → XE K H2 v nm fld y → Q y H2) : tMkV K nm fld ta σ H Q := q
/-! ### list.count of truth values -/
def isBl (b : Bool) (v : Value) : Bool := match v with | .bool c => c == b | _ => false
theorem bools_of {us : List Value} : ∀ {bs : List Bool}, Vals (bs.map V.bl) us → us = bs.map Value.bool
  | [], r => by
    cases r
    rfl
  | b :: bs, r => by
    cases r with
    | cons a r =>
      cases a
      rw [bools_of r]
      rfl
theorem cnt_bl (b : Bool) : ∀ bs : List Bool, (bs.map Value.bool).countP (isBl b) = bs.count b
  | [] => rfl
  | c :: bs => by
    rw [List.map_cons, List.countP_cons, List.count_cons, cnt_bl b bs]
    rfl
def rCntB (K : PySem.W.Frag) : V → List V → Hp → VK → Prop := fun x xs H Q => ∃ (p : Addr) (bs : List Bool) (b : Bool), x = .ref p ∧ xs = [.bl b] ∧ SqL K H p (bs.map V.bl) ∧ Q (.int (bs.count b : Nat)) H
theorem mt_lcountB {X : Cx} : MtR X "list.count" (rCntB X.K) := by
  intro pins s σ H x xs v us Q I rx rxs h
  obtain ⟨p, bs, b, rfl, rfl, hs, q⟩ := h
  cases rx
  obtain ⟨u, rfl, ru⟩ := rxs.one
  cases ru
  obtain ⟨its, rv, ⟨⟨cls, dd, data, sl⟩, n, ho, hc, hdn, hd⟩, hlen⟩ := I.list hs
  simp only at hc hd
  subst hc hd
  have e := bools_of rv
  subst e
  refine call_meets PySem.F.slot_list_count ⟨_, ho, rfl⟩ PySem.F.entry_list_count (PySem.F.args_list_count_2 _ _)
    (SeqAt.list_countAt p (bs.map Value.bool).toArray n dd sl (.bool b) (isBl b)) ⟨ho, fun y hy => ?_, ?_⟩
  · have hy' : y ∈ bs.map Value.bool := by simpa using hy
    obtain ⟨c, _, rfl⟩ := List.mem_map.mp hy'
    exact SeqAt.EqAt.bool_bool c b
  · refine ⟨.int (bs.count b : Nat), H, I.tok _, ⟨s.toks, ?_⟩, q⟩
    show Value.int (((bs.map Value.bool).countP (isBl b) : Nat) : Int) s.toks = _
    rw [cnt_bl]
theorem g_cntB {K : PySem.W.Frag} {H : Hp} {Q : VK} {p : Addr} {xs : List V} {b : Bool} (bs : List Bool) (h : SqL K H p xs) (e : xs = bs.map V.bl) (q : Q (.int (bs.count b : Nat)) H) : rCntB K (.ref p) [.bl b] H Q := ⟨p, bs, b, rfl, rfl, e ▸ h, q⟩
/-! ### isinstance(e, (A, B, ..)) -/
def rIsXT (K : PySem.W.Frag) : List V → Hp → VK → Prop := fun xs H Q => ∃ (a C : Addr) (f : Str) (v : V) (tp : Addr) (cs : List V) (cvs : List Value) (b : Bool), xs = [.ref a, .ref tp] ∧ XAt H a (.ref C) f v ∧ XIs K C ∧ SqT K H tp cs ∧ (∀ us, Vals cs us → us = cvs) ∧ PySem.W.kitAny K (.ref C) cvs = some b ∧ Q (.bl b) H
theorem call_isXT {X : Cx} : CallR X (.builtin "isinstance") (rIsXT X.K) := by
  intro pins s σ H xs us Q I r h
  obtain ⟨a, C, f, v, tp, cs, cvs, b, rfl, xa, xi, hs, hcv, e, q⟩ := h
  cases r with
  | cons rx rr =>
    cases rr with
    | cons rt rr =>
      cases rr
      cases rx
      cases rt
      obtain ⟨its, rv, ⟨⟨cls, dd, data, sl⟩, ho, hc, n, hd⟩, hz⟩ := I.tuple hs
      simp only at hc hd
      subst hc hd
      have ec := hcv its rv
      subst ec
      obtain ⟨oe, od, u, J, lk, ru⟩ := instX I xa
      exact PySem.W.kia_tup (PySem.W.kitx_exc xi.cl xi.ga xi.gg xi.ex xi.ca xi.sp xi.tk xi.mo) I.kIn J ho e (fun z => nomatch z) fun tk => ⟨.bl b, H, I.kept (t' := tk) fun _ _ z => z, rfl, q⟩
section
variable {σ : L2.St} {H : Hp} {D : Ends} {tb : TS} {K : PySem.W.Frag}
/-- for j, m in enumerate(the list in the slot n) -/
theorem g_forEL {n j m N : Nat} {a : Addr} {xs : List V} (hN : 2 = N) (hv : σ[n]? = some (some (.ref a))) (h : SqL K H a xs) (Pv : Nat → L2.St → Hp → Prop) (h0 : Pv 0 σ H) (hl : ∀ i σ' H', i ≤ xs.length → Pv i σ' H' → SqL K H' a xs)
    (hs : ∀ i x σ' H1 H' T, i < xs.length → xs[i]? = some x → Pv i σ' H1 → H1 T = none → H' = upd H1 T (.tup [.int (i : Nat), x]) →
      tb { D with nx := Pv (i + 1), ct := Pv (i + 1), bk := D.nx } ((σ'.set j (some (.int (i : Nat)))).set m (some x)) H')
    (hd : ∀ σ' H', Pv xs.length σ' H' → D.nx σ' H') : tFor (iEnum K (tCons (tVar n) tNil)) (gTup K N (gCons (gName j) (gCons (gName m) gNil))) tb D σ H := by
  subst hN
  refine ⟨_, hv, a, xs, rfl, h, for_it walk_enum Pv h0 hl ?_ hd⟩
  rintro i x σ' H1 H' hi p ⟨T, y1, y, rfl, hT, e, hy1, hy⟩
  cases hy1
  refine ⟨T, _, rfl, .inl (.inl (by rw [e]; exact upd_same)), rfl, _, _, rfl, _, _, rfl, rfl, ?_⟩
  exact hs i y σ' H1 H' T hi hy p hT e
end
section
theorem kany_f {K : PySem.W.Frag} {t : Value} : ∀ {cs : List Value}, (∀ c ∈ cs, PySem.W.kitOne K t c = some false) → PySem.W.kitAny K t cs = some false
  | [], _ => rfl
  | c :: r, h => by
    unfold PySem.W.kitAny
    rw [h c List.mem_cons_self]
    exact kany_f fun x hx => h x (List.mem_cons_of_mem _ hx)
/-- no one of the classes in the tuple at tp -/
theorem g_isXno {K : PySem.W.Frag} {H : Hp} {Q : VK} {a C tp : Addr} {f : Str} {w : V} {cs : List V} (cvs : List Value) (xa : XAt H a (.ref C) f w) (xi : XIs K C) (hs : SqT K H tp cs) (hc : ∀ us, Vals cs us → us = cvs) (hn : ∀ c ∈ cvs, PySem.W.kitOne K (.ref C) c = some false) (q : Q (.bl false) H) : rIsXT K [.ref a, .ref tp] H Q :=
  ⟨a, C, f, w, tp, cs, cvs, false, rfl, xa, xi, hs, hc, kany_f hn, q⟩
theorem vals_r2 {a b : Addr} : ∀ us, Vals [.ref a, .ref b] us → us = [.ref a, .ref b] := fun us r => by
  cases r with | cons a r => cases r with | cons b r => cases r; cases a; cases b; rfl
theorem vals_t2 {a b : String} : ∀ us, Vals [.ty a, .ty b] us → us = [.type a, .type b] := fun us r => by
  cases r with | cons a r => cases r with | cons b r => cases r; cases a; cases b; rfl
theorem vals_r4 {a b c d : Addr} : ∀ us, Vals [.ref a, .ref b, .ref c, .ref d] us → us = [.ref a, .ref b, .ref c, .ref d] := fun us r => by
  cases r with | cons a r => cases r with | cons b r => cases r with | cons c r => cases r with | cons d r => cases r; cases a; cases b; cases c; cases d; rfl
theorem kno2 {K : PySem.W.Frag} {t a b : Value} (h1 : PySem.W.kitOne K t a = some false) (h2 : PySem.W.kitOne K t b = some false) : ∀ c ∈ [a, b], PySem.W.kitOne K t c = some false := List.forall_mem_cons.mpr ⟨h1, List.forall_mem_cons.mpr ⟨h2, List.forall_mem_nil _⟩⟩
theorem kno4 {K : PySem.W.Frag} {t a b c d : Value} (h1 : PySem.W.kitOne K t a = some false) (h2 : PySem.W.kitOne K t b = some false) (h3 : PySem.W.kitOne K t c = some false) (h4 : PySem.W.kitOne K t d = some false) : ∀ x ∈ [a, b, c, d], PySem.W.kitOne K t x = some false := List.forall_mem_cons.mpr ⟨h1, List.forall_mem_cons.mpr ⟨h2, kno2 h3 h4⟩⟩
end
theorem g_cntBM {K : PySem.W.Frag} {σ : L2.St} {H : Hp} {Q : VK} {n : Nat} {p : Addr} {xs : List V} {t : TA} (hv : σ[n]? = some (some (.ref p))) (h : SqL K H p xs) (q : t σ H fun ys H1 => rCntB K (.ref p) ys H1 Q) : tBM K "list" (rCntB K) (tVar n) t σ H Q := ⟨_, hv, .inl ⟨rfl, xs, h⟩, q⟩
theorem g_xvA {K : PySem.W.Frag} {H : Hp} {a : Addr} {cls : Value} {fld : Str} {v : V} {P : V → Prop} (xa : XAt H a cls fld v) (xf : XFld K cls fld) (q : P v) : ∃ a' cls' v', V.ref a = .ref a' ∧ XAt H a' cls' fld v' ∧ XFld K cls' fld ∧ P v' := ⟨_, _, _, rfl, xa, xf, q⟩
end Hf

set_option Elab.async false
set_option linter.all false
set_option maxRecDepth 100000
set_option maxHeartbeats 4000000
namespace Hf
open PySem L2 PySem.Spec PyProof.Rows
/-! ### lambdas handed to a def of the text -/
/-- the tables of code objects that are filled by and by, with the names of what is made there -/
class Tb where
  T : List (Addr × Str)
def Tbs [Tb] (H : Hp) : Prop := LamX.Tabs Tb.T H
/-- the call of the parameter in the slot i, which is the function at f -/
def tAct (i : Nat) (f c : Addr) (q : Str) (W : WX) (tl : XK → Hp → VK → Prop) : TE := fun σ H Q => σ[i]? = some (some (.ref f)) ∧ H c = some (LamX.CodeO c q) ∧ tl (fun cls d H' => W cls d σ H') H Q
section
variable {X : Cx} {pins : List (Addr × Obj)} {σ : L2.St} {H : Hp} {s : Shared} {Ng : List Str} {qg : Str} {sg : Scope} {g f c' : Addr} {cdg pm ctv : Value} {params : Arguments} {body : Expr} {scope : Scope} {k i : Nat} {a : Str} {pn : List (Addr × Obj)} {xe : Value → Shared → Prop} {W : WX} {tb : XK → TE} {p1 p2 : Pos}
theorem pe_actG (I : Inv X pins σ H s) (L : LamX.LamS X.env.scope scope)
    (hf : s.heap.get? f = some (PySem.W.kla_obj "<lambda>" (X.env.qual ++ "<lambda>") params body scope (cloFrom X.env.cells scope.names []) pm c' ctv)) (hfn : H f = none) (hfr : f ∉ frs X.stack)
    (hbind : bindArgs (PySem.W.kla_fn "<lambda>" (X.env.qual ++ "<lambda>") params body scope (cloFrom X.env.cells scope.names []) pm (.ref c') ctv) ⟨[], []⟩ = pure [])
    (tk : Takes ((cxOf CX0 X.prog X.w X.K X.mg X.base Ng qg sg g cdg X.A X.stack s H E0).tr pn xe) W) (hr : RG (k + 1) (X.A.deeper (envOfC qg sg s.heap.objs.size g cdg)))
    (hbody : ∀ (B : Around) (out : List Env) (s2 : Shared) (H2 : Hp) (E : XK), RG k (B.deeper (LamX.lamEnv X scope s2.heap.objs.size f c')) → PE (LamX.lamCx X B out s2 H2 E scope f c') body (tb E))
    (hN : Ng[i]? = some a) (hv : Vis sg a) (hd : (a == ("__debug__" : Str)) = false := by decide) (hcd : (a == ("__classdict__" : Str)) = false := by decide) :
    PE ((cxOf CX0 X.prog X.w X.K X.mg X.base Ng qg sg g cdg X.A X.stack s H E0).tr pn xe) (.Call (.Name a p1) [] [] p2) (tAct i f c' (X.env.qual ++ "<lambda>") W fun E H' Q => tb E σ H' Q) := by
  refine ⟨?_⟩
  rintro pz sZ σZ HZ Q IZ ⟨w1, w2, w3⟩
  refine wpAny_Call_Name_kw ?_
  refine thn ((pe_var (pos := p1) (i := i) hN hv hd hcd).run pz sZ σZ HZ (fun v H1 => v = .ref f ∧ H1 = HZ) IZ ⟨.ref f, w1, rfl, rfl⟩) ?_
  rintro u s1 ⟨v, H1, J, rv, ev, eh⟩
  subst ev
  subst eh
  have eu : u = Value.ref f := rv
  subst eu
  have stays := J.base.keep f _ hf hfn hfr (by intro z; cases z)
  refine PySem.W.callWith_F0 ⟨_, _, _, _, stays⟩ ?_
  obtain ⟨⟨oc, us, tq, g1, g2, g3⟩, _⟩ := J.hok c' _ w2
  have main : codeAny (model X.prog X.w) (X.A.deeper (envOfC qg sg s.heap.objs.size g cdg)) (.call (.ref f) ⟨[], []⟩) (CR (L2.CX X.prog X.w) (envOfC qg sg s.heap.objs.size g cdg :: X.stack) X.prog X.w H1 s1 Q fun cls d H' => W cls d σZ H') s1 := by
    refine PySem.W.kla_callFunE hr.rm.depth stays rfl L.co L.gen rfl ⟨c', oc, us, tq, rfl, g1, g2, g3⟩ ?_
    rw [hbind]
    refine wpAny_pure (wpAny_newFunctionEnv (fun y hy => (L.own y hy).2) (by intro y hy; cases hy) ?_ L.kind)
    intro h₁ hns hsb
    refine ⟨J.nolimit.fresh _ hsb, ?_⟩
    have kp : ∀ b o, s1.heap.get? b = some o → h₁.get? b = some o := by
      intro b o e
      exact hsb.extBut b o (Nat.ne_of_lt (Heap.lt_size e)) (Heap.get?_push_of_some _ e)
    have start := LamX.lam_start2 (f := f) (c' := c') (tk := s1.toks + ([] : List (Str × Value)).length) (E := fun cls d H' => W cls d σZ H') I L J.env0 hr.rm.hd J.base hns kp
    refine PySem.W.kla_codeExpr (wpAny_mono ((hbody _ _ s1 H1 _ (hr.deeper _)).run [] _ _ H1 Q start w3) ?_ (fun e s' z => z))
    rintro v s' ⟨w', H', J', rv', q'⟩
    exact ⟨w', H', J'.os, J'.bare, J'.base, J'.hok, rv', q'⟩
  refine wpAny_call (codeAny_mono main ?_)
  intro r s' z
  match r, z with
  | .error e, z => exact tk _ _ (XE.of_call J (fun cls d H' h => h) z)
  | .ok (.ret u), z => exact J.after z
  | .ok .next, z => exact z.elim
  | .ok .brk, z => exact z.elim
  | .ok .cont, z => exact z.elim
end
/-- a def that calls what it got (its one parameter); TT: what it makes of the reading of that call -/
structure Gv (P : Program) (w : World) (K : PySem.W.Frag) (mg : Str → Option Value) (base : Heap) (k : Nat) (x : Str) (st : Stmt) (N : List Str) (a : Str) (TT : (XK → Hp → VK → Prop) → Hp → VK → Prop) : Prop where
  ex : ∃ (g : Addr) (fd : FuncData), mg x = some (.ref g) ∧ Fun K x x st g fd
  sc : FnScope N [a] (defScope st)
  at0 : N[0]? = some a
  vis : Vis (defScope st) a
  nodebug : (a == ("__debug__" : Str)) = false
  noclass : (a == ("__classdict__" : Str)) = false
  go : ∀ (g : Addr) (cdv : Value) (A : Around) (outer : List Env) (s : Shared) (H : Hp) (Q : VK) (f c : Addr) (q : Str) (tl : XK → Hp → VK → Prop), RG (k + 1) (A.deeper (envOfC x (defScope st) s.heap.objs.size g cdv)) →
    (∀ (W : WX) (pn : List (Addr × Obj)) (xe : Value → Shared → Prop) (p1 p2 : Pos), Takes ((cxOf CX0 P w K mg base N x (defScope st) g cdv A outer s H E0).tr pn xe) W → PE ((cxOf CX0 P w K mg base N x (defScope st) g cdv A outer s H E0).tr pn xe) (.Call (.Name a p1) [] [] p2) (tAct 0 f c q W tl)) →
    H c = some (LamX.CodeO c q) → TT tl H Q → ∃ t, PSs (cxOf CX0 P w K mg base N x (defScope st) g cdv A outer s H E0).nox (defBody st) t ∧ t { nx := fun _ H' => Q .non H', rt := Q } (start N [.ref f]) H
def tLamG [Tb] (TT : (XK → Hp → VK → Prop) → Hp → VK → Prop) (t : XK → TE) : TE := fun σ H Q => Tbs H ∧ ∀ H1, LamX.ExtN H H1 → Tbs H1 → TT (fun E H' Q' => t E σ H' Q') H1 Q
section
variable {X : Cx} [Tb] {k j : Nat} {x a : Str} {st : Stmt} {N : List Str} {TT : (XK → Hp → VK → Prop) → Hp → VK → Prop} {c Pt : Addr} {params : Arguments} {body : Expr} {scope : Scope} {t : XK → TE} {p lpos pos : Pos}
theorem one_call {P : Program} {w : World} {K : PySem.W.Frag} {mg : Str → Option Value} {base : Heap} {f : Addr} {x qual : Str} {st : Stmt} {dV kV doc pm cdv ct oc : Value} {an od : Option Addr} {osl : Array (Option Value)} {N ps : List Str} {A : Around} {outer : List Env} {s : Shared} {H : Hp} {args : Args} {us : List Value} {xs : List V} {Q : VK} {k : Nat}
    (lk : K.lookup f = some ⟨oc, od, .func (PySem.W.fnOf x qual (defArgs st) (defBody st) (defScope st) dV kV doc pm an cdv ct), osl⟩) (hcd : PySem.W.codeIn K cdv qual = true) (S : FnScope N ps (defScope st)) (n1 : xs.length = ps.length)
    (r : RG (k + 1) A) (e0 : Env0 P w K mg base A outer s H) (bt : BindsTo s (PySem.W.fnOf x qual (defArgs st) (defBody st) (defScope st) dV kV doc pm an cdv ct) args (ps.zip us)) (rv : Vals xs us)
    (hb : RG k (A.deeper (envOfC qual (defScope st) s.heap.objs.size f cdv)) → ∃ t, PSs (cxOf CX0 P w K mg base N qual (defScope st) f cdv A outer s H E0).nox (defBody st) t ∧ t { nx := fun _ H' => Q .non H', rt := Q } (start N xs) H) :
    codeAny (model P w) A (.call (.ref f) args) (CR CX0 outer P w H s Q E0) s := by
  have kin : K.In s.heap := e0.mod.kin.keeps (fun b o z => (e0.bs b o z).1)
  have lim : s.heap.NoLimit := e0.mod.nolimit.keeps (fun b o z => (e0.bs b o z).1)
  have kinds : ∀ y ∈ ps.zip us, (defScope st).names.lookup y.1 = some .local ∨ ((defScope st).names.lookup y.1 = some .cell ∧ ((cellsFrom (s.heap.objs.size + 1) (defScope st).names []).lookup y.1).isSome = true) := by
    rintro ⟨n, v⟩ hy
    rcases S.par n (List.of_mem_zip hy).1 with z | z
    · left; exact z
    · right; exact ⟨z, PySem.W.cellsFrom_some _ _ _ (.inl z)⟩
  refine codeAny_call_function r.rm.depth (kin _ _ lk) rfl S.co S.gen rfl (PySem.W.codeRec_of kin hcd) (bt _ _ _ _ ?_)
  refine wpAny_newFunctionEnv_cells S.kind kinds ?_
  intro env he s1 x1
  subst he
  refine ⟨lim.keeps x1.toInCall.keep, codeAny_func ?_⟩
  obtain ⟨t, ht, hq⟩ := hb (r.deeper _)
  have I := inv_start (CX := CX0) (E := E0) (qual := qual) (f := f) (cd := cdv) S r.rm.hd e0 n1 rv x1
  refine wpAny_mono (ht.nox.run [] s1 (start N xs) H _ I hq) ?_ (fun e s' z => z)
  intro fl s' z
  match fl, z with
  | .ret u, ⟨v, σ', H', J, rv', q'⟩ => exact ⟨v, H', J.os, J.bare, J.base, J.hok, rv', q'⟩
  | .next, ⟨σ', H', J, q'⟩ => exact ⟨V.non, H', J.os, J.bare, J.base, J.hok, rfl, q'⟩
  | .brk, ⟨_, _, _, q'⟩ => exact q'.elim
  | .cont, ⟨_, _, _, q'⟩ => exact q'.elim
/-- x(lambda: body) -/
theorem pe_lam (G : Gv X.prog X.w X.K X.mg X.base k x st N a TT) (TB : LamX.TabB X.base X.mg c Pt) (hcode : X.env.code = .ref c) (hmT : (Pt, X.env.qual ++ "<lambda>") ∈ Tb.T) (hu : ∀ p ∈ Tb.T, p.1 = Pt → p.2 = X.env.qual ++ "<lambda>")
    (hr : RG j X.A) (hj : k + 2 ≤ j) (L : LamX.LamS X.env.scope scope) (hb : Bnd st x x [a] 1 [] @fun _ us _ => us) (hdef : defaultsOf params X.env = ([], []))
    (hbind : ∀ (q : Str) (cl : List (Str × Addr)) (pm cv ctv : Value), bindArgs (PySem.W.kla_fn "<lambda>" q params body scope cl pm cv ctv) ⟨[], []⟩ = pure [])
    (hbody : ∀ (B : Around) (out : List Env) (s2 : Shared) (H2 : Hp) (E : XK) (f c' : Addr), RG k (B.deeper (LamX.lamEnv X scope s2.heap.objs.size f c')) → PE (LamX.lamCx X B out s2 H2 E scope f c') body (t E))
    (hg : Gl X x := by rfl) (hdb : (x == ("__debug__" : Str)) = false := by decide) :
    PE X (.Call (.Name x p) [.Lambda params body scope lpos] [] pos) (tLamG TT t) := by
  obtain ⟨gf, fd, hm, U⟩ := G.ex
  obtain ⟨oc, od, kV, doc, pm, an, cdv, ct, osl, rfl, lk, hcd⟩ := U.ex
  refine ⟨?_⟩
  rintro pins s σ H Q I ⟨hT, h⟩
  refine wpAny_Call_Name_kw (ld_glob I hg hm ?_ hdb)
  refine PySem.W.callWith_K (h₀ := X.base) I.ok.mod.kin U.kp ?_ (by rfl) (by rfl)
  show wpAny _ _ (spliced ((false, eval (.Lambda params body scope lpos) X.env) :: backTo pos (starEach [] X.env))) _ _ s
  refine Calls.spliced_cons (LamX.lam_make2 I TB hcode hmT hu hT hdef (L.has I.ok) ?_)
  intro f c' pm' ctv H1 s' I1 eN T1 hf hfn hfr hco
  refine Calls.spliced_nil ⟨I1.kIn, ?_⟩
  have ran : codeAny (model X.prog X.w) X.A (.call (.ref gf) ⟨[.ref f], []⟩) (CR CX0 X.stack X.prog X.w H1 s' Q E0) s' := by
    refine one_call (k := k + 1) (us := [.ref f]) (xs := [.ref f]) lk hcd G.sc rfl (hr.mono hj) I1.env0 (.of_eq (hb kV doc pm an cdv ct [.ref f] [] rfl rfl).1) (.cons rfl .nil) ?_
    intro hr'
    exact G.go gf cdv X.A X.stack s' H1 Q f c' (X.env.qual ++ "<lambda>") _ hr' (fun W pn xe p1 p2 tk => pe_actG I1 L hf hfn hfr (hbind _ _ _ _ _) tk hr' (fun B out s2 H2 E r => hbody B out s2 H2 E f c' r) G.at0 G.vis G.nodebug G.noclass) hco (h H1 eN T1)
  refine wpAny_call (codeAny_mono ran ?_)
  intro r s2 z
  match r, z with
  | .error e, z => exact z.elim
  | .ok (.ret u), z => exact I1.after z
  | .ok .next, z => exact z.elim
  | .ok .brk, z => exact z.elim
  | .ok .cont, z => exact z.elim
end
/-! ### heaps in which tables have grown -/
def notT : HO → Bool
  | .tbl _ => false
  | _ => true
/-- nothing but a table may be at p -/
def NoT (H : Hp) (p : Addr) : Prop := ∀ o, H p = some o → notT o = false
section
variable {K : PySem.W.Frag} {H H1 H2 : Hp} {a p d c : Addr} {o : HO} {xs : List V} {n m : Nat}
theorem ExtN.at_ (e : LamX.ExtN H H1) (h : H a = some o) (n : notT o = true := by with_unfolding_all rfl) : H1 a = some o := e a o h fun ps z => by
  rw [z] at n
  cases n
theorem ExtN.seq (e : LamX.ExtN H H1) (h : SqL K H a xs) : SqL K H1 a xs := by
  rcases h with (h | ⟨o, h⟩) | h
  · exact .inl (.inl (ExtN.at_ e h))
  · exact .inl (.inr ⟨o, ExtN.at_ e h⟩)
  · exact .inr h
theorem ExtN.seqT (e : LamX.ExtN H H1) (h : SqT K H a xs) : SqT K H1 a xs := by
  rcases h with (h | ⟨o, h⟩) | h
  · exact .inl (.inl (ExtN.at_ e h))
  · exact .inl (.inr ⟨o, ExtN.at_ e h⟩)
  · exact .inr h
theorem ExtN.draw (e : LamX.ExtN H H1) (D : DrawAt K n H d c) : DrawAt K n H1 d c := by
  obtain ⟨ns, x, l, u, hd, hs, r⟩ := D
  exact ⟨ns, x, l, u, ExtN.at_ e hd, ExtN.at_ e hs, r⟩
theorem ExtN.same (s : Same H H1) : LamX.ExtN H H1 := fun b o h _ => s b o h
theorem ExtN.snoc (e : LamX.ExtN H H1) (s : Same H1 H2) : LamX.ExtN H H2 := fun b o h n => s b o (e b o h n)
theorem ExtN.tr (e : LamX.ExtN H H1) (s : LamX.ExtN H1 H2) : LamX.ExtN H H2 := fun b o h n => s b o (e b o h n) n
theorem NoT.of0 (h : H p = none) : NoT H p := fun o z => by
  rw [h] at z
  cases z
theorem NoT.back (e : LamX.ExtN H H1) (h : NoT H1 p) : NoT H p := fun o z => by
  cases q : notT o with
  | false => rfl
  | true =>
    have z' := ExtN.at_ e z q
    rw [h o z'] at q
    cases q
theorem NoT.backS (e : Same H H1) (h : NoT H1 p) : NoT H p := fun o z => h o (e p o z)
theorem NoT.backU (h : NoT (upd H a o) p) (n : H a = none) : NoT H p := fun u z => by
  by_cases q : p = a
  · rw [q, n] at z
    cases z
  · exact h u (by rw [upd_ne q]; exact z)
theorem ExtN.put (h : NoT H p) (e : LamX.ExtN H H1) : LamX.ExtN H (upd H1 p o) := fun b u z n => by
  by_cases q : b = p
  · subst q
    have y := h u z
    cases u with
    | tbl ps => exact (n ps rfl).elim
    | _ => cases y
  · rw [upd_ne q]
    exact e b u z n
theorem ExtN.new (h : H1 p = none) (e : LamX.ExtN H H1) : LamX.ExtN H (upd H1 p o) := ExtN.put (NoT.back e (NoT.of0 h)) e
variable [Tb]
theorem Tbs.same (s : Same H H1) (t : Tbs H) : Tbs H1 := t.ext s
theorem Tbs.new (hp : H p = none) (t : Tbs H) : Tbs (upd H p o) := t.ext (Same.upd hp (Same.refl H))
theorem codeO_notL {q : Str} {xs : List V} (h : H a = some (LamX.CodeO a q)) (h2 : H p = some (.lst xs)) : a ≠ p := fun e => by
  rw [e, h2] at h
  unfold LamX.CodeO at h
  cases h
/-- a tracked list gets another content -/
theorem Tbs.put {ys : List V} (h : H p = some (.lst xs)) (t : Tbs H) : Tbs (upd H p (.lst ys)) := by
  intro r hr
  obtain ⟨ps, h1, h2, h3⟩ := t r hr
  refine ⟨ps, ?_, h2, fun pos cv hc => ?_⟩
  · rw [upd_ne]
    · exact h1
    · intro e
      rw [e, h] at h1
      cases h1
  · obtain ⟨c0, e1, e2⟩ := h3 pos cv hc
    refine ⟨c0, e1, ?_⟩
    rw [upd_ne (codeO_notL e2 h)]
    exact e2
theorem Tbs.keep (k : Keep d H H1) (D : DrawAt K n H d c) (t : Tbs H) : Tbs H1 := by
  intro r hr
  obtain ⟨ps, h1, h2, h3⟩ := t r hr
  refine ⟨ps, k.at_ D h1, h2, fun pos cv hc => ?_⟩
  obtain ⟨c0, e1, e2⟩ := h3 pos cv hc
  exact ⟨c0, e1, k.at_ D e2⟩
end
/-! ### defs that make lambdas -/
structure FunC (K : PySem.W.Frag) (x qual : Str) (st : Stmt) (f : Addr) (fd : FuncData) (c : Addr) : Prop where
  ex : ∃ (oc : Value) (od : Option Addr) (kV doc pm : Value) (an : Option Addr) (ct : Value) (osl : Array (Option Value)),
    fd = PySem.W.fnOf x qual (defArgs st) (defBody st) (defScope st) .none kV doc pm an (.ref c) ct ∧ K.lookup f = some ⟨oc, od, .func fd, osl⟩ ∧ PySem.W.codeIn K (.ref c) qual = true
  kp : PySem.W.keepIn K (.ref f) = true
theorem FunC.out {K : PySem.W.Frag} {x qual : Str} {st : Stmt} {f : Addr} {fd : FuncData} {c : Addr} (F : FunC K x qual st f fd c) : Fun K x qual st f fd := by
  obtain ⟨oc, od, kV, doc, pm, an, ct, osl, e1, e2, e3⟩ := F.ex
  exact ⟨⟨oc, od, kV, doc, pm, an, _, ct, osl, e1, e2, e3⟩, F.kp⟩
section
variable {P : Program} {w : World} {K : PySem.W.Frag} {mg : Str → Option Value} {base : Heap}
theorem okC {x qual : Str} {st : Stmt} {f c : Addr} {fd : FuncData} {N ps : List Str} {k : Nat} {sp : Sp} (F : FunC K x qual st f fd c) (S : FnScope N ps (defScope st)) (many : ∀ xs H Q E, sp xs H Q E → xs.length = ps.length)
    (hb : ∀ (A : Around) (outer : List Env) (s : Shared) (H : Hp) (xs : List V) (Q : VK) (E : XK), RG k (A.deeper (envOfC qual (defScope st) s.heap.objs.size f (.ref c))) → sp xs H Q E →
      ∃ t, PSs (cxOf CX0 P w K mg base N qual (defScope st) f (.ref c) A outer s H E).nox (defBody st) t ∧ t { nx := fun _ H' => Q .non H', rt := Q } (start N xs) H) : FnG P w K mg base CX0 (k + 1) f fd ps sp := by
  obtain ⟨oc, od, kV, doc, pm, an, ct, osl, rfl, lk, hcd⟩ := F.ex
  refine fnG_of lk hcd S many ?_
  intro A outer s H xs Q E r q
  obtain ⟨t, h, z⟩ := hb A outer s H xs Q E r q
  exact ⟨t, h.nox, z⟩
/-- what the text tells of a def that makes lambdas -/
def MakerAt [Tb] (K : PySem.W.Frag) (mg : Str → Option Value) (base : Heap) (x : Str) (st : Stmt) : Prop :=
  ∃ (f : Addr) (fd : FuncData) (c Pt : Addr), mg x = some (.ref f) ∧ FunC K x x st f fd c ∧ LamX.TabB base mg c Pt ∧ (Pt, x ++ ".<locals>." ++ "<lambda>") ∈ Tb.T ∧ ∀ p ∈ Tb.T, p.1 = Pt → p.2 = x ++ ".<locals>." ++ "<lambda>"
end
/-! ### the end of a law with tables -/
structure IsTab (K : PySem.W.Frag) (mg : Str → Option Value) (h : Heap) (x : Str) (st : Stmt) (p : Addr × Addr) : Prop where
  fn : ∃ (f : Addr) (fd : FuncData), mg x = some (.ref f) ∧ FunC K x x st f fd p.1
  hd : PySem.W.CodeHd h p.1 p.2
  tb : h.get? p.2 = some { cls := .none, data := .fields #[] }
  nl : K.lookup p.2 = none
def noData (o : Obj) : Prop := (∀ vs n, o.data ≠ .seq vs n) ∧ o.data ≠ .fields #[]
theorem lawT {P : Program} {w : World} {K : PySem.W.Frag} {mg mb : Str → Option Value} {k : Nat} {fa a : Addr} {fd : FuncData} {x : Str} {sp : Sp} {s₁ : Shared} {vs : List Value} {ns : List Int} {cs : List (Addr × Addr)}
    (kin : K.In s₁.heap) (gl : s₁.heap.Ns mainGlobals mg) (bl : s₁.heap.Ns builtinsNs mb) (bb : ∀ x : Str, x ≠ "__name__" → mb x = bootBuiltins x) (lim : s₁.heap.NoLimit) (gn : s₁.gens = #[])
    (tabs : ∀ p ∈ cs, s₁.heap.get? p.2 = some { cls := .none, data := .fields #[] }) (tabsK : ∀ p ∈ cs, K.lookup p.2 = none) (heads : ∀ p ∈ cs, PySem.W.CodeHd s₁.heap p.1 p.2)
    (bmod : ∃ (bm : Addr) (ob : Obj), mg "__builtins__" = some (.ref bm) ∧ bm ≠ builtinsNs ∧ s₁.heap.get? bm = some ob ∧ ob.cls = .type "module" ∧ ob.dict = some builtinsNs ∧ ob.data = .plain)
    (oa : s₁.heap.get? a = some { cls := .type "list", data := .seq vs.toArray }) (it : IntsAre vs ns) (sz : ns.length ≤ sizeLine) (rm : RG k callerA)
    (F : ∀ base : Heap, K.In base → base.Ns mainGlobals mg → (∀ p ∈ cs, LamX.TabB base mg p.1 p.2) → FnG P w K mg base CX0 k fa fd [x] sp) (bd : ∀ (s : Shared) (u : Value), BindsTo s fd ⟨[u], []⟩ [(x, u)])
    (top : ∀ H : Hp, (∀ p ∈ cs, H p.2 = some (.tbl #[])) → SqL K H a (ns.map V.int) → sp [.ref a] H (fun v _ => v = .bl true) E0) :
    codeAny (model P w) callerA (.call (.ref fa) ⟨[.ref a], []⟩) (fun r s' => r = .ok (.ret (.bool true)) ∧ OldK s₁.heap s'.heap ∧ s'.os = s₁.os ∧ AllBare s'.gens) s₁ := by
  have rv : Vals (ns.map V.int) vs := vals_ints it
  have n1 : vs.length = ns.length := it.length
  have inT : ∀ b : Addr, b ∈ cs.map (·.2) → s₁.heap.get? b = some { cls := .none, data := .fields #[] } := by
    intro b hb
    obtain ⟨p, hp, rfl⟩ := List.mem_map.mp hb
    exact tabs p hp
  have memT : ∀ p ∈ cs, p.2 ∈ cs.map (·.2) := fun p hp => List.mem_map.mpr ⟨p, hp, rfl⟩
  have aT : a ∉ cs.map (·.2) := by
    intro z
    have q := inT a z
    rw [oa] at q
    injection q with q
    injection q with _ _ q
    cases q
  have one : ∀ H : Hp, (∀ p ∈ cs, H p.2 = some (.tbl #[])) → (∀ b, H b = none ∨ b ∈ cs.map (·.2) ∨ ∃ ob xs, H b = some (.frz ob (.lst xs))) → SqL K H a (ns.map V.int) → HOk P w H s₁.heap → (∀ b, H b ≠ none → b = a ∨ b ∈ cs.map (·.2)) → (H a ≠ none → K.lookup a = none) →
      codeAny (model P w) callerA (.call (.ref fa) ⟨[.ref a], []⟩) (fun r s' => r = .ok (.ret (.bool true)) ∧ OldK s₁.heap s'.heap ∧ s'.os = s₁.os ∧ AllBare s'.gens) s₁ := by
    intro H ht only seq hok at_a k_a
    have off : ∀ b o, s₁.heap.get? b = some o → noData o → H b = none := by
      intro b o ho nd
      refine Classical.byContradiction (fun hn => ?_)
      rcases at_a b hn with eb | eb
      · rw [eb, oa] at ho
        have ho' := Option.some.inj ho
        exact nd.1 vs.toArray _ (by rw [← ho'])
      · rw [inT b eb] at ho
        have ho' := Option.some.inj ho
        exact nd.2 (by rw [← ho'])
    have dictFree : ∀ b o es ep, s₁.heap.get? b = some o → o.data = .dict es ep → H b = none := by
      intro b o es ep ho hd
      refine off b o ho ⟨?_, ?_⟩
      · intro vs n z; rw [hd] at z; cases z
      · intro z; rw [hd] at z; cases z
    have nsOf : ∀ b m, s₁.heap.Ns b m → (hidT s₁.heap H).Ns b m := by
      rintro b m ⟨o, es, ep, h1, h2, h3⟩
      exact ⟨o, es, ep, hidT_get h1 (dictFree b o es ep h1 h2), h2, h3⟩
    have kinB : K.In (hidT s₁.heap H) := by
      intro b o hb
      refine hidT_get (kin b o hb) (Classical.byContradiction (fun hn => ?_))
      rcases at_a b hn with eb | eb
      · subst eb
        rw [k_a hn] at hb
        exact nomatch hb
      · obtain ⟨p, hp, rfl⟩ := List.mem_map.mp eb
        rw [tabsK p hp] at hb
        exact nomatch hb
    have md : Mod K mg (hidT s₁.heap H) := by
      obtain ⟨mc, c1, c2⟩ := lim
      exact ⟨kinB, nsOf _ _ gl, ⟨mb, nsOf _ _ bl, bb⟩, ⟨mc, nsOf _ _ c1, c2⟩⟩
    have tbs : ∀ p ∈ cs, LamX.TabB (hidT s₁.heap H) mg p.1 p.2 := by
      intro p hp
      refine ⟨?_, ?_, ?_⟩
      · obtain ⟨o, us, file, tf, flags, tg, inF, text, tt, e1, r1, r2, r3, r⟩ := heads p hp
        refine ⟨o, us, file, tf, flags, tg, inF, text, tt, hidT_get e1 (off _ o e1 ⟨?_, ?_⟩), r1, r2, r3, r⟩
        · intro vs n z; rw [r2] at z; cases z
        · intro z; rw [r2] at z; cases z; simp at r3
      · obtain ⟨bm, ob, b1, b2, b3, b4, b5, b6⟩ := bmod
        refine ⟨bm, ob, b1, b2, ?_, ?_, hidT_get b3 (off _ ob b3 ⟨?_, ?_⟩), b4, b5, b6⟩
        · intro q
          obtain ⟨o, es, ep, e, hd, _⟩ := gl
          rw [q, e] at b3
          cases b3
          rw [hd] at b6
          cases b6
        · intro q
          rw [q, tabs p hp] at b3
          cases b3
          cases b6
        · intro vs n z; rw [b6] at z; cases z
        · intro z; rw [b6] at z; cases z
      · intro z
        obtain ⟨o, es, ep, e, hd, _⟩ := gl
        rw [z, tabs p hp] at e
        cases e
        cases hd
    have e0 : Env0 P w K mg (hidT s₁.heap H) callerA [] s₁ H := ⟨rfl, md, fun b o z => of_hidT z, Nat.le_of_eq (hidT_size _ _), trivial, fun b hb => (List.not_mem_nil hb).elim, hok, .of_eq gn⟩
    refine codeAny_mono ((F _ kinB (nsOf _ _ gl) tbs).go callerA [] s₁ H ⟨[.ref a], []⟩ [.ref a] [.ref a] _ _ rm e0 (bd s₁ (.ref a)) (.cons rfl .nil) (top H ht seq)) ?_
    intro r s' z
    match r, z with
    | .error e, z => exact z.elim
    | .ok .next, z => exact z.elim
    | .ok .brk, z => exact z.elim
    | .ok .cont, z => exact z.elim
    | .ok (.ret u), ⟨v, H', os, bare, un, hok', rr, ev⟩ =>
      have ev' : v = .bl true := ev
      subst ev'
      have eu : u = Value.bool true := rr
      subst eu
      have others : ∀ b o, b ∉ cs.map (·.2) → s₁.heap.get? b = some o → s'.heap.get? b = some o := by
        intro b o nb hb
        cases q : H b with
        | none => exact un.keep b o hb q (fun z => (List.not_mem_nil z).elim) (fun z => (List.not_mem_nil z).elim)
        | some u =>
          rcases only b with z | z | ⟨ob, xs, z⟩
          · rw [q] at z; exact nomatch z
          · exact (nb z).elim
          · obtain ⟨e1, _⟩ := hok b _ z
            obtain ⟨e2, _⟩ := hok' b _ (un.frzs b ob _ z)
            rw [hb] at e1
            have e1' := Option.some.inj e1
            subst e1'
            exact e2
      have theirs : ∀ p ∈ cs, ∃ more : Array Value, s'.heap.get? p.2 = some { cls := .none, data := .fields more } := by
        intro p hp
        obtain ⟨more, z⟩ := un.tbls p.2 #[] (ht p hp)
        exact ⟨_, hok' p.2 _ z⟩
      refine ⟨rfl, ⟨?_, ?_⟩, os, bare⟩
      · intro b o e
        by_cases hb : b ∈ cs.map (·.2)
        · obtain ⟨p, hp, rfl⟩ := List.mem_map.mp hb
          obtain ⟨more, hm⟩ := theirs p hp
          have e' := (tabs p hp).symm.trans e
          have e'' := Option.some.inj e'
          subst e''
          right; left
          exact ⟨((heads p hp).tab (tabs p hp)).isCodeTable, rfl, #[], more, rfl, by rw [Array.empty_append]; exact hm⟩
        · left
          exact others b o hb e
      · intro b o e
        by_cases hb : b ∈ cs.map (·.2)
        · obtain ⟨p, hp, rfl⟩ := List.mem_map.mp hb
          obtain ⟨more, hm⟩ := theirs p hp
          exact ⟨_, hm⟩
        · exact ⟨o, others b o hb e⟩
  by_cases hk : K.lookup a = none
  · have fT : ∀ b, b ∈ cs.map (·.2) → b ≠ a := fun b hb e => aT (e ▸ hb)
    refine one (fun b => if b = a then some (.frz { cls := .type "list", data := .seq vs.toArray } (.lst (ns.map V.int))) else if b ∈ cs.map (·.2) then some (.tbl #[]) else none) ?_ ?_ ?_ ?_ ?_ (fun _ => hk)
    · intro p hp
      have m := memT p hp
      show (if _ then _ else if _ then _ else _) = _
      rw [if_neg (fT _ m), if_pos m]
    · intro b
      by_cases hb : b = a
      · right; right; exact ⟨_, _, if_pos hb⟩
      · by_cases hc : b ∈ cs.map (·.2)
        · right; left; exact hc
        · left
          show (if _ then _ else if _ then _ else _) = _
          rw [if_neg hb, if_neg hc]
    · left; right; exact ⟨_, if_pos rfl⟩
    · intro b u z
      by_cases hb : b = a
      · subst hb
        have z' := Option.some.inj ((if_pos rfl).symm.trans z)
        subst z'
        exact ⟨oa, by rw [List.length_map]; exact sz, vs, _, rv, oa⟩
      · have z1 := (if_neg hb).symm.trans z
        by_cases hc : b ∈ cs.map (·.2)
        · have z' := Option.some.inj ((if_pos hc).symm.trans z1)
          subst z'
          exact inT b hc
        · exact nomatch ((if_neg hc).symm.trans z1)
    · intro b z
      by_cases hb : b = a
      · left; exact hb
      · by_cases hc : b ∈ cs.map (·.2)
        · right; exact hc
        · refine (z ?_).elim
          show (if _ then _ else if _ then _ else _) = _
          rw [if_neg hb, if_neg hc]
  · obtain ⟨o, ho⟩ := Option.ne_none_iff_exists'.mp hk
    have eo := kin a o ho
    rw [oa] at eo
    have eo' := Option.some.inj eo
    subst eo'
    refine one (fun b => if b ∈ cs.map (·.2) then some (.tbl #[]) else none) (fun p hp => if_pos (memT p hp)) ?_ (.inr ⟨_, vs.toArray, _, ho, rfl, rfl, rfl, by rw [List.size_toArray, n1]; exact sz, by simpa using rv⟩) ?_ ?_ (fun z => (z (if_neg aT)).elim)
    · intro b
      by_cases hc : b ∈ cs.map (·.2)
      · right; left; exact hc
      · left; exact if_neg hc
    · intro b u z
      by_cases hc : b ∈ cs.map (·.2)
      · have z' := Option.some.inj ((if_pos hc).symm.trans z)
        subst z'
        exact inT b hc
      · exact nomatch ((if_neg hc).symm.trans z)
    · intro b z
      by_cases hc : b ∈ cs.map (·.2)
      · right; exact hc
      · exact (z (if_neg hc)).elim
/-- what is known of the law's def at the head's heap -/
def LawT (P : Program) (w : World) (K : PySem.W.Frag) (mg : Str → Option Value) (k n : Nat) (x : Str) (fa : Addr) (h : Heap) : Prop :=
  ∃ (fd : FuncData) (cs : List (Addr × Addr)) (sp : Sp), (∀ p ∈ cs, h.get? p.2 = some { cls := .none, data := .fields #[] } ∧ K.lookup p.2 = none ∧ PySem.W.CodeHd h p.1 p.2) ∧ (∀ (s : Shared) (u : Value), BindsTo s fd ⟨[u], []⟩ [(x, u)]) ∧
    (∀ (H : Hp) (a : Addr) (ns : List Int), ns.length ≤ n → (∀ p ∈ cs, H p.2 = some (.tbl #[])) → SqL K H a (ns.map V.int) → sp [.ref a] H (fun v _ => v = .bl true) E0) ∧
    ∀ base : Heap, K.In base → base.Ns mainGlobals mg → (∀ p ∈ cs, LamX.TabB base mg p.1 p.2) → FnG P w K mg base CX0 k fa fd [x] sp
theorem walkT {l : PySem.W.OpenLaw} {n k : Nat} {q : Program} {loose : List Str} {XP : (Str → Option Value) → Heap → Prop} {YP : World → Heap → Prop} {d : DefRec} {K : Params → PySem.W.Frag} {x : Str}
    (hn : l.most = some n) (hn2 : n ≤ sizeLine) (hdf : d.params.defaults = []) (rm : RG k callerA) (hY : ∀ (w : World) (h : Heap), YP w h → (K w.params).In h)
    (F : ∀ (w : World) (mg : Str → Option Value) (fa : Addr) (h : Heap), YP w h → (K w.params).In h → h.Ns mainGlobals mg → mg d.name = some (.ref fa) → LawT l.prog w (K w.params) mg k n x fa h) :
    PySem.W.WalkO q loose XP YP l.row.toRowW d [] (fun f vs => PySem.call f vs) := by
  refine Att.attach_call hn hdf ?_
  intro w s₀ s₁ mg mb fa o pm cd doc a vs ns G Y ho hd hcd hmg hobj hints hlen hg
  have kin := hY w _ Y
  obtain ⟨fd, cs, sp, hc, hb, ht, hF⟩ := F w mg fa _ Y kin G.T.g hmg
  exact lawT kin G.T.g G.T.b G.T.builtins G.T.nolimit hg (fun p hp => (hc p hp).1) (fun p hp => (hc p hp).2.1) (fun p hp => (hc p hp).2.2) G.T.bmain hobj hints (Nat.le_trans hlen hn2) rm hF hb (fun H h1 h2 => ht H a ns hlen h1 h2)
section
variable {K : PySem.W.Frag} {h : Heap} {mg : Str → Option Value}
theorem mkTab {x : Str} {st : Stmt} {f c Pt : Addr} {oc : Value} {od an : Option Addr} {osl : Array (Option Value)} {kV doc pm ct : Value} {cl : Value} {cdt : Option Addr} {vs : Array Value} {csl : Array (Option Value)} (X : K.In h) (G : h.Ns mainGlobals mg) (a : PySem.W.nsIn K mainGlobals x = some (some (.ref f)))
    (l : K.lookup f = some ⟨oc, od, .func (PySem.W.fnOf x x (defArgs st) (defBody st) (defScope st) .none kV doc pm an (.ref c) ct), osl⟩) (cc : PySem.W.codeIn K (.ref c) x = true) (kk : PySem.W.keepIn K (.ref f) = true)
    (lc : K.lookup c = some ⟨cl, cdt, .fields vs, csl⟩) (lp : vs[11]? = some (.ref Pt)) (hh : PySem.W.codeHdIn K c Pt = true) (ht : h.get? Pt = some { cls := .none, data := .fields #[] }) (nl : K.lookup Pt = none) : IsTab K mg h x st (c, Pt) :=
  ⟨⟨f, _, PySem.W.mg_of X G a, ⟨⟨oc, od, kV, doc, pm, an, ct, osl, rfl, l, cc⟩, kk⟩⟩, PySem.W.codeHd_of_K X hh, ht, nl⟩
end
theorem g_lam [Tb] {TT : (XK → Hp → VK → Prop) → Hp → VK → Prop} {t : XK → TE} {σ : L2.St} {H : Hp} {Q : VK} (h : Tbs H) (q : ∀ H1, LamX.ExtN H H1 → Tbs H1 → TT (fun E H' Q' => t E σ H' Q') H1 Q) : tLamG TT t σ H Q := ⟨h, q⟩
end Hf

set_option Elab.async false
set_option linter.all false
set_option maxRecDepth 100000
set_option maxHeartbeats 4000000
namespace Hf
open PySem L2 PySem.Spec PyProof.Rows
/-! ### what a law's helper is told by calls that may raise; lists of what was told -/
/-- what a raising asks -/
def Rz (K : PySem.W.Frag) (H : Hp) (E : XK) (nm fld : Str) (v : V) : Prop := ∀ cls d H', XN K nm cls → Same H H' → H' d = none → E cls (some d) (upd H' d (.xd [(fld, v)]))
theorem Rz.same {K : PySem.W.Frag} {H H1 : Hp} {E : XK} {nm fld : Str} {v : V} (r : Rz K H E nm fld v) (s : Same H H1) : Rz K H1 E nm fld v := fun cls d H' x s' n => r cls d H' x (Same.trans s s') n
mutual
theorem dqx {K : PySem.W.Frag} {H H1 : Hp} (e : LamX.ExtN H H1) : ∀ {v : V} {d : PyData}, Dq K H v d → Dq K H1 v d
  | _, _, .non => .non
  | _, _, .bl b => .bl b
  | _, _, .int i => .int i
  | _, _, .str z => .str z
  | _, _, .lst h a => .lst (ExtN.seq e h) (dqxs e a)
  | _, _, .tup h a => .tup (ExtN.seqT e h) (dqxs e a)
  | _, _, .dct h => .dct (ExtN.at_ e h)
theorem dqxs {K : PySem.W.Frag} {H H1 : Hp} (e : LamX.ExtN H H1) : ∀ {vs : List V} {ds : List PyData}, DqAll K H vs ds → DqAll K H1 vs ds
  | _, _, .nil => .nil
  | _, _, .cons a b => .cons (dqx e a) (dqxs e b)
end
def SAID : List (Str × Str) := [("BadDate", "date"), ("BadNumber", "number"), ("BadBody", "body"), ("BadContent", "content")]
def SE (K : PySem.W.Frag) (Q : VK) (E1 : XK) : Prop := ∀ cls d v n w H1, (n, w) ∈ SAID → XN K n cls → H1 d = some (.xd [("given", v)]) → (∀ H' p, Same H1 H' → H' p = some (.tup [.str w, v]) → Q (.ref p) H') → E1 cls (some d) H1
def SQ (K : PySem.W.Frag) (Q : VK) (Q1 : VK) : Prop := ∀ v H1, (∀ H' p, Same H1 H' → H1 p = none → H' p = some (.lst [v]) → Q (.ref p) H') → Q1 v H1
def Said (K : PySem.W.Frag) (tl : XK → Hp → VK → Prop) (H : Hp) (Q : VK) : Prop := ∀ E1 Q1 H1, Same H H1 → SE K Q E1 → SQ K Q Q1 → tl E1 H1 Q1
/-- the heap without what stands at l -/
def Hid (H : Hp) (l : Addr) : Hp := fun b => if b = l then none else H b
theorem hid_ne {H : Hp} {l b : Addr} (h : b ≠ l) : Hid H l b = H b := if_neg h
theorem hid_same {H : Hp} {l : Addr} : Same (Hid H l) H := fun b o h => by
  unfold Hid at h
  split at h
  · cases h
  · exact h
theorem hid_upd {H : Hp} {l : Addr} {o : HO} : Hid (upd H l o) l = Hid H l := funext fun b => by
  unfold Hid
  split
  · rfl
  · rename_i h
    rw [upd_ne h]
theorem hid_ext {H0 H : Hp} {l : Addr} (n : NoT H0 l) (e : LamX.ExtN H0 H) : LamX.ExtN H0 (Hid H l) := fun b o h hn => by
  by_cases q : b = l
  · subst q
    have z := n o h
    cases o with
    | tbl ps => exact (hn ps rfl).elim
    | _ => cases z
  · rw [hid_ne q]
    exact e b o h hn
theorem hid_mono {H H1 : Hp} {l : Addr} (e : LamX.ExtN H H1) : LamX.ExtN (Hid H l) (Hid H1 l) := fun b o h hn => by
  by_cases q : b = l
  · subst q
    unfold Hid at h
    rw [if_pos rfl] at h
    cases h
  · rw [hid_ne q] at h ⊢
    exact e b o h hn
theorem hid_seqT {K : PySem.W.Frag} {H : Hp} {l p : Addr} {xs ys : List V} (hl : H l = some (.lst xs)) (h : SqT K H p ys) : SqT K (Hid H l) p ys := by
  rcases h with (h | ⟨o, h⟩) | h
  · exact .inl (.inl (by rw [hid_ne (fun e => by rw [e, hl] at h; cases h)]; exact h))
  · exact .inl (.inr ⟨o, by rw [hid_ne (fun e => by rw [e, hl] at h; cases h)]; exact h⟩)
  · exact .inr h
mutual
/-- no list within -/
def noL : PyData → Bool
  | .list _ => false
  | .tuple ds => noLs ds
  | _ => true
def noLs : List PyData → Bool
  | [] => true
  | d :: ds => noL d && noLs ds
end
mutual
theorem dq_hid {K : PySem.W.Frag} {H : Hp} {l : Addr} {xs : List V} (hl : H l = some (.lst xs)) : ∀ {v : V} {d : PyData}, noL d = true → Dq K H v d → Dq K (Hid H l) v d
  | _, _, _, .non => .non
  | _, _, _, .bl b => .bl b
  | _, _, _, .int i => .int i
  | _, _, _, .str z => .str z
  | _, _, n, .lst h a => by unfold noL at n; cases n
  | _, _, n, .tup h a => .tup (hid_seqT hl h) (dqs_hid hl (by unfold noL at n; exact n) a)
  | _, _, _, .dct h => .dct (by rw [hid_ne (fun e => by rw [e, hl] at h; cases h)]; exact h)
theorem dqs_hid {K : PySem.W.Frag} {H : Hp} {l : Addr} {xs : List V} (hl : H l = some (.lst xs)) : ∀ {vs : List V} {ds : List PyData}, noLs ds = true → DqAll K H vs ds → DqAll K (Hid H l) vs ds
  | _, _, _, .nil => .nil
  | _, _, n, .cons a b => by
    unfold noLs at n
    obtain ⟨n1, n2⟩ := Bool.and_eq_true_iff.mp n
    exact .cons (dq_hid hl n1 a) (dqs_hid hl n2 b)
end
theorem dqs_snoc {K : PySem.W.Frag} {H : Hp} {v : V} {d : PyData} (h : Dq K H v d) : ∀ {vs : List V} {ds : List PyData}, DqAll K H vs ds → DqAll K H (vs ++ [v]) (ds ++ [d])
  | _, _, .nil => .cons h .nil
  | _, _, .cons a b => .cons a (dqs_snoc h b)
/-- at Hc, behind H0, the list l has the items xs, which are the data ds -/
structure Told [Tb] (K : PySem.W.Frag) (H0 Hc : Hp) (l : Addr) (xs : List V) (ds : List PyData) : Prop where
  e : LamX.ExtN H0 Hc
  t : Tbs Hc
  n : NoT H0 l
  hl : Hc l = some (.lst xs)
  d : DqAll K (Hid Hc l) xs ds
section
variable [Tb] {K : PySem.W.Frag} {H0 Hc : Hp} {σ : L2.St} {n : Nat} {l : Addr} {xs : List V} {ds : List PyData} {TT : (XK → Hp → VK → Prop) → Hp → VK → Prop} {t : XK → TE} {D : Ends} {nm w : Str} {v : V} {o : PyData}
theorem Told.dq (T : Told K H0 Hc l xs ds) : Dq K Hc (.ref l) (.list ds) := .lst (SqL.of T.hl) (DqAll.same hid_same T.d)
/-- an item more -/
theorem Told.snoc {H3 : Hp} {y : V} {d : PyData} (T : Told K H0 Hc l xs ds) (e : LamX.ExtN Hc H3) (tb : Tbs H3) (hy : Dq K (Hid H3 l) y d) : Told K H0 (upd H3 l (.lst (xs ++ [y]))) l (xs ++ [y]) (ds ++ [d]) := by
  have hl := ExtN.at_ e T.hl
  exact ⟨ExtN.put T.n (ExtN.tr T.e e), Tbs.put hl tb, T.n, upd_same, by rw [hid_upd]; exact dqs_snoc hy (dqxs (hid_mono e) T.d)⟩
theorem Told.first {H1 H3 : Hp} {y : V} {d : PyData} (e : LamX.ExtN H0 H3) (tb : Tbs H3) (hl : H3 l = none) (hy : Dq K H3 y d) : Told K H0 (upd H3 l (.lst [y])) l [y] [d] := by
  have nt : NoT H0 l := NoT.back e (NoT.of0 hl)
  have hid : Same H3 (Hid (upd H3 l (.lst [y])) l) := fun b o h => by
    have q : b ≠ l := ne_of_none h hl
    rw [hid_ne q, upd_ne q]
    exact h
  exact ⟨ExtN.put nt e, Tbs.new hl tb, nt, upd_same, .cons (Dq.same hid hy) .nil⟩
theorem told_raise (T : Told K H0 Hc l xs ds) (hv : σ[n]? = some (some (.ref l))) (hT : TT = Said K) (m : (nm, w) ∈ SAID) (ho : Dq K H0 v o) (hz : xs.length ≤ 100000)
    (hb : ∀ E1 Q1 H1, LamX.ExtN H0 H1 → Tbs H1 → Rz K H1 E1 nm "given" v → t E1 σ H1 Q1) (q : ∀ H3 p, Told K H0 H3 l (xs ++ [.ref p]) (ds ++ [.tuple [.str w, o]]) → D.nx σ H3) :
    tDrop (tBM K "list" rAppend (tVar n) (tCons (tLamG TT t) tNil)) D σ Hc := by
  subst hT
  refine g_drop (g_append hv T.hl (g_cons (g_lam T.t fun H1 e1 t1 => ?_)))
  intro E1 Q1 H2 s2 hE hQ
  refine hb E1 Q1 H2 (ExtN.snoc (ExtN.tr T.e e1) s2) (Tbs.same s2 t1) fun cls d H' xn s' nd => ?_
  refine hE cls d v nm w _ m xn upd_same fun H3 p s3 hp => ?_
  have e3 : LamX.ExtN Hc H3 := ExtN.snoc (ExtN.snoc (ExtN.snoc e1 s2) (Same.new nd s')) s3
  have t3 : Tbs H3 := Tbs.same s3 (Tbs.same (Same.new nd s') (Tbs.same s2 t1))
  have hl := ExtN.at_ e3 T.hl
  refine g_nil (g_app hl hz (q _ p (T.snoc e3 t3 (.tup (hid_seqT hl (SqT.of hp)) (.cons (.str _) (.cons (dqx (hid_ext T.n (ExtN.tr T.e e3)) ho) .nil))))))
theorem told_ret (T : Told K H0 Hc l xs ds) (hv : σ[n]? = some (some (.ref l))) (hT : TT = Said K) (ho : noL o = true) (hz : xs.length ≤ 100000)
    (hb : ∀ E1 Q1 H1, LamX.ExtN H0 H1 → Tbs H1 → (∀ v H2, Same H1 H2 → Dq K H2 v o → Q1 v H2) → t E1 σ H1 Q1) (q : ∀ H3 p, Told K H0 H3 l (xs ++ [.ref p]) (ds ++ [.list [o]]) → D.nx σ H3) :
    tDrop (tBM K "list" rAppend (tVar n) (tCons (tLamG TT t) tNil)) D σ Hc := by
  subst hT
  refine g_drop (g_append hv T.hl (g_cons (g_lam T.t fun H1 e1 t1 => ?_)))
  intro E1 Q1 H2 s2 hE hQ
  refine hb E1 Q1 H2 (ExtN.snoc (ExtN.tr T.e e1) s2) (Tbs.same s2 t1) fun v H' s' hd => ?_
  refine hQ v H' fun H3 p s3 np hp => ?_
  have e2 : LamX.ExtN Hc H' := ExtN.snoc (ExtN.snoc e1 s2) s'
  have e3 : LamX.ExtN Hc H3 := ExtN.snoc e2 s3
  have t3 : Tbs H3 := Tbs.same s3 (Tbs.same s' (Tbs.same s2 t1))
  have hl2 := ExtN.at_ e2 T.hl
  have hl := ExtN.at_ e3 T.hl
  have pl : p ≠ l := Ne.symm (ne_of_none hl2 np)
  refine g_nil (g_app hl hz (q _ p (T.snoc e3 t3 (.lst (SqL.of (by rw [hid_ne pl]; exact hp)) (.cons (dqx (hid_mono (ExtN.same s3)) (dq_hid hl2 ho hd)) .nil)))))
theorem told_raise0 (e : LamX.ExtN H0 Hc) (tb : Tbs Hc) (hT : TT = Said K) (m : (nm, w) ∈ SAID) (ho : Dq K H0 v o)
    (hb : ∀ E1 Q1 H1, LamX.ExtN H0 H1 → Tbs H1 → Rz K H1 E1 nm "given" v → t E1 σ H1 Q1) (q : ∀ H3 l p, Told K H0 H3 l [.ref p] [.tuple [.str w, o]] → D.nx (σ.set n (some (.ref l))) H3) :
    tAsg (tLst (tCons (tLamG TT t) tNil)) (gName n) D σ Hc := by
  subst hT
  refine g_asg (g_lst (g_cons (g_lam tb fun H1 e1 t1 => ?_)))
  intro E1 Q1 H2 s2 hE hQ
  refine hb E1 Q1 H2 (ExtN.snoc (ExtN.tr e e1) s2) (Tbs.same s2 t1) fun cls d H' xn s' nd => ?_
  refine hE cls d v nm w _ m xn upd_same fun H3 p s3 hp => ?_
  have e3 : LamX.ExtN H0 H3 := ExtN.tr e (ExtN.snoc (ExtN.snoc (ExtN.snoc e1 s2) (Same.new nd s')) s3)
  have t3 : Tbs H3 := Tbs.same s3 (Tbs.same (Same.new nd s') (Tbs.same s2 t1))
  refine g_nil (g_sz (by show 1 ≤ 100000; decide) fun l hl => q _ l p (Told.first (H1 := H3) e3 t3 hl (.tup (SqT.of hp) (.cons (.str _) (.cons (dqx e3 ho) .nil)))))
theorem told_ret0 (e : LamX.ExtN H0 Hc) (tb : Tbs Hc) (hT : TT = Said K)
    (hb : ∀ E1 Q1 H1, LamX.ExtN H0 H1 → Tbs H1 → (∀ v H2, Same H1 H2 → Dq K H2 v o → Q1 v H2) → t E1 σ H1 Q1) (q : ∀ H3 l p, Told K H0 H3 l [.ref p] [.list [o]] → D.nx (σ.set n (some (.ref l))) H3) :
    tAsg (tLst (tCons (tLamG TT t) tNil)) (gName n) D σ Hc := by
  subst hT
  refine g_asg (g_lst (g_cons (g_lam tb fun H1 e1 t1 => ?_)))
  intro E1 Q1 H2 s2 hE hQ
  refine hb E1 Q1 H2 (ExtN.snoc (ExtN.tr e e1) s2) (Tbs.same s2 t1) fun v H' s' hd => ?_
  refine hQ v H' fun H3 p s3 np hp => ?_
  have e3 : LamX.ExtN H0 H3 := ExtN.tr e (ExtN.snoc (ExtN.snoc (ExtN.snoc e1 s2) s') s3)
  have t3 : Tbs H3 := Tbs.same s3 (Tbs.same s' (Tbs.same s2 t1))
  refine g_nil (g_sz (by show 1 ≤ 100000; decide) fun l hl => q _ l p (Told.first (H1 := H3) e3 t3 hl (.lst (SqL.of hp) (.cons (Dq.same s3 hd) .nil))))
end
/-- a goal that is left to the hand -/
structure Held (P : Prop) : Prop where
  mk :: get : P
theorem g_held0 [Tb] {TT : (XK → Hp → VK → Prop) → Hp → VK → Prop} {t : XK → TE} {g : TG} {u : TS} {D : Ends} {σ : L2.St} {H : Hp} (q : Held (tSeq (tAsg (tLst (tCons (tLamG TT t) tNil)) g) u D σ H)) : tSeq (tAsg (tLst (tCons (tLamG TT t) tNil)) g) u D σ H := q.get
theorem m_date : (("BadDate" : Str), ("date" : Str)) ∈ SAID := List.mem_cons_self
theorem m_number : (("BadNumber" : Str), ("number" : Str)) ∈ SAID := List.mem_cons_of_mem _ List.mem_cons_self
theorem m_body : (("BadBody" : Str), ("body" : Str)) ∈ SAID := List.mem_cons_of_mem _ (List.mem_cons_of_mem _ List.mem_cons_self)
theorem m_content : (("BadContent" : Str), ("content" : Str)) ∈ SAID := List.mem_cons_of_mem _ (List.mem_cons_of_mem _ (List.mem_cons_of_mem _ List.mem_cons_self))
theorem endT {P : Program} {w : World} {K : PySem.W.Frag} {mg : Str → Option Value} {fa : Addr} {k : Nat} {x y : Str} {st : Stmt} {sp : Sp} {cs : List (Addr × Addr)} (hmg : mg x = some (.ref fa)) (d : ∃ f, mg x = some (.ref f) ∧ ∃ fd, Fun K x x st f fd)
    (hb : ∀ (kV doc pm : Value) (an : Option Addr) (cdv ct u : Value), bindArgs (PySem.W.fnOf x x (defArgs st) (defBody st) (defScope st) .none kV doc pm an cdv ct) ⟨[u], []⟩ = pure [(y, u)])
    (F : ∀ base : Heap, (∀ p ∈ cs, LamX.TabB base mg p.1 p.2) → Df P w K mg base k x st [y] sp) :
    ∃ fd : FuncData, (∀ (s : Shared) (u : Value), BindsTo s fd ⟨[u], []⟩ [(y, u)]) ∧ ∀ base : Heap, (∀ p ∈ cs, LamX.TabB base mg p.1 p.2) → FnG P w K mg base CX0 k fa fd [y] sp := by
  obtain ⟨f, hm, fd, U⟩ := d
  have e := hmg.symm.trans hm
  cases e
  refine ⟨fd, fun s u => ?_, fun base B => ?_⟩
  · obtain ⟨oc, od, kV, doc, pm, an, cdv, ct, osl, rfl, lk, hcd⟩ := U.ex
    exact .of_eq (hb kV doc pm an cdv ct u)
  · obtain ⟨f', fd', hm', U', F'⟩ := (F base B).ex
    have e' := hmg.symm.trans hm'
    cases e'
    obtain ⟨oc, od, kV, doc, pm, an, cdv, ct, osl, e1, lk, hcd⟩ := U.ex
    obtain ⟨oc', od', kV', doc', pm', an', cdv', ct', osl', e1', lk', hcd'⟩ := U'.ex
    have e2 := lk.symm.trans lk'
    simp only [Option.some.injEq, Obj.mk.injEq, Data.func.injEq] at e2
    rw [e2.2.2.1]
    exact F'
theorem tb_uniq {a : Addr} {q : Str} : ∀ {T : List (Addr × Str)}, (T.map (·.1)).Nodup → (a, q) ∈ T → ∀ p ∈ T, p.1 = a → p.2 = q
  | [], _, m => nomatch m
  | x :: T, nd, m => by
    rw [List.map_cons, List.nodup_cons] at nd
    obtain ⟨n1, n2⟩ := nd
    intro p hp e
    rcases List.mem_cons.mp m with em | m
    · rcases List.mem_cons.mp hp with ep | hp
      · rw [ep, ← em]
      · exact (n1 (List.mem_map.mpr ⟨p, hp, by rw [e, ← em]⟩)).elim
    · rcases List.mem_cons.mp hp with ep | hp
      · exact (n1 (List.mem_map.mpr ⟨(a, q), m, by rw [← ep, e]⟩)).elim
      · exact tb_uniq n2 m p hp e
end Hf

set_option Elab.async false
set_option linter.all false
set_option maxRecDepth 100000
set_option maxHeartbeats 4000000
namespace Hf
open PySem L2 PySem.Spec PyProof.Rows
/-! ### own classes: instances made, their properties, their == and != -/
theorem RG.make {k : Nat} {A : Around} (r : RG (k + 1) A) (C : Addr) (us : List Value) (kw : List (Str × Value)) : RG k (A.under (.builtin "type.__call__" ⟨.ref C :: us, kw⟩)) :=
  ⟨r.rm.make C us kw, by have g := r.gd; first | exact g | (simpa [Around.under, Code.isGuard, guardIds] using g)⟩
theorem RG.in1 {k : Nat} {A : Around} (r : RG (k + 1) A) : RG k A.in1 := ⟨r.rm.in1, by have g := r.gd; first | exact g | (simpa [Around.in1] using g)⟩
/-- C(e, .., k = v, ..): a new instance and its dict, then __init__, which may raise -/
def tMkI (C : Addr) (n m : Nat) (sp : Sp) (gV : List V → List V → List V) (W : WX) (t tk : TA) : TE := fun σ H Q => t σ H fun vs H1 => tk σ H1 fun zs H2 => vs.length = n ∧ zs.length = m ∧
  ∀ x dx, H2 x = none → H2 dx = none → dx ≠ x → sp (gV (.ref x :: vs) zs) (upd (upd H2 dx (.own x)) x (.ins C dx [])) (fun v H3 => v = .non ∧ Q (.ref x) H3) (fun cls d H' => W cls d σ H')
section
variable {X : Cx} {k j n : Nat} {f C : Addr} {fd : FuncData} {ps ks : List Str} {sp : Sp} {x : Str} {p pos : Pos} {e : Expr} {es : List Expr} {kws : List Keyword} {t tk : TA} {g : List Value → List Value → List Value} {gV : List V → List V → List V} {W : WX}
theorem goMk {pins : List (Addr × Obj)} {σ : L2.St} {H : Hp} {s : Shared} {Q : VK} {us ws : List Value} {vs zs : List V} (tw : Takes X W) (M : Mk X.K C f) (F : FnG X.prog X.w X.K X.mg X.base (L2.CX X.prog X.w) k f fd ps sp) (hr : RG (k + 1) X.A) (hb : KBn X.K fd ps (n + 1) ks g gV)
    (I : Inv X pins σ H s) (r : Vals vs us) (rz : Vals zs ws) (l1 : vs.length = n) (l2 : zs.length = ks.length)
    (h : ∀ x dx, H x = none → H dx = none → dx ≠ x → sp (gV (.ref x :: vs) zs) (upd (upd H dx (.own x)) x (.ins C dx [])) (fun v H2 => v = .non ∧ Q (.ref x) H2) (fun cls d H' => W cls d σ H')) :
    wpAny (model X.prog X.w) X.A (call (.ref C) us (ks.zip ws)) (EP X pins σ Q) X.xe s := by
  have hq := h (s.heap.objs.size + 1) s.heap.objs.size (I.hok.fresh (Nat.le_succ _)) (I.hok.fresh (Nat.le_refl _)) (Nat.ne_of_lt (Nat.lt_succ_self _))
  have I2 := Inv.made (C := C) I
  have r1 : Vals (V.ref (s.heap.objs.size + 1) :: vs) (Value.ref (s.heap.objs.size + 1) :: us) := .cons rfl r
  have r2 := hb.rel r1 rz
  have e1 : (Value.ref (s.heap.objs.size + 1) :: us).length = n + 1 := r1.length.symm.trans (congrArg Nat.succ l1)
  have e2 : ws.length = ks.length := rz.length.symm.trans l2
  refine wpAny_call (make_map (f := f) I.kIn M.makes M.init (beq_iff_eq.mp M.fn) (codeAny_mono (F.go _ X.stack _ _ ⟨Value.ref (s.heap.objs.size + 1) :: us, ks.zip ws⟩ (g (Value.ref (s.heap.objs.size + 1) :: us) ws) _ _ _ (hr.make C us (ks.zip ws))
    (I2.env0.make C us (ks.zip ws)) (hb.to _ (Value.ref (s.heap.objs.size + 1) :: us) ws I2.kIn e1 e2) r2 hq) fun r s' hq' => ?_))
  cases r with
  | error e => exact tw _ _ (XE.of_call I2 (fun cls d H' h => h) hq')
  | ok fl =>
    cases fl with
    | ret u =>
      obtain ⟨v, H', I3, rv, ev, q3⟩ := I2.after hq'
      subst ev
      exact ⟨rv, ⟨V.ref (s.heap.objs.size + 1), H', I3, rfl, q3⟩⟩
    | next => exact False.elim hq'
    | brk => exact False.elim hq'
    | cont => exact False.elim hq'
theorem pe_mkI (tw : Takes X W) (M : Mk X.K C f) (F : FnG X.prog X.w X.K X.mg X.base (L2.CX X.prog X.w) k f fd ps sp) (hr : RG j X.A) (hj : k + 1 ≤ j) (hm : X.mg x = some (.ref C)) (hb : KBn X.K fd ps (n + 1) ks g gV)
    (ha : PA X (e :: es) t) (hkw : PK X kws tk) (hg : Gl X x := by rfl) (hall : (backToKw pos (keywordEach kws X.env)).all (·.1.isSome) = true := by rfl) (hks : (backToKw pos (keywordEach kws X.env)).filterMap (·.1) = ks := by rfl)
    (hdb : (x == ("__debug__" : Str)) = false := by decide) (he : starEach (e :: es) X.env = (false, eval e X.env) :: starEach es X.env := by rfl)
    (hpl : ((backTo pos (starEach (e :: es) X.env)).any (·.1) || (backToKw pos (keywordEach kws X.env)).any (·.1.isNone)) = false := by rfl) :
    PE X (.Call (.Name x p) (e :: es) kws pos) (tMkI C n ks.length sp gV W t tk) := by
  refine ⟨fun pins s σ H Q I h => ?_⟩
  refine wpAny_Call_Name_kw (ld_glob I hg hm ?_ hdb)
  refine PySem.W.callWith_KW (h₀ := X.base) I.ok.mod.kin M.kp hall (thn (ha.run pos pins s σ H _ I h) fun us s1 ⟨vs, H1, I1, r, q⟩ => ?_) hpl he
  refine thn (hkw.run pos pins s1 σ H1 _ I1 q) fun ws s2 ⟨zs, H2, I2, rz, l1, l2, q2⟩ => ⟨I2.kIn, ?_⟩
  rw [hks]
  exact goMk tw M F (hr.mono hj) hb I2 r rz l1 l2 q2
theorem pe_mkI0 (tw : Takes X W) (M : Mk X.K C f) (F : FnG X.prog X.w X.K X.mg X.base (L2.CX X.prog X.w) k f fd ps sp) (hr : RG j X.A) (hj : k + 1 ≤ j) (hm : X.mg x = some (.ref C)) (hb : KBn X.K fd ps 1 ks g gV)
    (hkw : PK X kws tk) (hg : Gl X x := by rfl) (hall : (backToKw pos (keywordEach kws X.env)).all (·.1.isSome) = true := by rfl) (hks : (backToKw pos (keywordEach kws X.env)).filterMap (·.1) = ks := by rfl)
    (hdb : (x == ("__debug__" : Str)) = false := by decide)
    (hpl : ((backTo pos (starEach [] X.env)).any (·.1) || (backToKw pos (keywordEach kws X.env)).any (·.1.isNone)) = false := by rfl) :
    PE X (.Call (.Name x p) [] kws pos) (tMkI C 0 ks.length sp gV W tNil tk) := by
  refine ⟨fun pins s σ H Q I h => ?_⟩
  refine wpAny_Call_Name_kw (ld_glob I hg hm ?_ hdb)
  refine PySem.W.callWith_KW0 (h₀ := X.base) I.ok.mod.kin M.kp hall ?_ hpl
  refine thn (hkw.run pos pins s σ H _ I h) ?_
  rintro ws s2 ⟨zs, H2, I2, rz, q1, q2, q3⟩
  refine ⟨I2.kIn, ?_⟩
  rw [hks]
  exact goMk (n := 0) (us := []) tw M F (hr.mono hj) hb I2 .nil rz q1 q2 q3
end
/-! ### properties -/
/-- e.f, a property of the class C whose getter lets nothing out -/
def tPropG (C : Addr) (sp : Sp) (ta : TE) : TE := fun σ H Q => ta σ H fun x H1 => ∃ a dx fs, x = .ref a ∧ H1 a = some (.ins C dx fs) ∧ sp [.ref a] H1 Q E0
section
variable {X : Cx} {k j : Nat} {C p g a dx : Addr} {fs : List (Str × V)} {f : Str} {fd : FuncData} {sp : Sp} {e : Expr} {pos : Pos} {ta : TE}
theorem goPropG {pins : List (Addr × Obj)} {σ : L2.St} {H : Hp} {s : Shared} {Q : VK} {b : Bool} {E' : Value → Shared → Prop} (I : Inv X pins σ H s) (ea : H a = some (.ins C dx fs)) (c : Cls X.K C) (hp : PropOf X.K C f p g)
    (F : FnG X.prog X.w X.K X.mg X.base CX0 k g fd ["self"] sp) (hb : ∀ (s : Shared) (u : Value), BindsTo s fd ⟨[u], []⟩ [(("self" : Str), u)]) (hr : RG (k + 1) X.A) (h : sp [.ref a] H Q E0) :
    wpAny (model X.prog X.w) X.A (getAttr (.ref a) f b) (EP X pins σ Q) E' s := by
  obtain ⟨mA, O, _, _, _, _⟩ := ins_get I.hok ea
  obtain ⟨od, J, _⟩ := O.look
  obtain ⟨rest, hrec⟩ := hp.rec_
  have I1 := I.tok (s.toks + 1)
  have hc : (PySem.W.clsIn X.K C).isSome = true := by
    obtain ⟨cd, hc, _⟩ := PySem.W.any_some c.hd
    rw [hc]
    rfl
  refine PySem.W.get_bind I.kIn J (PySem.W.plainGet_of (c.get f)).1 (PySem.W.findObj_data hc hp.at_ hp.get hp.tak) (PySem.W.plainGet_of (c.get f)).2 (wpAny_call (PySem.W.prop_get (s := { s with toks := s.toks + 1 }) I.kIn hrec ?_))
  refine codeAny_mono (F.go X.A.in1 X.stack { s with toks := s.toks + 1 } H ⟨[.ref a], []⟩ [.ref a] [.ref a] Q E0 hr.in1 I1.env0.in1 (hb _ _) (.cons rfl .nil) h) fun r s' hq => ?_
  cases r with
  | error er => exact False.elim hq
  | ok fl =>
    cases fl with
    | ret u =>
      obtain ⟨v, H', I3, rv, q3⟩ := I1.after hq
      show wpAny _ _ (handedOut u) _ _ _
      rw [PySem.W.handedOut_of (handed_of rv)]
      exact wpAny_pure ⟨v, H', I3, rv, q3⟩
    | next => exact False.elim hq
    | brk => exact False.elim hq
    | cont => exact False.elim hq
theorem pe_propG (he : PE X e ta) (c : Cls X.K C) (hp : PropOf X.K C f p g) (F : FnG X.prog X.w X.K X.mg X.base CX0 k g fd ["self"] sp) (hb : ∀ (s : Shared) (u : Value), BindsTo s fd ⟨[u], []⟩ [(("self" : Str), u)]) (hr : RG j X.A) (hj : k + 1 ≤ j)
    (hab : attributeBase e f X.env (eval e X.env) = eval e X.env := by rfl) : PE X (.Attribute e f pos) (tPropG C sp ta) := by
  refine ⟨fun pins s σ H Q I h => ?_⟩
  refine attr_of hab (thn (he.run pins s σ H _ I h) fun u s1 ⟨x, H1, I1, rx, a, dx, fs, ex, ea, q⟩ => ?_)
  subst ex
  obtain rfl : u = Value.ref a := rx
  exact goPropG I1 ea c hp F hb (hr.mono hj) q
end
/-! ### == and != by an own __eq__ -/
/-- what == asks of an instance: its class's __eq__ at f, which gives True or False -/
def rEqO (P : Program) (w : World) (K : PySem.W.Frag) (mg : Str → Option Value) (base : Heap) (j : Nat) (neg : Bool) : R2 := fun x y H Q =>
  ∃ (a C dx f : Addr) (fs : List (Str × V)) (t : Value) (k : Nat) (fd : FuncData) (sp : Sp), x = .ref a ∧ H a = some (.ins C dx fs) ∧ PySem.W.findIn K (.ref C) "__eq__" = some (some (.ref f)) ∧ PySem.W.isFn K (.ref f) = true ∧
    PySem.W.findIn K (.ref C) "__ne__" = some (some (.builtin "object.__ne__")) ∧ PySem.W.subIn K (.ref C) (.type "object") = some true ∧ FnG P w K mg base CX0 k f fd ["self", "other"] sp ∧ k + 2 ≤ j ∧
    (∀ (s : Shared) (u v : Value), BindsTo s fd ⟨[u, v], []⟩ [(("self" : Str), u), (("other" : Str), v)]) ∧ TyX K H y t ∧ PySem.W.notFirst K C t = true ∧ sp [.ref a, y] H (fun v H' => ∃ b, v = .bl b ∧ Q (.bl (if neg = true then !b else b)) H') E0
section
variable {X : Cx} {j : Nat}
theorem op_eqO (hr : RG j X.A) : OpR X (compareOp .Eq) (rEqO X.prog X.w X.K X.mg X.base j false) := by
  intro pins s σ H x y v u Q I rx ry hq
  obtain ⟨a, C, dx, f, fs, t, k, fd, sp, rfl, ha, hs, hf, _, _, F, hj, hb, ty, nf, q⟩ := hq
  cases rx
  obtain ⟨mA, O, _⟩ := ins_get I.hok ha
  obtain ⟨od, J, _⟩ := O.look
  obtain ⟨m, hF⟩ := I.fr
  obtain ⟨P, Z, p, _⟩ := kit_of I ry ty
  have hr' : RG k X.A := hr.mono (by omega)
  show wpAny (model X.prog X.w) X.A (richCompare .Eq _ u) (EP X pins σ Q) X.xe s
  refine PySem.W.cmp_K (op := .Eq) (tb := t) hr'.rm.units0 hF I.ok.mod.kin J (Z.ty _ _ I.kIn p) nf hs hf ?_
  refine wpAny_call (codeAny_mono (F.go X.A X.stack s H ⟨[.ref a, u], []⟩ [.ref a, u] [.ref a, y] _ E0 hr' I.env0 (hb s _ _) (.cons rfl (.cons ry .nil)) q) fun r s' hq' => ?_)
  cases r with
  | error e => exact False.elim hq'
  | ok fl =>
    cases fl with
    | ret w =>
      obtain ⟨z, H', I', rz, b, ez, q'⟩ := I.after hq'
      subst ez
      cases rz
      exact ⟨.bl b, H', I', rfl, q'⟩
    | next => exact False.elim hq'
    | brk => exact False.elim hq'
    | cont => exact False.elim hq'
end
end Hf
namespace Hf
open PySem L2 PySem.Spec PyProof.Rows PySem.Calls
section
variable {prog : Program} {w : World} {A : Around} {E : Value → Shared → Prop} {K : PySem.W.Frag} {x C f : Addr} {s : Shared} {ox od : Obj} {tb b : Value}
theorem ne_bound {M : Model} {args : List Value} {Q : Option Value → Shared → Prop} (X : K.In s.heap) (I : PySem.W.InstAt s.heap x ox C od) (hs : PySem.W.findIn K (.ref C) "__ne__" = some (some (.builtin "object.__ne__")))
    (h : wpAny M A (call (.builtin "object.__ne__") (.ref x :: args)) (fun v => Q (some v)) E s) : wpAny M A (callSpecialIfBound? (.ref x) "__ne__" args) Q E s := by
  have S := F.cmp_object.ne
  simp only [callSpecialIfBound?, bindSpecialIfBound?]
  refine wpAny_holding (wpAny_bind (wpAny_bind (wpAny_bind (I.type.here ((PySem.W.looks_findIn X hs).here ?_)))))
  simp only [S.bind]
  refine wpAny_bind (wpAny_askSetting (wpAny_ite ?_))
  have fin : wpAny M A (call (.builtin "object.__ne__") ([.ref x] ++ args) >>= fun v => pure (some v)) Q E s := wpAny_bind (wpAny_mono h (fun v s' h' => wpAny_pure h') fun _ _ h' => h')
  split
  · exact wpAny_bind (wpAny_pure (wpAny_pure fin))
  · exact wpAny_tryCatch (wpAny_bind (wpAny_pure (wpAny_pure fin)))
theorem ne_check {M : Model} {rest : List Value} {Q : Unit → Shared → Prop} (ha : argsOk "object.__ne__" ⟨.ref x :: rest, []⟩) (X : K.In s.heap) (I : PySem.W.InstAt s.heap x ox C od) (hb : PySem.W.subIn K (.ref C) (.type "object") = some true) (hq : Q () s) :
    wpAny M A (checkBuiltinCall "object.__ne__" ⟨.ref x :: rest, []⟩) Q E s := by
  simp only [checkBuiltinCall, F.cmpKind_ne, F.cmpSplit_ne]
  refine wpAny_bind ?_
  unfold isInstance
  refine wpAny_bind (I.type.here ?_)
  refine (PySem.W.looks_subIn X hb).here ?_
  simp only [if_true, Bool.not_true, Bool.false_eq_true, if_false]
  cases hsig : Manifest.signature? "object.__ne__" with
  | none => exact wpAny_pure hq
  | some sig =>
    simp only [argsOk, hsig] at ha
    have h2 : Bind.checkArgs "object.__ne__" sig ⟨.ref x :: rest, []⟩ = pure () := ha
    show wpAny M A (Bind.checkArgs "object.__ne__" sig ⟨.ref x :: rest, []⟩) Q E _
    rw [h2]; exact wpAny_pure hq
def NeWant (E : Value → Shared → Prop) (Q : Value → Shared → Prop) (r : Result) (s' : Shared) : Prop := match r with
  | .ok (.ret v) => ∃ c, v = .bool c ∧ Q (.bool (!c)) s'
  | .ok _ => False
  | .error e => E e s'
theorem ne_entry {Q : Fin → Shared → Prop} (X : K.In s.heap) (I : PySem.W.InstAt s.heap x ox C od) (hu : A.units < cLine) (hs : PySem.W.findIn K (.ref C) "__eq__" = some (some (.ref f))) (hf : PySem.W.isFn K (.ref f) = true)
    (h : codeAny (model prog w) A (.call (.ref f) ⟨[.ref x, b], []⟩) (NeWant E fun v s' => Q (.done (.ret v)) s') s) : wpAny (model prog w) A (Builtin.«object.__ne__» ⟨[.ref x, b], []⟩) Q E s := by
  unfold Builtin.«object.__ne__»
  repeat (first | with_reducible refine wpAny_cRoomFor hu ?_ | (with_reducible refine PySem.W.ifBound_K X I hs hf ?_) | wp_step)
  refine codeAny_mono h (fun r s' hv => ?_)
  rcases r with e | (v | _ | _ | _) <;> first | exact hv | exact hv.elim | skip
  obtain ⟨c, rfl, hq⟩ := hv
  repeat (first | wp_step)
  exact hq
theorem ne_K {Q : Value → Shared → Prop} (hu : A.units + 1 < cLine) (X : K.In s.heap) (I : PySem.W.InstAt s.heap x ox C od) (hb : PySem.W.Looks (model prog w) s.heap (typeOf b) tb) (hn : PySem.W.notFirst K C tb = true)
    (he : PySem.W.findIn K (.ref C) "__eq__" = some (some (.ref f))) (hf : PySem.W.isFn K (.ref f) = true) (hne : PySem.W.findIn K (.ref C) "__ne__" = some (some (.builtin "object.__ne__"))) (ho : PySem.W.subIn K (.ref C) (.type "object") = some true)
    (h : codeAny (model prog w) A.in1 (.call (.ref f) ⟨[.ref x, b], []⟩) (NeWant E Q) s) : wpAny (model prog w) A (richCompare .NotEq (.ref x) b) Q E s := by
  have one : wpAny (model prog w) A (tryCompare (.ref x) "__ne__" b) (fun r s' => ∃ v, r = some v ∧ Q v s') E s := by
    unfold tryCompare
    refine wpAny_bind (ne_bound X I hne (wpAny_call (codeAny_call_builtin (F.cmp_object.ne).plain F.cmpEntry_ne (ne_check (F.cmpArgs_ne _ _) X I ho (ne_entry (A := A.in1) X I (by show A.units + 1 < cLine; exact hu) he hf (codeAny_mono h fun r s' z => ?_))))))
    rcases r with e | (v | _ | _ | _) <;> first | exact z | exact z.elim | skip
    obtain ⟨c, rfl, hq⟩ := z
    refine ⟨c, rfl, ?_⟩
    exact wpAny_pure ⟨_, rfl, hq⟩
  unfold richCompare
  simp only [oneThing_ref]
  refine wpAny_holding (wpAny_bind (wpAny_cRoomFor (Nat.lt_of_succ_lt hu) ?_))
  refine wpAny_bind (I.type.here (wpAny_bind (hb.here ?_)))
  split
  · rename_i q
    have e : PySem.W.subIn K tb (.ref C) = some false := by
      rcases Bool.or_eq_true_iff.mp hn with e | e
      · rw [beq_iff_eq.mp e] at q; simp at q
      · exact beq_iff_eq.mp e
    refine wpAny_bind ((PySem.W.looks_subIn X e).here ?_)
    simp only [Bool.false_eq_true, if_false]
    refine wpAny_bind (wpAny_mono one (fun r s' z => ?_) fun _ _ e => e)
    obtain ⟨v, rfl, hq⟩ := z
    exact wpAny_pure hq
  · refine wpAny_bind (wpAny_pure ?_)
    simp only [Bool.false_eq_true, if_false]
    refine wpAny_bind (wpAny_mono one (fun r s' z => ?_) fun _ _ e => e)
    obtain ⟨v, rfl, hq⟩ := z
    exact wpAny_pure hq
end
end Hf
namespace Hf
open PySem L2 PySem.Spec PyProof.Rows
section
variable {X : Cx} {j : Nat}
theorem op_neO (hr : RG j X.A) : OpR X (compareOp .NotEq) (rEqO X.prog X.w X.K X.mg X.base j true) := by
  intro pins s σ H x y v u Q I rx ry hq
  obtain ⟨a, C, dx, f, fs, t, k, fd, sp, rfl, ha, hs, hf, hn, ho, F, hj, hb, ty, nf, q⟩ := hq
  cases rx
  obtain ⟨mA, O, _⟩ := ins_get I.hok ha
  obtain ⟨od, J, _⟩ := O.look
  obtain ⟨P, Z, p, _⟩ := kit_of I ry ty
  have hr' : RG (k + 1) X.A := hr.mono (by omega)
  show wpAny (model X.prog X.w) X.A (richCompare .NotEq _ u) (EP X pins σ Q) X.xe s
  refine ne_K (tb := t) (by have := hr'.rm.units; omega) I.kIn J (Z.ty _ _ I.kIn p) nf hs hf hn ho ?_
  refine codeAny_mono (F.go X.A.in1 X.stack s H ⟨[.ref a, u], []⟩ [.ref a, u] [.ref a, y] _ E0 hr'.in1 I.env0.in1 (hb s _ _) (.cons rfl (.cons ry .nil)) q) fun r s' hq' => ?_
  cases r with
  | error e => exact False.elim hq'
  | ok fl =>
    cases fl with
    | ret w =>
      obtain ⟨z, H', I', rz, b, ez, q'⟩ := I.after hq'
      subst ez
      cases rz
      exact ⟨b, rfl, ⟨.bl (!b), H', I', rfl, q'⟩⟩
    | next => exact False.elim hq'
    | brk => exact False.elim hq'
    | cont => exact False.elim hq'
end
end Hf
namespace Hf
open PySem L2 PySem.Spec PyProof.Rows
def BT : List String := ["int", "str", "bool", "NoneType", "tuple", "list", "dict"]
/-- what the text says of an own class: the name x, its object at C -/
structure OwnC (K : PySem.W.Frag) (mg : Str → Option Value) (x : Str) (C : Addr) : Prop where
  xn : XN K x (.ref C)
  mg : mg x = some (.ref C)
  cl : Cls K C
  ca : PySem.W.findIn K (.ref C) "__class__" = some (some (.builtin "object.__class__"))
  sp : PySem.W.specialIn K (.builtin "object.__class__") "__get__" = some (some (.builtin "getset_descriptor.__get__"))
  tk : PySem.W.takesIn K (.builtin "object.__class__") = some true
  mo : PySem.W.mroIn K C (.type "object") = some true
  mkr : PySem.W.makesIn K C = true
  kp : PySem.W.keepIn K (.ref C) = true
  io : PySem.W.subIn K (.ref C) (.type "object") = some true
  ii : PySem.W.kitOne K (.ref C) (.ref C) = some true
  nf : PySem.W.notFirst K C (.ref C) = true
  bt : ∀ T ∈ BT, PySem.W.kitOne K (.type T) (.ref C) = some false ∧ PySem.W.notFirst K C (.type T) = true ∧ PySem.W.kitOne K (.ref C) (.type T) = some false
theorem OwnC.ty {K : PySem.W.Frag} {mg : Str → Option Value} {x : Str} {C a dx : Addr} {fs : List (Str × V)} {H : Hp} (o : OwnC K mg x C) (h : H a = some (.ins C dx fs)) : TyX K H (.ref a) (.ref C) := .base (.ins h o.cl o.ca o.sp o.tk o.mo)
end Hf
namespace Hf
open PySem L2 PySem.Spec PyProof.Rows
/-! ### methods of the text, with their promises -/
structure DfM (P : Program) (w : World) (K : PySem.W.Frag) (mg : Str → Option Value) (base : Heap) (CX : CXT) (k : Nat) (x m qual : Str) (st : Stmt) (ps : List Str) (dvs : List V) (kws : List (Str × V)) (sp : Sp) : Prop where
  ex : ∀ C, XN K x (.ref C) → ∃ (f : Addr) (fd : FuncData), PySem.W.findIn K (.ref C) m = some (some (.ref f)) ∧ PySem.W.isFn K (.ref f) = true ∧ FunD K m qual (defArgs st) (defBody st) (defScope st) dvs kws f fd ∧ FnG P w K mg base CX k f fd ps sp
structure DfP (P : Program) (w : World) (K : PySem.W.Frag) (mg : Str → Option Value) (base : Heap) (k : Nat) (x m qual : Str) (st : Stmt) (sp : Sp) : Prop where
  ex : ∀ C, XN K x (.ref C) → ∃ (p f : Addr) (fd : FuncData), PropOf K C m p f ∧ FunD K m qual (defArgs st) (defBody st) (defScope st) [] [] f fd ∧ FnG P w K mg base CX0 k f fd ["self"] sp
section
variable {P : Program} {w : World} {K : PySem.W.Frag} {mg : Str → Option Value} {base : Heap}
/-- .. that lets no exception out -/
theorem okD {x qual : Str} {st : Stmt} {f : Addr} {fd : FuncData} {N ps : List Str} {dvs : List V} {kws : List (Str × V)} {k : Nat} {sp : Sp} (F : FunD K x qual (defArgs st) (defBody st) (defScope st) dvs kws f fd) (S : FnScope N ps (defScope st)) (many : ∀ xs H Q E, sp xs H Q E → xs.length = ps.length)
    (hb : ∀ (cdv : Value) (A : Around) (outer : List Env) (s : Shared) (H : Hp) (xs : List V) (Q : VK) (E : XK), RG k (A.deeper (envOfC qual (defScope st) s.heap.objs.size f cdv)) → sp xs H Q E →
      ∃ t, PSs (cxOf CX0 P w K mg base N qual (defScope st) f cdv A outer s H E).nox (defBody st) t ∧ t { nx := fun _ H' => Q .non H', rt := Q } (start N xs) H) : FnG P w K mg base CX0 (k + 1) f fd ps sp := by
  obtain ⟨oc, od, dV, kV, doc, pm, an, cdv, ct, osl, rfl, lk, hcd, hD, hK⟩ := F.ex
  refine fnG_of lk hcd S many ?_
  intro A outer s H xs Q E r q
  obtain ⟨t, h, z⟩ := hb cdv A outer s H xs Q E r q
  exact ⟨t, h.nox, z⟩
/-- .. that may raise -/
theorem okDX {x qual : Str} {st : Stmt} {f : Addr} {fd : FuncData} {N ps : List Str} {dvs : List V} {kws : List (Str × V)} {k : Nat} {sp : Sp} (F : FunD K x qual (defArgs st) (defBody st) (defScope st) dvs kws f fd) (S : FnScope N ps (defScope st)) (many : ∀ xs H Q E, sp xs H Q E → xs.length = ps.length)
    (hb : ∀ (cdv : Value) (A : Around) (outer : List Env) (s : Shared) (H : Hp) (xs : List V) (Q : VK) (E : XK), RG k (A.deeper (envOfC qual (defScope st) s.heap.objs.size f cdv)) → sp xs H Q E →
      ∃ t, PSs (cxOf (L2.CX P w) P w K mg base N qual (defScope st) f cdv A outer s H E) (defBody st) t ∧ t { nx := fun _ H' => Q .non H', rt := Q } (start N xs) H) : FnG P w K mg base (L2.CX P w) (k + 1) f fd ps sp := by
  obtain ⟨oc, od, dV, kV, doc, pm, an, cdv, ct, osl, rfl, lk, hcd, hD, hK⟩ := F.ex
  exact fnG_of lk hcd S many fun A outer s H xs Q E r q => hb cdv A outer s H xs Q E r q
end
theorem vtake {xs : List V} {us : List Value} (r : Vals xs us) (n : Nat) : Vals (xs.take n) (us.take n) := by
  induction n generalizing xs us with
  | zero => exact .nil
  | succ n ih =>
    cases r with
    | nil => exact .nil
    | cons a b => exact .cons a (ih b)
/-- one of a list's items, as a list -/
def pick {α : Type} (xs : List α) (i : Nat) : List α := (xs.drop i).take 1
theorem vpick {xs : List V} {us : List Value} (r : Vals xs us) (i : Nat) : Vals (pick xs i) (pick us i) := vtake (r.drop i) 1
theorem vcat {xs ys : List V} {us ws : List Value} (r : Vals xs us) (q : Vals ys ws) : Vals (xs ++ ys) (us ++ ws) := r.append q
/-- C(..): the class by its name -/
def tMkC (K : PySem.W.Frag) (mg : Str → Option Value) (c : Str) (n m : Nat) (sp : Sp) (gV : List V → List V → List V) (W : WX) (t tk : TA) : TE := fun σ H Q => t σ H fun vs H1 => tk σ H1 fun zs H2 => vs.length = n ∧ zs.length = m ∧
  ∀ C x dx, OwnC K mg c C → H2 x = none → H2 dx = none → dx ≠ x → sp (gV (.ref x :: vs) zs) (upd (upd H2 dx (.own x)) x (.ins C dx [])) (fun v H3 => v = .non ∧ Q (.ref x) H3) (fun cls d H' => W cls d σ H')
/-- e.f, a property of the class c -/
def tPropC (K : PySem.W.Frag) (c : Str) (sp : Sp) (ta : TE) : TE := fun σ H Q => ta σ H fun x H1 => ∃ a C dx fs, x = .ref a ∧ XN K c (.ref C) ∧ H1 a = some (.ins C dx fs) ∧ sp [.ref a] H1 Q E0
section
variable {X : Cx} {k j n : Nat} {c m qual : Str} {st : Stmt} {ps ks : List Str} {dvs mz : List V} {kw : List (Str × V)} {sp : Sp} {p pos : Pos} {e : Expr} {es : List Expr} {kws : List Keyword} {t tk : TA} {ta : TE} {W : WX} {g : {α : Type} → List α → List α → List α → List α → List α}
theorem pe_mkC (o : ∃ C, OwnC X.K X.mg c C) (tw : Takes X W) (D : DfM X.prog X.w X.K X.mg X.base (L2.CX X.prog X.w) k c "__init__" qual st ps dvs kw sp) (hr : RG j X.A) (hj : k + 1 ≤ j)
    (kb : ∀ f fd, FunD X.K "__init__" qual (defArgs st) (defBody st) (defScope st) dvs kw f fd → ∃ its mv : List Value, KBn X.K fd ps (n + 1) ks (fun us ws => g us its mv ws) (fun vs zs => g vs dvs mz zs))
    (ha : PA X (e :: es) t) (hkw : PK X kws tk) (hg : Gl X c := by rfl) (hall : (backToKw pos (keywordEach kws X.env)).all (·.1.isSome) = true := by rfl) (hks : (backToKw pos (keywordEach kws X.env)).filterMap (·.1) = ks := by rfl)
    (hdb : (c == ("__debug__" : Str)) = false := by decide) (he : starEach (e :: es) X.env = (false, eval e X.env) :: starEach es X.env := by rfl)
    (hpl : ((backTo pos (starEach (e :: es) X.env)).any (·.1) || (backToKw pos (keywordEach kws X.env)).any (·.1.isNone)) = false := by rfl) :
    PE X (.Call (.Name c p) (e :: es) kws pos) (tMkC X.K X.mg c n ks.length sp (fun vs zs => g vs dvs mz zs) W t tk) := by
  obtain ⟨C, o⟩ := o
  obtain ⟨f, fd, h1, h2, FD, F⟩ := D.ex C o.xn
  obtain ⟨its, mv, hb⟩ := kb f fd FD
  refine ⟨fun pins s σ H Q I h => ?_⟩
  refine wpAny_Call_Name_kw (ld_glob I hg o.mg ?_ hdb)
  refine PySem.W.callWith_KW (h₀ := X.base) I.ok.mod.kin o.kp hall (thn (ha.run pos pins s σ H _ I h) fun us s1 ⟨vs, H1, I1, r, q⟩ => ?_) hpl he
  refine thn (hkw.run pos pins s1 σ H1 _ I1 q) fun ws s2 ⟨zs, H2, I2, rz, l1, l2, q2⟩ => ⟨I2.kIn, ?_⟩
  rw [hks]
  exact goMk tw ⟨o.mkr, h1, h2, o.kp⟩ F (hr.mono hj) hb I2 r rz l1 l2 fun x dx a b d => q2 C x dx o a b d
theorem pe_mkC0 (o : ∃ C, OwnC X.K X.mg c C) (tw : Takes X W) (D : DfM X.prog X.w X.K X.mg X.base (L2.CX X.prog X.w) k c "__init__" qual st ps dvs kw sp) (hr : RG j X.A) (hj : k + 1 ≤ j)
    (kb : ∀ f fd, FunD X.K "__init__" qual (defArgs st) (defBody st) (defScope st) dvs kw f fd → ∃ its mv : List Value, KBn X.K fd ps 1 ks (fun us ws => g us its mv ws) (fun vs zs => g vs dvs mz zs))
    (hkw : PK X kws tk) (hg : Gl X c := by rfl) (hall : (backToKw pos (keywordEach kws X.env)).all (·.1.isSome) = true := by rfl) (hks : (backToKw pos (keywordEach kws X.env)).filterMap (·.1) = ks := by rfl)
    (hdb : (c == ("__debug__" : Str)) = false := by decide)
    (hpl : ((backTo pos (starEach [] X.env)).any (·.1) || (backToKw pos (keywordEach kws X.env)).any (·.1.isNone)) = false := by rfl) :
    PE X (.Call (.Name c p) [] kws pos) (tMkC X.K X.mg c 0 ks.length sp (fun vs zs => g vs dvs mz zs) W tNil tk) := by
  obtain ⟨C, o⟩ := o
  obtain ⟨f, fd, h1, h2, FD, F⟩ := D.ex C o.xn
  obtain ⟨its, mv, hb⟩ := kb f fd FD
  refine ⟨fun pins s σ H Q I h => ?_⟩
  refine wpAny_Call_Name_kw (ld_glob I hg o.mg ?_ hdb)
  refine PySem.W.callWith_KW0 (h₀ := X.base) I.ok.mod.kin o.kp hall ?_ hpl
  refine thn (hkw.run pos pins s σ H _ I h) ?_
  rintro ws s2 ⟨zs, H2, I2, rz, q1, q2, q3⟩
  refine ⟨I2.kIn, ?_⟩
  rw [hks]
  exact goMk (n := 0) (us := []) tw ⟨o.mkr, h1, h2, o.kp⟩ F (hr.mono hj) hb I2 .nil rz q1 q2 fun x dx a b d => q3 C x dx o a b d
theorem pe_propC (he : PE X e ta) (o : ∃ C, OwnC X.K X.mg c C) (D : DfP X.prog X.w X.K X.mg X.base k c m qual st sp) (hr : RG j X.A) (hj : k + 1 ≤ j)
    (hb : ∀ (kV doc pm : Value) (an : Option Addr) (cdv ct : Value) (us : List Value), us.length = ["self"].length → bindArgs (PySem.W.fnOf m qual (defArgs st) (defBody st) (defScope st) .none kV doc pm an cdv ct) ⟨us, []⟩ = pure ([("self" : Str)].zip us))
    (hab : attributeBase e m X.env (eval e X.env) = eval e X.env := by rfl) : PE X (.Attribute e m pos) (tPropC X.K c sp ta) := by
  obtain ⟨C, o⟩ := o
  obtain ⟨p, f, fd, hp, FD, F⟩ := D.ex C o.xn
  refine ⟨fun pins s σ H Q I h => ?_⟩
  refine attr_of hab (thn (he.run pins s σ H _ I h) fun u s1 ⟨x, H1, I1, rx, a, C', dx, fs, ex, xc, ea, q⟩ => ?_)
  subst ex
  obtain rfl : u = Value.ref a := rx
  obtain rfl := Value.ref.inj (XN.inj xc o.xn)
  exact goPropG I1 ea o.cl hp F (fun s u => FD.bindsA (ps := ["self"]) hb s [u] rfl) (hr.mono hj) q
end
section
variable {P : Program} {w : World} {K : PySem.W.Frag} {mg : Str → Option Value} {base : Heap} {j k : Nat} {neg : Bool} {x qual : Str} {C a dx : Addr} {fs : List (Str × V)} {H : Hp} {y : V} {t : Value} {st : Stmt} {sp : Sp} {Q : VK}
/-- a == y, a != y for an instance a of the class x -/
theorem g_eqO (o : OwnC K mg x C) (ha : H a = some (.ins C dx fs)) (D : DfM P w K mg base CX0 k x "__eq__" qual st ["self", "other"] [] [] sp) (hne : PySem.W.findIn K (.ref C) "__ne__" = some (some (.builtin "object.__ne__"))) (hj : k + 2 ≤ j)
    (hb : ∀ (kV doc pm : Value) (an : Option Addr) (cdv ct : Value) (us : List Value), us.length = ["self", "other"].length → bindArgs (PySem.W.fnOf "__eq__" qual (defArgs st) (defBody st) (defScope st) .none kV doc pm an cdv ct) ⟨us, []⟩ = pure ([("self" : Str), "other"].zip us))
    (ty : TyX K H y t) (nf : PySem.W.notFirst K C t = true) (q : sp [.ref a, y] H (fun v H' => ∃ b, v = .bl b ∧ Q (.bl (if neg = true then !b else b)) H') E0) : rEqO P w K mg base j neg (.ref a) y H Q := by
  obtain ⟨f, fd, h1, h2, FD, F⟩ := D.ex C o.xn
  exact ⟨a, C, dx, f, fs, t, k, fd, sp, rfl, ha, h1, h2, hne, o.io, F, hj, fun s u v => FD.bindsA (ps := ["self", "other"]) hb s [u, v] rfl, ty, nf, q⟩
end
section
variable {σ : L2.St} {H : Hp} {Q : VK} {K : PySem.W.Frag} {mg : Str → Option Value} {c f : Str} {n m : Nat} {sp : Sp} {gV : List V → List V → List V} {W : WX} {t tk : TA} {ta tv : TE} {D : Ends} {a C dx : Addr} {fs : List (Str × V)} {v : V}
theorem g_mkC (q : t σ H fun vs H1 => tk σ H1 fun zs H2 => vs.length = n ∧ zs.length = m ∧ ∀ C x dx, OwnC K mg c C → H2 x = none → H2 dx = none → dx ≠ x → sp (gV (.ref x :: vs) zs) (upd (upd H2 dx (.own x)) x (.ins C dx [])) (fun v H3 => v = .non ∧ Q (.ref x) H3) (fun cls d H' => W cls d σ H')) : tMkC K mg c n m sp gV W t tk σ H Q := q
theorem g_propC (q : ta σ H fun x H1 => ∃ a C dx fs, x = .ref a ∧ XN K c (.ref C) ∧ H1 a = some (.ins C dx fs) ∧ sp [.ref a] H1 Q E0) : tPropC K c sp ta σ H Q := q
theorem g_ins (h : H a = some (.ins C dx fs)) (x : XN K c (.ref C)) (q : sp [.ref a] H Q E0) : ∃ a' C' dx' fs', V.ref a = .ref a' ∧ XN K c (.ref C') ∧ H a' = some (.ins C' dx' fs') ∧ sp [.ref a'] H Q E0 := ⟨_, _, _, _, rfl, x, h, q⟩
theorem g_fldT (q : ta σ H fun x H1 => ∃ a C dx fs v, x = .ref a ∧ H1 a = some (.ins C dx fs) ∧ Cls K C ∧ NoAttr K C f ∧ fs.lookup f = some v ∧ Q v H1) : tFld K ta f σ H Q := q
theorem g_fldA (h : H a = some (.ins C dx fs)) (cl : Cls K C) (na : NoAttr K C f) (l : fs.lookup f = some v) (q : Q v H) : ∃ a' C' dx' fs' v', V.ref a = .ref a' ∧ H a' = some (.ins C' dx' fs') ∧ Cls K C' ∧ NoAttr K C' f ∧ fs'.lookup f = some v' ∧ Q v' H := ⟨_, _, _, _, _, rfl, h, cl, na, l, q⟩
theorem g_sfldT (q : tv σ H fun y H1 => ta σ H1 fun x H2 => ∃ a C dx fs, x = .ref a ∧ H2 a = some (.ins C dx fs) ∧ Cls K C ∧ NoAttr K C f ∧ fs.length < 1000 ∧ D.nx σ (upd H2 a (.ins C dx (putF f y fs)))) : sFld K ta tv f D σ H := q
theorem g_sfldA {P : Hp → Prop} (h : H a = some (.ins C dx fs)) (cl : Cls K C) (na : NoAttr K C f) (l : fs.length < 1000) (q : P (upd H a (.ins C dx (putF f v fs)))) : ∃ a' C' dx' fs', V.ref a = .ref a' ∧ H a' = some (.ins C' dx' fs') ∧ Cls K C' ∧ NoAttr K C' f ∧ fs'.length < 1000 ∧ P (upd H a' (.ins C' dx' (putF f v fs'))) := ⟨_, _, _, _, rfl, h, cl, na, l, q⟩
theorem g_isO {mgx : Str → Option Value} {x : Str} (o : OwnC K mgx x C) (h : H a = some (.ins C dx fs)) (q : Q (.bl true) H) : rIsi K [.ref a, .ref C] H Q := ⟨.ref a, .ref C, .ref C, .ref C, true, rfl, .own C, o.ty h, o.ii, q⟩
theorem g_isOT {mgx : Str → Option Value} {x : Str} {T : String} (o : OwnC K mgx x C) (h : H a = some (.ins C dx fs)) (hT : T ∈ BT) (q : Q (.bl false) H) : rIsi K [.ref a, .ty T] H Q := ⟨.ref a, .ty T, .ref C, .type T, false, rfl, .ty T, o.ty h, (o.bt T hT).2.2, q⟩
theorem g_isTO {mgx : Str → Option Value} {x : Str} {T : String} {y : V} (o : OwnC K mgx x C) (ty : TyX K H y (.type T)) (hT : T ∈ BT) (q : Q (.bl false) H) : rIsi K [y, .ref C] H Q := ⟨y, .ref C, .type T, .ref C, false, rfl, .own C, ty, (o.bt T hT).1, q⟩
end
/-! rules within a comprehension or a lambda -/
theorem opO {X : Cx} {P : Program} {w : World} {K : PySem.W.Frag} {mg : Str → Option Value} {base : Heap} {f : Value → Value → Sem Value} {j : Nat} {neg : Bool} (h1 : X.prog = P) (h2 : X.w = w) (h3 : X.K = K) (h4 : X.mg = mg) (h5 : X.base = base) (o : OpR X f (rEqO X.prog X.w X.K X.mg X.base j neg)) : OpR X f (rEqO P w K mg base j neg) := by
  subst h1 h2 h3 h4 h5
  exact o
theorem mkK {X : Cx} {K : PySem.W.Frag} {mg : Str → Option Value} {e : Expr} {c : Str} {n m : Nat} {sp : Sp} {gV : List V → List V → List V} {W : WX} {t tk : TA} (h3 : X.K = K) (h4 : X.mg = mg) (o : PE X e (tMkC X.K X.mg c n m sp gV W t tk)) : PE X e (tMkC K mg c n m sp gV W t tk) := by
  subst h3 h4
  exact o
theorem propK {X : Cx} {K : PySem.W.Frag} {e : Expr} {c : Str} {sp : Sp} {ta : TE} (h3 : X.K = K) (o : PE X e (tPropC X.K c sp ta)) : PE X e (tPropC K c sp ta) := by
  subst h3
  exact o
/-- the j-th statement of a class -/
def clsAt (st : Stmt) (j : Nat) : Stmt := match st with
  | .ClassDef _ _ _ body _ _ _ _ _ _ _ => body.getD j (.Pass ⟨0, 0, 0, 0⟩)
  | _ => .Pass ⟨0, 0, 0, 0⟩
end Hf
namespace Hf
open PySem L2 PySem.Spec PyProof.Rows
/-! ### a for over known items, turn by turn -/
def unr (St : Hp → Prop) (g : TG) (tb : TS) (D : Ends) : List V → L2.St → Hp → Prop
  | [], σ, H => D.nx σ H
  | x :: xs, σ, H => g x σ H fun σ2 H2 => tb { D with nx := fun σ3 H3 => St H3 ∧ unr St g tb D xs σ3 H3, ct := fun σ3 H3 => St H3 ∧ unr St g tb D xs σ3 H3, bk := D.nx } σ2 H2
section
variable {K : PySem.W.Frag} {St : Hp → Prop} {g : TG} {tb : TS} {D : Ends} {σ : L2.St} {H : Hp} {a : Addr} {xs : List V} {te : TE} {x : V}
theorem unr_T (h : SqT K H a xs) (q : unr (fun H => SqT K H a xs) g tb D xs σ H) : (∃ xs, SqT K H a xs) ∧ ∃ W : Nat → Nat → L2.St → Hp → Prop, (∃ m, W 0 m σ H) ∧ ∀ i m σ H, W i m σ H →
      ((Itt K a).stop i H ∧ D.nx σ H) ∨ ((Itt K a).go i H ∧ ∃ N : L2.St → Hp → Prop, (∀ σ' H', N σ' H' → ∃ m', m' < m ∧ W (i + 1) m' σ' H') ∧ ∀ x H', (Itt K a).yld i H x H' → g x σ H' fun σ2 H2 => tb { D with nx := N, ct := N, bk := D.nx } σ2 H2) := by
  refine ⟨⟨xs, h⟩, for_tup (fun i σ' H' => SqT K H' a xs ∧ unr (fun H => SqT K H a xs) g tb D (xs.drop i) σ' H') ⟨h, q⟩ (fun i σ' H' _ p => p.1) ?_ ?_⟩
  · rintro i x σ' H' hx ⟨_, p⟩
    obtain ⟨hi, e⟩ := List.getElem?_eq_some_iff.mp hx
    rw [List.drop_eq_getElem_cons hi, e] at p
    exact p
  · rintro σ' H' ⟨_, p⟩
    rw [List.drop_length] at p
    exact p
theorem unr_L (h : SqL K H a xs) (q : unr (fun H => SqL K H a xs) g tb D xs σ H) : (∃ xs, SqL K H a xs) ∧ ∃ W : Nat → Nat → L2.St → Hp → Prop, (∃ m, W 0 m σ H) ∧ ∀ i m σ H, W i m σ H →
      ((Itl K a).stop i H ∧ D.nx σ H) ∨ ((Itl K a).go i H ∧ ∃ N : L2.St → Hp → Prop, (∀ σ' H', N σ' H' → ∃ m', m' < m ∧ W (i + 1) m' σ' H') ∧ ∀ x H', (Itl K a).yld i H x H' → g x σ H' fun σ2 H2 => tb { D with nx := N, ct := N, bk := D.nx } σ2 H2) := by
  refine ⟨⟨xs, h⟩, for_it walk_list (fun i σ' H' => SqL K H' a xs ∧ unr (fun H => SqL K H a xs) g tb D (xs.drop i) σ' H') ⟨h, q⟩ (fun i σ' H' _ p => p.1) ?_ ?_⟩
  · rintro i x σ' H1 H' hi ⟨_, p⟩ ⟨rfl, hx⟩
    obtain ⟨hi, e⟩ := List.getElem?_eq_some_iff.mp hx
    rw [List.drop_eq_getElem_cons hi, e] at p
    exact p
  · rintro σ' H' ⟨_, p⟩
    rw [List.drop_length] at p
    exact p
theorem g_forT0 (q : te σ H fun v H1 => ∃ a, v = V.ref a ∧ (∃ xs, SqT K H1 a xs) ∧ ∃ W : Nat → Nat → L2.St → Hp → Prop, (∃ m, W 0 m σ H1) ∧ ∀ i m σ H, W i m σ H →
      ((Itt K a).stop i H ∧ D.nx σ H) ∨ ((Itt K a).go i H ∧ ∃ N : L2.St → Hp → Prop, (∀ σ' H', N σ' H' → ∃ m', m' < m ∧ W (i + 1) m' σ' H') ∧ ∀ x H', (Itt K a).yld i H x H' → g x σ H' fun σ2 H2 => tb { D with nx := N, ct := N, bk := D.nx } σ2 H2)) : tFor (iTup K te) g tb D σ H := q
theorem g_unT (h : SqT K H a xs) (q : unr (fun H => SqT K H a xs) g tb D xs σ H) : ∃ a', V.ref a = V.ref a' ∧ (∃ xs, SqT K H a' xs) ∧ ∃ W : Nat → Nat → L2.St → Hp → Prop, (∃ m, W 0 m σ H) ∧ ∀ i m σ H, W i m σ H →
      ((Itt K a').stop i H ∧ D.nx σ H) ∨ ((Itt K a').go i H ∧ ∃ N : L2.St → Hp → Prop, (∀ σ' H', N σ' H' → ∃ m', m' < m ∧ W (i + 1) m' σ' H') ∧ ∀ x H', (Itt K a').yld i H x H' → g x σ H' fun σ2 H2 => tb { D with nx := N, ct := N, bk := D.nx } σ2 H2) := ⟨a, rfl, unr_T h q⟩
theorem g_unL (h : SqL K H a xs) (q : unr (fun H => SqL K H a xs) g tb D xs σ H) : ∃ a', V.ref a = V.ref a' ∧ (∃ xs, SqL K H a' xs) ∧ ∃ W : Nat → Nat → L2.St → Hp → Prop, (∃ m, W 0 m σ H) ∧ ∀ i m σ H, W i m σ H →
      ((Itl K a').stop i H ∧ D.nx σ H) ∨ ((Itl K a').go i H ∧ ∃ N : L2.St → Hp → Prop, (∀ σ' H', N σ' H' → ∃ m', m' < m ∧ W (i + 1) m' σ' H') ∧ ∀ x H', (Itl K a').yld i H x H' → g x σ H' fun σ2 H2 => tb { D with nx := N, ct := N, bk := D.nx } σ2 H2) := ⟨a, rfl, unr_L h q⟩
theorem g_unC (q : g x σ H fun σ2 H2 => tb { D with nx := fun σ3 H3 => St H3 ∧ unr St g tb D xs σ3 H3, ct := fun σ3 H3 => St H3 ∧ unr St g tb D xs σ3 H3, bk := D.nx } σ2 H2) : unr St g tb D (x :: xs) σ H := q
theorem g_unN (q : D.nx σ H) : unr St g tb D [] σ H := q
theorem g_unK {P : Prop} (h : St H) (q : P) : St H ∧ P := ⟨h, q⟩
theorem g_unKT {ys : List V} (h : SqT K H a xs) (q : unr St g tb D ys σ H) : SqT K H a xs ∧ unr St g tb D ys σ H := ⟨h, q⟩
theorem g_unKL {ys : List V} (h : SqL K H a xs) (q : unr St g tb D ys σ H) : SqL K H a xs ∧ unr St g tb D ys σ H := ⟨h, q⟩
end
end Hf
namespace Hf
open PySem L2 PySem.Spec PyProof.Rows
/-! ### a tuple or a list unpacked -/
def gSeq (K : PySem.W.Frag) (n : Nat) (t : TGs) : TG := fun v σ H Q => gTup K n t v σ H Q ∨ gUnl K n t v σ H Q
theorem pg_seq {X : Cx} {es : List Expr} {k : Nat} {t : TGs} {n : Nat} {pos : Pos} (hc : X.calm = true) (h : PGs X es t)
    (hn : (assignEach es X.env).length = n := by rfl) (hst : (assignEach es X.env).findIdx? (·.1) = none := by rfl) : PG X (.Tuple es k pos) (gSeq X.K n t) :=
  ⟨fun pins s σ H v u Q I r hw => hw.elim (fun q => (pg_tup (pos := pos) (k := k) hc h hn hst).run pins s σ H v u Q I r q) (fun q => (pg_unl (pos := pos) (k := k) hc h hn hst).run pins s σ H v u Q I r q)⟩
section
variable {K : PySem.W.Frag} {σ : L2.St} {H : Hp} {Q : L2.St → Hp → Prop} {a : Addr} {xs : List V} {n : Nat} {t : TGs}
theorem g_seqT (h : SqT K H a xs) (hl : xs.length = n) (q : t xs σ H Q) : gSeq K n t (.ref a) σ H Q := .inl ⟨a, xs, rfl, h, hl, q⟩
theorem g_seqL (h : SqL K H a xs) (hl : xs.length = n) (q : t xs σ H Q) : gSeq K n t (.ref a) σ H Q := .inr ⟨a, xs, rfl, h, hl, q⟩
theorem g_argsC {m : Nat} {vs zs : List V} {mg : Str → Option Value} {c : Str} {H : Hp} {P : Addr → Addr → Addr → Prop} (h1 : vs.length = n) (h2 : zs.length = m) (q : ∀ C x dx, OwnC K mg c C → H x = none → H dx = none → dx ≠ x → P C x dx) :
    vs.length = n ∧ zs.length = m ∧ ∀ C x dx, OwnC K mg c C → H x = none → H dx = none → dx ≠ x → P C x dx := ⟨h1, h2, q⟩
/-- nothing of H is lost by a new instance and its dict -/
theorem Same.ins {H0 H : Hp} {x dx : Addr} {o u : HO} (hx : H x = none) (hd : H dx = none) (s : Same H0 H) : Same H0 (L2.upd (L2.upd H dx o) x u) := fun b v z => by
  have q := s b v z
  rw [upd_ne (ne_of_none q hx), upd_ne (ne_of_none q hd)]
  exact q
end
end Hf
namespace Hf
open PySem L2 PySem.Spec PyProof.Rows
section
variable {K : PySem.W.Frag} {H : Hp} {Q : VK} {a b : Addr} {xs ys : List V} {x y : V}
/-- tuple + tuple, neither of them empty -/
theorem g_catT (h1 : SqT K H a (x :: xs)) (h2 : SqT K H b (y :: ys)) (hz : (x :: xs).length + (y :: ys).length ≤ 100000) (q : ∀ p, H p = none → Q (.ref p) (upd H p (.tup (x :: xs ++ y :: ys)))) : rAddA K (.ref a) (.ref b) H Q :=
  .inr (.inr (.inr ⟨a, b, _, _, rfl, rfl, h1, h2, Nat.le_trans hz (by decide), (fun h => nomatch h), (fun _ h => nomatch h), fun _ _ => q⟩))
theorem g_lstOfL (h : SqL K H a xs) (q : ∀ l, H l = none → Q (.ref l) (upd H l (.lst xs))) : ∃ p ys, [V.ref a] = [V.ref p] ∧ (SqL K H p ys ∨ SqT K H p ys) ∧ ∀ l, H l = none → Q (.ref l) (upd H l (.lst ys)) := ⟨a, xs, rfl, .inl h, q⟩
theorem g_lstOfT (h : SqT K H a xs) (q : ∀ l, H l = none → Q (.ref l) (upd H l (.lst xs))) : ∃ p ys, [V.ref a] = [V.ref p] ∧ (SqL K H p ys ∨ SqT K H p ys) ∧ ∀ l, H l = none → Q (.ref l) (upd H l (.lst ys)) := ⟨a, xs, rfl, .inr h, q⟩
end
theorem eqv_ints : ∀ ns ms : List Int, PyData.eqvAll (ns.map PyData.int) (ms.map PyData.int) = decide (ns = ms)
  | [], [] => rfl
  | [], _ :: _ => by simp [PyData.eqvAll]
  | _ :: _, [] => by simp [PyData.eqvAll]
  | n :: ns, m :: ms => by
    rw [List.map_cons, List.map_cons, PyData.eqvAll, eqv_ints ns ms]
    have e : PyData.eqv (.int n) (.int m) = (n == m) := by rw [PyData.eqv]
    rw [e]
    by_cases h : n = m <;> simp [h]
end Hf

set_option Elab.async false
set_option linter.all false
set_option maxRecDepth 100000
set_option maxHeartbeats 4000000
namespace Hf
open PySem L2 PySem.Spec PyProof.Rows
/-! ### methods of own classes, called by name with keywords; they may raise -/
theorem kbindsN {K : PySem.W.Frag} {x qual : Str} {params : Arguments} {body : List Stmt} {scope : Scope} {kws : List (Str × V)} {f : Addr} {fd : FuncData} {ps : List Str} (F : FunD K x qual params body scope [] kws f fd) (n : Nat) (ks : List Str) (g : {α : Type} → List α → List α → List α)
    (hrel : ∀ {vs zs : List V} {us ws : List Value}, Vals vs us → Vals zs ws → Vals (g vs zs) (g us ws))
    (h : ∀ (kV doc pm : Value) (an : Option Addr) (cdv ct : Value) (us ws : List Value), us.length = n → ws.length = ks.length → bindArgs (PySem.W.fnOf x qual params body scope .none kV doc pm an cdv ct) ⟨us, ks.zip ws⟩ = pure (ps.zip (g us ws))) :
    KBn K fd ps n ks (fun us ws => g us ws) (fun vs zs => g vs zs) := by
  obtain ⟨oc, od, dV, kV, doc, pm, an, cdv, ct, osl, rfl, lk, hcd, hD, hK⟩ := F.ex
  rcases hD with ⟨_, rfl⟩ | ⟨e, _⟩
  · exact ⟨fun s us ws X l1 l2 => .of_eq (h kV doc pm an cdv ct us ws l1 l2), fun r1 r2 => hrel r1 r2⟩
  · exact absurd rfl e
def tMethC (K : PySem.W.Frag) (c m : Str) (n k : Nat) (sp : Sp) (gV : List V → List V → List V) (W : WX) (ta : TE) (t tk : TA) : TE := fun σ H Q => ta σ H fun x H1 => ∃ a C dx fs, x = .ref a ∧ XN K c (.ref C) ∧ H1 a = some (.ins C dx fs) ∧ fs.lookup m = none ∧
  t σ H1 fun vs H2 => tk σ H2 fun zs H3 => vs.length = n ∧ zs.length = k ∧ sp (gV (.ref a :: vs) zs) H3 Q (fun cls d H' => W cls d σ H')
section
variable {X : Cx} {k j n : Nat} {c m qual : Str} {st : Stmt} {ps ks : List Str} {dvs mz : List V} {kw : List (Str × V)} {sp : Sp} {apos pos : Pos} {oe e : Expr} {es : List Expr} {kws : List Keyword} {t tk : TA} {ta : TE} {W : WX} {g : {α : Type} → List α → List α → List α → List α → List α} {pl : Sem Bool}
theorem pe_methC (he : PE X oe ta) (o : ∃ C, OwnC X.K X.mg c C) (tw : Takes X W) (D : DfM X.prog X.w X.K X.mg X.base (L2.CX X.prog X.w) k c m qual st ps dvs kw sp) (hr : RG j X.A) (hj : k ≤ j)
    (kb : ∀ f fd, FunD X.K m qual (defArgs st) (defBody st) (defScope st) dvs kw f fd → ∃ its mv : List Value, KBn X.K fd ps (n + 1) ks (fun us ws => g us its mv ws) (fun vs zs => g vs dvs mz zs))
    (ha : PA X (e :: es) t) (hkw : PK X kws tk) (hall : (backToKw pos (keywordEach kws X.env)).all (·.1.isSome) = true := by rfl) (hks : (backToKw pos (keywordEach kws X.env)).filterMap (·.1) = ks := by rfl)
    (hst : starEach (e :: es) X.env = (false, eval e X.env) :: starEach es X.env := by rfl)
    (hpl : ((backTo pos (starEach (e :: es) X.env)).any (·.1) || (backToKw pos (keywordEach kws X.env)).any (·.1.isNone)) = false := by rfl)
    (ht : eval (.Call (.Attribute oe m apos) (e :: es) kws pos) X.env = (do
      let ov ← eval oe X.env
      standAt apos.atName
      let (f, first) ← holding [ov] (getMethod ov m pl)
      callWith pos f first (backTo pos (starEach (e :: es) X.env)) (backToKw pos (keywordEach kws X.env))) := by rfl) :
    PE X (.Call (.Attribute oe m apos) (e :: es) kws pos) (tMethC X.K c m n ks.length sp (fun vs zs => g vs dvs mz zs) W ta t tk) := by
  obtain ⟨C, o⟩ := o
  obtain ⟨f, fd, h1, h2, FD, F⟩ := D.ex C o.xn
  obtain ⟨its, mv, hb⟩ := kb f fd FD
  refine ⟨fun pins s σ H Q I h => ?_⟩
  refine PySem.W.methodCall_KW (pl := pl) (thn (he.run pins s σ H _ I h) fun u s1 ⟨x, H1, I1, rx, a, C', dx, fs, ex, xc, ea, l, q⟩ => ?_) ht
  subst ex
  obtain rfl : u = Value.ref a := rx
  obtain rfl := Value.ref.inj (XN.inj xc o.xn)
  refine getmeth_ok I1 ea o.cl ⟨h1, h2, FD.kp⟩ l ?_
  refine PySem.W.callWith_KW (first := [.ref a]) (h₀ := X.base) I.ok.mod.kin FD.kp hall (thn (ha.run pos pins s1 σ H1 _ I1 q) fun us s2 ⟨vs, H2, I2, r, q2⟩ => ?_) hpl hst
  refine thn (hkw.run pos pins s2 σ H2 _ I2 q2) fun ws s3 ⟨zs, H3, I3, rz, l1, l2, q3⟩ => ⟨I3.kIn, ?_⟩
  rw [hks]
  have r1 : Vals (V.ref a :: vs) (Value.ref a :: us) := .cons rfl r
  refine wpAny_call (codeAny_mono (F.go X.A X.stack s3 H3 ⟨Value.ref a :: us, ks.zip ws⟩ (g (Value.ref a :: us) its mv ws) _ _ _ (hr.mono hj) I3.env0 (hb.to s3 (Value.ref a :: us) ws I3.kIn (r1.length.symm.trans (congrArg Nat.succ l1)) (rz.length.symm.trans l2)) (hb.rel r1 rz) q3) fun r s' hq => ?_)
  cases r with
  | error e => exact tw _ _ (XE.of_call I3 (fun cls d H' h => h) hq)
  | ok fl =>
    cases fl with
    | ret u =>
      obtain ⟨v, H', I4, rv, q4⟩ := I3.after hq
      exact ⟨v, H', I4, rv, q4⟩
    | next => exact False.elim hq
    | brk => exact False.elim hq
    | cont => exact False.elim hq
theorem pe_methC0 (he : PE X oe ta) (o : ∃ C, OwnC X.K X.mg c C) (tw : Takes X W) (D : DfM X.prog X.w X.K X.mg X.base (L2.CX X.prog X.w) k c m qual st ps dvs kw sp) (hr : RG j X.A) (hj : k ≤ j)
    (kb : ∀ f fd, FunD X.K m qual (defArgs st) (defBody st) (defScope st) dvs kw f fd → ∃ its mv : List Value, KBn X.K fd ps 1 ks (fun us ws => g us its mv ws) (fun vs zs => g vs dvs mz zs))
    (hkw : PK X kws tk) (hall : (backToKw pos (keywordEach kws X.env)).all (·.1.isSome) = true := by rfl) (hks : (backToKw pos (keywordEach kws X.env)).filterMap (·.1) = ks := by rfl)
    (hpl : ((backTo pos (starEach [] X.env)).any (·.1) || (backToKw pos (keywordEach kws X.env)).any (·.1.isNone)) = false := by rfl)
    (ht : eval (.Call (.Attribute oe m apos) [] kws pos) X.env = (do
      let ov ← eval oe X.env
      standAt apos.atName
      let (f, first) ← holding [ov] (getMethod ov m pl)
      callWith pos f first (backTo pos (starEach [] X.env)) (backToKw pos (keywordEach kws X.env))) := by rfl) :
    PE X (.Call (.Attribute oe m apos) [] kws pos) (tMethC X.K c m 0 ks.length sp (fun vs zs => g vs dvs mz zs) W ta tNil tk) := by
  obtain ⟨C, o⟩ := o
  obtain ⟨f, fd, h1, h2, FD, F⟩ := D.ex C o.xn
  obtain ⟨its, mv, hb⟩ := kb f fd FD
  refine ⟨fun pins s σ H Q I h => ?_⟩
  refine PySem.W.methodCall_KW (pl := pl) (thn (he.run pins s σ H _ I h) fun u s1 ⟨x, H1, I1, rx, a, C', dx, fs, ex, xc, ea, l, q⟩ => ?_) ht
  subst ex
  obtain rfl : u = Value.ref a := rx
  obtain rfl := Value.ref.inj (XN.inj xc o.xn)
  refine getmeth_ok I1 ea o.cl ⟨h1, h2, FD.kp⟩ l ?_
  refine PySem.W.callWith_KW0 (first := [.ref a]) (h₀ := X.base) I.ok.mod.kin FD.kp hall ?_ hpl
  refine thn (hkw.run pos pins s1 σ H1 _ I1 q) fun ws s3 ⟨zs, H3, I3, rz, l1, l2, q3⟩ => ⟨I3.kIn, ?_⟩
  rw [hks]
  have r1 : Vals [V.ref a] [Value.ref a] := .cons rfl .nil
  refine wpAny_call (codeAny_mono (F.go X.A X.stack s3 H3 ⟨[Value.ref a], ks.zip ws⟩ (g [Value.ref a] its mv ws) _ _ _ (hr.mono hj) I3.env0 (hb.to s3 [Value.ref a] ws I3.kIn rfl (rz.length.symm.trans l2)) (hb.rel r1 rz) q3) fun r s' hq => ?_)
  cases r with
  | error e => exact tw _ _ (XE.of_call I3 (fun cls d H' h => h) hq)
  | ok fl =>
    cases fl with
    | ret u =>
      obtain ⟨v, H', I4, rv, q4⟩ := I3.after hq
      exact ⟨v, H', I4, rv, q4⟩
    | next => exact False.elim hq
    | brk => exact False.elim hq
    | cont => exact False.elim hq
theorem methK {K : PySem.W.Frag} {l : Nat} {gV : List V → List V → List V} {e : Expr} (h3 : X.K = K) (o : PE X e (tMethC X.K c m n l sp gV W ta t tk)) : PE X e (tMethC K c m n l sp gV W ta t tk) := by
  subst h3
  exact o
end
end Hf
namespace Hf
open PySem L2 PySem.Spec PyProof.Rows PySem.Calls
/-! ### operators of own classes -/
/-- what the text says of an own operator and of the types at its right hand -/
structure BinF (K : PySem.W.Frag) (C : Addr) (nm : String) : Prop where
  sf : PySem.W.selfFirst K C = true
  rc : PySem.W.findIn K (.ref C) (dunderR nm) = some none
  bt : ∀ T ∈ BT, (∃ fo, PySem.W.findIn K (.type T) (PySem.dunder nm) = some fo) ∧ (∃ ro, PySem.W.findIn K (.type T) (dunderR nm) = some ro) ∧ PySem.W.subIn K (.type T) (.ref C) = some false
section
variable {prog : Program} {w : World} {A : Around} {E : Value → Shared → Prop} {s : Shared} {K : PySem.W.Frag} {x C L f : Addr} {h₀ : Heap} {m : Str → Option Value} {ox : Obj} {od : Option Obj} {nm T : String}
open PySem.W in
/-- own x op b, b of a built-in type whose look says so -/
theorem bin_builtin {op : Operator} {b : Value} {fo ro : Option Value} {Q : Value → Shared → Prop} (F : Fr h₀ L s.heap m) (X₀ : K.In h₀) (I : InstAt s.heap x ox C od) (hb : Looks (model prog w) s.heap (typeOf b) (.type T)) (hc : selfFirst K C = true)
    (hs : findIn K (.ref C) (PySem.dunder op.info.2) = some (some (.ref f))) (hf : isFn K (.ref f) = true) (hr : findIn K (.ref C) (dunderR op.info.2) = some none)
    (h1 : findIn K (.type T) (PySem.dunder op.info.2) = some fo) (h2 : findIn K (.type T) (dunderR op.info.2) = some ro) (hsub : subIn K (.type T) (.ref C) = some false)
    (h : wpAny (model prog w) A (call (.ref f) [.ref x, b]) (PySem.W.CmpBack Q) E s) : wpAny (model prog w) A (binaryOp op (.ref x) b) Q E s := by
  have XX := X₀.keeps F.keep
  obtain ⟨cd, rest, e1, e2⟩ := ksp_first hc
  rcases hi : op.info with ⟨sy, n2⟩
  rw [hi] at hs hr h1 h2; dsimp only at hs hr h1 h2
  have tr := ksp_try XX I hs hf h
  obtain ⟨hp, gg, dd, tk, oo⟩ := s
  have Ta : Looks (model prog w) hp (typeOf (.ref x)) (.ref C) := I.type
  have Tb : Looks (model prog w) hp (typeOf b) (.type T) := hb
  have Fa : Looks (model prog w) hp (fillsNumberSlot (.ref C) n2) true := fills_K XX e1 e2 hs
  have Fb := ksp_fillsT (M := model prog w) XX h1 h2
  have Su := looks_subIn (M := model prog w) XX hsub
  have Pa : Looks (model prog w) hp (numberSlotInPython (.ref C) n2) true := ksp_inPy XX hs hr (.inl rfl)
  have Pb : Looks (model prog w) hp (numberSlotInPython (.type T) n2) false := .of_pure rfl
  have Ro := looks_findIn (M := model prog w) XX h2
  generalize ((fo.isSome && !isSeqSlot fo) || (ro.isSome && !isSeqSlot ro)) = bothways at Fb
  have dif : (Value.ref C == Value.type T) = false := Bool.eq_false_iff.mpr fun z => by cases beq_iff_eq.mp z
  simp only [binaryOp, hi]
  refine wpAny_holding (wpAny_bind ?_)
  unfold binaryOp1
  refine wpAny_bind (Ta.at (wpAny_bind (Tb.at (wpAny_bind (Fa.at ?_)))))
  simp only [dif, Bool.false_eq_true, if_false]
  cases bothways
  all_goals
    ksp_lk
    refine wpAny_mono tr (fun v1 s1 z => ?_) fun _ _ z => z
    obtain ⟨v, rfl, q⟩ := z
    ksp_lk
    exact q
end
end Hf
namespace Hf
open PySem L2 PySem.Spec PyProof.Rows
/-- x op y for an instance x of the class c, y of its class or of a built-in type -/
def rBinC (K : PySem.W.Frag) (c : Str) (sp : Sp) (EX : XK) : R2 := fun x y H Q => ∃ a C dx fs t, x = .ref a ∧ XN K c (.ref C) ∧ H a = some (.ins C dx fs) ∧ TyX K H y t ∧ (t = .ref C ∨ ∃ T ∈ BT, t = .type T) ∧ sp [.ref a, y] H Q EX
section
variable {X : Cx} {k j : Nat} {c m qual : Str} {st : Stmt} {p2 : Str} {sp : Sp} {EX : XK} {op : Operator} {nm : String}
theorem op_binC (o : ∃ C, OwnC X.K X.mg c C) (B : ∀ C, XN X.K c (.ref C) → BinF X.K C nm) (tw : Takes X (fun cls d _ H' => EX cls d H')) (D : DfM X.prog X.w X.K X.mg X.base (L2.CX X.prog X.w) k c m qual st [("self" : Str), p2] [] [] sp) (hr : RG j X.A) (hj : k ≤ j) (hn : op.info.2 = nm) (hm : PySem.dunder nm = m)
    (hb : ∀ (kV doc pm : Value) (an : Option Addr) (cdv ct : Value) (us : List Value), us.length = ([("self" : Str), p2] : List Str).length → bindArgs (PySem.W.fnOf m qual (defArgs st) (defBody st) (defScope st) .none kV doc pm an cdv ct) ⟨us, []⟩ = pure ([("self" : Str), p2].zip us)) :
    OpR X (binaryOp op) (rBinC X.K c sp EX) := by
  obtain ⟨C, o⟩ := o
  obtain ⟨f, fd, h1, h2, FD, F⟩ := D.ex C o.xn
  have B := B C o.xn
  subst hn hm
  intro pins s σ H x y v u Q I rx ry hq
  obtain ⟨a, C', dx, fs, t, rfl, xc, ha, ty, ht, q⟩ := hq
  obtain rfl := Value.ref.inj (XN.inj xc o.xn)
  cases rx
  obtain ⟨mA, O, _⟩ := ins_get I.hok ha
  obtain ⟨od, J, _⟩ := O.look
  obtain ⟨mm, hF⟩ := I.fr
  obtain ⟨P, Z, p, _⟩ := kit_of I ry ty
  have body : wpAny (model X.prog X.w) X.A (call (.ref f) [.ref a, u]) (PySem.W.CmpBack (EP X pins σ Q)) X.xe s := by
    refine wpAny_call (codeAny_mono (F.go X.A X.stack s H ⟨[.ref a, u], []⟩ [.ref a, u] [.ref a, y] Q EX (hr.mono hj) I.env0 (FD.bindsA (ps := [("self" : Str), p2]) hb s [_, u] rfl) (.cons rfl (.cons ry .nil)) q) fun r s' hq' => ?_)
    cases r with
    | error e => exact tw _ _ (XE.of_call I (fun cls d H' h => h) hq')
    | ok fl =>
      cases fl with
      | ret w =>
        obtain ⟨z, H', I', rz, q'⟩ := I.after hq'
        exact SlX.cmpback rz ⟨z, H', I', rz, q'⟩
      | next => exact False.elim hq'
      | brk => exact False.elim hq'
      | cont => exact False.elim hq'
  rcases ht with rfl | ⟨T, hT, rfl⟩
  · exact PySem.W.binop_K hF I.ok.mod.kin J (Z.ty _ _ I.kIn p) B.sf h1 h2 body
  · obtain ⟨⟨fo, b1⟩, ⟨ro, b2⟩, b3⟩ := B.bt T hT
    exact bin_builtin hF I.ok.mod.kin J (Z.ty _ _ I.kIn p) B.sf h1 h2 B.rc b1 b2 b3 body
end
section
variable {K : PySem.W.Frag} {H : Hp} {Q : VK} {c : Str} {sp : Sp} {EX : XK} {a C dx : Addr} {fs : List (Str × V)} {x y : V}
theorem g_binC {mgx : Str → Option Value} (o : OwnC K mgx c C) (h : H a = some (.ins C dx fs)) (ty : (∃ C2 b dy gs, y = .ref b ∧ H b = some (.ins C2 dy gs) ∧ C2 = C) ∨ (∃ T, TyX K H y (.type T) ∧ T ∈ BT)) (q : sp [.ref a, y] H Q EX) : rBinC K c sp EX (.ref a) y H Q := by
  rcases ty with ⟨C2, b, dy, gs, rfl, hb, rfl⟩ | ⟨T, t, hT⟩
  · exact ⟨a, C2, dx, fs, _, rfl, o.xn, h, o.ty hb, .inl rfl, q⟩
  · exact ⟨a, C, dx, fs, _, rfl, o.xn, h, t, .inr ⟨T, hT, rfl⟩, q⟩
theorem g_methC {σ : L2.St} {m : Str} {n k : Nat} {gV : List V → List V → List V} {W : WX} {ta : TE} {t tk : TA} (q : ta σ H fun x H1 => ∃ a C dx fs, x = .ref a ∧ XN K c (.ref C) ∧ H1 a = some (.ins C dx fs) ∧ fs.lookup m = none ∧
  t σ H1 fun vs H2 => tk σ H2 fun zs H3 => vs.length = n ∧ zs.length = k ∧ sp (gV (.ref a :: vs) zs) H3 Q (fun cls d H' => W cls d σ H')) : tMethC K c m n k sp gV W ta t tk σ H Q := q
theorem g_insM {m : Str} {P : Addr → Prop} (h : H a = some (.ins C dx fs)) (x : XN K c (.ref C)) (l : fs.lookup m = none) (q : P a) : ∃ a' C' dx' fs', V.ref a = .ref a' ∧ XN K c (.ref C') ∧ H a' = some (.ins C' dx' fs') ∧ fs'.lookup m = none ∧ P a' := ⟨_, _, _, _, rfl, x, h, l, q⟩
theorem binK {X : Cx} {f : Value → Value → Sem Value} (h3 : X.K = K) (o : OpR X f (rBinC X.K c sp EX)) : OpR X f (rBinC K c sp EX) := by
  subst h3
  exact o
end
end Hf
namespace Hf
open PySem L2 PySem.Spec PyProof.Rows
def rDivW : R2 := rI CDivW fun i j => .int (i / j)
theorem op_divW {X : Cx} : OpR X (binaryOp .FloorDiv) rDivW := op_fdivW
theorem g_divW {H : Hp} {Q : VK} {i j : Int} (h : 0 < j) (k : j < 4611686018427387904) (q : Q (.int (i / j)) H) : rDivW (.int i) (.int j) H Q := ⟨i, j, rfl, rfl, wide_div (b := 62) h (by show j.natAbs < 4611686018427387904; omega) (by decide) (by decide), q⟩
end Hf
namespace Hf
open PySem L2 PySem.Spec PyProof.Rows
/-! ### a thing compared with itself -/
def DSame : Eqv := fun x y _ => ∃ a, x = .ref a ∧ y = .ref a
theorem eqG_same {X : Cx} : EqG X 0 DSame := by
  intro A pins s σ H x y u v sb I rx ry d
  obtain ⟨a, rfl, rfl⟩ := d
  cases rx
  cases ry
  unfold eqBool
  refine wpAny_holding ?_
  refine wpAny_ite_split (fun _ => ?_) (fun hn => absurd (beq_self_eq_true _) hn)
  refine wpAny_bind (wpAny_rule ?_)
  refine wpAny_pure ?_
  exact ⟨rfl, H, I, Ext.rfl'⟩
def DS : Eqv := fun x y H => DFlat x y H ∨ DSame x y H
theorem mon_DS : Mon DS := Mon.or mon_flat (fun _ _ _ _ _ d => d)
theorem eqG_DS {X : Cx} : EqG X 0 DS := EqG.or eqG_flat eqG_same
def rEqDict : R2 := fun x y H Q => ∃ a b kvs, x = .ref a ∧ y = .ref b ∧ H a = some (.dK kvs) ∧ H b = some (.dK kvs) ∧ (kvs.map (·.1)).Nodup ∧ (∀ p ∈ kvs, flatB p.2 = true) ∧ Q (.bl true) H
def rSelf (K : PySem.W.Frag) : R2 := fun x y H Q => rEqA K x y H Q ∨ rEqDict x y H Q ∨ rEqG (DList DS) x y H Q ∨ rEqG (DTup K DS) x y H Q
theorem op_self {X : Cx} {j : Nat} (hr : RG j X.A) (hj : 1 ≤ j) : OpR X (compareOp .Eq) (rSelf X.K) :=
  (op_eqA hr).or ((op_eq_dict (by have := hr.rm.units; omega)).or ((op_eqG (rcG_list mon_DS eqG_DS) (hr.mono hj).rm).or (op_eqG (rcG_tup mon_DS eqG_DS) (hr.mono hj).rm)))
theorem selfK {X : Cx} {K : PySem.W.Frag} {f : Value → Value → Sem Value} (h3 : X.K = K) (o : OpR X f (rSelf X.K)) : OpR X f (rSelf K) := by
  subst h3
  exact o
def ItS (x : V) : Prop := (flatV x = true ∧ eqV x x = true) ∨ ∃ b, x = .ref b
theorem prs_self {xs : List V} {H : Hp} (h : ∀ x ∈ xs, ItS x) : Prs DS xs xs H := ⟨rfl, fun i x y h1 h2 => by
  have e := h1.symm.trans h2
  cases e
  rcases h x (List.mem_of_getElem? h1) with ⟨a, b⟩ | ⟨b, rfl⟩
  · exact (Or.inl (show DFlat x x H from ⟨a, a, b⟩) : DFlat x x H ∨ DSame x x H)
  · exact (Or.inr (show DSame (.ref b) (.ref b) H from ⟨b, rfl, rfl⟩) : DFlat (.ref b) (.ref b) H ∨ DSame (.ref b) (.ref b) H)⟩
inductive SelfV (K : PySem.W.Frag) (H : Hp) : V → Prop where
  | non : SelfV K H .non
  | bl (b : Bool) : SelfV K H (.bl b)
  | int (i : Int) : SelfV K H (.int i)
  | str (z : Str) : SelfV K H (.str z)
  | lst (a : Addr) (xs : List V) (h : H a = some (.lst xs)) (i : ∀ x ∈ xs, ItS x) : SelfV K H (.ref a)
  | tup (a : Addr) (xs : List V) (h : H a = some (.tup xs)) (i : ∀ x ∈ xs, ItS x) : SelfV K H (.ref a)
  | dct (a : Addr) (h : H a = some (.dK [])) : SelfV K H (.ref a)
theorem SelfV.ext {K : PySem.W.Frag} {H H1 : Hp} {v : V} (s : SelfV K H v) (e : LamX.ExtN H H1) : SelfV K H1 v := by
  cases s with
  | non => exact .non
  | bl b => exact .bl b
  | int i => exact .int i
  | str z => exact .str z
  | lst a xs h i => exact .lst a xs (ExtN.at_ e h) i
  | tup a xs h i => exact .tup a xs (ExtN.at_ e h) i
  | dct a h => exact .dct a (ExtN.at_ e h)
theorem g_self {K : PySem.W.Frag} {H : Hp} {Q : VK} {v : V} (s : SelfV K H v) (q : ∀ H', Same H H' → Q (.bl true) H') : rSelf K v v H Q := by
  have q0 := q H (Same.refl H)
  cases s with
  | non => exact .inl (.inl ⟨rfl, by rw [decide_eq_true rfl]; exact q0⟩)
  | bl b => exact .inl (.inl ⟨rfl, by rw [decide_eq_true rfl]; exact q0⟩)
  | int i => exact .inl (.inl ⟨rfl, by rw [decide_eq_true rfl]; exact q0⟩)
  | str z => exact .inl (.inl ⟨rfl, by rw [decide_eq_true rfl]; exact q0⟩)
  | lst a xs h i => exact .inr (.inr (.inl ⟨⟨a, a, xs, xs, rfl, rfl, h, h, prs_self i⟩, q⟩))
  | tup a xs h i => exact .inr (.inr (.inr ⟨⟨a, a, xs, xs, rfl, rfl, SqT.of h, SqT.of h, prs_self i⟩, q⟩))
  | dct a h => exact .inr (.inl ⟨a, a, [], rfl, rfl, h, h, List.nodup_nil, (fun _ z => nomatch z), q0⟩)
end Hf

set_option Elab.async false
set_option linter.all false
set_option maxRecDepth 100000
set_option maxHeartbeats 4000000
namespace Hf
open PySem L2 PySem.Spec PyProof.Rows PySem.Calls
/-! ### == with an own __eq__ at the right hand -/
section
variable {M : Model} {A : Around} {E : Value → Shared → Prop} {s : Shared} {K : PySem.W.Frag} {b C : Addr} {ox : Obj} {od : Option Obj} {T : String}
theorem isi_no {R : Bool → Shared → Prop} (X : K.In s.heap) (I : PySem.W.InstAt s.heap b ox C od) (hs : PySem.W.subIn K (.ref C) (.type T) = some false) (h : R false s) : wpAny M A (isInstance (.ref b) (.type T)) R E s := by
  unfold isInstance
  refine wpAny_bind (I.type.here ?_)
  exact (PySem.W.looks_subIn X hs).here h
end
open AutoSeq1 (wpAny_loadPart')
/-- the instance at b, its class at C -/
def InstO (K : PySem.W.Frag) (b C : Addr) (s : Shared) : Prop := K.In s.heap ∧ ∃ dx od, PySem.W.InstAt s.heap b (PySem.W.instObj C dx) C (some od)
theorem tuple_eq_inst (K : PySem.W.Frag) (l b C : Addr) (items : Array Value) (n : Nat) (dd : Option Addr) (sl : Array (Option Value)) :
    Meets (Builtin.«tuple.__eq__» ⟨[.ref l, .ref b], []⟩) (fun _ R s => s.heap.get? l = some { cls := .type "tuple", dict := dd, data := .seq items n, slots := sl } ∧ InstO K b C s ∧ PySem.W.subIn K (.ref C) (.type "tuple") = some false ∧ R (.ok (.ret .notImplemented)) s) :=
  .of_wp fun prog w A R s h => by
    obtain ⟨hp, g, d, tk, os⟩ := s; obtain ⟨hl, ⟨X, dx, od, I⟩, hs, h⟩ := h
    wp_walk using isi_no X I hs, wpAny_loadPart' hl
    exact ⟨_, rfl, h⟩
theorem list_eq_inst (K : PySem.W.Frag) (l b C : Addr) (items : Array Value) (n : Nat) (dd : Option Addr) (sl : Array (Option Value)) :
    Meets (Builtin.«list.__eq__» ⟨[.ref l, .ref b], []⟩) (fun _ R s => s.heap.get? l = some { cls := .type "list", dict := dd, data := .seq items n, slots := sl } ∧ InstO K b C s ∧ PySem.W.subIn K (.ref C) (.type "list") = some false ∧ R (.ok (.ret .notImplemented)) s) :=
  .of_wp fun prog w A R s h => by
    obtain ⟨hp, g, d, tk, os⟩ := s; obtain ⟨hl, ⟨X, dx, od, I⟩, hs, h⟩ := h
    wp_walk using isi_no X I hs, wpAny_loadPart' hl
    exact ⟨_, rfl, h⟩
theorem int_eq_instB (b : Bool) (l C dx : Addr) : Meets (Builtin.«int.__eq__» ⟨[.bool b, .ref l], []⟩) (fun _ R s => s.heap.get? l = some (PySem.W.instObj C dx) ∧ R (.ok (.ret .notImplemented)) s) :=
  .of_wp fun prog w A R s h => by obtain ⟨hp, g, d, tk, os⟩ := s; obtain ⟨hl, h⟩ := h; wp_walk using wpAny_loadPart' hl, wpAny_load hl; exact ⟨_, rfl, h⟩
theorem int_eq_inst (b : Int) (u : Tok) (l C dx : Addr) : Meets (Builtin.«int.__eq__» ⟨[.int b u, .ref l], []⟩) (fun _ R s => s.heap.get? l = some (PySem.W.instObj C dx) ∧ R (.ok (.ret .notImplemented)) s) :=
  .of_wp fun prog w A R s h => by obtain ⟨hp, g, d, tk, os⟩ := s; obtain ⟨hl, h⟩ := h; wp_walk using wpAny_loadPart' hl, wpAny_load hl; exact ⟨_, rfl, h⟩
theorem str_eq_inst (b : Str) (u : Tok) (l C dx : Addr) : Meets (Builtin.«str.__eq__» ⟨[.str b u, .ref l], []⟩) (fun _ R s => s.heap.get? l = some (PySem.W.instObj C dx) ∧ R (.ok (.ret .notImplemented)) s) :=
  .of_wp fun prog w A R s h => by obtain ⟨hp, g, d, tk, os⟩ := s; obtain ⟨hl, h⟩ := h; wp_walk using wpAny_loadPart' hl, wpAny_load hl; exact ⟨_, rfl, h⟩
section
variable {prog : Program} {w : World} {A : Around} {E : Value → Shared → Prop} {s : Shared} {K : PySem.W.Frag} {x C D f : Addr} {ox oy : Obj} {od oe : Option Obj} {T ida : String} {a : Value} {y : Addr}
/-- the left hand declines -/
theorem eq_refl (hu : A.units < cLine) (hT : s.TypeIs a T) (sl : Slot T (cmpInfo .Eq).2.1 ida) (X : K.In s.heap) (I : PySem.W.InstAt s.heap x ox C od) (hsub : PySem.W.subIn K (.ref C) (.type T) = some false)
    (decl : ∀ Q' : Value → Shared → Prop, Q' .notImplemented s → wpAny (model prog w) A (call (.builtin ida) [a, .ref x]) Q' E s)
    (hs : PySem.W.findIn K (.ref C) "__eq__" = some (some (.ref f))) (hf : PySem.W.isFn K (.ref f) = true) {Q : Value → Shared → Prop} (h : wpAny (model prog w) A (call (.ref f) [.ref x, a]) (PySem.W.CmpBack Q) E s) :
    wpAny (model prog w) A (richCompare .Eq a (.ref x)) Q E s := by
  have one : wpAny (model prog w) A (tryCompare a "__eq__" (.ref x)) (fun r s' => r = none ∧ s' = s) E s := wpAny_tryCompare_declines hT sl (decl _ ⟨rfl, rfl, rfl⟩)
  have two : wpAny (model prog w) A (tryCompare (.ref x) "__eq__" a) (fun r s' => ∃ v, r = some v ∧ Q v s') E s := by
    unfold tryCompare
    refine wpAny_bind (PySem.W.ifBound_K X I hs hf (wpAny_mono h (fun v s' hv => ?_) fun _ _ e => e))
    cases v <;> first | exact hv.elim | exact wpAny_pure ⟨_, rfl, hv⟩
  simp only [richCompare, cmpInfo_Eq, hT.oneThing_none]
  refine wpAny_holding (wpAny_bind (wpAny_cRoomFor hu ?_))
  refine wpAny_bind (wpAny_typeOf hT (wpAny_bind (I.type.here ?_)))
  split
  · refine wpAny_bind ((PySem.W.looks_subIn X hsub).here ?_)
    simp only [Bool.false_eq_true, if_false, Bool.not_false, if_true]
    refine wpAny_bind (m := tryCompare a _ (.ref x)) (wpAny_mono one (fun r s1 z => ?_) fun _ _ e => e)
    obtain ⟨z1, z2⟩ := z
    subst z1 z2
    refine wpAny_bind (m := tryCompare (.ref x) _ a) (wpAny_mono two (fun r s2 z => ?_) fun _ _ e => e)
    obtain ⟨v, rfl, hq⟩ := z
    exact wpAny_pure hq
  · rename_i q
    exact absurd (by simp) q
/-- the right hand's class is below the left hand's -/
theorem eq_sub (hu : A.units < cLine) (X : K.In s.heap) (I : PySem.W.InstAt s.heap x ox C od) (J : PySem.W.InstAt s.heap y oy D oe) (hne : C ≠ D) (hsub : PySem.W.subIn K (.ref D) (.ref C) = some true)
    (hs : PySem.W.findIn K (.ref D) "__eq__" = some (some (.ref f))) (hf : PySem.W.isFn K (.ref f) = true) {Q : Value → Shared → Prop} (h : wpAny (model prog w) A (call (.ref f) [.ref y, .ref x]) (PySem.W.CmpBack Q) E s) :
    wpAny (model prog w) A (richCompare .Eq (.ref x) (.ref y)) Q E s := by
  have two : wpAny (model prog w) A (tryCompare (.ref y) "__eq__" (.ref x)) (fun r s' => ∃ v, r = some v ∧ Q v s') E s := by
    unfold tryCompare
    refine wpAny_bind (PySem.W.ifBound_K X J hs hf (wpAny_mono h (fun v s' hv => ?_) fun _ _ e => e))
    cases v <;> first | exact hv.elim | exact wpAny_pure ⟨_, rfl, hv⟩
  simp only [richCompare, cmpInfo_Eq, oneThing_ref]
  refine wpAny_holding (wpAny_bind (wpAny_cRoomFor hu ?_))
  refine wpAny_bind (I.type.here (wpAny_bind (J.type.here ?_)))
  split
  · refine wpAny_bind ((PySem.W.looks_subIn X hsub).here ?_)
    simp only [if_true]
    refine wpAny_bind (m := tryCompare (.ref y) _ (.ref x)) (wpAny_mono two (fun r s2 z => ?_) fun _ _ e => e)
    obtain ⟨v, rfl, hq⟩ := z
    exact wpAny_bind (wpAny_rule (wpAny_pure hq))
  · rename_i q
    exact absurd (by simp; exact fun e => hne e) q
end
end Hf

namespace Hf
open PySem L2 PySem.Spec PyProof.Rows
/-! ### classes with classes below them -/
/-- C is the class of one of these names -/
def IsC (K : PySem.W.Frag) (cs : List Str) (C : Addr) : Prop := ∃ c ∈ cs, XN K c (.ref C)
section
variable {K : PySem.W.Frag} {mg : Str → Option Value} {cs : List Str} {c : Str} {C : Addr} {P : Addr → Prop}
theorem isC_nil : ∀ C, IsC K [] C → P C := fun C h => by
  obtain ⟨c, hc, _⟩ := h
  cases hc
theorem isC_cons (h : ∀ C, XN K c (.ref C) → P C) (t : ∀ C, IsC K cs C → P C) : ∀ C, IsC K (c :: cs) C → P C := fun C k => by
  obtain ⟨d, hd, x⟩ := k
  cases hd with
  | head => exact h C x
  | tail _ hd => exact t C ⟨d, hd, x⟩
theorem own_of (o : ∃ C, OwnC K mg c C) : ∀ C, XN K c (.ref C) → ∃ c, OwnC K mg c C := fun C x => by
  obtain ⟨C', o⟩ := o
  obtain rfl := Value.ref.inj (XN.inj x o.xn)
  exact ⟨c, o⟩
theorem IsC.one (x : XN K c (.ref C)) (h : c ∈ cs := by decide) : IsC K cs C := ⟨c, h, x⟩
end
structure DfMs (P : Program) (w : World) (K : PySem.W.Frag) (mg : Str → Option Value) (base : Heap) (CX : CXT) (k : Nat) (cs : List Str) (m qual : Str) (st : Stmt) (ps : List Str) (dvs : List V) (kws : List (Str × V)) (sp : Sp) : Prop where
  ex : ∀ C, IsC K cs C → ∃ (f : Addr) (fd : FuncData), PySem.W.findIn K (.ref C) m = some (some (.ref f)) ∧ PySem.W.isFn K (.ref f) = true ∧ FunD K m qual (defArgs st) (defBody st) (defScope st) dvs kws f fd ∧ FnG P w K mg base CX k f fd ps sp
structure DfPs (P : Program) (w : World) (K : PySem.W.Frag) (mg : Str → Option Value) (base : Heap) (k : Nat) (cs : List Str) (m qual : Str) (st : Stmt) (sp : Sp) : Prop where
  ex : ∀ C, IsC K cs C → ∃ (p f : Addr) (fd : FuncData), PropOf K C m p f ∧ FunD K m qual (defArgs st) (defBody st) (defScope st) [] [] f fd ∧ FnG P w K mg base CX0 k f fd ["self"] sp
/-- x is an instance at a of one of the classes cs -/
def InsV (K : PySem.W.Frag) (cs : List Str) (H : Hp) (a : Addr) : Prop := ∃ C dx fs, IsC K cs C ∧ H a = some (.ins C dx fs)
theorem InsV.of {K : PySem.W.Frag} {cs : List Str} {H : Hp} {a C dx : Addr} {fs : List (Str × V)} (i : IsC K cs C) (h : H a = some (.ins C dx fs)) : InsV K cs H a := ⟨C, dx, fs, i, h⟩
def tPropS (K : PySem.W.Frag) (cs : List Str) (sp : Sp) (ta : TE) : TE := fun σ H Q => ta σ H fun x H1 => ∃ a, x = .ref a ∧ InsV K cs H1 a ∧ sp [.ref a] H1 Q E0
/-- a call of an own method without arguments that lets nothing out (len, str, bool) -/
def rSlot (K : PySem.W.Frag) (cs : List Str) (sp : Sp) (ok : V → Prop) : List V → Hp → VK → Prop := fun xs H Q => ∃ a, xs = [.ref a] ∧ InsV K cs H a ∧ sp [.ref a] H (fun v H' => ok v ∧ Q v H') E0
def isNat62 (v : V) : Prop := ∃ n : Nat, v = .int n ∧ n < 4611686018427387904
def isBo (v : V) : Prop := ∃ b, v = .bl b
def isStr (v : V) : Prop := ∃ z, v = .str z
abbrev BindS (st : Stmt) (m qual : Str) (ps : List Str) : Prop := ∀ (kV doc pm : Value) (an : Option Addr) (cdv ct : Value) (us : List Value), us.length = ps.length → bindArgs (PySem.W.fnOf m qual (defArgs st) (defBody st) (defScope st) .none kV doc pm an cdv ct) ⟨us, []⟩ = pure (ps.zip us)
section
variable {X : Cx} {k j : Nat} {cs : List Str} {m qual : Str} {st : Stmt} {sp : Sp} {ta : TE} {e : Expr} {pos : Pos}
theorem pe_propS (he : PE X e ta) (oc : ∀ C, IsC X.K cs C → ∃ c, OwnC X.K X.mg c C) (D : DfPs X.prog X.w X.K X.mg X.base k cs m qual st sp) (hr : RG j X.A) (hj : k + 1 ≤ j) (hb : BindS st m qual ["self"])
    (hab : attributeBase e m X.env (eval e X.env) = eval e X.env := by rfl) : PE X (.Attribute e m pos) (tPropS X.K cs sp ta) := by
  refine ⟨fun pins s σ H Q I h => ?_⟩
  refine attr_of hab (thn (he.run pins s σ H _ I h) fun u s1 ⟨x, H1, I1, rx, a, ex, ⟨C, dx, fs, ic, ea⟩, q⟩ => ?_)
  subst ex
  obtain rfl : u = Value.ref a := rx
  obtain ⟨c, o⟩ := oc C ic
  obtain ⟨p, f, fd, hp, FD, F⟩ := D.ex C ic
  exact goPropG I1 ea o.cl hp F (fun s u => FD.bindsA (ps := ["self"]) hb s [u] rfl) (hr.mono hj) q
/-- the own method runs below A -/
theorem goS {A : Around} {f : Addr} {fd : FuncData} {pins : List (Addr × Obj)} {σ : L2.St} {H : Hp} {s : Shared} {us : List Value} {vs : List V} {ps : List Str} {Q : VK} (F : FnG X.prog X.w X.K X.mg X.base CX0 k f fd ps sp) (hr : RG k A) (e0 : Env0 X.prog X.w X.K X.mg X.base A X.stack s H)
    (I : Inv X pins σ H s) (hb : BindsTo s fd ⟨us, []⟩ (ps.zip us)) (r : Vals vs us) (h : sp vs H Q E0) : wpAny (model X.prog X.w) A (call (.ref f) us) (EP X pins σ Q) (fun _ _ => False) s := by
  refine wpAny_call (codeAny_mono (F.go A X.stack s H ⟨us, []⟩ us vs Q E0 hr e0 hb r h) fun r s' hq => ?_)
  cases r with
  | error e => exact False.elim hq
  | ok fl =>
    cases fl with
    | ret u => exact I.after hq
    | next => exact False.elim hq
    | brk => exact False.elim hq
    | cont => exact False.elim hq
end
end Hf
namespace Hf
open PySem L2 PySem.Spec PyProof.Rows PySem.Calls
section
variable {prog : Program} {w : World} {A : Around} {E : Value → Shared → Prop} {s : Shared} {K : PySem.W.Frag} {x C f : Addr} {ox : Obj} {od : Option Obj}
theorem vs1 (a : Addr) : Vals [V.ref a] [Value.ref a] := .cons (show RelV (.ref a) (.ref a) from rfl) .nil
theorem vs2 (a : Addr) {y : V} {u : Value} (r : RelV y u) : Vals [V.ref a, y] [Value.ref a, u] := .cons (show RelV (.ref a) (.ref a) from rfl) (.cons r .nil)
theorem truthy_own {M : Model} {Q : Bool → Shared → Prop} (X : K.In s.heap) (I : PySem.W.InstAt s.heap x ox C od) (hs : PySem.W.findIn K (.ref C) "__bool__" = some (some (.ref f))) (hf : PySem.W.isFn K (.ref f) = true)
    (h : wpAny M A (call (.ref f) [.ref x]) (PySem.W.BoolBack Q) E s) : wpAny M A (truthy (.ref x)) Q E s := by
  unfold truthy
  refine wpAny_bind (m := callSpecial? (.ref x) (Str.ofString "__bool__")) (PySem.W.special_fn X I hs (beq_iff_eq.mp hf) (wpAny_mono h (fun r s' hr => ?_) fun _ _ y => y))
  cases r <;> first | exact hr.elim | skip
  exact wpAny_pure hr
theorem bool_own {Q : Value → Shared → Prop} (X : K.In s.heap) (I : PySem.W.InstAt s.heap x ox C od) (hs : PySem.W.findIn K (.ref C) "__bool__" = some (some (.ref f))) (hf : PySem.W.isFn K (.ref f) = true)
    (h : wpAny (model prog w) A.in1.in1 (call (.ref f) [.ref x]) (PySem.W.BoolBack fun b s' => Q (.bool b) s') E s) : wpAny (model prog w) A (call (.type "bool") [.ref x]) Q E s := by
  refine callType_codes (T := "bool") (Bi := Builtin.«object.__init__») (Q₁ := fun r s₁ => ∃ b, r = .bool b ∧ Q r s₁) PySem.F.called_bool (PySem.F.typeCall_bool_1 _) PySem.F.entry_object_init ?_ ?_
  · refine codeAny_of_tree ?_
    show wpAny _ A.in1.in1 (do checkBuiltinCall "bool.__new__" ⟨[.type "bool", .ref x], []⟩; again (.builtin "bool.__new__" ⟨[.type "bool", .ref x], []⟩)) _ _ s
    refine wpAny_bind (wpAny_of_eq (PySem.F.newCall_bool_1 _) (wpAny_pure ⟨plainId_quiet (by decide +kernel) _, codeAny_builtin PySem.F.entry_bool_new ?_⟩))
    rw [Around.under_plainId (by decide +kernel) _]
    have t : wpAny (model prog w) A.in1.in1 (truthy (.ref x)) (fun b s' => Q (.bool b) s') E s := truthy_own X I hs hf h
    obtain ⟨hp, g, d, tk, os⟩ := s
    have f1 := F.conv_sub_bool
    unfold Builtin.«bool.__new__»
    repeat (any_goals (first | assumption | (with_reducible refine wpAny_bind (wpAny_mono t (fun b s' hb => ?_) fun _ _ y => y)) | wp_step))
    all_goals first | exact ⟨_, rfl, hb⟩ | skip
  · rintro obj s₁ ⟨y, rfl, hq⟩
    exact ⟨rfl, PySem.F.args_object_init_2 _ _, object_init_meets PySem.F.called_bool.init.lookup PySem.F.called_bool.made (by decide) prog w A.in1 _ s₁ ⟨rfl, rfl, hq⟩⟩
end
section
variable {X : Cx} {k j : Nat} {cs : List Str} {m qual : Str} {st : Stmt} {sp : Sp} {ta : TE} {e : Expr} {pos : Pos}
theorem call_lenS (D : DfMs X.prog X.w X.K X.mg X.base CX0 k cs "__len__" qual st ["self"] [] [] sp) (hr : RG j X.A) (hj : k + 2 ≤ j) (hb : BindS st "__len__" qual ["self"]) : CallR X (.builtin "len") (rSlot X.K cs sp isNat62) := by
  intro pins s σ H xs us Q I r h
  obtain ⟨a, rfl, ⟨C, dx, fs, ic, ea⟩, q⟩ := h
  obtain rfl := Vals.ref1 r
  obtain ⟨mA, O, _⟩ := ins_get I.hok ea
  obtain ⟨od, J, _⟩ := O.look
  obtain ⟨mm, hF⟩ := I.fr
  obtain ⟨f, fd, h1, h2, FD, F⟩ := D.ex C ic
  have hr1 : RG (k + 1) X.A := hr.mono (by omega)
  refine PySem.W.len_K hF I.ok.mod.kin J h1 h2 ?_
  refine wpAny_mono (goS (A := X.A.in1) F hr1.in1 I.env0.in1 I (FD.bindsA (ps := ["self"]) hb s [_] rfl) (vs1 _) q) (fun v s' z => ?_) fun _ _ z => z.elim
  obtain ⟨u, H', I', rv, ⟨n, rfl, hn⟩, q'⟩ := z
  obtain ⟨t, rfl⟩ := rv
  exact ⟨⟨by omega, by omega⟩, .int n, H', I'.tok _, ⟨_, rfl⟩, q'⟩
theorem call_boolS (D : DfMs X.prog X.w X.K X.mg X.base CX0 k cs "__bool__" qual st ["self"] [] [] sp) (hr : RG j X.A) (hj : k + 2 ≤ j) (hb : BindS st "__bool__" qual ["self"]) : CallR X (.type "bool") (rSlot X.K cs sp isBo) := by
  intro pins s σ H xs us Q I r h
  obtain ⟨a, rfl, ⟨C, dx, fs, ic, ea⟩, q⟩ := h
  obtain rfl := Vals.ref1 r
  obtain ⟨mA, O, _⟩ := ins_get I.hok ea
  obtain ⟨od, J, _⟩ := O.look
  obtain ⟨f, fd, h1, h2, FD, F⟩ := D.ex C ic
  have hr1 : RG (k + 2) X.A := hr.mono hj
  refine bool_own I.kIn J h1 h2 ?_
  refine wpAny_mono (goS (A := X.A.in1.in1) F hr1.in1.in1 I.env0.in1.in1 I (FD.bindsA (ps := ["self"]) hb s [_] rfl) (vs1 _) q) (fun v s' z => ?_) fun _ _ z => z.elim
  obtain ⟨u, H', I', rv, ⟨b, rfl⟩, q'⟩ := z
  cases rv
  exact ⟨.bl b, H', I', rfl, q'⟩
theorem call_strS (D : DfMs X.prog X.w X.K X.mg X.base CX0 k cs "__str__" qual st ["self"] [] [] sp) (hr : RG j X.A) (hj : k + 2 ≤ j) (hb : BindS st "__str__" qual ["self"]) : CallR X (.type "str") (rSlot X.K cs sp isStr) := by
  intro pins s σ H xs us Q I r h
  obtain ⟨a, rfl, ⟨C, dx, fs, ic, ea⟩, q⟩ := h
  obtain rfl := Vals.ref1 r
  obtain ⟨mA, O, _⟩ := ins_get I.hok ea
  obtain ⟨od, J, _⟩ := O.look
  obtain ⟨f, fd, h1, h2, FD, F⟩ := D.ex C ic
  have hr1 : RG (k + 2) X.A := hr.mono hj
  have hr2 := hr1.in1.in1
  refine PySem.W.kso_call (by have := hr2.rm.units; omega) I.kIn J h1 h2 ?_
  refine wpAny_mono (goS (A := X.A.in1.in1) F hr2 I.env0.in1.in1 I (FD.bindsA (ps := ["self"]) hb s [_] rfl) (vs1 _) q) (fun v s' z => ?_) fun _ _ z => z.elim
  obtain ⟨u, H', I', rv, ⟨b, rfl⟩, q'⟩ := z
  obtain ⟨t, rfl⟩ := rv
  exact ⟨.str b, H', I', ⟨_, rfl⟩, q'⟩
def tTruS (K : PySem.W.Frag) (cs : List Str) (sp : Sp) (ta : TE) : TT := fun σ H Q => ta σ H fun x H1 => ∃ a, x = .ref a ∧ InsV K cs H1 a ∧ sp [.ref a] H1 (fun v H' => ∃ b, v = .bl b ∧ Q b H') E0
theorem pt_truS (he : PE X e ta) (D : DfMs X.prog X.w X.K X.mg X.base CX0 k cs "__bool__" qual st ["self"] [] [] sp) (hr : RG j X.A) (hj : k ≤ j) (hb : BindS st "__bool__" qual ["self"])
    (hi : ∀ whole, isTrue e X.env whole = (do let v ← whole; standAt e.pos; holding [v] (truthy v)) := by intro _; rfl) : PT X e (tTruS X.K cs sp ta) := by
  refine ⟨fun pins s σ H Q I h => ?_⟩
  refine isTrue_plain (thn (he.run pins s σ H _ I h) fun v s1 ⟨x, H1, I1, r1, a, ex, ⟨C, dx, fs, ic, ea⟩, q⟩ => ?_) (hi _)
  subst ex
  obtain rfl : v = Value.ref a := r1
  obtain ⟨mA, O, _⟩ := ins_get I1.hok ea
  obtain ⟨od, J, _⟩ := O.look
  obtain ⟨f, fd, h1, h2, FD, F⟩ := D.ex C ic
  refine truthy_own I1.kIn J h1 h2 ?_
  refine wpAny_mono (goS (A := X.A) F (hr.mono hj) I1.env0 I1 (FD.bindsA (ps := ["self"]) hb s1 [_] rfl) (vs1 _) q) (fun v s' z => ?_) fun _ _ z => z.elim
  obtain ⟨u, H', I', rv, b, rfl, q'⟩ := z
  cases rv
  exact ⟨H', I', q'⟩
end
/-- what may stand at the left of an == that the right hand answers -/
inductive LV (K : PySem.W.Frag) (H : Hp) : V → String → Prop where
  | non : LV K H .non "NoneType"
  | bl (b : Bool) : LV K H (.bl b) "bool"
  | int (i : Int) : LV K H (.int i) "int"
  | str (z : Str) : LV K H (.str z) "str"
  | tup {a : Addr} {xs : List V} (h : SqT K H a xs) : LV K H (.ref a) "tuple"
  | lst {a : Addr} {xs : List V} (h : SqL K H a xs) : LV K H (.ref a) "list"
def LT : List String := ["NoneType", "bool", "int", "str", "tuple", "list"]
/-- the class at D stands beside the built-in types -/
def Lef (K : PySem.W.Frag) (D : Addr) : Prop := ∀ T ∈ LT, PySem.W.subIn K (.ref D) (.type T) = some false
theorem LV.mem {K : PySem.W.Frag} {H : Hp} {x : V} {T : String} (l : LV K H x T) : T ∈ LT := by cases l <;> decide
/-- == by an own __eq__: of the left hand; of the right hand, if the left one is of a built-in type or of a class above -/
def rEqS (K : PySem.W.Frag) (cs : List Str) (sp : Sp) : R2 := fun x y H Q =>
  (∃ a C dx fs t, x = .ref a ∧ IsC K cs C ∧ H a = some (.ins C dx fs) ∧ TyX K H y t ∧ PySem.W.notFirst K C t = true ∧ sp [.ref a, y] H (fun v H' => isBo v ∧ Q v H') E0) ∨
  (∃ b D dy gs T, y = .ref b ∧ IsC K cs D ∧ H b = some (.ins D dy gs) ∧ LV K H x T ∧ Lef K D ∧ sp [.ref b, x] H (fun v H' => isBo v ∧ Q v H') E0) ∨
  (∃ a C dx fs b D dy gs, x = .ref a ∧ H a = some (.ins C dx fs) ∧ y = .ref b ∧ IsC K cs D ∧ H b = some (.ins D dy gs) ∧ C ≠ D ∧ PySem.W.subIn K (.ref D) (.ref C) = some true ∧ sp [.ref b, .ref a] H (fun v H' => isBo v ∧ Q v H') E0)
section
variable {X : Cx} {k j : Nat} {cs : List Str} {qual : Str} {st : Stmt} {sp : Sp}
theorem cmpBl {pins : List (Addr × Obj)} {σ : L2.St} {Q : VK} {v : Value} {s' : Shared} (z : EP X pins σ (fun v H' => isBo v ∧ Q v H') v s') : PySem.W.CmpBack (EP X pins σ Q) v s' := by
  obtain ⟨u, H', I', rv, ⟨b, rfl⟩, q'⟩ := z
  cases rv
  exact ⟨.bl b, H', I', rfl, q'⟩
theorem op_eqS (D : DfMs X.prog X.w X.K X.mg X.base CX0 k cs "__eq__" qual st ["self", "other"] [] [] sp) (hr : RG j X.A) (hj : k + 2 ≤ j) (hb : BindS st "__eq__" qual ["self", "other"]) : OpR X (compareOp .Eq) (rEqS X.K cs sp) := by
  intro pins s σ H x y v u Q I rx ry hq
  have hr' : RG k X.A := hr.mono (by omega)
  have hu : X.A.units < cLine := by have := hr.rm.units; omega
  show wpAny (model X.prog X.w) X.A (richCompare .Eq v u) (EP X pins σ Q) X.xe s
  rcases hq with ⟨a, C, dx, fs, t, rfl, ic, ea, ty, nf, q⟩ | ⟨b, C, dy, gs, T, rfl, ic, eb, l, lf, q⟩ | ⟨a, C, dx, fs, b, C2, dy, gs, rfl, ea, rfl, ic, eb, ne, sb, q⟩
  · cases rx
    obtain ⟨mA, O, _⟩ := ins_get I.hok ea
    obtain ⟨od, J, _⟩ := O.look
    obtain ⟨m, hF⟩ := I.fr
    obtain ⟨P, Z, p, _⟩ := kit_of I ry ty
    obtain ⟨f, fd, h1, h2, FD, F⟩ := D.ex C ic
    refine PySem.W.cmp_K (op := .Eq) (tb := t) hr'.rm.units0 hF I.ok.mod.kin J (Z.ty _ _ I.kIn p) nf h1 h2 ?_
    exact wpAny_mono (goS (A := X.A) F hr' I.env0 I (FD.bindsA (ps := ["self", "other"]) hb s [_, u] rfl) (vs2 _ ry) q) (fun v s' z => cmpBl z) fun _ _ z => z.elim
  · cases ry
    obtain ⟨mA, O, _⟩ := ins_get I.hok eb
    obtain ⟨od, J, _⟩ := O.look
    obtain ⟨f, fd, h1, h2, FD, F⟩ := D.ex C ic
    have body : wpAny (model X.prog X.w) X.A (call (.ref f) [.ref b, v]) (PySem.W.CmpBack (EP X pins σ Q)) X.xe s := wpAny_mono (goS (A := X.A) F hr' I.env0 I (FD.bindsA (ps := ["self", "other"]) hb s [_, v] rfl) (vs2 _ rx) q) (fun v s' z => cmpBl z) fun _ _ z => z.elim
    have sb := lf T l.mem
    cases l with
    | non =>
      cases rx
      exact eq_refl hu (show s.TypeIs .none "NoneType" from rfl) PySem.F.slot_NoneType_eq I.kIn J sb (fun Q' h => call_gives PySem.F.slot_NoneType_eq rfl PySem.F.entry_NoneType_eq (PySem.F.args_NoneType_eq_2 _ _) (SeqAt.NoneType___eq___none_ref_0 _) h) h1 h2 body
    | bl c =>
      cases rx
      exact eq_refl hu (show s.TypeIs (.bool c) "bool" from rfl) PySem.F.slot_bool_eq I.kIn J sb (fun Q' h => call_meets PySem.F.slot_bool_eq rfl PySem.F.entry_int_eq (PySem.F.args_int_eq_2 _ _) (int_eq_instB c b C dy) ⟨J.at_, h⟩) h1 h2 body
    | int i =>
      obtain ⟨tk, rfl⟩ := rx
      exact eq_refl hu (typeIs_int s i tk) PySem.F.slot_int_eq I.kIn J sb (fun Q' h => call_meets PySem.F.slot_int_eq (typeIs_int s i tk) PySem.F.entry_int_eq (PySem.F.args_int_eq_2 _ _) (int_eq_inst i tk b C dy) ⟨J.at_, h⟩) h1 h2 body
    | str z =>
      obtain ⟨tk, rfl⟩ := rx
      exact eq_refl hu (typeIs_str s z tk) PySem.F.slot_str_eq I.kIn J sb (fun Q' h => call_meets PySem.F.slot_str_eq (typeIs_str s z tk) PySem.F.entry_str_eq (PySem.F.args_str_eq_2 _ _) (str_eq_inst z tk b C dy) ⟨J.at_, h⟩) h1 h2 body
    | tup hS =>
      cases rx
      obtain ⟨its, rv, hl, hz⟩ := I.tuple hS
      obtain ⟨⟨cls, d, data, sl⟩, ho, hcl, n, hd⟩ := id hl
      simp only at hcl hd
      subst hcl hd
      exact eq_refl hu (show s.TypeIs (.ref _) "tuple" from ⟨_, ho, rfl⟩) PySem.F.slot_tuple_eq I.kIn J sb (fun Q' h => call_meets PySem.F.slot_tuple_eq (show s.TypeIs (.ref _) "tuple" from ⟨_, ho, rfl⟩) PySem.F.entry_tuple_eq (PySem.F.args_tuple_eq_2 _ _) (tuple_eq_inst X.K _ b C _ n d sl) ⟨ho, ⟨I.kIn, _, _, J⟩, sb, h⟩) h1 h2 body
    | lst hS =>
      cases rx
      obtain ⟨its, rv, pl, hz⟩ := I.list hS
      have hl := pl.isList
      obtain ⟨⟨cls, d, data, sl⟩, ho, hcl, n, hd⟩ := id hl
      simp only at hcl hd
      subst hcl hd
      exact eq_refl hu (show s.TypeIs (.ref _) "list" from ⟨_, ho, rfl⟩) PySem.F.slot_list_eq I.kIn J sb (fun Q' h => call_meets PySem.F.slot_list_eq (show s.TypeIs (.ref _) "list" from ⟨_, ho, rfl⟩) PySem.F.entry_list_eq (PySem.F.args_list_eq_2 _ _) (list_eq_inst X.K _ b C _ n d sl) ⟨ho, ⟨I.kIn, _, _, J⟩, sb, h⟩) h1 h2 body
  · cases rx
    cases ry
    obtain ⟨mA, O, _⟩ := ins_get I.hok ea
    obtain ⟨od, J, _⟩ := O.look
    obtain ⟨mB, O2, _⟩ := ins_get I.hok eb
    obtain ⟨oe, J2, _⟩ := O2.look
    obtain ⟨f, fd, h1, h2, FD, F⟩ := D.ex C2 ic
    refine eq_sub hu I.kIn J J2 ne sb h1 h2 ?_
    exact wpAny_mono (goS (A := X.A) F hr' I.env0 I (FD.bindsA (ps := ["self", "other"]) hb s [_, _] rfl) (vs2 _ (show RelV (.ref a) (.ref a) from rfl)) q) (fun v s' z => cmpBl z) fun _ _ z => z.elim
end
end Hf
namespace Hf
open PySem L2 PySem.Spec PyProof.Rows PySem.Calls
/-! ### classmethods, by name with keywords; they may raise -/
structure DfCl (P : Program) (w : World) (K : PySem.W.Frag) (mg : Str → Option Value) (base : Heap) (k : Nat) (c m qual : Str) (st : Stmt) (ps : List Str) (sp : Sp) : Prop where
  ex : ∀ C, XN K c (.ref C) → ∃ (p g : Addr) (fd : FuncData), ClX.CRead K C (.type "type") ∧ ClX.CMet K C (.type "type") m p g ∧ FunD K m qual (defArgs st) (defBody st) (defScope st) [] [] g fd ∧ FnG P w K mg base (L2.CX P w) k g fd ps sp
def tClsC (K : PySem.W.Frag) (c : Str) (n l : Nat) (sp : Sp) (gV : List V → List V → List V) (W : WX) (ta : TE) (t tk : TA) : TE := fun σ H Q => ta σ H fun x H1 => ∃ C, x = .ref C ∧ XN K c (.ref C) ∧
  t σ H1 fun vs H2 => tk σ H2 fun zs H3 => vs.length = n ∧ zs.length = l ∧ sp (gV (.ref C :: vs) zs) H3 Q (fun cls d H' => W cls d σ H')
section
variable {X : Cx} {k j n : Nat} {c m qual : Str} {st : Stmt} {ps ks : List Str} {sp : Sp} {apos pos : Pos} {oe e : Expr} {es : List Expr} {kws : List Keyword} {t tk : TA} {ta : TE} {W : WX} {g : {α : Type} → List α → List α → List α → List α → List α} {pl : Sem Bool}
theorem runCl {pins : List (Addr × Obj)} {σ : L2.St} {H : Hp} {s : Shared} {Q : VK} {gf q C : Addr} {fd : FuncData} {us ws : List Value} {vs zs : List V} {its mv : List Value} (tw : Takes X W) (F : FnG X.prog X.w X.K X.mg X.base (L2.CX X.prog X.w) k gf fd ps sp) (hr : RG k X.A)
    (hb : KBn X.K fd ps (n + 1) ks (fun us ws => g us its mv ws) (fun vs zs => g vs [] [] zs)) (I : Inv X ((q, PySem.W.methodObj (.ref gf) (.ref C)) :: pins) σ H s) (r : Vals vs us) (rz : Vals zs ws) (l1 : vs.length = n) (l2 : zs.length = ks.length)
    (h : sp (g (.ref C :: vs) [] [] zs) H Q (fun cls d H' => W cls d σ H')) : wpAny (model X.prog X.w) X.A (call (.ref q) us (ks.zip ws)) (EP X pins σ Q) X.xe s := by
  have r1 : Vals (V.ref C :: vs) (Value.ref C :: us) := .cons rfl r
  refine thn (Q := EP X ((q, PySem.W.methodObj (.ref gf) (.ref C)) :: pins) σ Q) ?_ fun _ _ y => ClX.unpinE y
  refine wpAny_call (PySem.W.method_call (ClX.pin_at I) (codeAny_mono (F.go X.A X.stack s H ⟨Value.ref C :: us, ks.zip ws⟩ (g (Value.ref C :: us) its mv ws) _ _ _ hr I.env0 (hb.to s (Value.ref C :: us) ws I.kIn (r1.length.symm.trans (congrArg Nat.succ l1)) (rz.length.symm.trans l2)) (hb.rel r1 rz) h) fun r s' hq => ?_))
  cases r with
  | error e => exact tw _ _ (XE.of_call I (fun cls d H' h => h) hq)
  | ok fl =>
    cases fl with
    | ret u =>
      obtain ⟨v, H', I4, rv, q4⟩ := I.after hq
      exact ⟨v, H', I4, rv, q4⟩
    | next => exact False.elim hq
    | brk => exact False.elim hq
    | cont => exact False.elim hq
theorem pe_clsC (he : PE X oe ta) (tw : Takes X W) (D : DfCl X.prog X.w X.K X.mg X.base k c m qual st ps sp) (hr : RG j X.A) (hj : k ≤ j)
    (kb : ∀ f fd, FunD X.K m qual (defArgs st) (defBody st) (defScope st) [] [] f fd → ∃ its mv : List Value, KBn X.K fd ps (n + 1) ks (fun us ws => g us its mv ws) (fun vs zs => g vs [] [] zs))
    (ha : PA X (e :: es) t) (hkw : PK X kws tk) (hall : (backToKw pos (keywordEach kws X.env)).all (·.1.isSome) = true := by rfl) (hks : (backToKw pos (keywordEach kws X.env)).filterMap (·.1) = ks := by rfl)
    (hst : starEach (e :: es) X.env = (false, eval e X.env) :: starEach es X.env := by rfl)
    (hpl : ((backTo pos (starEach (e :: es) X.env)).any (·.1) || (backToKw pos (keywordEach kws X.env)).any (·.1.isNone)) = false := by rfl)
    (ht : eval (.Call (.Attribute oe m apos) (e :: es) kws pos) X.env = (do
      let ov ← eval oe X.env
      standAt apos.atName
      let (f, first) ← holding [ov] (getMethod ov m pl)
      callWith pos f first (backTo pos (starEach (e :: es) X.env)) (backToKw pos (keywordEach kws X.env))) := by rfl) :
    PE X (.Call (.Attribute oe m apos) (e :: es) kws pos) (tClsC X.K c n ks.length sp (fun vs zs => g vs [] [] zs) W ta t tk) := by
  refine ⟨fun pins s σ H Q I h => ?_⟩
  refine PySem.W.methodCall_KW (pl := pl) (thn (he.run pins s σ H _ I h) fun u s1 ⟨x, H1, I1, rx, C, ex, xc, q⟩ => ?_) ht
  subst ex
  obtain rfl : u = Value.ref C := rx
  obtain ⟨p, gf, fd, r, cm, FD, F⟩ := D.ex C xc
  obtain ⟨its, mv, hb⟩ := kb gf fd FD
  refine ClX.getmethcm_ok I1 r cm fun s2 I2 => ?_
  refine PySem.W.callWith_of (P := PySem.W.MethP X.K s1.heap.objs.size gf (.ref C)) hpl (PySem.W.keeps_M cm.fi) (PyProof.Rows.evalArgs_kw2 (Q := fun a s₁ => PySem.W.MethP X.K s1.heap.objs.size gf (.ref C) s₁.heap ∧ wpAny (model X.prog X.w) X.A (call (.ref s1.heap.objs.size) ([] ++ a.pos) a.kw) (EP X pins σ Q) X.xe s₁) hall ?_ hst)
  refine thn (ha.run pos _ s2 σ H1 _ I2 q) fun us s3 ⟨vs, H2, I3, rv, q2⟩ => ?_
  refine thn (hkw.run pos _ s3 σ H2 _ I3 q2) fun ws s4 ⟨zs, H3, I4, rz, l1, l2, q3⟩ => ⟨⟨ClX.pin_at I4, I4.kIn⟩, ?_⟩
  rw [hks]
  exact runCl tw F (hr.mono hj) hb I4 rv rz l1 l2 q3
theorem pe_clsC0 (he : PE X oe ta) (tw : Takes X W) (D : DfCl X.prog X.w X.K X.mg X.base k c m qual st ps sp) (hr : RG j X.A) (hj : k ≤ j)
    (kb : ∀ f fd, FunD X.K m qual (defArgs st) (defBody st) (defScope st) [] [] f fd → ∃ its mv : List Value, KBn X.K fd ps 1 ks (fun us ws => g us its mv ws) (fun vs zs => g vs [] [] zs))
    (hkw : PK X kws tk) (hall : (backToKw pos (keywordEach kws X.env)).all (·.1.isSome) = true := by rfl) (hks : (backToKw pos (keywordEach kws X.env)).filterMap (·.1) = ks := by rfl)
    (hpl : ((backTo pos (starEach [] X.env)).any (·.1) || (backToKw pos (keywordEach kws X.env)).any (·.1.isNone)) = false := by rfl)
    (ht : eval (.Call (.Attribute oe m apos) [] kws pos) X.env = (do
      let ov ← eval oe X.env
      standAt apos.atName
      let (f, first) ← holding [ov] (getMethod ov m pl)
      callWith pos f first (backTo pos (starEach [] X.env)) (backToKw pos (keywordEach kws X.env))) := by rfl) :
    PE X (.Call (.Attribute oe m apos) [] kws pos) (tClsC X.K c 0 ks.length sp (fun vs zs => g vs [] [] zs) W ta tNil tk) := by
  refine ⟨fun pins s σ H Q I h => ?_⟩
  refine PySem.W.methodCall_KW (pl := pl) (thn (he.run pins s σ H _ I h) fun u s1 ⟨x, H1, I1, rx, C, ex, xc, q⟩ => ?_) ht
  subst ex
  obtain rfl : u = Value.ref C := rx
  obtain ⟨p, gf, fd, r, cm, FD, F⟩ := D.ex C xc
  obtain ⟨its, mv, hb⟩ := kb gf fd FD
  refine ClX.getmethcm_ok I1 r cm fun s2 I2 => ?_
  refine PySem.W.callWith_of (P := PySem.W.MethP X.K s1.heap.objs.size gf (.ref C)) hpl (PySem.W.keeps_M cm.fi) (PyProof.Rows.evalArgs_kw2_nil (Q := fun a s₁ => PySem.W.MethP X.K s1.heap.objs.size gf (.ref C) s₁.heap ∧ wpAny (model X.prog X.w) X.A (call (.ref s1.heap.objs.size) ([] ++ a.pos) a.kw) (EP X pins σ Q) X.xe s₁) hall ?_)
  refine thn (hkw.run pos _ s2 σ H1 _ I2 q) ?_
  rintro ws s4 ⟨zs, H3, I4, rz, l1, l2, q3⟩
  refine ⟨⟨ClX.pin_at I4, I4.kIn⟩, ?_⟩
  rw [hks]
  exact runCl (n := 0) (us := []) tw F (hr.mono hj) hb I4 .nil rz l1 l2 q3
end
end Hf
namespace Hf
open PySem L2 PySem.Spec PyProof.Rows
section
variable {K : PySem.W.Frag} {mg : Str → Option Value} {cs : List Str} {c m : Str} {H : Hp} {σ : L2.St} {Q : VK} {sp : Sp} {a b C D dx dy : Addr} {fs gs : List (Str × V)} {ta tb : TE} {t tk : TA} {ok : V → Prop} {n l : Nat} {gV : List V → List V → List V} {W : WX} {x y : V}
theorem g_propS (q : ta σ H fun x H1 => ∃ a, x = .ref a ∧ InsV K cs H1 a ∧ sp [.ref a] H1 Q E0) : tPropS K cs sp ta σ H Q := q
theorem g_insS {P : Addr → Prop} (h : H a = some (.ins C dx fs)) (i : IsC K cs C) (q : P a) : ∃ a', V.ref a = .ref a' ∧ InsV K cs H a' ∧ P a' := ⟨a, rfl, ⟨C, dx, fs, i, h⟩, q⟩
theorem g_slot (h : H a = some (.ins C dx fs)) (i : IsC K cs C) (q : sp [.ref a] H (fun v H' => ok v ∧ Q v H') E0) : rSlot K cs sp ok [.ref a] H Q := ⟨a, rfl, ⟨C, dx, fs, i, h⟩, q⟩
theorem g_truS {Q : Bool → Hp → Prop} (q : ta σ H fun x H1 => ∃ a, x = .ref a ∧ InsV K cs H1 a ∧ sp [.ref a] H1 (fun v H' => ∃ b, v = .bl b ∧ Q b H') E0) : tTruS K cs sp ta σ H Q := q
theorem g_clsC (q : ta σ H fun x H1 => ∃ C, x = .ref C ∧ XN K c (.ref C) ∧ t σ H1 fun vs H2 => tk σ H2 fun zs H3 => vs.length = n ∧ zs.length = l ∧ sp (gV (.ref C :: vs) zs) H3 Q (fun cls d H' => W cls d σ H')) : tClsC K c n l sp gV W ta t tk σ H Q := q
theorem g_clsN {P : Addr → Prop} (x : XN K c (.ref C)) (q : P C) : ∃ C', V.ref C = .ref C' ∧ XN K c (.ref C') ∧ P C' := ⟨C, rfl, x, q⟩
theorem g_okB {b : Bool} {P : Prop} (q : P) : isBo (.bl b) ∧ P := ⟨⟨b, rfl⟩, q⟩
theorem g_okS {z : Str} {P : Prop} (q : P) : isStr (.str z) ∧ P := ⟨⟨z, rfl⟩, q⟩
theorem g_okN {n : Nat} {P : Prop} (h : n < 4611686018427387904) (q : P) : isNat62 (.int n) ∧ P := ⟨⟨n, rfl, h⟩, q⟩
/-- isinstance(x, D) for an instance of a class that is D or below it -/
theorem g_isS (o : OwnC K mg c C) (h : H a = some (.ins C dx fs)) (k : PySem.W.kitOne K (.ref C) (.ref D) = some true) (q : Q (.bl true) H) : rIsi K [.ref a, .ref D] H Q := ⟨.ref a, .ref D, .ref C, .ref D, true, rfl, .own D, o.ty h, k, q⟩
theorem g_eqL (ic : IsC K cs C) (h : H a = some (.ins C dx fs)) {t : Value} (ty : TyX K H y t) (nf : PySem.W.notFirst K C t = true) (q : sp [.ref a, y] H (fun v H' => isBo v ∧ Q v H') E0) : rEqS K cs sp (.ref a) y H Q := .inl ⟨a, C, dx, fs, t, rfl, ic, h, ty, nf, q⟩
theorem g_eqR {T : String} (ic : IsC K cs D) (h : H b = some (.ins D dy gs)) (lv : LV K H x T) (lf : Lef K D) (q : sp [.ref b, x] H (fun v H' => isBo v ∧ Q v H') E0) : rEqS K cs sp x (.ref b) H Q := .inr (.inl ⟨b, D, dy, gs, T, rfl, ic, h, lv, lf, q⟩)
theorem g_eqU (h : H a = some (.ins C dx fs)) (ic : IsC K cs D) (h2 : H b = some (.ins D dy gs)) (ne : C ≠ D) (sb : PySem.W.subIn K (.ref D) (.ref C) = some true) (q : sp [.ref b, .ref a] H (fun v H' => isBo v ∧ Q v H') E0) : rEqS K cs sp (.ref a) (.ref b) H Q := .inr (.inr ⟨a, C, dx, fs, b, D, dy, gs, rfl, h, rfl, ic, h2, ne, sb, q⟩)
theorem propSK {X : Cx} {e : Expr} (h3 : X.K = K) (o : PE X e (tPropS X.K cs sp ta)) : PE X e (tPropS K cs sp ta) := by
  subst h3
  exact o
theorem slotK {X : Cx} {f : Value} (h3 : X.K = K) (o : CallR X f (rSlot X.K cs sp ok)) : CallR X f (rSlot K cs sp ok) := by
  subst h3
  exact o
theorem clsK {X : Cx} {e : Expr} (h3 : X.K = K) (o : PE X e (tClsC X.K c n l sp gV W ta t tk)) : PE X e (tClsC K c n l sp gV W ta t tk) := by
  subst h3
  exact o
theorem eqSK {X : Cx} {f : Value → Value → Sem Value} (h3 : X.K = K) (o : OpR X f (rEqS X.K cs sp)) : OpR X f (rEqS K cs sp) := by
  subst h3
  exact o
end
def tNotS (K : PySem.W.Frag) (cs : List Str) (sp : Sp) (ta : TE) : TE := fun σ H Q => tTruS K cs sp ta σ H fun b H' => Q (.bl (!b)) H'
theorem g_notS {K : PySem.W.Frag} {cs : List Str} {sp : Sp} {ta : TE} {σ : L2.St} {H : Hp} {Q : VK} (q : tTruS K cs sp ta σ H fun b H' => Q (.bl (!b)) H') : tNotS K cs sp ta σ H Q := q
/-- not e, e an instance -/
theorem pe_notS {X : Cx} {a : Expr} {pos : Pos} {cs : List Str} {sp : Sp} {ta : TE} {k j : Nat} {qual : Str} {st : Stmt} (he : PE X a ta) (D : DfMs X.prog X.w X.K X.mg X.base CX0 k cs "__bool__" qual st ["self"] [] [] sp) (hr : RG j X.A) (hj : k ≤ j) (hb : BindS st "__bool__" qual ["self"]) :
    PE X (.UnaryOp .Not a pos) (tNotS X.K cs sp ta) := by
  refine ⟨fun pins s σ H Q I h => ?_⟩
  refine UnaryOp_ (thn (he.run pins s σ H _ I h) fun v s1 ⟨x, H1, I1, r1, a, ex, ⟨C, dx, fs, ic, ea⟩, q⟩ => ?_)
  subst ex
  obtain rfl : v = Value.ref a := r1
  obtain ⟨mA, O, _⟩ := ins_get I1.hok ea
  obtain ⟨od, J, _⟩ := O.look
  obtain ⟨f, fd, h1, h2, FD, F⟩ := D.ex C ic
  refine not_of (truthy_own I1.kIn J h1 h2 ?_)
  refine wpAny_mono (goS (A := X.A) F (hr.mono hj) I1.env0 I1 (FD.bindsA (ps := ["self"]) hb s1 [_] rfl) (vs1 _) q) (fun v s' z => ?_) fun _ _ z => z.elim
  obtain ⟨u, H', I', rv, b, rfl, q'⟩ := z
  cases rv
  exact ⟨.bl (!b), H', I', rfl, q'⟩
end Hf

set_option Elab.async false
set_option linter.all false
set_option maxRecDepth 100000
set_option maxHeartbeats 4000000
namespace PySem
open Sem (wp)
open Builtin
open AutoSeq1 (wpAny_loadPart')
set_option maxHeartbeats 1000000 in
theorem meets_enumerate_newT (l : Addr) (items : Array Value) (n : Nat) (dd : Option Addr) (sl : Array (Option Value)) :
    Meets (Builtin.«enumerate.__new__» ⟨[.type "enumerate", .ref l], []⟩) (fun _ R s => s.heap.get? l = some { cls := .type "tuple", dict := dd, data := .seq items n, slots := sl } ∧
      R (.ok (.ret (.ref (s.heap.push { cls := .type "tuple_iterator", data := .fields #[.ref l, .int 0 0] }).objs.size)))
        { s with heap := (s.heap.push { cls := .type "tuple_iterator", data := .fields #[.ref l, .int 0 0] }).push { cls := .type "enumerate", data := .fields #[.none, .bool false, .ref s.heap.objs.size, rawInt 0, .none, .none] } }) :=
  .of_wp fun prog w A R s h => by
    obtain ⟨hp, g, d, tk, os⟩ := s
    obtain ⟨hl, h⟩ := h
    have hsub := sub_enumerate
    have hL : Heap.IsTuple (Shared.heap ⟨hp, g, d, tk, os⟩) l items := ⟨_, hl, rfl, n, rfl⟩
    wp_walk using wpAny_loadPart' hl
    refine wpAny_stack_any fun st => wpAny_pure ?_
    split
    · rename_i c _ _ _ _ _
      cases (c == Value.type "enumerate")
      · wp_walk using wpAny_loadPart' hl, wpAny_pyIter_tuple hL
        exact ⟨_, rfl, h⟩
      · wp_walk using wpAny_loadPart' hl, wpAny_pyIter_tuple hL
        exact ⟨_, rfl, h⟩
    · wp_walk using wpAny_loadPart' hl, wpAny_pyIter_tuple hL
      exact ⟨_, rfl, h⟩
theorem call_enumerate_tup {prog : Program} {w : World} {A : Around} {E : Value → Shared → Prop} {s : Shared} {l : Addr} {items : Array Value} {Q : Value → Shared → Prop} (hL : s.heap.IsTuple l items)
    (h : ∀ h', IsEnum h' (s.heap.objs.size + 1) s.heap.objs.size 0 .none → h'.IsTupleIter s.heap.objs.size l 0 → h'.objs.size = s.heap.objs.size + 2 →
      (∀ b o, s.heap.get? b = some o → h'.get? b = some o) → Q (.ref (s.heap.objs.size + 1)) { s with heap := h' }) :
    wpAny (model prog w) A (call (.type "enumerate") [.ref l]) Q E s := by
  obtain ⟨⟨c, dct, dt, sl⟩, hl, hc, n, hd⟩ := hL
  replace hc : c = .type "tuple" := hc
  replace hd : dt = .seq items n := hd
  subst hc hd
  refine callType_new F.called_enumerate (by decide) (F.typeCall_enumerate_1 _) (F.newCall_enumerate_1 _) (fun obj => F.args_object_init_2 obj _) F.entry_enumerate_new
    (meets_enumerate_newT l items n dct sl) ⟨hl, ?_⟩
  have hz : (s.heap.push { cls := .type "tuple_iterator", data := .fields #[.ref l, .int 0 0] }).objs.size = s.heap.objs.size + 1 := Heap.size_push ..
  show _ ∧ _
  rw [hz]
  have he : IsEnum ((s.heap.push { cls := .type "tuple_iterator", data := .fields #[.ref l, .int 0 0] }).push
      { cls := .type "enumerate", data := .fields #[.none, .bool false, .ref s.heap.objs.size, rawInt 0, .none, .none] }) (s.heap.objs.size + 1) s.heap.objs.size 0 .none := by
    have := Heap.get?_push_size (s.heap.push { cls := .type "tuple_iterator", data := .fields #[.ref l, .int 0 0] })
      (o := { cls := .type "enumerate", data := .fields #[.none, .bool false, .ref s.heap.objs.size, rawInt 0, .none, .none] }) rfl
    rw [hz] at this; exact this
  refine ⟨⟨_, he, rfl⟩, h _ he ⟨_, Heap.get?_push_of_some _ (Heap.get?_push_size _ rfl), rfl, rfl⟩ (by rw [Heap.size_push, hz]) fun b o x => Heap.get?_push_of_some _ (Heap.get?_push_of_some _ x)⟩
end PySem
namespace Hf
open PySem L2 PySem.Spec PyProof.Rows
/-! ### enumerate(tuple) -/
def IteT (K : PySem.W.Frag) (a : Addr) : It := ⟨fun i H => ∃ (xs : List V) (x : V), SqT K H a xs ∧ xs[i]? = some x, fun i H v H' => ∃ T x, v = .ref T ∧ H T = none ∧ H' = upd H T (.tup [.int (i : Nat), x]) ∧ ∀ xs, SqT K H a xs → xs[i]? = some x, fun i H => ∃ xs : List V, SqT K H a xs ∧ i = xs.length⟩
theorem turn_enumT {P : Program} {w : World} {K : PySem.W.Frag} {elts : List Expr} {kk : Nat} {tpos : Pos} (a e it : Addr) :
    Turn P w K (.Tuple elts kk tpos) (IteT K a) [e, it] e (fun i h => (∃ old, IsEnum h e it ((i : Nat) : Int) old) ∧ h.IsTupleIter it a i ∧ e ≠ it) where
  mem := by simp
  obj := by
    rintro i h ⟨⟨old, he⟩, ⟨o, ho, hc, hd⟩, _⟩ b hb
    rcases List.mem_cons.mp hb with z | z
    · rw [z]
      exact ⟨_, he, fun v q => nomatch q⟩
    · rw [List.mem_singleton.mp z]
      exact ⟨o, ho, fun v q => by rw [hd] at q; cases q⟩
  keep := fun i h h' st k => let ⟨⟨old, he⟩, hi, hne⟩ := st; ⟨⟨old, k e (by simp) _ he⟩, hi.at fun o q => k it (by simp) o q, hne⟩
  item := by
    intro X hP hw hK hc i pins s σ H E I hf st hg
    subst hP hw hK
    obtain ⟨⟨old, he⟩, hit, hne⟩ := st
    obtain ⟨xs, x, hq, hx⟩ := hg
    obtain ⟨its, rv, p, hz⟩ := I.tuple hq
    obtain ⟨u, hu, ru⟩ := rv.get hx
    have lt_e : e < s.heap.objs.size := Heap.lt_size he
    have lt_it : it < s.heap.objs.size := by
      obtain ⟨o, z, _⟩ := id hit
      exact Heap.lt_size z
    have p' : s.heap.IsTuple a its.toArray := p
    have na : a ≠ it := fun z => by
      obtain ⟨o, ho, hc1, _⟩ := id p'
      obtain ⟨o2, ho2, hc2, _⟩ := id hit
      rw [z, ho2] at ho
      cases ho
      rw [hc2] at hc1
      exact absurd (Value.type.inj hc1) (by decide)
    have ne : a ≠ e := fun z => by
      obtain ⟨o, ho, hc1, _⟩ := id p'
      rw [z] at ho
      have he2 := he
      unfold IsEnum at he2
      rw [he2] at ho
      cases ho
      exact absurd (Value.type.inj hc1) (by decide)
    have D := Draws.tuple (prog := X.prog) (w := X.w) (A := X.A.in1) (I.ok.hd hc) it a na its.toArray
    have hlt : i < its.toArray.size := by
      have := (List.getElem?_eq_some_iff.mp hu).1
      simpa using this
    refine wpAny_pyNext_enum_itemD D he ⟨hit, p'⟩ hlt hne (by simp; exact ⟨hne, ne.symm⟩) fun v h' tk hv ho hit' hT hsz hk => ?_
    obtain rfl : v = u := by
      have e2 : its[i]? = some v := by simpa using hv
      exact Option.some.inj (e2.symm.trans hu)
    refine ⟨_, rfl, wpAny_letOwnedTupleGo_enum (s := { s with heap := h', toks := tk + 1 }) ho fun h'' he' sb => ?_⟩
    have gT : h''.get? s.heap.objs.size = some { cls := .type "tuple", data := .seq #[.int i tk, v] } := (sb.2 _ (Nat.ne_of_gt lt_e)).trans hT
    have new : ObjOk X.prog X.w (upd H s.heap.objs.size (.tup [.int (i : Nat), x])) h'' s.heap.objs.size (.tup [.int (i : Nat), x]) :=
      ⟨by show 2 ≤ sizeLine; decide, [.int i tk, v], .cons ⟨_, rfl⟩ (.cons ru .nil), ⟨_, gT, rfl, _, rfl⟩⟩
    have I1 : Inv X pins σ (upd H s.heap.objs.size (.tup [.int (i : Nat), x])) { s with heap := h'', toks := tk + 1 } :=
      I.turnedNew (ch := [e, it]) (fun b ob hb q => (sb.2 b (fun z => hb (by simp [z]))).trans (hk b ob (fun z => hb (by simp [z])) (fun z => hb (by simp [z])) q)) hf (Nat.le_refl _) new
    refine ⟨.ref s.heap.objs.size, _, I1, rfl, ⟨_, x, rfl, I.hok.fresh (Nat.le_refl _), rfl, fun ys hy => by rw [I.tuple_inj hy hq]; exact hx⟩, ⟨⟨v, ?_⟩, ?_, hne⟩, fun b hb => ?_⟩
    · have e1 : ((i + 1 : Nat) : Int) = (i : Int) + 1 := by omega
      rw [e1]
      exact he'
    · obtain ⟨o, z, r⟩ := hit'.1
      exact ⟨o, (sb.2 it (Ne.symm hne)).trans z, r⟩
    · have lt_b : b < s.heap.objs.size := by
        rcases List.mem_cons.mp hb with z | z
        · rw [z]
          exact lt_e
        · rw [List.mem_singleton.mp z]
          exact lt_it
      rw [upd_ne (Nat.ne_of_lt lt_b)]
      exact (hf b hb).1
  done := by
    intro X hP hw hK hc i pins s σ H E I hf st hg
    subst hP hw hK
    obtain ⟨⟨old, he⟩, hit, hne⟩ := st
    obtain ⟨xs, hq, hx⟩ := hg
    obtain ⟨its, rv, p, hz⟩ := I.tuple hq
    obtain ⟨f0, f1, f2, f3, f4, f5⟩ := hf it (by simp)
    have hl := rv.length
    have p' : s.heap.IsTuple a its.toArray := p
    have na : a ≠ it := fun z => by
      obtain ⟨o, ho, hc1, _⟩ := id p'
      obtain ⟨o2, ho2, hc2, _⟩ := id hit
      rw [z, ho2] at ho
      cases ho
      rw [hc2] at hc1
      exact absurd (Value.type.inj hc1) (by decide)
    have ne : a ≠ e := fun z => by
      obtain ⟨o, ho, hc1, _⟩ := id p'
      rw [z] at ho
      have he2 := he
      unfold IsEnum at he2
      rw [he2] at ho
      cases ho
      exact absurd (Value.type.inj hc1) (by decide)
    have es : its.toArray.size = i := by simp; omega
    refine wpAny_pyNext_enum_endD (Draws.tuple (prog := X.prog) (w := X.w) (A := X.A.in1) (I.ok.hd hc) it a na its.toArray) he ⟨by rw [es]; exact hit, p'⟩ fun h' eb => ⟨rfl, I.turned (t' := s.toks) (fun b o hb q => eb b o hb q) f0 f1 f3 f4 f5⟩
  self := fun A i s Q E st h => by
    obtain ⟨⟨_, he⟩, _⟩ := st
    exact wpAny_pyIter_enum he h
def iEnumT (K : PySem.W.Frag) (ta : TA) : TI := fun σ H R => ta σ H fun vs H1 => ∃ a xs, vs = [.ref a] ∧ SqT K H1 a xs ∧ R (IteT K a) H1
theorem pi_enumT {X : Cx} {e : Expr} {ta : TA} {p pos tpos : Pos} {elts : List Expr} {kk : Nat} (hg : Gl X "enumerate") (hm : X.mg "enumerate" = none) (ha : PA X [e] ta) (hs : starEach [e] X.env = [(false, eval e X.env)] := by rfl) :
    PI X (.Tuple elts kk tpos) (.Call (.Name "enumerate" p) [e] [] pos) (iEnumT X.K ta) := by
  refine ⟨fun pins s σ H R I h => ?_⟩
  refine Call_ (ld_blt I hg hm boot_enumerate (PyProof.Rows.callWith_type1 (thn (ha.run pos pins s σ H _ I h) fun us s1 ⟨vs, H1, I1, r1, a, xs, ev, hq, q⟩ => ?_) hs rfl))
  subst ev
  obtain rfl := Vals.ref1 r1
  obtain ⟨its, rv, p', hz⟩ := I1.tuple hq
  refine call_enumerate_tup (show s1.heap.IsTuple a its.toArray from p') fun h' he hit hsz hk => wpAny_pyIter_enum he ?_
  have I2 : Inv X pins σ H1 { s1 with heap := h' } := I1.kept (t' := s1.toks) hk
  refine ⟨s1.heap.objs.size + 1, [s1.heap.objs.size + 1, s1.heap.objs.size], _, _, H1, rfl, I2, turn_enumT a (s1.heap.objs.size + 1) s1.heap.objs.size, ⟨⟨.none, he⟩, hit, Nat.succ_ne_self _⟩, fun b hb => ?_, q⟩
  have hle : s1.heap.objs.size ≤ b := by
    rcases List.mem_cons.mp hb with z | z
    · rw [z]
      exact Nat.le_add_right _ _
    · rw [List.mem_singleton.mp z]
      exact Nat.le_refl _
  exact I1.fpOk hle (I1.hok.fresh hle)
theorem walk_enumT {K : PySem.W.Frag} {a : Addr} {xs : List V} : Walk (IteT K a) xs.length (fun H => SqT K H a xs) (fun i H v H' => ∃ T x, v = .ref T ∧ H T = none ∧ H' = upd H T (.tup [.int (i : Nat), x]) ∧ xs[i]? = some x) :=
  ⟨fun i _ hi q => ⟨xs, xs[i], q, by simp [hi]⟩, fun _ q => ⟨xs, q, rfl⟩, fun _ _ _ _ _ q ⟨T, x, h1, h2, h3, h4⟩ => ⟨T, x, h1, h2, h3, h4 xs q⟩⟩
section
variable {σ : L2.St} {H : Hp} {D : Ends} {tb : TS} {K : PySem.W.Frag} {Q : VK} {te t0 : TE} {vs : List Nat} {tt : TT}
/-- for j, m in enumerate(the tuple in the slot n) -/
theorem g_forET {n j m N : Nat} {a : Addr} {xs : List V} (hN : 2 = N) (hv : σ[n]? = some (some (.ref a))) (h : SqT K H a xs) (Pv : Nat → L2.St → Hp → Prop) (h0 : Pv 0 σ H) (hl : ∀ i σ' H', i ≤ xs.length → Pv i σ' H' → SqT K H' a xs)
    (hs : ∀ i x σ' H1 H' T, i < xs.length → xs[i]? = some x → Pv i σ' H1 → H1 T = none → H' = upd H1 T (.tup [.int (i : Nat), x]) →
      tb { D with nx := Pv (i + 1), ct := Pv (i + 1), bk := D.nx } ((σ'.set j (some (.int (i : Nat)))).set m (some x)) H')
    (hd : ∀ σ' H', Pv xs.length σ' H' → D.nx σ' H') : tFor (iEnumT K (tCons (tVar n) tNil)) (gTup K N (gCons (gName j) (gCons (gName m) gNil))) tb D σ H := by
  subst hN
  refine ⟨_, hv, a, xs, rfl, h, for_it walk_enumT Pv h0 hl ?_ hd⟩
  rintro i x σ' H1 H' hi p ⟨T, y, rfl, hT, e, hy⟩
  refine ⟨T, _, rfl, .inl (.inl (by rw [e]; exact upd_same)), rfl, _, _, rfl, _, _, rfl, rfl, ?_⟩
  exact hs i y σ' H1 H' T hi hy p hT e
/-- [te for j in t0 if tt], t0 a tuple -/
theorem g_lcTE {j : Nat} (q : t0 σ H fun v H1 => ∃ a, v = V.ref a ∧ (∃ xs, SqT K H1 a xs) ∧ ∀ D, H1 D = none → ∃ W : Nat → Nat → Hp → Prop, (∃ m, W 0 m (upd H1 D (.lst []))) ∧ ∀ i m H, W i m H →
      ((Itt K a).stop i H ∧ Q (.ref D) H) ∨ ((Itt K a).go i H ∧ ∃ Nx : Hp → Prop, (∀ H', Nx H' → ∃ m', m' < m ∧ W (i + 1) m' H') ∧ ∀ x H', (Itt K a).yld i H x H' → gName j x (wipe σ vs) H' fun σ2 H2 => wipe σ2 vs = wipe σ vs ∧ tt σ2 H2 fun b H3 =>
        if b = true then te σ2 H3 fun y H4 => ∃ acc, H4 D = some (.lst acc) ∧ acc.length < sizeLine ∧ Nx (upd H4 D (.lst (acc ++ [y]))) else Nx H3)) : tLc (iTup K t0) (gName j) tt te vs σ H Q := q
theorem g_lcTX {j : Nat} {a : Addr} {xs : List V} (ht0 : ∀ R : VK, R (.ref a) H → t0 σ H R) (h : SqT K H a xs) (p : V → Bool) (f : V → V) (hn : xs.length ≤ 1000000) (hw : ∀ v, wipe ((wipe σ vs).set j (some v)) vs = wipe σ vs)
    (ht : ∀ x, x ∈ xs → ∀ H', Same H H' → Tst tt ((wipe σ vs).set j (some x)) H' (p x))
    (he : ∀ x, x ∈ xs → p x = true → ∀ H', Same H H' → Evs te ((wipe σ vs).set j (some x)) H' (f x))
    (q : ∀ D H', H D = none → Same H H' → H' D = some (.lst ((xs.filter p).map f)) → Q (.ref D) H') : tLc (iTup K t0) (gName j) tt te vs σ H Q :=
  ht0 _ ⟨a, rfl, ⟨xs, h⟩, lc_pure (Qd := fun D H => Q (.ref D) H) walk_tup (fun _ s => Same.seqT s h) p f hn hw ht he q⟩
theorem g_lcTX1 {j : Nat} {a : Addr} {xs : List V} (ht0 : ∀ R : VK, R (.ref a) H → t0 σ H R) (h : SqT K H a xs) (f : V → V) (hn : xs.length ≤ 1000000) (hw : ∀ v, wipe ((wipe σ vs).set j (some v)) vs = wipe σ vs)
    (he : ∀ x, x ∈ xs → ∀ H', Same H H' → Evs te ((wipe σ vs).set j (some x)) H' (f x))
    (q : ∀ D H', H D = none → Same H H' → H' D = some (.lst (xs.map f)) → Q (.ref D) H') : tLc (iTup K t0) (gName j) tYes te vs σ H Q :=
  g_lcTX ht0 h (fun _ => true) f hn hw (fun _ _ _ _ => tst_yes) (fun x hx _ => he x hx) (fun D H' hD s h => q D H' hD s (by rw [h, flt_all]))
/-- the same over a list -/
theorem g_lcLX {j : Nat} {a : Addr} {xs : List V} (ht0 : ∀ R : VK, R (.ref a) H → t0 σ H R) (h : SqL K H a xs) (p : V → Bool) (f : V → V) (hn : xs.length ≤ 1000000) (hw : ∀ v, wipe ((wipe σ vs).set j (some v)) vs = wipe σ vs)
    (ht : ∀ x, x ∈ xs → ∀ H', Same H H' → Tst tt ((wipe σ vs).set j (some x)) H' (p x))
    (he : ∀ x, x ∈ xs → p x = true → ∀ H', Same H H' → Evs te ((wipe σ vs).set j (some x)) H' (f x))
    (q : ∀ D H', H D = none → Same H H' → H' D = some (.lst ((xs.filter p).map f)) → Q (.ref D) H') : tLc (iList K t0) (gName j) tt te vs σ H Q :=
  ht0 _ ⟨a, rfl, ⟨xs, h⟩, lc_pure (Qd := fun D H => Q (.ref D) H) walk_list (fun _ s => s.seq h) p f hn hw ht he q⟩
end
/-- bool(e), e a bool -/
def rBool1 : List V → Hp → VK → Prop := fun xs H Q => ∃ b, xs = [.bl b] ∧ Q (.bl b) H
theorem call_boolB {X : Cx} : CallR X (.type "bool") rBool1 := by
  intro pins s σ H xs us Q I r h
  obtain ⟨b, rfl, q⟩ := h
  exact call_bool1 pins s σ H _ us Q I r (.inr ⟨b, rfl, q⟩)
theorem g_boolB {H : Hp} {Q : VK} {b : Bool} (q : Q (.bl b) H) : rBool1 [.bl b] H Q := ⟨b, rfl, q⟩
/-- ord(e), e one sign -/
def rOrd1 : List V → Hp → VK → Prop := fun xs H Q => ∃ c : Nat, xs = [.str ⟨#[c]⟩] ∧ Q (.int c) H
theorem call_ordC {X : Cx} : CallR X (.builtin "ord") rOrd1 := by
  intro pins s σ H xs us Q I r h
  obtain ⟨c, rfl, q⟩ := h
  exact call_ord pins s σ H _ us Q I r ⟨⟨#[c]⟩, rfl, rfl, q⟩
theorem g_ordC {H : Hp} {Q : VK} {c : Nat} (q : Q (.int c) H) : rOrd1 [.str ⟨#[c]⟩] H Q := ⟨c, rfl, q⟩
/-- str(e), e a number -/
def rStrI : List V → Hp → VK → Prop := fun xs H Q => ∃ i : Int, xs = [.int i] ∧ i.natAbs.log2 < 1920 ∧ Q (.str (Str.ofString (toString i))) H
theorem call_strI {X : Cx} : CallR X (.type "str") rStrI := by
  intro pins s σ H xs us Q I r h
  obtain ⟨i, rfl, l, q⟩ := h
  exact call_str_int pins s σ H _ us Q I r ⟨i, rfl, l, q⟩
theorem log_sm {n : Int} (h : n.natAbs < 10 ^ 9) : n.natAbs.log2 < 1920 := by
  by_cases z : n.natAbs = 0
  · rw [z]; decide
  · exact (Nat.log2_lt z).mpr (Nat.lt_of_lt_of_le h (Nat.le_trans (show 10 ^ 9 ≤ 2 ^ 30 by decide) (Nat.pow_le_pow_right (by decide) (by decide))))
theorem g_strI {H : Hp} {Q : VK} {i : Int} (h : i.natAbs < 10 ^ 9) (q : Q (.str (Str.ofString (toString i))) H) : rStrI [.int i] H Q := ⟨i, rfl, log_sm h, q⟩
/-- list(e), e a list or a tuple -/
def rListOf (K : PySem.W.Frag) : List V → Hp → VK → Prop := fun xs H Q => ∃ p ys, xs = [V.ref p] ∧ (SqL K H p ys ∨ SqT K H p ys) ∧ ∀ l, H l = none → Q (.ref l) (upd H l (.lst ys))
theorem call_listOf {X : Cx} : CallR X (.type "list") (rListOf X.K) := call_list_of
theorem g_listOfL {K : PySem.W.Frag} {H : Hp} {Q : VK} {a : Addr} {ys : List V} (h : SqL K H a ys) (q : ∀ l, H l = none → Q (.ref l) (upd H l (.lst ys))) : rListOf K [.ref a] H Q := ⟨a, ys, rfl, .inl h, q⟩
theorem g_listOfT {K : PySem.W.Frag} {H : Hp} {Q : VK} {a : Addr} {ys : List V} (h : SqT K H a ys) (q : ∀ l, H l = none → Q (.ref l) (upd H l (.lst ys))) : rListOf K [.ref a] H Q := ⟨a, ys, rfl, .inr h, q⟩
theorem listK {X : Cx} {K : PySem.W.Frag} {f : Value} (h3 : X.K = K) (o : CallR X f (rListOf X.K)) : CallR X f (rListOf K) := by
  subst h3
  exact o
end Hf

set_option Elab.async false
set_option linter.all false
set_option maxRecDepth 100000
set_option maxHeartbeats 4000000
namespace Hf
open PySem L2 PySem.Spec PyProof.Rows PySem.Calls
/-! ### methods of classes with classes below them; they may raise -/
def tMethS (K : PySem.W.Frag) (cs : List Str) (m : Str) (n k : Nat) (sp : Sp) (gV : List V → List V → List V) (W : WX) (ta : TE) (t tk : TA) : TE := fun σ H Q => ta σ H fun x H1 => ∃ a C dx fs, x = .ref a ∧ IsC K cs C ∧ H1 a = some (.ins C dx fs) ∧ fs.lookup m = none ∧
  t σ H1 fun vs H2 => tk σ H2 fun zs H3 => vs.length = n ∧ zs.length = k ∧ sp (gV (.ref a :: vs) zs) H3 Q (fun cls d H' => W cls d σ H')
section
variable {X : Cx} {k j n : Nat} {cs : List Str} {c m qual : Str} {st : Stmt} {ps ks : List Str} {dvs mz : List V} {kw : List (Str × V)} {sp : Sp} {apos pos : Pos} {oe e : Expr} {es : List Expr} {kws : List Keyword} {t tk : TA} {ta : TE} {W : WX} {g : {α : Type} → List α → List α → List α → List α → List α} {pl : Sem Bool}
theorem pe_methS (he : PE X oe ta) (oc : ∀ C, IsC X.K cs C → ∃ c, OwnC X.K X.mg c C) (tw : Takes X W) (D : DfMs X.prog X.w X.K X.mg X.base (L2.CX X.prog X.w) k cs m qual st ps dvs kw sp) (hr : RG j X.A) (hj : k ≤ j)
    (kb : ∀ f fd, FunD X.K m qual (defArgs st) (defBody st) (defScope st) dvs kw f fd → ∃ its mv : List Value, KBn X.K fd ps (n + 1) ks (fun us ws => g us its mv ws) (fun vs zs => g vs dvs mz zs))
    (ha : PA X (e :: es) t) (hkw : PK X kws tk) (hall : (backToKw pos (keywordEach kws X.env)).all (·.1.isSome) = true := by rfl) (hks : (backToKw pos (keywordEach kws X.env)).filterMap (·.1) = ks := by rfl)
    (hst : starEach (e :: es) X.env = (false, eval e X.env) :: starEach es X.env := by rfl)
    (hpl : ((backTo pos (starEach (e :: es) X.env)).any (·.1) || (backToKw pos (keywordEach kws X.env)).any (·.1.isNone)) = false := by rfl)
    (ht : eval (.Call (.Attribute oe m apos) (e :: es) kws pos) X.env = (do
      let ov ← eval oe X.env
      standAt apos.atName
      let (f, first) ← holding [ov] (getMethod ov m pl)
      callWith pos f first (backTo pos (starEach (e :: es) X.env)) (backToKw pos (keywordEach kws X.env))) := by rfl) :
    PE X (.Call (.Attribute oe m apos) (e :: es) kws pos) (tMethS X.K cs m n ks.length sp (fun vs zs => g vs dvs mz zs) W ta t tk) := by
  refine ⟨fun pins s σ H Q I h => ?_⟩
  refine PySem.W.methodCall_KW (pl := pl) (thn (he.run pins s σ H _ I h) fun u s1 ⟨x, H1, I1, rx, a, C, dx, fs, ex, xc, ea, l, q⟩ => ?_) ht
  subst ex
  obtain rfl : u = Value.ref a := rx
  obtain ⟨c, o⟩ := oc C xc
  obtain ⟨f, fd, h1, h2, FD, F⟩ := D.ex C xc
  obtain ⟨its, mv, hb⟩ := kb f fd FD
  refine getmeth_ok I1 ea o.cl ⟨h1, h2, FD.kp⟩ l ?_
  refine PySem.W.callWith_KW (first := [.ref a]) (h₀ := X.base) I.ok.mod.kin FD.kp hall (thn (ha.run pos pins s1 σ H1 _ I1 q) fun us s2 ⟨vs, H2, I2, r, q2⟩ => ?_) hpl hst
  refine thn (hkw.run pos pins s2 σ H2 _ I2 q2) fun ws s3 ⟨zs, H3, I3, rz, l1, l2, q3⟩ => ⟨I3.kIn, ?_⟩
  rw [hks]
  have r1 : Vals (V.ref a :: vs) (Value.ref a :: us) := .cons rfl r
  refine wpAny_call (codeAny_mono (F.go X.A X.stack s3 H3 ⟨Value.ref a :: us, ks.zip ws⟩ (g (Value.ref a :: us) its mv ws) _ _ _ (hr.mono hj) I3.env0 (hb.to s3 (Value.ref a :: us) ws I3.kIn (r1.length.symm.trans (congrArg Nat.succ l1)) (rz.length.symm.trans l2)) (hb.rel r1 rz) q3) fun r s' hq => ?_)
  cases r with
  | error e => exact tw _ _ (XE.of_call I3 (fun cls d H' h => h) hq)
  | ok fl =>
    cases fl with
    | ret u =>
      obtain ⟨v, H', I4, rv, q4⟩ := I3.after hq
      exact ⟨v, H', I4, rv, q4⟩
    | next => exact False.elim hq
    | brk => exact False.elim hq
    | cont => exact False.elim hq
theorem pe_methS0 (he : PE X oe ta) (oc : ∀ C, IsC X.K cs C → ∃ c, OwnC X.K X.mg c C) (tw : Takes X W) (D : DfMs X.prog X.w X.K X.mg X.base (L2.CX X.prog X.w) k cs m qual st ps dvs kw sp) (hr : RG j X.A) (hj : k ≤ j)
    (kb : ∀ f fd, FunD X.K m qual (defArgs st) (defBody st) (defScope st) dvs kw f fd → ∃ its mv : List Value, KBn X.K fd ps 1 ks (fun us ws => g us its mv ws) (fun vs zs => g vs dvs mz zs))
    (hkw : PK X kws tk) (hall : (backToKw pos (keywordEach kws X.env)).all (·.1.isSome) = true := by rfl) (hks : (backToKw pos (keywordEach kws X.env)).filterMap (·.1) = ks := by rfl)
    (hpl : ((backTo pos (starEach [] X.env)).any (·.1) || (backToKw pos (keywordEach kws X.env)).any (·.1.isNone)) = false := by rfl)
    (ht : eval (.Call (.Attribute oe m apos) [] kws pos) X.env = (do
      let ov ← eval oe X.env
      standAt apos.atName
      let (f, first) ← holding [ov] (getMethod ov m pl)
      callWith pos f first (backTo pos (starEach [] X.env)) (backToKw pos (keywordEach kws X.env))) := by rfl) :
    PE X (.Call (.Attribute oe m apos) [] kws pos) (tMethS X.K cs m 0 ks.length sp (fun vs zs => g vs dvs mz zs) W ta tNil tk) := by
  refine ⟨fun pins s σ H Q I h => ?_⟩
  refine PySem.W.methodCall_KW (pl := pl) (thn (he.run pins s σ H _ I h) fun u s1 ⟨x, H1, I1, rx, a, C, dx, fs, ex, xc, ea, l, q⟩ => ?_) ht
  subst ex
  obtain rfl : u = Value.ref a := rx
  obtain ⟨c, o⟩ := oc C xc
  obtain ⟨f, fd, h1, h2, FD, F⟩ := D.ex C xc
  obtain ⟨its, mv, hb⟩ := kb f fd FD
  refine getmeth_ok I1 ea o.cl ⟨h1, h2, FD.kp⟩ l ?_
  refine PySem.W.callWith_KW0 (first := [.ref a]) (h₀ := X.base) I.ok.mod.kin FD.kp hall ?_ hpl
  refine thn (hkw.run pos pins s1 σ H1 _ I1 q) fun ws s3 ⟨zs, H3, I3, rz, l1, l2, q3⟩ => ⟨I3.kIn, ?_⟩
  rw [hks]
  have r1 : Vals [V.ref a] [Value.ref a] := .cons rfl .nil
  refine wpAny_call (codeAny_mono (F.go X.A X.stack s3 H3 ⟨[Value.ref a], ks.zip ws⟩ (g [Value.ref a] its mv ws) _ _ _ (hr.mono hj) I3.env0 (hb.to s3 [Value.ref a] ws I3.kIn rfl (rz.length.symm.trans l2)) (hb.rel r1 rz) q3) fun r s' hq => ?_)
  cases r with
  | error e => exact tw _ _ (XE.of_call I3 (fun cls d H' h => h) hq)
  | ok fl =>
    cases fl with
    | ret u =>
      obtain ⟨v, H', I4, rv, q4⟩ := I3.after hq
      exact ⟨v, H', I4, rv, q4⟩
    | next => exact False.elim hq
    | brk => exact False.elim hq
    | cont => exact False.elim hq
end
/-! ### staticmethods, by name with keywords; they may raise -/
structure DfSt (P : Program) (w : World) (K : PySem.W.Frag) (mg : Str → Option Value) (base : Heap) (k : Nat) (c m qual : Str) (st : Stmt) (ps : List Str) (sp : Sp) : Prop where
  ex : ∀ C, XN K c (.ref C) → ∃ (p g : Addr) (fd : FuncData), ClX.CRead K C (.type "type") ∧ (PySem.W.findCls K (.ref C) (.type "type") m = some (.get (.builtin "staticmethod.__get__") (.ref p) .none (.ref C)) ∧ ∃ rest, PySem.W.recIn K p "staticmethod" = some (.ref g :: rest)) ∧ FunD K m qual (defArgs st) (defBody st) (defScope st) [] [] g fd ∧ FnG P w K mg base (L2.CX P w) k g fd ps sp
def tStaC (K : PySem.W.Frag) (c : Str) (n l : Nat) (sp : Sp) (gV : List V → List V → List V) (W : WX) (ta : TE) (t tk : TA) : TE := fun σ H Q => ta σ H fun x H1 => ∃ C, x = .ref C ∧ XN K c (.ref C) ∧
  t σ H1 fun vs H2 => tk σ H2 fun zs H3 => vs.length = n ∧ zs.length = l ∧ sp (gV vs zs) H3 Q (fun cls d H' => W cls d σ H')
section
variable {X : Cx} {k j n : Nat} {c m qual : Str} {st : Stmt} {ps ks : List Str} {sp : Sp} {apos pos : Pos} {oe e : Expr} {es : List Expr} {kws : List Keyword} {t tk : TA} {ta : TE} {W : WX} {g : {α : Type} → List α → List α → List α → List α → List α} {pl : Sem Bool}
theorem getSt {pins : List (Addr × Obj)} {σ : L2.St} {H : Hp} {s : Shared} {C p gf : Addr} {E : Value → Shared → Prop} {Q : Value × List Value → Shared → Prop} (I : Inv X pins σ H s) (r : ClX.CRead X.K C (.type "type")) (a : PySem.W.findCls X.K (.ref C) (.type "type") m = some (.get (.builtin "staticmethod.__get__") (.ref p) .none (.ref C)))
    (hp : ∃ rest, PySem.W.recIn X.K p "staticmethod" = some (.ref gf :: rest)) (h : Q (.ref gf, []) { s with toks := s.toks + 1 }) : wpAny (model X.prog X.w) X.A (getMethod (.ref C) m pl) Q E s := by
  obtain ⟨rest, hp⟩ := hp
  refine PySem.W.method_cls I.kIn r.ga (PySem.W.cls_bind I.kIn r.rd a ?_)
  exact wpAny_call (PySem.W.sm_get (s := { s with toks := s.toks + 1 }) I.kIn hp (PySem.W.handed_on rfl h))
theorem runSt {pins : List (Addr × Obj)} {σ : L2.St} {H : Hp} {s : Shared} {Q : VK} {gf : Addr} {fd : FuncData} {us ws : List Value} {vs zs : List V} {its mv : List Value} (tw : Takes X W) (F : FnG X.prog X.w X.K X.mg X.base (L2.CX X.prog X.w) k gf fd ps sp) (hr : RG k X.A)
    (hb : KBn X.K fd ps n ks (fun us ws => g us its mv ws) (fun vs zs => g vs [] [] zs)) (I : Inv X pins σ H s) (r : Vals vs us) (rz : Vals zs ws) (l1 : vs.length = n) (l2 : zs.length = ks.length)
    (h : sp (g vs [] [] zs) H Q (fun cls d H' => W cls d σ H')) : wpAny (model X.prog X.w) X.A (call (.ref gf) us (ks.zip ws)) (EP X pins σ Q) X.xe s := by
  refine wpAny_call (codeAny_mono (F.go X.A X.stack s H ⟨us, ks.zip ws⟩ (g us its mv ws) _ _ _ hr I.env0 (hb.to s us ws I.kIn (r.length.symm.trans l1) (rz.length.symm.trans l2)) (hb.rel r rz) h) fun r s' hq => ?_)
  cases r with
  | error e => exact tw _ _ (XE.of_call I (fun cls d H' h => h) hq)
  | ok fl =>
    cases fl with
    | ret u =>
      obtain ⟨v, H', I4, rv, q4⟩ := I.after hq
      exact ⟨v, H', I4, rv, q4⟩
    | next => exact False.elim hq
    | brk => exact False.elim hq
    | cont => exact False.elim hq
theorem pe_staC (he : PE X oe ta) (tw : Takes X W) (D : DfSt X.prog X.w X.K X.mg X.base k c m qual st ps sp) (hr : RG j X.A) (hj : k ≤ j)
    (kb : ∀ f fd, FunD X.K m qual (defArgs st) (defBody st) (defScope st) [] [] f fd → ∃ its mv : List Value, KBn X.K fd ps n ks (fun us ws => g us its mv ws) (fun vs zs => g vs [] [] zs))
    (ha : PA X (e :: es) t) (hkw : PK X kws tk) (hall : (backToKw pos (keywordEach kws X.env)).all (·.1.isSome) = true := by rfl) (hks : (backToKw pos (keywordEach kws X.env)).filterMap (·.1) = ks := by rfl)
    (hst : starEach (e :: es) X.env = (false, eval e X.env) :: starEach es X.env := by rfl)
    (hpl : ((backTo pos (starEach (e :: es) X.env)).any (·.1) || (backToKw pos (keywordEach kws X.env)).any (·.1.isNone)) = false := by rfl)
    (ht : eval (.Call (.Attribute oe m apos) (e :: es) kws pos) X.env = (do
      let ov ← eval oe X.env
      standAt apos.atName
      let (f, first) ← holding [ov] (getMethod ov m pl)
      callWith pos f first (backTo pos (starEach (e :: es) X.env)) (backToKw pos (keywordEach kws X.env))) := by rfl) :
    PE X (.Call (.Attribute oe m apos) (e :: es) kws pos) (tStaC X.K c n ks.length sp (fun vs zs => g vs [] [] zs) W ta t tk) := by
  refine ⟨fun pins s σ H Q I h => ?_⟩
  refine PySem.W.methodCall_KW (pl := pl) (thn (he.run pins s σ H _ I h) fun u s1 ⟨x, H1, I1, rx, C, ex, xc, q⟩ => ?_) ht
  subst ex
  obtain rfl : u = Value.ref C := rx
  obtain ⟨p, gf, fd, r, ⟨a, hp⟩, FD, F⟩ := D.ex C xc
  obtain ⟨its, mv, hb⟩ := kb gf fd FD
  refine getSt I1 r a hp ?_
  refine PySem.W.callWith_KW (first := []) (h₀ := X.base) I.ok.mod.kin FD.kp hall (thn (ha.run pos pins _ σ H1 _ (I1.tok _) q) fun us s2 ⟨vs, H2, I2, r, q2⟩ => ?_) hpl hst
  refine thn (hkw.run pos pins s2 σ H2 _ I2 q2) fun ws s3 ⟨zs, H3, I3, rz, l1, l2, q3⟩ => ⟨I3.kIn, ?_⟩
  rw [hks]
  exact runSt tw F (hr.mono hj) hb I3 r rz l1 l2 q3
theorem pe_staC0 (he : PE X oe ta) (tw : Takes X W) (D : DfSt X.prog X.w X.K X.mg X.base k c m qual st ps sp) (hr : RG j X.A) (hj : k ≤ j)
    (kb : ∀ f fd, FunD X.K m qual (defArgs st) (defBody st) (defScope st) [] [] f fd → ∃ its mv : List Value, KBn X.K fd ps 0 ks (fun us ws => g us its mv ws) (fun vs zs => g vs [] [] zs))
    (hkw : PK X kws tk) (hall : (backToKw pos (keywordEach kws X.env)).all (·.1.isSome) = true := by rfl) (hks : (backToKw pos (keywordEach kws X.env)).filterMap (·.1) = ks := by rfl)
    (hpl : ((backTo pos (starEach [] X.env)).any (·.1) || (backToKw pos (keywordEach kws X.env)).any (·.1.isNone)) = false := by rfl)
    (ht : eval (.Call (.Attribute oe m apos) [] kws pos) X.env = (do
      let ov ← eval oe X.env
      standAt apos.atName
      let (f, first) ← holding [ov] (getMethod ov m pl)
      callWith pos f first (backTo pos (starEach [] X.env)) (backToKw pos (keywordEach kws X.env))) := by rfl) :
    PE X (.Call (.Attribute oe m apos) [] kws pos) (tStaC X.K c 0 ks.length sp (fun vs zs => g vs [] [] zs) W ta tNil tk) := by
  refine ⟨fun pins s σ H Q I h => ?_⟩
  refine PySem.W.methodCall_KW (pl := pl) (thn (he.run pins s σ H _ I h) fun u s1 ⟨x, H1, I1, rx, C, ex, xc, q⟩ => ?_) ht
  subst ex
  obtain rfl : u = Value.ref C := rx
  obtain ⟨p, gf, fd, r, ⟨a, hp⟩, FD, F⟩ := D.ex C xc
  obtain ⟨its, mv, hb⟩ := kb gf fd FD
  refine getSt I1 r a hp ?_
  refine PySem.W.callWith_KW0 (first := []) (h₀ := X.base) I.ok.mod.kin FD.kp hall ?_ hpl
  refine thn (hkw.run pos pins _ σ H1 _ (I1.tok _) q) fun ws s3 ⟨zs, H3, I3, rz, l1, l2, q3⟩ => ⟨I3.kIn, ?_⟩
  rw [hks]
  exact runSt (n := 0) (us := []) tw F (hr.mono hj) hb I3 .nil rz l1 l2 q3
end
end Hf
namespace Hf
open PySem L2 PySem.Spec PyProof.Rows PySem.Calls
theorem fnIn_of {K : PySem.W.Frag} {x qual : Str} {params : Arguments} {body : List Stmt} {scope : Scope} {dvs : List V} {kws : List (Str × V)} {f : Addr} {fd : FuncData} (F : FunD K x qual params body scope dvs kws f fd) : PySem.W.fnIn K f = true := by
  obtain ⟨oc, od, dV, kV, doc, pm, an, cdv, ct, osl, rfl, lk, _⟩ := F.ex
  unfold PySem.W.fnIn
  rw [lk]
/-! ### x[i] by an own __getitem__ that may raise; x in y; + ; != -/
def rIxO (K : PySem.W.Frag) (cs : List Str) (sp : Sp) (EX : XK) : R2 := fun x y H Q => ∃ a, x = .ref a ∧ InsV K cs H a ∧ sp [.ref a, y] H Q EX
def rInO (K : PySem.W.Frag) (cs : List Str) (sp : Sp) (neg : Bool) : R2 := fun x y H Q => ∃ a, y = .ref a ∧ InsV K cs H a ∧ sp [.ref a, x] H (fun v H' => ∃ b, v = .bl b ∧ Q (.bl (if neg = true then !b else b)) H') E0
def rNeS (K : PySem.W.Frag) (cs : List Str) (sp : Sp) : R2 := fun x y H Q => ∃ a C dx fs t, x = .ref a ∧ IsC K cs C ∧ H a = some (.ins C dx fs) ∧ TyX K H y t ∧ PySem.W.notFirst K C t = true ∧ sp [.ref a, y] H (fun v H' => ∃ b, v = .bl b ∧ Q (.bl (!b)) H') E0
/-- what the text says of an own operator -/
structure BinS (K : PySem.W.Frag) (C : Addr) (nm : String) : Prop where
  sf : PySem.W.selfFirst K C = true
  rc : PySem.W.findIn K (.ref C) (dunderR nm) = some none
theorem BinF.toS {K : PySem.W.Frag} {C : Addr} {nm : String} (b : BinF K C nm) : BinS K C nm := ⟨b.sf, b.rc⟩
section
variable {prog : Program} {w : World} {A : Around} {E : Value → Shared → Prop} {s : Shared} {K : PySem.W.Frag} {x y C D L f g : Addr} {h₀ : Heap} {m : Str → Option Value} {ox oy : Obj} {od oe : Option Obj}
open PySem.W in
/-- own x op own y of another class that is not below x's -/
theorem bin_other {op : Operator} {Q : Value → Shared → Prop} (F : Fr h₀ L s.heap m) (X₀ : K.In h₀) (I : InstAt s.heap x ox C od) (J : InstAt s.heap y oy D oe) (hc : selfFirst K C = true) (hd : selfFirst K D = true) (ne : C ≠ D)
    (hs : findIn K (.ref C) (PySem.dunder op.info.2) = some (some (.ref f))) (hf : isFn K (.ref f) = true) (hr : findIn K (.ref C) (dunderR op.info.2) = some none)
    (hs2 : findIn K (.ref D) (PySem.dunder op.info.2) = some (some (.ref g))) (hr2 : findIn K (.ref D) (dunderR op.info.2) = some none) (hsub : subIn K (.ref D) (.ref C) = some false)
    (h : wpAny (model prog w) A (call (.ref f) [.ref x, .ref y]) (PySem.W.CmpBack Q) E s) : wpAny (model prog w) A (binaryOp op (.ref x) (.ref y)) Q E s := by
  have XX := X₀.keeps F.keep
  obtain ⟨cd, rest, e1, e2⟩ := ksp_first hc
  obtain ⟨cd2, rest2, e3, e4⟩ := ksp_first hd
  rcases hi : op.info with ⟨sy, n2⟩
  rw [hi] at hs hr hs2 hr2; dsimp only at hs hr hs2 hr2
  have tr := ksp_try XX I hs hf h
  obtain ⟨hp, gg, dd, tk, oo⟩ := s
  have Ta : Looks (model prog w) hp (typeOf (.ref x)) (.ref C) := I.type
  have Tb : Looks (model prog w) hp (typeOf (.ref y)) (.ref D) := J.type
  have Fa : Looks (model prog w) hp (fillsNumberSlot (.ref C) n2) true := fills_K XX e1 e2 hs
  have Fb : Looks (model prog w) hp (fillsNumberSlot (.ref D) n2) true := fills_K XX e3 e4 hs2
  have Su := looks_subIn (M := model prog w) XX hsub
  have Pa : Looks (model prog w) hp (numberSlotInPython (.ref C) n2) true := ksp_inPy XX hs hr (.inl rfl)
  have Pb : Looks (model prog w) hp (numberSlotInPython (.ref D) n2) true := ksp_inPy XX hs2 hr2 (.inl rfl)
  have Ro := looks_findIn (M := model prog w) XX hr2
  have dif : (Value.ref C == Value.ref D) = false := Bool.eq_false_iff.mpr fun z => ne (Value.ref.inj (beq_iff_eq.mp z))
  simp only [binaryOp, hi]
  refine wpAny_holding (wpAny_bind ?_)
  unfold binaryOp1
  refine wpAny_bind (Ta.at (wpAny_bind (Tb.at (wpAny_bind (Fa.at ?_)))))
  simp only [dif, Bool.false_eq_true, if_false]
  all_goals
    ksp_lk
    refine wpAny_mono tr (fun v1 s1 z => ?_) fun _ _ z => z
    obtain ⟨v, rfl, q⟩ := z
    ksp_lk
    exact q
end
end Hf
namespace Hf
open PySem L2 PySem.Spec PyProof.Rows PySem.Calls
section
variable {X : Cx} {k j : Nat} {cs : List Str} {m qual nm : Str} {st : Stmt} {sp : Sp} {p2 : Str} {EX : XK} {a b : Expr} {ta tb : TE} {pos : Pos}
theorem goXS {A : Around} {f : Addr} {fd : FuncData} {pins : List (Addr × Obj)} {σ : L2.St} {H : Hp} {s : Shared} {us : List Value} {vs : List V} {ps : List Str} {Q : VK} (tw : Takes X (fun cls d _ H' => EX cls d H')) (F : FnG X.prog X.w X.K X.mg X.base (L2.CX X.prog X.w) k f fd ps sp) (hr : RG k A)
    (e0 : Env0 X.prog X.w X.K X.mg X.base A X.stack s H) (I : Inv X pins σ H s) (hb : BindsTo s fd ⟨us, []⟩ (ps.zip us)) (r : Vals vs us) (h : sp vs H Q EX) : wpAny (model X.prog X.w) A (call (.ref f) us) (EP X pins σ Q) X.xe s := by
  refine wpAny_call (codeAny_mono (F.go A X.stack s H ⟨us, []⟩ us vs Q EX hr e0 hb r h) fun r s' hq => ?_)
  cases r with
  | error e => exact tw _ _ (XE.of_call I (fun cls d H' h => h) hq)
  | ok fl =>
    cases fl with
    | ret u => exact I.after hq
    | next => exact False.elim hq
    | brk => exact False.elim hq
    | cont => exact False.elim hq
theorem pe_ixO (ha : PE X a ta) (hb : PE X b tb) (tw : Takes X (fun cls d _ H' => EX cls d H')) (D : DfMs X.prog X.w X.K X.mg X.base (L2.CX X.prog X.w) k cs "__getitem__" qual st [("self" : Str), p2] [] [] sp) (hr : RG j X.A) (hj : k + 1 ≤ j) (hbi : BindS st "__getitem__" qual [("self" : Str), p2])
    (hs : ∀ (x : Addr) (i : Value), subscripted b true (.ref x) i = runValue (.builtin "lifetime.subscript" ⟨[.ref x, i], []⟩) := by intros; with_unfolding_all rfl) : PE X (.Subscript a b pos) (tOp (rIxO X.K cs sp EX) ta tb) := by
  refine ⟨fun pins s σ H Q I h => ?_⟩
  refine Subscript_ (binT ha hb I h fun v u s2 x y H2 I2 rx ry q => ?_)
  obtain ⟨a', rfl, ⟨C, dx, fs, ic, ea⟩, q⟩ := q
  cases rx
  obtain ⟨mA, O, _⟩ := ins_get I2.hok ea
  obtain ⟨od, J, _⟩ := O.look
  obtain ⟨mm, hF⟩ := I2.fr
  obtain ⟨f, fd, h1, h2, FD, F⟩ := D.ex C ic
  refine PySem.W.sub_K hF I2.ok.mod.kin J h1 (fnIn_of FD) h2 ?_ (hs _ _)
  exact goXS (A := X.A.in1) tw F (hr.mono hj).in1 I2.env0.in1 I2 (FD.bindsA (ps := [("self" : Str), p2]) hbi s2 [_, u] rfl) (vs2 _ ry) q
theorem op_inS (D : DfMs X.prog X.w X.K X.mg X.base CX0 k cs "__contains__" qual st [("self" : Str), p2] [] [] sp) (hr : RG j X.A) (hj : k ≤ j) (hbi : BindS st "__contains__" qual [("self" : Str), p2]) : OpR X (compareOp .In) (rInO X.K cs sp false) := by
  intro pins s σ H x y v u Q I rx ry hq
  obtain ⟨a', rfl, ⟨C, dx, fs, ic, ea⟩, q⟩ := hq
  cases ry
  obtain ⟨mA, O, _⟩ := ins_get I.hok ea
  obtain ⟨od, J, _⟩ := O.look
  obtain ⟨mm, hF⟩ := I.fr
  obtain ⟨f, fd, h1, h2, FD, F⟩ := D.ex C ic
  refine PySem.W.in_K hF I.ok.mod.kin J h1 h2 ?_
  refine wpAny_mono (goS (A := X.A) F (hr.mono hj) I.env0 I (FD.bindsA (ps := [("self" : Str), p2]) hbi s [_, v] rfl) (vs2 _ rx) q) (fun r s' z => ?_) fun _ _ z => z.elim
  obtain ⟨w, H', I', rv, b, rfl, q'⟩ := z
  cases rv
  exact wpAny_truthy_bool ⟨.bl b, H', I', rfl, q'⟩
theorem op_notInS (D : DfMs X.prog X.w X.K X.mg X.base CX0 k cs "__contains__" qual st [("self" : Str), p2] [] [] sp) (hr : RG j X.A) (hj : k ≤ j) (hbi : BindS st "__contains__" qual [("self" : Str), p2]) : OpR X (compareOp .NotIn) (rInO X.K cs sp true) := by
  intro pins s σ H x y v u Q I rx ry hq
  obtain ⟨a', rfl, ⟨C, dx, fs, ic, ea⟩, q⟩ := hq
  cases ry
  obtain ⟨mA, O, _⟩ := ins_get I.hok ea
  obtain ⟨od, J, _⟩ := O.look
  obtain ⟨mm, hF⟩ := I.fr
  obtain ⟨f, fd, h1, h2, FD, F⟩ := D.ex C ic
  refine PySem.W.notIn_K hF I.ok.mod.kin J h1 h2 ?_
  refine wpAny_mono (goS (A := X.A) F (hr.mono hj) I.env0 I (FD.bindsA (ps := [("self" : Str), p2]) hbi s [_, v] rfl) (vs2 _ rx) q) (fun r s' z => ?_) fun _ _ z => z.elim
  obtain ⟨w, H', I', rv, b, rfl, q'⟩ := z
  cases rv
  exact wpAny_truthy_bool ⟨.bl (!b), H', I', rfl, q'⟩
theorem op_neS (oc : ∀ C, IsC X.K cs C → ∃ c, OwnC X.K X.mg c C) (hne : ∀ C, IsC X.K cs C → PySem.W.findIn X.K (.ref C) "__ne__" = some (some (.builtin "object.__ne__"))) (D : DfMs X.prog X.w X.K X.mg X.base CX0 k cs "__eq__" qual st ["self", "other"] [] [] sp) (hr : RG j X.A) (hj : k + 2 ≤ j)
    (hb : BindS st "__eq__" qual ["self", "other"]) : OpR X (compareOp .NotEq) (rNeS X.K cs sp) := by
  intro pins s σ H x y v u Q I rx ry hq
  obtain ⟨a, C, dx, fs, t, rfl, ic, ea, ty, nf, q⟩ := hq
  cases rx
  obtain ⟨mA, O, _⟩ := ins_get I.hok ea
  obtain ⟨od, J, _⟩ := O.look
  obtain ⟨P, Z, p, _⟩ := kit_of I ry ty
  obtain ⟨c, o⟩ := oc C ic
  obtain ⟨f, fd, h1, h2, FD, F⟩ := D.ex C ic
  have hr' : RG (k + 1) X.A := hr.mono (by omega)
  show wpAny (model X.prog X.w) X.A (richCompare .NotEq _ u) (EP X pins σ Q) X.xe s
  refine ne_K (tb := t) (by have := hr.rm.units; omega) I.kIn J (Z.ty _ _ I.kIn p) nf h1 h2 (hne C ic) o.io ?_
  refine codeAny_mono (F.go X.A.in1 X.stack s H ⟨[.ref a, u], []⟩ [.ref a, u] [.ref a, y] _ E0 hr'.in1 I.env0.in1 (FD.bindsA (ps := ["self", "other"]) hb s [_, u] rfl) (vs2 _ ry) q) fun r s' hq' => ?_
  cases r with
  | error e => exact False.elim hq'
  | ok fl =>
    cases fl with
    | ret w =>
      obtain ⟨z, H', I', rz, b, ez, q'⟩ := I.after hq'
      subst ez
      cases rz
      exact ⟨b, rfl, ⟨.bl (!b), H', I', rfl, q'⟩⟩
    | next => exact False.elim hq'
    | brk => exact False.elim hq'
    | cont => exact False.elim hq'
/-- x op y for instances of the classes cs -/
def rBinS (K : PySem.W.Frag) (cs : List Str) (sp : Sp) (EX : XK) : R2 := fun x y H Q => ∃ a C dx fs b D dy gs, x = .ref a ∧ IsC K cs C ∧ H a = some (.ins C dx fs) ∧ y = .ref b ∧ IsC K cs D ∧ H b = some (.ins D dy gs) ∧ (C = D ∨ (C ≠ D ∧ PySem.W.subIn K (.ref D) (.ref C) = some false)) ∧ sp [.ref a, .ref b] H Q EX
theorem op_binS {op : Operator} {nm : String} (B : ∀ C, IsC X.K cs C → BinS X.K C nm) (tw : Takes X (fun cls d _ H' => EX cls d H')) (D : DfMs X.prog X.w X.K X.mg X.base (L2.CX X.prog X.w) k cs m qual st [("self" : Str), p2] [] [] sp) (hr : RG j X.A) (hj : k ≤ j) (hn : op.info.2 = nm) (hm : PySem.dunder nm = m)
    (hb : BindS st m qual [("self" : Str), p2]) : OpR X (binaryOp op) (rBinS X.K cs sp EX) := by
  subst hn hm
  intro pins s σ H x y v u Q I rx ry hq
  obtain ⟨a, C, dx, fs, b, C2, dy, gs, rfl, ic, ea, rfl, ic2, eb, cc, q⟩ := hq
  cases rx
  cases ry
  obtain ⟨mA, O, _⟩ := ins_get I.hok ea
  obtain ⟨od, J, _⟩ := O.look
  obtain ⟨mB, O2, _⟩ := ins_get I.hok eb
  obtain ⟨oe, J2, _⟩ := O2.look
  obtain ⟨mm, hF⟩ := I.fr
  obtain ⟨f, fd, h1, h2, FD, F⟩ := D.ex C ic
  obtain ⟨f2, fd2, h3, h4, FD2, F2⟩ := D.ex C2 ic2
  have B1 := B C ic
  have B2 := B C2 ic2
  have body : wpAny (model X.prog X.w) X.A (call (.ref f) [.ref a, .ref b]) (PySem.W.CmpBack (EP X pins σ Q)) X.xe s := by
    refine thn (goXS (A := X.A) tw F (hr.mono hj) I.env0 I (FD.bindsA (ps := [("self" : Str), p2]) hb s [_, _] rfl) (vs2 _ (show RelV (.ref b) (.ref b) from rfl)) q) fun w s' z => ?_
    obtain ⟨z, H', I', rz, q'⟩ := z
    exact SlX.cmpback rz ⟨z, H', I', rz, q'⟩
  rcases cc with rfl | ⟨ne, sb⟩
  · exact PySem.W.binop_K hF I.ok.mod.kin J J2.type B1.sf h1 h2 body
  · exact bin_other hF I.ok.mod.kin J J2 B1.sf B2.sf ne h1 h2 B1.rc h3 B2.rc sb body
end
section
variable {K : PySem.W.Frag} {mg : Str → Option Value} {cs : List Str} {c m : Str} {H : Hp} {σ : L2.St} {Q : VK} {sp : Sp} {EX : XK} {a b C D dx dy : Addr} {fs gs : List (Str × V)} {ta tb : TE} {t tk : TA} {n l : Nat} {gV : List V → List V → List V} {W : WX} {x y : V} {neg : Bool}
theorem g_methS (q : ta σ H fun x H1 => ∃ a C dx fs, x = .ref a ∧ IsC K cs C ∧ H1 a = some (.ins C dx fs) ∧ fs.lookup m = none ∧
  t σ H1 fun vs H2 => tk σ H2 fun zs H3 => vs.length = n ∧ zs.length = l ∧ sp (gV (.ref a :: vs) zs) H3 Q (fun cls d H' => W cls d σ H')) : tMethS K cs m n l sp gV W ta t tk σ H Q := q
theorem g_insMS {P : Addr → Prop} (h : H a = some (.ins C dx fs)) (x : IsC K cs C) (l : fs.lookup m = none) (q : P a) : ∃ a' C' dx' fs', V.ref a = .ref a' ∧ IsC K cs C' ∧ H a' = some (.ins C' dx' fs') ∧ fs'.lookup m = none ∧ P a' := ⟨_, _, _, _, rfl, x, h, l, q⟩
theorem g_staC (q : ta σ H fun x H1 => ∃ C, x = .ref C ∧ XN K c (.ref C) ∧ t σ H1 fun vs H2 => tk σ H2 fun zs H3 => vs.length = n ∧ zs.length = l ∧ sp (gV vs zs) H3 Q (fun cls d H' => W cls d σ H')) : tStaC K c n l sp gV W ta t tk σ H Q := q
theorem g_staN {P : Prop} (x : XN K c (.ref C)) (q : P) : ∃ C', V.ref C = .ref C' ∧ XN K c (.ref C') ∧ P := ⟨C, rfl, x, q⟩
theorem g_ixO (h : H a = some (.ins C dx fs)) (i : IsC K cs C) (q : sp [.ref a, y] H Q EX) : rIxO K cs sp EX (.ref a) y H Q := ⟨a, rfl, ⟨C, dx, fs, i, h⟩, q⟩
theorem g_inO (h : H a = some (.ins C dx fs)) (i : IsC K cs C) (q : sp [.ref a, x] H (fun v H' => ∃ b, v = .bl b ∧ Q (.bl (if neg = true then !b else b)) H') E0) : rInO K cs sp neg x (.ref a) H Q := ⟨a, rfl, ⟨C, dx, fs, i, h⟩, q⟩
theorem g_neO2 {t : Value} (ic : IsC K cs C) (h : H a = some (.ins C dx fs)) (ty : TyX K H y t) (nf : PySem.W.notFirst K C t = true) (q : sp [.ref a, y] H (fun v H' => ∃ b, v = .bl b ∧ Q (.bl (!b)) H') E0) : rNeS K cs sp (.ref a) y H Q := ⟨a, C, dx, fs, t, rfl, ic, h, ty, nf, q⟩
theorem g_binS (h : H a = some (.ins C dx fs)) (ic : IsC K cs C) (h2 : H b = some (.ins D dy gs)) (ic2 : IsC K cs D) (cc : C = D ∨ (C ≠ D ∧ PySem.W.subIn K (.ref D) (.ref C) = some false)) (q : sp [.ref a, .ref b] H Q EX) : rBinS K cs sp EX (.ref a) (.ref b) H Q := ⟨a, C, dx, fs, b, D, dy, gs, rfl, ic, h, rfl, ic2, h2, cc, q⟩
theorem methSK {X : Cx} {e : Expr} (h3 : X.K = K) (o : PE X e (tMethS X.K cs m n l sp gV W ta t tk)) : PE X e (tMethS K cs m n l sp gV W ta t tk) := by
  subst h3
  exact o
theorem staK {X : Cx} {e : Expr} (h3 : X.K = K) (o : PE X e (tStaC X.K c n l sp gV W ta t tk)) : PE X e (tStaC K c n l sp gV W ta t tk) := by
  subst h3
  exact o
theorem ixOK {X : Cx} {e : Expr} (h3 : X.K = K) (o : PE X e (tOp (rIxO X.K cs sp EX) ta tb)) : PE X e (tOp (rIxO K cs sp EX) ta tb) := by
  subst h3
  exact o
theorem inOK {X : Cx} {f : Value → Value → Sem Value} (h3 : X.K = K) (o : OpR X f (rInO X.K cs sp neg)) : OpR X f (rInO K cs sp neg) := by
  subst h3
  exact o
theorem neSK {X : Cx} {f : Value → Value → Sem Value} (h3 : X.K = K) (o : OpR X f (rNeS X.K cs sp)) : OpR X f (rNeS K cs sp) := by
  subst h3
  exact o
theorem binSK {X : Cx} {f : Value → Value → Sem Value} (h3 : X.K = K) (o : OpR X f (rBinS X.K cs sp EX)) : OpR X f (rBinS K cs sp EX) := by
  subst h3
  exact o
end
end Hf
namespace PySem
open Sem (wp)
open Builtin AutoSeq1
open AutoSeq1 (wpAny_loadPart')
theorem list_extend_tupG (l : Addr) (items : Array Value) (n : Nat) (b : Addr) (items2 : Array Value) (n2 : Nat) (dd : Option Addr) (sl : Array (Option Value)) (hs0 : ¬(!items.isEmpty && Builtin.List.listTooLong (items.size + items2.size)) = true) (hs1 : items.size ≤ sizeLine) (hs2 : items.size + items2.size ≤ sizeLine + 1) :
    Meets (Builtin.«list.extend» ⟨[.ref l, .ref b], []⟩) (fun _ R s => s.heap.get? l = some { cls := .type "list", dict := none, data := .seq items n, slots := #[] } ∧ s.heap.get? b = some { cls := .type "tuple", dict := dd, data := .seq items2 n2, slots := sl } ∧ R (.ok (.ret Value.none)) { s with heap := s.heap.update l (Obj.mapSeq fun x => x ++ items2), toks := s.toks }) :=
  .of_wp fun prog w A R s h => by
    obtain ⟨hp, g, d, tk, os⟩ := s; obtain ⟨hl, hb, h⟩ := h; have f1 := idx_int; have f2 := sub_tuple_tuple; have f3 := sub_list_list; have f4 := sub_tuple_list; have f5 := sub_list_tuple;
    have hz' : (items ++ items2).size ≤ sizeLine + 1 := by rw [Array.size_append]; exact hs2
    wp_walk using (wpAny_updateSeq hl rfl (hz := hs1) (_hz' := hz')), wpAny_loadPart' hl, wpAny_loadPart' hb; exact ⟨_, rfl, h⟩
end PySem
namespace Hf
open PySem L2 PySem.Spec PyProof.Rows
/-- xs.extend(e), e a list or a tuple -/
def rExtendA (K : PySem.W.Frag) : V → List V → Hp → VK → Prop := fun x vs H Q => ∃ l b xs zs, x = .ref l ∧ vs = [.ref b] ∧ H l = some (.lst xs) ∧ (H b = some (.lst zs) ∨ SqT K H b zs) ∧ xs.length + zs.length ≤ sizeLine ∧ Q .non (upd H l (.lst (xs ++ zs)))
theorem mt_extendA {X : Cx} : MtM X "list.extend" (rExtendA X.K) := by
  intro pins s σ H x vs v us Q I rx rv h
  obtain ⟨l, b, xs, zs, rfl, rfl, hH, hB, hz, q⟩ := h
  rcases hB with hB | hB
  · exact mt_extend pins s σ H _ _ v us Q I rx rv ⟨l, b, xs, zs, rfl, rfl, hH, hB, hz, q⟩
  cases rx
  obtain ⟨u, rfl, ru⟩ := rv.one
  cases ru
  obtain ⟨z, its, n, r, hl, e⟩ := I.lstM hH
  obtain ⟨its2, r2, hT, hz2⟩ := I.tuple hB
  obtain ⟨⟨cls, d, data, sl⟩, ho, hcl, n2, hd⟩ := id hT
  simp only at hcl hd
  subst hcl hd
  have hl2 := r2.length
  have hsz : its.toArray.size + its2.toArray.size ≤ sizeLine := by rw [List.size_toArray, List.size_toArray]; omega
  have hlong : ¬ (!its.toArray.isEmpty && Builtin.List.listTooLong (its.toArray.size + its2.toArray.size)) = true := by
    rw [notLongL hsz, Bool.and_false]
    exact Bool.false_ne_true
  refine call_meets PySem.F.slot_list_extend ⟨_, e, rfl⟩ PySem.F.entry_list_extend (PySem.F.args_list_extend_2 _ _)
    (list_extend_tupG l its.toArray n b its2.toArray n2 d sl hlong (by rw [List.size_toArray]; omega) (by omega)) ⟨e, ho, ?_⟩
  refine ⟨.non, _, I.lset (its' := its ++ its2) hH e (by simp) (r.append r2) ?_, rfl, q⟩
  rw [List.length_append]
  omega
theorem g_extL {K : PySem.W.Frag} {H : Hp} {Q : VK} {l b : Addr} {xs zs : List V} (h : H l = some (.lst xs)) (h2 : H b = some (.lst zs)) (hz : xs.length + zs.length ≤ 100000) (q : Q .non (upd H l (.lst (xs ++ zs)))) : rExtendA K (.ref l) [.ref b] H Q := ⟨l, b, xs, zs, rfl, rfl, h, .inl h2, Nat.le_trans hz (by decide), q⟩
theorem g_extT {K : PySem.W.Frag} {H : Hp} {Q : VK} {l b : Addr} {xs zs : List V} (h : H l = some (.lst xs)) (h2 : SqT K H b zs) (hz : xs.length + zs.length ≤ 100000) (q : Q .non (upd H l (.lst (xs ++ zs)))) : rExtendA K (.ref l) [.ref b] H Q := ⟨l, b, xs, zs, rfl, rfl, h, .inr h2, Nat.le_trans hz (by decide), q⟩
/-- tuple + tuple, any of them empty -/
theorem g_catA {K : PySem.W.Frag} {H : Hp} {Q : VK} {a b : Addr} {xs ys : List V} (h1 : H a = some (.tup xs)) (h2 : H b = some (.tup ys)) (hz : xs.length + ys.length ≤ 100000) (q : ∀ H' p, Same H H' → H' p = some (.tup (xs ++ ys)) → Q (.ref p) H') : rAddA K (.ref a) (.ref b) H Q :=
  .inr (.inr (.inr ⟨a, b, xs, ys, rfl, rfl, SqT.of h1, SqT.of h2, Nat.le_trans hz (by decide), (fun e => by subst e; exact q H b (Same.refl H) h2), (fun _ e => by subst e; exact q H a (Same.refl H) (by rw [List.append_nil]; exact h1)),
    fun _ _ p np => q _ p (Same.upd np (Same.refl H)) upd_same⟩))
/-- tuple[lo:hi], also the whole -/
theorem g_slTA {K : PySem.W.Frag} {H : Hp} {Q : VK} {a : Addr} {xs ys : List V} {lo hi : Option Int} (h : H a = some (.tup xs)) (e : cutV xs lo hi = ys) (q : ∀ H' p, Same H H' → H' p = some (.tup ys) → Q (.ref p) H') : rSlA K (.ref a) lo hi H Q := by
  refine ⟨a, xs, rfl, SqT.of h, fun w => q H a (Same.refl H) ?_, fun _ p np => by rw [e]; exact q _ p (Same.upd np (Same.refl H)) upd_same⟩
  rw [← e]
  unfold cutV
  rw [w.1, w.2, List.drop_zero, Nat.sub_zero, List.take_length]
  exact h
end Hf

set_option Elab.async false
set_option linter.all false
set_option maxRecDepth 100000
set_option maxHeartbeats 4000000
namespace PySem.SeqAt
section
variable {prog : Program} {w : World} {A : Around} {E : Value → Shared → Prop} {s : Shared}
theorem wpAny_list_neLL {l b : Addr} {items items2 : Array Value} {n n2 : Nat} {Q : Value → Shared → Prop} (ho : s.heap.get? l = some { cls := .type "list", data := .seq items n }) (ho2 : s.heap.get? b = some { cls := .type "list", data := .seq items2 n2 }) (hsz : items.size = items2.size)
    (he : ∀ j (h1 : j < items.size) (h2 : j < items2.size), EqAt A.in1 s items[j] items2[j] true) (hu : A.units < cLine) (h : Q (.bool false) s) : wpAny (model prog w) A (richCompare .NotEq (.ref l) (.ref b)) Q E s := by
  have m := list_neAt l b items items2 n n2 none none #[] #[] hsz (fun _ => true)
  refine richCompare_meets_room (op := .NotEq) ⟨_, ho, rfl⟩ ⟨_, ho2, rfl⟩ F.slot_list_ne F.entry_list_ne (F.args_list_ne_2 _ _) m ⟨ho, ho2, he, ?_⟩ hu
  rw [show ((List.range items.size).all fun _ => true) = true from List.all_eq_true.mpr fun _ _ => rfl]
  exact ⟨fun z => (nomatch z), h⟩
end
end PySem.SeqAt
namespace Hf
open PySem L2 PySem.Spec PyProof.Rows
theorem tupK {X : Cx} {K : PySem.W.Frag} {e : Expr} {ta : TE} (h3 : X.K = K) (o : PE X e (tThen ta (kTup X.K))) : PE X e (tThen ta (kTup K)) := by
  subst h3
  exact o
theorem Same.frees0 {H H1 : Hp} {a : Addr} (s : Same H H1) (h : H1 a = none) : H a = none := by
  cases e : H a with
  | none => rfl
  | some o => rw [s _ _ e] at h; cases h
section
variable {K : PySem.W.Frag} {H : Hp} {Q : VK} {σ : L2.St} {te t0 : TE} {vs : List Nat} {j : Nat} {tt : TT} {α : Type} {vx : α → V} {as : List α} {J : It} {G : Hp → Prop}
/-- a comprehension whose elements are laid anew, each in the relation PV to its item -/
theorem lc_rel2 {Qd : Addr → Hp → Prop} (w : Walk J (as.map vx).length G (YAt (as.map vx))) (hG : ∀ H', Same H H' → G H') (PV : Addr → α → V → Hp → Prop) (hn : as.length ≤ 1000000) (hw : ∀ v, wipe ((wipe σ vs).set j (some v)) vs = wipe σ vs)
    (st1 : ∀ D x y H1 H2, PV D x y H1 → Same H1 H2 → PV D x y H2) (st2 : ∀ D x y H1 acc zs, H1 D = some (.lst acc) → PV D x y H1 → PV D x y (upd H1 D (.lst zs)))
    (he : ∀ x, x ∈ as → ∀ D H1, H D = none → Same H H1 → (∃ acc, H1 D = some (.lst acc)) → ∀ Q : VK, (∀ y H2, Same H1 H2 → PV D x y H2 → Q y H2) → te ((wipe σ vs).set j (some (vx x))) H1 Q)
    (q : ∀ D H' ys, H D = none → Same H H' → H' D = some (.lst ys) → Fa2 (fun x y => PV D x y H') as ys → Qd D H') :
    ∀ D, H D = none → ∃ W : Nat → Nat → Hp → Prop, (∃ m, W 0 m (upd H D (.lst []))) ∧ ∀ i m H, W i m H → (J.stop i H ∧ Qd D H) ∨ (J.go i H ∧ ∃ Nx : Hp → Prop, (∀ H', Nx H' → ∃ m', m' < m ∧ W (i + 1) m' H') ∧
      ∀ x H', J.yld i H x H' → gName j x (wipe σ vs) H' fun σ2 H2 => wipe σ2 vs = wipe σ vs ∧ tYes σ2 H2 fun b H3 => if b = true then te σ2 H3 fun y H4 => ∃ acc, H4 D = some (.lst acc) ∧ acc.length < sizeLine ∧ Nx (upd H4 D (.lst (acc ++ [y]))) else Nx H3) := by
  intro D hD
  refine lc_it w (fun i H' => Same H H' ∧ ∃ ys, H' D = some (.lst ys) ∧ Fa2 (fun x y => PV D x y H') (as.take i) ys) ⟨Same.upd hD (Same.refl H), [], upd_same, .nil⟩ (fun i H' _ k => hG H' k.1) ?_ ?_
  · rintro i x H0 H' hi ⟨s, ys, hd, rl⟩ ⟨rfl, hx⟩
    rw [List.getElem?_map] at hx
    obtain ⟨u, hu, rfl⟩ := Option.map_eq_some_iff.mp hx
    have mem : u ∈ as := List.mem_of_getElem? hu
    have tk : as.take (i + 1) = as.take i ++ [u] := by rw [List.take_succ, hu]; rfl
    refine ⟨hw _, ?_⟩
    dsimp only [tYes]
    rw [if_pos rfl]
    refine he u mem D _ hD s ⟨ys, hd⟩ _ fun y H2 s2 pv => ⟨ys, s2 D _ hd, ?_, Same.put hD (Same.trans s s2), _, upd_same, ?_⟩
    · have l := rl.len
      rw [List.length_take] at l
      exact Nat.lt_of_le_of_lt (Nat.le_trans (by omega) hn) (by decide)
    · rw [tk]
      exact Fa2.snoc (P := fun x' y' => PV D x' y' (upd H2 D (.lst (ys ++ [y])))) (st2 D u y H2 _ _ (s2 D _ hd) pv) (rl.mono fun x' y' p => st2 D x' y' _ _ _ (s2 D _ hd) (st1 D x' y' _ _ p s2))
  · rintro H' ⟨s, ys, hd, rl⟩
    rw [List.length_map, List.take_length] at rl
    exact q D H' ys hD s hd rl
/-- over a list -/
theorem g_lcLR {a : Addr} (ht0 : ∀ R : VK, (∀ H', Same H H' → R (.ref a) H') → t0 σ H R) (h : ∀ H', Same H H' → SqL K H' a (as.map vx)) (PV : Addr → α → V → Hp → Prop) (hn : as.length ≤ 1000000) (hw : ∀ v, wipe ((wipe σ vs).set j (some v)) vs = wipe σ vs)
    (st1 : ∀ D x y H1 H2, PV D x y H1 → Same H1 H2 → PV D x y H2) (st2 : ∀ D x y H1 acc zs, H1 D = some (.lst acc) → PV D x y H1 → PV D x y (upd H1 D (.lst zs)))
    (he : ∀ x, x ∈ as → ∀ D H1, H D = none → Same H H1 → (∃ acc, H1 D = some (.lst acc)) → ∀ Q : VK, (∀ y H2, Same H1 H2 → PV D x y H2 → Q y H2) → te ((wipe σ vs).set j (some (vx x))) H1 Q)
    (q : ∀ D H' ys, H D = none → Same H H' → H' D = some (.lst ys) → Fa2 (fun x y => PV D x y H') as ys → Q (.ref D) H') : tLc (iList K t0) (gName j) tYes te vs σ H Q :=
  ht0 _ fun H1 s1 => ⟨a, rfl, ⟨_, h H1 s1⟩, lc_rel2 (H := H1) (Qd := fun D H => Q (.ref D) H) walk_list (fun _ s => h _ (Same.trans s1 s)) PV hn hw st1 st2 (fun x hx D H2 hD s => he x hx D H2 (Same.frees0 s1 hD) (Same.trans s1 s)) (fun D H' ys hD s => q D H' ys (Same.frees0 s1 hD) (Same.trans s1 s))⟩
/-- over a tuple -/
theorem g_lcTR {a : Addr} (ht0 : ∀ R : VK, (∀ H', Same H H' → R (.ref a) H') → t0 σ H R) (h : ∀ H', Same H H' → SqT K H' a (as.map vx)) (PV : Addr → α → V → Hp → Prop) (hn : as.length ≤ 1000000) (hw : ∀ v, wipe ((wipe σ vs).set j (some v)) vs = wipe σ vs)
    (st1 : ∀ D x y H1 H2, PV D x y H1 → Same H1 H2 → PV D x y H2) (st2 : ∀ D x y H1 acc zs, H1 D = some (.lst acc) → PV D x y H1 → PV D x y (upd H1 D (.lst zs)))
    (he : ∀ x, x ∈ as → ∀ D H1, H D = none → Same H H1 → (∃ acc, H1 D = some (.lst acc)) → ∀ Q : VK, (∀ y H2, Same H1 H2 → PV D x y H2 → Q y H2) → te ((wipe σ vs).set j (some (vx x))) H1 Q)
    (q : ∀ D H' ys, H D = none → Same H H' → H' D = some (.lst ys) → Fa2 (fun x y => PV D x y H') as ys → Q (.ref D) H') : tLc (iTup K t0) (gName j) tYes te vs σ H Q :=
  ht0 _ fun H1 s1 => ⟨a, rfl, ⟨_, h H1 s1⟩, lc_rel2 (H := H1) (Qd := fun D H => Q (.ref D) H) walk_tup (fun _ s => h _ (Same.trans s1 s)) PV hn hw st1 st2 (fun x hx D H2 hD s => he x hx D H2 (Same.frees0 s1 hD) (Same.trans s1 s)) (fun D H' ys hD s => q D H' ys (Same.frees0 s1 hD) (Same.trans s1 s))⟩
theorem g_extend {K : PySem.W.Frag} {σ : L2.St} {H : Hp} {Q : VK} {t : TA} {n : Nat} {l : Addr} {xs : List V} (hv : σ[n]? = some (some (.ref l))) (h : H l = some (.lst xs))
    (q : t σ H fun ys H1 => rExtendA K (.ref l) ys H1 Q) : tBM K "list" (rExtendA K) (tVar n) t σ H Q := ⟨_, hv, .inl ⟨rfl, xs, SqL.of h⟩, q⟩
theorem g_bm {K : PySem.W.Frag} {σ : L2.St} {H : Hp} {Q : VK} {t : TA} {to : TE} {T : String} {r : V → List V → Hp → VK → Prop} (q : to σ H fun x H1 => tyV K T x H1 ∧ t σ H1 fun xs H2 => r x xs H2 Q) : tBM K T r to t σ H Q := q
theorem ty_lst {K : PySem.W.Frag} {H : Hp} {l : Addr} {xs : List V} (h : H l = some (.lst xs)) : tyV K "list" (.ref l) H := .inl ⟨rfl, xs, SqL.of h⟩
end
end Hf
namespace Hf
open PySem L2 PySem.Spec PyProof.Rows
/-! ### two lists of the very same items -/
def rNeLL : R2 := fun x y H Q => ∃ a b xs, x = .ref a ∧ y = .ref b ∧ H a = some (.lst xs) ∧ H b = some (.lst xs) ∧ (∀ x ∈ xs, ItS x) ∧ Q (.bl false) H
def rNeB (K : PySem.W.Frag) : R2 := fun x y H Q => rNeA K x y H Q ∨ rNeLL x y H Q
theorem eqAt_its {A : Around} {s : Shared} {x : V} {u v : Value} (h : ItS x) (ru : RelV x u) (rv : RelV x v) : SeqAt.EqAt A s u v true := by
  rcases h with ⟨h, _⟩ | ⟨b, rfl⟩
  · cases x with
    | non => cases ru; cases rv; exact SeqAt.EqAt.same _
    | bl b => cases ru; cases rv; exact SeqAt.EqAt.same _
    | int i =>
      obtain ⟨t, rfl⟩ := ru
      obtain ⟨w, rfl⟩ := rv
      have e := SeqAt.EqAt.int_int (A := A) (s := s) i t i w
      rw [show (i == i) = true from beq_self_eq_true i] at e
      exact e
    | str z =>
      obtain ⟨t, rfl⟩ := ru
      obtain ⟨w, rfl⟩ := rv
      have e := SeqAt.EqAt.str_str (A := A) (s := s) z t z w
      rw [show (z == z) = true from beq_self_eq_true z] at e
      exact e
    | _ => exact nomatch h
  · cases ru
    cases rv
    exact SeqAt.EqAt.same _
theorem op_neLL {X : Cx} {k : Nat} (hr : RG k X.A) : OpR X (compareOp .NotEq) rNeLL := by
  intro pins s σ H x y v u Q I rx ry hq
  obtain ⟨a, b, xs, rfl, rfl, ha, hb, hi, q⟩ := hq
  cases rx
  cases ry
  obtain ⟨z, its, n, r, e⟩ := I.hok a _ ha
  obtain ⟨z2, its2, n2, r2, e2⟩ := I.hok b _ hb
  have hsz : its.toArray.size = its2.toArray.size := by rw [List.size_toArray, List.size_toArray, ← r.length, ← r2.length]
  show wpAny (model X.prog X.w) X.A (richCompare .NotEq _ _) (EP X pins σ Q) X.xe s
  refine SeqAt.wpAny_list_neLL e e2 hsz (fun j h1 h2 => ?_) hr.rm.units0 ⟨.bl false, H, I, rfl, q⟩
  have g1 : its[j]? = some its.toArray[j] := by
    have h1' : j < its.length := by simpa using h1
    rw [List.getElem?_eq_getElem h1'] <;> simp
  have g2 : its2[j]? = some its2.toArray[j] := by
    have h2' : j < its2.length := by simpa using h2
    rw [List.getElem?_eq_getElem h2'] <;> simp
  have k1 : j < xs.length := by rw [r.length]; simpa using h1
  obtain ⟨p, hp, rp⟩ := r.get (List.getElem?_eq_getElem k1)
  obtain ⟨t, ht, rt⟩ := r2.get (List.getElem?_eq_getElem k1)
  rw [g1] at hp
  rw [g2] at ht
  rw [Option.some.inj hp, Option.some.inj ht]
  exact eqAt_its (hi _ (List.getElem_mem k1)) rp rt
theorem op_neB {X : Cx} {k : Nat} (hr : RG k X.A) : OpR X (compareOp .NotEq) (rNeB X.K) := (op_neA hr).or (op_neLL hr)
theorem g_neLL {K : PySem.W.Frag} {H : Hp} {Q : VK} {a b : Addr} {xs : List V} (h1 : H a = some (.lst xs)) (h2 : H b = some (.lst xs)) (i : ∀ x ∈ xs, ItS x) (q : Q (.bl false) H) : rNeB K (.ref a) (.ref b) H Q := .inr ⟨a, b, xs, rfl, rfl, h1, h2, i, q⟩
theorem neBK {X : Cx} {K : PySem.W.Frag} {f : Value → Value → Sem Value} (h3 : X.K = K) (o : OpR X f (rNeB X.K)) : OpR X f (rNeB K) := by
  subst h3
  exact o
end Hf
/-! ### text.index(sign), starred items, != of tuples with own == -/
namespace GR
open PySem PySem.SeqAt
open AutoSeq1 (wpAny_loadPart')
open MeetsSeq MeetsSeq2 MeetsSeq3 SeqRoads2
section
variable {prog : Program} {w : World} {A : Around} {R : Result → Shared → Prop}
theorem tuple_neG (l b : Addr) (items items2 : Array Value) (n n2 : Nat) (dd dd2 : Option Addr) (sl sl2 : Array (Option Value)) (hsz : items.size = items2.size) (I : Nat → Shared → Prop)
    (turn : ∀ i (h1 : i < items.size) (h2 : i < items2.size) s, I i s → wpAny (model prog w) A.in1 (eqBool items[i] items2[i]) (fun r s' => r = true ∧ I (i + 1) s') (fun e s' => R (.error e) s') s)
    (fin : ∀ s, I items.size s → R (.ok (.ret (.bool false))) s) {s : Shared} (hl1 : s.heap.get? l = some { cls := .type "tuple", dict := dd, data := .seq items n, slots := sl }) (hb1 : s.heap.get? b = some { cls := .type "tuple", dict := dd2, data := .seq items2 n2, slots := sl2 }) (h : I 0 s) :
    wpAny (model prog w) A.in1 (Builtin.«tuple.__ne__» ⟨[.ref l, .ref b], []⟩) (GQ.FinOf prog w A R) (fun e s' => R (.error e) s') s := by
  have f2 := AutoSeq1.sub_tuple_tuple
  have hZ : (items.toList.zip items2.toList).length = items.size := by simp [hsz]
  have h0 := h
  obtain ⟨hp, g, d, tk, os⟩ := s
  wp_walk using wpAny_loadPart' hl1, wpAny_loadPart' hb1, wpAny_forIn_list _ (fun rest b s' => b.1 = none ∧ ∃ i, rest = (items.toList.zip items2.toList).drop i ∧ i ≤ items.size ∧ I i s') _
  case turn =>
    rintro ⟨y, x⟩ rest b s' ⟨hb', i, hz, hi, hI⟩
    have hlt : i < (items.toList.zip items2.toList).length := by
      rcases Nat.lt_or_ge i (items.toList.zip items2.toList).length with h' | h'
      · exact h'
      · rw [List.drop_of_length_le h'] at hz; cases hz
    have h1 : i < items.size := hZ ▸ hlt
    have h2 : i < items2.size := hsz ▸ h1
    rw [List.drop_eq_getElem_cons hlt] at hz
    injection hz with hyx hrest
    have hy : y = items[i] := by have := congrArg Prod.fst hyx; simpa using this
    have hx : x = items2[i] := by have := congrArg Prod.snd hyx; simpa using this
    subst hy hx
    refine wpAny_bind (wpAny_mono (turn i h1 h2 s' hI) (fun r s2 q2 => ?_) fun _ _ x => x)
    obtain ⟨hr, q2⟩ := q2
    subst hr
    wp_walk
    exact ⟨rfl, i + 1, hrest, h1, q2⟩
  case fin =>
    rintro ⟨b1, b2⟩ s' ⟨hb', i, hz, hi, hI⟩
    simp only at hb'
    subst hb'
    have hge : items.size ≤ i := by
      rcases Nat.lt_or_ge i (items.toList.zip items2.toList).length with h' | h'
      · rw [List.drop_eq_getElem_cons h'] at hz; cases hz
      · exact hZ ▸ h'
    have hi' : i = items.size := by omega
    have hR : R (.ok (.ret (.bool false))) s' := fin s' (hi' ▸ hI)
    wp_walk
    simpa [Builtin.Tuple.tupleCompareSizes, hsz] using hR
  case h =>
    exact ⟨rfl, 0, rfl, Nat.zero_le _, h0⟩
end
section
variable {prog : Program} {w : World} {A : Around} {E : Value → Shared → Prop} {s : Shared}
theorem rc_tupN {l b : Addr} {items items2 : Array Value} {Q : Value → Shared → Prop} (hsz : items.size = items2.size) (hu : A.units < cLine) (I : Nat → Shared → Prop)
    (hl : s.heap.IsTuple l items) (hb : s.heap.IsTuple b items2)
    (turn : ∀ i (h1 : i < items.size) (h2 : i < items2.size) s, I i s → wpAny (model prog w) A.in1 (eqBool items[i] items2[i]) (fun r s' => r = true ∧ I (i + 1) s') E s)
    (fin : ∀ s, I items.size s → Q (.bool false) s) (h : I 0 s) : wpAny (model prog w) A (richCompare .NotEq (.ref l) (.ref b)) Q E s := by
  obtain ⟨⟨cls, dd, data, sl⟩, ho, hc, n, hd⟩ := id hl
  obtain ⟨⟨cls2, dd2, data2, sl2⟩, ho2, hc2, n2, hd2⟩ := id hb
  simp only at hc hd hc2 hd2
  subst hc hd hc2 hd2
  refine wpAny_richCompare_same_room (op := .NotEq) ⟨_, ho, rfl⟩ ⟨_, ho2, rfl⟩ F.slot_tuple_ne (GQ.call_here F.slot_tuple_ne ⟨_, ho, rfl⟩ F.entry_tuple_ne (F.args_tuple_ne_2 _ _) ?_) hu
  exact tuple_neG (R := wants (fun v s' => v ≠ .notImplemented ∧ Q v s') E) l b items items2 n n2 dd dd2 sl sl2 hsz I turn (fun s' q => ⟨(fun x => nomatch x), fin s' q⟩) ho ho2 h
end
end GR
namespace Hf
open PySem L2 PySem.Spec PyProof.Rows
/-- the own == of an instance, asked from anywhere below the body -/
def rEqL (K : PySem.W.Frag) (cs : List Str) (sp : Sp) : R2 := fun x y H Q => ∃ a C dx fs t, x = .ref a ∧ IsC K cs C ∧ H a = some (.ins C dx fs) ∧ TyX K H y t ∧ PySem.W.notFirst K C t = true ∧ sp [.ref a, y] H (fun v H' => isBo v ∧ Q v H') E0
theorem rc_eqS {X : Cx} {k j : Nat} {cs : List Str} {qual : Str} {st : Stmt} {sp : Sp} {A : Around} {pins : List (Addr × Obj)} {σ : L2.St} {H : Hp} {s : Shared} {x y : V} {v u : Value} {Q : VK}
    (D : DfMs X.prog X.w X.K X.mg X.base CX0 k cs "__eq__" qual st ["self", "other"] [] [] sp) (hr : RG j A) (hj : k + 2 ≤ j) (hb : BindS st "__eq__" qual ["self", "other"]) (hfr : A.frames = X.A.frames) (I : Inv X pins σ H s) (rx : RelV x v) (ry : RelV y u)
    (hq : rEqL X.K cs sp x y H Q) : wpAny (model X.prog X.w) A (richCompare .Eq v u) (EP X pins σ Q) X.xe s := by
  obtain ⟨a, C, dx, fs, t, rfl, ic, ea, ty, nf, q⟩ := hq
  have hr' : RG k A := hr.mono (by omega)
  cases rx
  obtain ⟨mA, O, _⟩ := ins_get I.hok ea
  obtain ⟨od, J, _⟩ := O.look
  obtain ⟨m, hF⟩ := I.fr
  obtain ⟨P, Z, p, _⟩ := kit_of I ry ty
  obtain ⟨f, fd, h1, h2, FD, F⟩ := D.ex C ic
  have e0 : Env0 X.prog X.w X.K X.mg X.base A X.stack s H := by
    have e := I.env0
    exact ⟨by rw [hfr]; exact e.frames, e.mod, e.bs, e.bsz, e.funs, e.frf, e.hok, e.bare⟩
  refine PySem.W.cmp_K (op := .Eq) (tb := t) hr'.rm.units0 hF I.ok.mod.kin J (Z.ty _ _ I.kIn p) nf h1 h2 ?_
  exact wpAny_mono (goS (A := A) F hr' e0 I (FD.bindsA (ps := ["self", "other"]) hb s [_, u] rfl) (vs2 _ ry) q) (fun v s' z => cmpBl z) fun _ _ z => z.elim
/-- two items that are equal: the same flat value, or by an own == -/
def DIt (K : PySem.W.Frag) (cs : List Str) (sp : Sp) (x y : V) (H : Hp) : Prop :=
  (x = y ∧ ItS x) ∨ ∃ a b, x = .ref a ∧ y = .ref b ∧ ∀ H', Same H H' → rEqL K cs sp x y H' (fun r H2 => r = .bl true ∧ Same H' H2)
/-- two tuples that are equal item by item: != gives False -/
def rNeTO (K : PySem.W.Frag) (cs : List Str) (sp : Sp) : R2 := fun x y H Q => ∃ a b xs ys, x = .ref a ∧ y = .ref b ∧ SqT K H a xs ∧ SqT K H b ys ∧ xs.length = ys.length ∧
  (∀ (i : Nat) x y, xs[i]? = some x → ys[i]? = some y → DIt K cs sp x y H) ∧ ∀ H', Same H H' → Q (.bl false) H'
theorem op_neTO {X : Cx} {k j : Nat} {cs : List Str} {qual : Str} {st : Stmt} {sp : Sp} (DD : DfMs X.prog X.w X.K X.mg X.base CX0 k cs "__eq__" qual st ["self", "other"] [] [] sp) (hr : RG j X.A) (hj : k + 3 ≤ j) (hbs : BindS st "__eq__" qual ["self", "other"]) : OpR X (compareOp .NotEq) (rNeTO X.K cs sp) := by
  intro pins s σ H x y v u Q I rx ry hq
  obtain ⟨a, b, xs, ys, rfl, rfl, ha, hb, hl, D, q⟩ := hq
  cases rx
  cases ry
  obtain ⟨its, r, e, z⟩ := I.tuple ha
  obtain ⟨its2, r2, e2, z2⟩ := I.tuple hb
  have hsz : its.toArray.size = its2.toArray.size := by rw [List.size_toArray, List.size_toArray, ← r.length, ← r2.length]; exact hl
  show wpAny (model X.prog X.w) X.A (richCompare .NotEq _ _) (EP X pins σ Q) X.xe s
  refine GR.rc_tupN hsz hr.rm.units0 (fun _ s' => ∃ H', Inv X pins σ H' s' ∧ Same H H') e e2 (fun i h1 h2 s' q' => ?_) (fun s' q' => ?_) ⟨H, I, Same.refl H⟩
  · obtain ⟨H1, I1, e1⟩ := q'
    have g1 : its[i]? = some its.toArray[i] := by
      have h1' : i < its.length := by simpa using h1
      rw [List.getElem?_eq_getElem h1'] <;> simp
    have g2 : its2[i]? = some its2.toArray[i] := by
      have h2' : i < its2.length := by simpa using h2
      rw [List.getElem?_eq_getElem h2'] <;> simp
    have k1 : i < xs.length := by rw [r.length]; simpa using h1
    have k2 : i < ys.length := by rw [r2.length]; simpa using h2
    obtain ⟨u, hu, ru⟩ := r.get (List.getElem?_eq_getElem k1)
    obtain ⟨v, hv, rv⟩ := r2.get (List.getElem?_eq_getElem k2)
    rw [g1] at hu
    rw [g2] at hv
    rw [Option.some.inj hu, Option.some.inj hv]
    rcases D i _ _ (List.getElem?_eq_getElem k1) (List.getElem?_eq_getElem k2) with ⟨exy, it⟩ | ⟨c, d, ec, ed, h⟩
    · rw [← exy] at rv
      exact eqAt_its (A := X.A.in1) (s := s') it ru rv X.prog X.w X.xe _ ⟨rfl, H1, I1, e1⟩
    · rw [ec] at ru
      rw [ed] at rv
      cases ru
      cases rv
      by_cases hab : c = d
      · subst hab
        exact SeqAt.EqAt.same (A := X.A.in1) (s := s') (.ref c) X.prog X.w X.xe _ ⟨rfl, H1, I1, e1⟩
      · have h' := h H1 e1
        rw [ec, ed] at h'
        refine GQ.eqBool_refG hab (wpAny_mono (rc_eqS (A := X.A.in1) (j := k + 2) (x := V.ref c) (y := V.ref d) DD (RG.in1 (hr.mono (by omega))) (Nat.le_refl _) hbs rfl I1 rfl rfl h') (fun r s2 q2 => ?_) fun _ _ x => x)
        obtain ⟨z, H2, I2, rz, ez, s2⟩ := q2
        subst ez
        cases rz
        exact ⟨true, rfl, rfl, H2, I2, Same.trans e1 s2⟩
  · obtain ⟨H', I', s2⟩ := q'
    exact ⟨.bl false, H', I', rfl, q H' s2⟩
/-- z.index(sign) -/
def rSIndex : V → List V → Hp → VK → Prop := fun x xs H Q => ∃ a b i rest, x = .str a ∧ xs = [.str b] ∧ Builtin.Str.occurrences a b 0 a.length 1 = i :: rest ∧ Q (.int (i : Nat)) H
theorem mt_sindexN {X : Cx} : MtR X "str.index" rSIndex := mt_sindex
theorem g_sindex {H : Hp} {Q : VK} {a b : Str} {i : Nat} {rest : List Nat} (h : Builtin.Str.occurrences a b 0 a.length 1 = i :: rest) (q : Q (.int (i : Nat)) H) : rSIndex (.str a) [.str b] H Q := ⟨a, b, i, rest, rfl, rfl, h, q⟩
theorem g_starL {K : PySem.W.Frag} {σ : L2.St} {H : Hp} {te : TE} {t : TA} {Q : List V → Hp → Prop} (q : te σ H fun x H1 => ∃ p xs, x = V.ref p ∧ (SqT K H1 p xs ∨ SqL K H1 p xs) ∧ t σ H1 fun ys H2 => Q (xs ++ ys) H2) : StX.tStar K te t σ H Q := q
theorem g_star {K : PySem.W.Frag} {σ : L2.St} {H : Hp} {n : Nat} {l : Addr} {xs : List V} {t : TA} {Q : List V → Hp → Prop} (hv : σ[n]? = some (some (.ref l))) (h : H l = some (.lst xs)) (q : t σ H fun ys H2 => Q (xs ++ ys) H2) : StX.tStar K (tVar n) t σ H Q := ⟨_, hv, l, xs, rfl, .inr (SqL.of h), q⟩
/-! ### ranges with a step -/
theorem fitsL {i : Int} (h : -(2 ^ 62) ≤ i) (h2 : i < 2 ^ 62) : Builtin.Range.rangeFitsLong i = true := by
  unfold Builtin.Range.rangeFitsLong
  simp
  omega
theorem rgcN {n : Nat} {c : Nat} (h : n ≤ 1000000) (h1 : 1 ≤ c) (h2 : c ≤ 100) : RgC 0 (n : Int) (c : Int) ((n + c - 1) / c) := by
  have hs : Builtin.Range.rangeSize 0 (n : Int) (c : Int) = (((n + c - 1) / c : Nat) : Int) := by
    unfold Builtin.Range.rangeSize
    rw [if_pos (by omega)]
    by_cases p : 0 < n
    · rw [if_pos (by omega)]
      have e : (n + c - 1) / c = (n - 1) / c + 1 := by
        rw [show n + c - 1 = (n - 1) + c by omega, Nat.add_div_right _ (by omega)]
      rw [e]
      have : ((n : Int) - 0 - 1) = ((n - 1 : Nat) : Int) := by omega
      rw [this, ← Int.natCast_ediv]
      rfl
    · rw [if_neg (by omega)]
      have : n = 0 := by omega
      subst this
      rw [Nat.div_eq_of_lt (by omega)]
      rfl
  have hb : (n + c - 1) / c ≤ n + c := Nat.le_trans (Nat.div_le_self _ _) (by omega)
  refine ⟨by omega, by omega, ?_, hs⟩
  generalize (n + c - 1) / c = k at hs hb
  unfold Builtin.Range.small
  simp only [hs]
  simp [fitsL (i := (n : Int)) (by omega) (by omega), fitsL (i := (c : Int)) (by omega) (by omega), fitsL (i := 0) (by omega) (by omega)]
  refine ⟨fitsL (by omega) (by omega), .inr ?_⟩
  rw [if_pos (by omega)]
  exact fitsL (by omega) (by omega)
theorem rgc2 {n : Nat} (h : n ≤ 1000000) : RgC 0 (n : Int) 2 ((n + 1) / 2) := rgcN (c := 2) h (by decide) (by decide)
theorem rgc3 {n : Nat} (h : n ≤ 1000000) : RgC 0 (n : Int) 3 ((n + 2) / 3) := rgcN (c := 3) h (by decide) (by decide)
theorem rgc4 {n : Nat} (h : n ≤ 1000000) : RgC 0 (n : Int) 4 ((n + 3) / 4) := rgcN (c := 4) h (by decide) (by decide)
theorem bmK {X : Cx} {K : PySem.W.Frag} {e : Expr} {T : String} {to : TE} {t : TA} {r : V → List V → Hp → VK → Prop} (h3 : X.K = K) (o : PE X e (tBM X.K T r to t)) : PE X e (tBM K T r to t) := by
  subst h3
  exact o
end Hf

set_option Elab.async false
set_option linter.all false
set_option maxRecDepth 100000
set_option maxHeartbeats 4000000
namespace Hf
open PySem L2 PySem.Spec PyProof.Rows
/-! ### defs of the module with defaults, called by name with keywords -/
structure DfK (P : Program) (w : World) (K : PySem.W.Frag) (mg : Str → Option Value) (base : Heap) (k : Nat) (x : Str) (st : Stmt) (ps : List Str) (dvs : List V) (kw : List (Str × V)) (sp : Sp) : Prop where
  ex : ∃ (f : Addr) (fd : FuncData), mg x = some (.ref f) ∧ FunD K x x (defArgs st) (defBody st) (defScope st) dvs kw f fd ∧ FnG P w K mg base (L2.CX P w) k f fd ps sp
theorem kbindsO {K : PySem.W.Frag} {x qual : Str} {params : Arguments} {body : List Stmt} {scope : Scope} {kws : List (Str × V)} {f : Addr} {fd : FuncData} {ps : List Str} (F : FunD K x qual params body scope [] kws f fd) (n : Nat) (ks : List Str) (ms : List (Str × V)) (g : {α : Type} → List α → List α → List α → List α) (hk : kws ≠ []) (hms : ∀ q ∈ ms, q ∈ kws)
    (hrel : ∀ {vs mz zs : List V} {us mv ws : List Value}, Vals vs us → Vals mz mv → Vals zs ws → Vals (g vs mz zs) (g us mv ws))
    (h : ∀ (D : Addr) (doc pm : Value) (an : Option Addr) (cdv ct : Value) (us mv ws : List Value), us.length = n → mv.length = ms.length → ws.length = ks.length →
      KwChain D ((ms.map (·.1)).zip mv) (bindArgs (PySem.W.fnOf x qual params body scope .none (.ref D) doc pm an cdv ct) ⟨us, ks.zip ws⟩) (ps.zip (g us mv ws))) :
    ∃ mv : List Value, KBn K fd ps n ks (fun us ws => g us mv ws) (fun vs zs => g vs (ms.map (·.2)) zs) := by
  obtain ⟨oc, od, dV, kV, doc, pm, an, cdv, ct, osl, rfl, lk, hcd, hD, hK⟩ := F.ex
  have e1 : dV = .none := by
    rcases hD with ⟨_, e⟩ | ⟨e, _⟩
    · exact e
    · exact absurd rfl e
  subst e1
  have hK' := hK.resolve_left hk
  obtain ⟨D, e2, hq⟩ := hK'
  subst e2
  have look := kwd_vals (ms := ms) fun q hm => hq q (hms q hm)
  obtain ⟨mv, hl, rk, hks⟩ := look
  exact ⟨mv, ⟨fun s us ws X l1 l2 => BindsTo.of_looks fun M => KwChain.looks X hks (h D doc pm an cdv ct us mv ws l1 hl l2), fun r1 r2 => hrel r1 rk r2⟩⟩
section
variable {X : Cx} {k j n : Nat} {x : Str} {st : Stmt} {ps ks : List Str} {dvs mz : List V} {kw : List (Str × V)} {sp : Sp} {p pos : Pos} {e : Expr} {es : List Expr} {kws : List Keyword} {t tk : TA} {W : WX} {g : {α : Type} → List α → List α → List α → List α → List α}
theorem goK {pins : List (Addr × Obj)} {σ : L2.St} {H : Hp} {s : Shared} {Q : VK} {f : Addr} {fd : FuncData} {us ws : List Value} {xs zs : List V} {gU : List Value → List Value → List Value} {gV : List V → List V → List V} (tw : Takes X W) (F : FnG X.prog X.w X.K X.mg X.base (L2.CX X.prog X.w) k f fd ps sp) (hr : RG k X.A)
    (hb : KBn X.K fd ps n ks gU gV) (I : Inv X pins σ H s) (r : Vals xs us) (rz : Vals zs ws) (hn : xs.length = n) (hm : zs.length = ks.length) (q : sp (gV xs zs) H Q (fun cls d H' => W cls d σ H')) :
    wpAny (model X.prog X.w) X.A (call (.ref f) us (ks.zip ws)) (EP X pins σ Q) X.xe s := by
  refine wpAny_call (codeAny_mono (F.go X.A X.stack s H ⟨us, ks.zip ws⟩ (gU us ws) (gV xs zs) Q _ hr I.env0 (hb.to s us ws I.kIn (r.length ▸ hn) (rz.length ▸ hm)) (hb.rel r rz) q) fun res s' z => ?_)
  match res, z with
  | .error e, z => exact tw _ _ (XE.of_call I (fun cls d H' h => h) z)
  | .ok (.ret u), z => exact I.after z
  | .ok .next, z => exact z.elim
  | .ok .brk, z => exact z.elim
  | .ok .cont, z => exact z.elim
theorem pe_callK (D : DfK X.prog X.w X.K X.mg X.base k x st ps dvs kw sp) (tw : Takes X W) (hr : RG j X.A) (hj : k ≤ j)
    (kb : ∀ f fd, FunD X.K x x (defArgs st) (defBody st) (defScope st) dvs kw f fd → ∃ its mv : List Value, KBn X.K fd ps n ks (fun us ws => g us its mv ws) (fun vs zs => g vs dvs mz zs)) (ha : PA X (e :: es) t) (hkw : PK X kws tk) (hg : Gl X x := by rfl)
    (hall : (backToKw pos (keywordEach kws X.env)).all (·.1.isSome) = true := by rfl) (hks : (backToKw pos (keywordEach kws X.env)).filterMap (·.1) = ks := by rfl) (hdb : (x == ("__debug__" : Str)) = false := by decide)
    (he : starEach (e :: es) X.env = (false, eval e X.env) :: starEach es X.env := by rfl) (hpl : ((backTo pos (starEach (e :: es) X.env)).any (·.1) || (backToKw pos (keywordEach kws X.env)).any (·.1.isNone)) = false := by rfl) :
    PE X (.Call (.Name x p) (e :: es) kws pos) (tCallX n ks.length sp (fun vs zs => g vs dvs mz zs) W t tk) := by
  obtain ⟨f, fd, hm, FD, F⟩ := D.ex
  obtain ⟨its, mv, hb⟩ := kb f fd FD
  refine ⟨fun pins s σ H Q I h => wpAny_Call_Name_kw (ld_glob I hg hm (PySem.W.callWith_KW (h₀ := X.base) I.ok.mod.kin FD.kp hall (thn (ha.run pos pins s σ H _ I h) ?_) hpl he) hdb)⟩
  rintro us s1 ⟨xs, H1, I1, r, q⟩
  refine thn (hkw.run pos pins s1 σ H1 _ I1 q) fun ws s2 ⟨zs, H2, I2, rz, q1, q2, q3⟩ => ⟨I2.kIn, ?_⟩
  rw [hks]
  exact goK tw F (hr.mono hj) hb I2 r rz q1 q2 q3
theorem pe_callK0 (D : DfK X.prog X.w X.K X.mg X.base k x st ps dvs kw sp) (tw : Takes X W) (hr : RG j X.A) (hj : k ≤ j)
    (kb : ∀ f fd, FunD X.K x x (defArgs st) (defBody st) (defScope st) dvs kw f fd → ∃ its mv : List Value, KBn X.K fd ps 0 ks (fun us ws => g us its mv ws) (fun vs zs => g vs dvs mz zs)) (hkw : PK X kws tk) (hg : Gl X x := by rfl)
    (hall : (backToKw pos (keywordEach kws X.env)).all (·.1.isSome) = true := by rfl) (hks : (backToKw pos (keywordEach kws X.env)).filterMap (·.1) = ks := by rfl) (hdb : (x == ("__debug__" : Str)) = false := by decide)
    (hpl : ((backTo pos (starEach [] X.env)).any (·.1) || (backToKw pos (keywordEach kws X.env)).any (·.1.isNone)) = false := by rfl) :
    PE X (.Call (.Name x p) [] kws pos) (tCallX 0 ks.length sp (fun vs zs => g vs dvs mz zs) W tNil tk) := by
  obtain ⟨f, fd, hm, FD, F⟩ := D.ex
  obtain ⟨its, mv, hb⟩ := kb f fd FD
  refine ⟨fun pins s σ H Q I h => wpAny_Call_Name_kw (ld_glob I hg hm (PySem.W.callWith_KW0 (h₀ := X.base) I.ok.mod.kin FD.kp hall ?_ hpl) hdb)⟩
  refine thn (hkw.run pos pins s σ H _ I h) fun ws s2 ⟨zs, H2, I2, rz, q1, q2, q3⟩ => ⟨I2.kIn, ?_⟩
  rw [hks]
  exact goK tw F (hr.mono hj) hb I2 .nil rz q1 q2 q3
end
end Hf
/-! ### zip of a tuple and a list -/
namespace Hf
open PySem L2 PySem.Spec PyProof.Rows RZ
def ItzTL (K : PySem.W.Frag) (a b : Addr) : It where
  go := fun i H => ∃ (xs ys : List V) (x y : V), SqT K H a xs ∧ SqL K H b ys ∧ xs[i]? = some x ∧ ys[i]? = some y
  yld := fun i H v H' => ∃ T x y, v = .ref T ∧ H T = none ∧ H' = upd H T (.tup [x, y]) ∧ (∀ xs, SqT K H a xs → xs[i]? = some x) ∧ ∀ ys, SqL K H b ys → ys[i]? = some y
  stop := fun i H => ∃ xs ys : List V, SqT K H a xs ∧ SqL K H b ys ∧ i ≤ xs.length ∧ i ≤ ys.length ∧ (i = xs.length ∨ i = ys.length)
/-- the five cells of the zip as they stand at the turn i -/
def ZSt (a b z TI TO i1 i2 : Addr) (i : Nat) (h : Heap) : Prop := IsZip h z TI TO .none ∧ IsPair h TI (.ref i1) (.ref i2) ∧ (∃ x y, IsPair h TO x y) ∧ h.IsTupleIter i1 a i ∧ h.IsListIter i2 b i
theorem zsep {a b z TI TO i1 i2 : Addr} (D : ZipApart z TI TO i1 i2 a b) : ZipSep2 z TI TO i1 i2 [i1, a] [i2, b] := by
  obtain ⟨h1, h2, h3, h4, h5, h6, h7, h8, h9, h10, h11, h12, h13, h14, h15, h16, h17, h18⟩ := D
  constructor <;> simp <;> first | assumption | (constructor <;> first | assumption | (apply Ne.symm; assumption))
theorem five {z TI TO i1 i2 c : Addr} {p : Addr → Prop} (h : c ∈ [z, TI, TO, i1, i2]) (pz : p z) (pI : p TI) (pO : p TO) (p1 : p i1) (p2 : p i2) : p c := by
  simp only [List.mem_cons, List.mem_nil_iff, or_false] at h
  rcases h with rfl | rfl | rfl | rfl | rfl <;> assumption
theorem turn_zipTL {P : Program} {w : World} {K : PySem.W.Frag} {elts : List Expr} {kk : Nat} {tpos : Pos} {a b z TI TO i1 i2 : Addr} (D : ZipApart z TI TO i1 i2 a b) :
    Turn P w K (.Tuple elts kk tpos) (ItzTL K a b) [z, TI, TO, i1, i2] z (ZSt a b z TI TO i1 i2) where
  mem := List.mem_cons_self ..
  obj := fun i h st c hc => by
    obtain ⟨sz, sI, ⟨x, y, sO⟩, ⟨o1, e1, _, d1⟩, ⟨o2, e2, _, d2⟩⟩ := st
    exact five (p := fun c => ∃ o, h.get? c = some o ∧ ∀ v, o.data ≠ .cell v) hc ⟨_, sz, fun v q => nomatch q⟩ ⟨_, sI, fun v q => nomatch q⟩ ⟨_, sO, fun v q => nomatch q⟩ ⟨o1, e1, fun v q => by rw [d1] at q; cases q⟩ ⟨o2, e2, fun v q => by rw [d2] at q; cases q⟩
  keep := fun i h h' st k => by
    obtain ⟨sz, sI, ⟨x, y, sO⟩, s1, s2⟩ := st
    exact ⟨k z (by simp) _ sz, k TI (by simp) _ sI, ⟨x, y, k TO (by simp) _ sO⟩, s1.at fun o q => k i1 (by simp) o q, s2.at fun o q => k i2 (by simp) o q⟩
  self := fun A i s Q E st h => wpAny_pyIter_zip st.1 h
  item := by
    rintro X rfl rfl rfl hc i pins s σ H E I hf ⟨sz, sI, ⟨x0, y0, sO⟩, s1, s2⟩ ⟨xs, ys, x, y, hqx, hqy, hx, hy⟩
    obtain ⟨its, rv, tu, _⟩ := I.tuple hqx
    obtain ⟨its2, rv2, li, _⟩ := I.list hqy
    obtain ⟨u, hu, ru⟩ := rv.get hx
    obtain ⟨u2, hu2, ru2⟩ := rv2.get hy
    have S := zsep D
    have hh : X.A.in1.handled = none := I.ok.hd hc
    have lz : z < s.heap.objs.size := Heap.lt_size sz
    have b1 : i < its.toArray.size := by simpa using (List.getElem?_eq_some_iff.mp hu).1
    have b2 : i < its2.toArray.size := by simpa using (List.getElem?_eq_some_iff.mp hu2).1
    refine wpAny_pyNext_zipD2_item S (Draws.tuple hh i1 a D.l1i1 its.toArray) (Draws.list hh i2 b D.l2i2 its2.toArray) sz sI sO ⟨s1, tu⟩ ⟨s2, li.isList⟩ b1 b2 fun v1 v2 h' tk y1 y2 z' TO' h1' h2' hT hsz hk => ?_
    have ev1 : v1 = u := Option.some.inj (y1.symm.trans (by simpa using hu))
    have ev2 : v2 = u2 := Option.some.inj (y2.symm.trans (by simpa using hu2))
    subst ev1 ev2
    refine ⟨_, rfl, wpAny_letOwnedTupleGo_zip (s := { s with heap := h', toks := tk }) z' fun h'' z'' sb => ?_⟩
    have pass : ∀ c o, c ∉ [z, TI, TO, i1, i2] → s.heap.get? c = some o → h''.get? c = some o := fun c o nc q => by
      simp only [List.mem_cons, List.mem_nil_iff, or_false, not_or] at nc
      exact (sb.2 c nc.1).trans (hk c o nc.1 nc.2.2.1 nc.2.2.2.1 nc.2.2.2.2 q)
    have hT2 := (sb.2 _ (Nat.ne_of_gt lz)).trans hT
    have new : ObjOk X.prog X.w (upd H s.heap.objs.size (.tup [x, y])) h'' s.heap.objs.size (.tup [x, y]) :=
      ⟨by show 2 ≤ sizeLine; decide, [v1, v2], .cons ru (.cons ru2 .nil), ⟨_, hT2, rfl, _, rfl⟩⟩
    refine ⟨.ref s.heap.objs.size, _, I.turnedNew (t' := tk) (ch := [z, TI, TO, i1, i2]) pass hf (Nat.le_refl _) new, rfl, ⟨_, x, y, rfl, I.hok.fresh (Nat.le_refl _), rfl, fun l hl => I.tuple_inj hl hqx ▸ hx, fun l hl => I.list_inj hl hqy ▸ hy⟩, ⟨z'', (sb.2 _ D.TIz).trans (hk _ _ D.TIz D.TITO D.TIi1 D.TIi2 sI), ⟨v1, v2, (sb.2 _ D.TOz).trans TO'⟩, h1'.1.at fun o q => (sb.2 _ D.i1z).trans q, h2'.1.at fun o q => (sb.2 _ D.i2z).trans q⟩, fun c hcm => ?_⟩
    have lt : c < s.heap.objs.size := by
      obtain ⟨_, e1, _⟩ := s1
      obtain ⟨_, e2, _⟩ := s2
      exact five (p := fun c => c < s.heap.objs.size) hcm lz (Heap.lt_size sI) (Heap.lt_size sO) (Heap.lt_size e1) (Heap.lt_size e2)
    rw [upd_ne (Nat.ne_of_lt lt)]
    exact (hf c hcm).1
  done := by
    rintro X rfl rfl rfl hc i pins s σ H E I hf ⟨sz, sI, ⟨x0, y0, sO⟩, s1, s2⟩ ⟨xs, ys, hqx, hqy, g1, g2, hend⟩
    obtain ⟨its, rv, tu, _⟩ := I.tuple hqx
    obtain ⟨its2, rv2, li, _⟩ := I.list hqy
    have l1 : xs.length = its.toArray.size := by rw [List.size_toArray]; exact rv.length
    have l2 : ys.length = its2.toArray.size := by rw [List.size_toArray]; exact rv2.length
    have hh : X.A.in1.handled = none := I.ok.hd hc
    refine wpAny_pyNext_zipD2_end (i := i) (zsep D) (Draws.tuple hh i1 a D.l1i1 its.toArray) (Draws.list hh i2 b D.l2i2 its2.toArray) sz sI sO ⟨s1, tu⟩ ⟨s2, li.isList⟩ (by omega) (by omega) (by omega) fun h' tk hk => ⟨rfl, I.turnedL (t' := tk) (ch := [z, TI, TO, i1, i2]) (fun c o nc q => ?_) hf⟩
    simp only [List.mem_cons, List.mem_nil_iff, or_false, not_or] at nc
    exact hk c o nc.1 nc.2.2.1 nc.2.2.2.1 nc.2.2.2.2 q
/-- zip of a tuple and a list -/
def iZipTL (K : PySem.W.Frag) (ta : TA) : TI := fun σ H R => ta σ H fun vs H1 => ∃ a b xs ys, vs = [.ref a, .ref b] ∧ SqT K H1 a xs ∧ SqL K H1 b ys ∧ R (ItzTL K a b) H1
theorem pi_zipTL {X : Cx} {e e2 : Expr} {ta : TA} {p pos tpos : Pos} {elts : List Expr} {kk : Nat} (hg : Gl X "zip") (hm : X.mg "zip" = none) (ha : PA X [e, e2] ta)
    (hs : starEach [e, e2] X.env = (false, eval e X.env) :: starEach [e2] X.env := by rfl) (hpl : (backTo pos (starEach [e2] X.env)).any (·.1) = false := by rfl) :
    PI X (.Tuple elts kk tpos) (.Call (.Name "zip" p) [e, e2] [] pos) (iZipTL X.K ta) := by
  refine ⟨fun pins s σ H R I h => Call_ (ld_blt I hg hm PyProof.Rows.boot_zip (PyProof.Rows.callWith_type1 (thn (ha.run pos pins s σ H _ I h) ?_) hs hpl))⟩
  rintro us s1 ⟨vs, H1, I1, r1, a, b, xs, ys, rfl, hqx, hqy, q⟩
  obtain ⟨u, us', rfl, ru, r2⟩ : ∃ u us', us = u :: us' ∧ RelV (.ref a) u ∧ Vals [V.ref b] us' := by cases r1 with | cons r rr => exact ⟨_, _, rfl, r, rr⟩
  obtain ⟨u2, rfl, ru2⟩ := r2.one
  cases ru
  cases ru2
  obtain ⟨its, rv, tu, _⟩ := I1.tuple hqx
  obtain ⟨its2, rv2, li, _⟩ := I1.list hqy
  obtain ⟨o1, ho1, _⟩ := id tu
  refine zip_begins2 (begins_tuple a its.toArray) (begins_list b its2.toArray) tu li.isList fun h' hz hTI hTO h1 h2 hsz hk => wpAny_pyIter_zip hz ?_
  have D := PySem.W.ktu_apart s1.heap.objs.size a b (Heap.lt_size ho1) li.lt
  refine ⟨_, [s1.heap.objs.size + 4, s1.heap.objs.size + 2, s1.heap.objs.size + 3, s1.heap.objs.size, s1.heap.objs.size + 1], _, _, H1, rfl, I1.kept (t' := s1.toks) hk, turn_zipTL D, ⟨hz, hTI, ⟨_, _, hTO⟩, ⟨_, h1, rfl, rfl⟩, ⟨_, h2, rfl, rfl⟩⟩, fun c hcm => ?_, q⟩
  have lo : s1.heap.objs.size ≤ c := five (p := fun c => s1.heap.objs.size ≤ c) hcm (Nat.le_add_right _ _) (Nat.le_add_right _ _) (Nat.le_add_right _ _) (Nat.le_refl _) (Nat.le_add_right _ _)
  exact I1.fpOk lo (I1.hok.fresh lo)
/-- for T in zip(a tuple, a list of its length) -/
theorem for_zipTL {K : PySem.W.Frag} {a b : Addr} {xs ys : List V} {g : TG} {tb : TS} {D : Ends} {σ : L2.St} {H : Hp} (hl : xs.length = ys.length) (Pv : Nat → L2.St → Hp → Prop) (h0 : Pv 0 σ H) (hq : ∀ i σ H, Pv i σ H → SqT K H a xs ∧ SqL K H b ys)
    (hs : ∀ (i : Nat) (x y : V) (T : Addr) (σ : L2.St) (H : Hp), xs[i]? = some x → ys[i]? = some y → Pv i σ H → H T = none → g (.ref T) σ (upd H T (.tup [x, y])) fun σ2 H2 => tb { D with nx := Pv (i + 1), ct := Pv (i + 1), bk := D.nx } σ2 H2) (hd : ∀ σ H, Pv xs.length σ H → D.nx σ H) :
    ∃ W : Nat → Nat → L2.St → Hp → Prop, (∃ m, W 0 m σ H) ∧ ∀ i m σ H, W i m σ H →
      ((ItzTL K a b).stop i H ∧ D.nx σ H) ∨ ((ItzTL K a b).go i H ∧ ∃ N : L2.St → Hp → Prop, (∀ σ' H', N σ' H' → ∃ m', m' < m ∧ W (i + 1) m' σ' H') ∧ ∀ v H', (ItzTL K a b).yld i H v H' → g v σ H' fun σ2 H2 => tb { D with nx := N, ct := N, bk := D.nx } σ2 H2) := by
  refine ⟨fun i m σ H => m = xs.length - i ∧ i ≤ xs.length ∧ Pv i σ H, ⟨_, rfl, Nat.zero_le _, h0⟩, ?_⟩
  rintro i m σ H ⟨rfl, hi, pv⟩
  obtain ⟨qx, qy⟩ := hq i σ H pv
  rcases Nat.lt_or_ge i xs.length with lt | ge
  · have gx := List.getElem?_eq_getElem lt
    have gy := List.getElem?_eq_getElem (show i < ys.length by omega)
    refine .inr ⟨⟨xs, ys, _, _, qx, qy, gx, gy⟩, Pv (i + 1), fun σ' H' p' => ⟨_, by omega, rfl, lt, p'⟩, ?_⟩
    rintro v H' ⟨T, x', y', rfl, hT, rfl, f1, f2⟩
    exact hs i x' y' T σ H (f1 xs qx) (f2 ys qy) pv hT
  · obtain rfl : i = xs.length := by omega
    exact .inl ⟨⟨xs, ys, qx, qy, by omega, by omega, .inl rfl⟩, hd σ H pv⟩
/-- z.startswith(w), z.endswith(w) -/
def rStarts : V → List V → Hp → VK → Prop := fun x xs H Q => ∃ a b, x = .str a ∧ xs = [.str b] ∧ Q (.bl (Txt.startswith a b)) H
def rEnds : V → List V → Hp → VK → Prop := fun x xs H Q => ∃ a b, x = .str a ∧ xs = [.str b] ∧ Q (.bl (Txt.endswith a b)) H
theorem mt_startsN {X : Cx} : MtR X "str.startswith" rStarts := mt_startswith
theorem mt_endsN {X : Cx} : MtR X "str.endswith" rEnds := mt_endswith
theorem g_starts {H : Hp} {Q : VK} {a b : Str} (q : Q (.bl (Txt.startswith a b)) H) : rStarts (.str a) [.str b] H Q := ⟨a, b, rfl, rfl, q⟩
theorem g_ends {H : Hp} {Q : VK} {a b : Str} (q : Q (.bl (Txt.endswith a b)) H) : rEnds (.str a) [.str b] H Q := ⟨a, b, rfl, rfl, q⟩
/-! ### a list of anything compared with the empty list -/
def rNil (neg : Bool) : R2 := fun x y H Q => ∃ a b xs, x = .ref a ∧ y = .ref b ∧ H a = some (.lst xs) ∧ H b = some (.lst []) ∧ Q (.bl (if neg = true then !decide (xs = []) else decide (xs = []))) H
theorem cmp_nil {prog : Program} {w : World} {A : Around} {E : Value → Shared → Prop} {s : Shared} {l b : Addr} {its : List Value} {n n2 : Nat} {Q : Value → Shared → Prop} (h1 : s.heap.get? l = some { cls := .type "list", data := .seq its.toArray n }) (h2 : s.heap.get? b = some { cls := .type "list", data := .seq #[] n2 }) (hu : A.units < cLine) (neg : Bool)
    (q : Q (.bool (if neg = true then !its.isEmpty else its.isEmpty)) s) : wpAny (model prog w) A (richCompare (if neg = true then .NotEq else .Eq) (.ref l) (.ref b)) Q E s := by
  have t1 : s.TypeIs (.ref l) "list" := ⟨_, h1, rfl⟩
  have t2 : s.TypeIs (.ref b) "list" := ⟨_, h2, rfl⟩
  cases its with
  | nil =>
    cases neg
    · refine richCompare_meets_room (op := .Eq) t1 t2 F.slot_list_eq F.entry_list_eq (F.args_list_eq_2 _ _) (SeqAt.list_eqAt l b #[] #[] n n2 none none #[] #[] rfl fun _ => true) ⟨h1, h2, fun j g => absurd g (Nat.not_lt_zero _), ?_⟩ hu
      exact ⟨fun z => (nomatch z), q⟩
    · refine richCompare_meets_room (op := .NotEq) t1 t2 F.slot_list_ne F.entry_list_ne (F.args_list_ne_2 _ _) (SeqAt.list_neAt l b #[] #[] n n2 none none #[] #[] rfl fun _ => true) ⟨h1, h2, fun j g => absurd g (Nat.not_lt_zero _), ?_⟩ hu
      exact ⟨fun z => (nomatch z), q⟩
  | cons v its =>
    have sz : ((v :: its).toArray.size != (#[] : Array Value).size) = true := by simp
    cases neg
    · refine richCompare_meets_room (op := .Eq) t1 t2 F.slot_list_eq F.entry_list_eq (F.args_list_eq_2 _ _) (SeqAt.list_eq_lengthsAt l b _ #[] n n2 none none #[] #[] sz) ⟨h1, h2, ?_⟩ hu
      exact ⟨fun z => (nomatch z), q⟩
    · refine richCompare_meets_room (op := .NotEq) t1 t2 F.slot_list_ne F.entry_list_ne (F.args_list_ne_2 _ _) (SeqAt.list_ne_lengthsAt l b _ #[] n n2 none none #[] #[] sz) ⟨h1, h2, ?_⟩ hu
      exact ⟨fun z => (nomatch z), q⟩
theorem op_nil {X : Cx} {k : Nat} (hr : RG k X.A) (neg : Bool) : OpR X (compareOp (if neg = true then .NotEq else .Eq)) (rNil neg) := by
  intro pins s σ H x y v u Q I rx ry hq
  obtain ⟨a, b, xs, rfl, rfl, ha, hb, q⟩ := hq
  cases rx
  cases ry
  obtain ⟨z, its, n, r, e⟩ := I.hok a _ ha
  obtain ⟨z2, its2, n2, r2, e2⟩ := I.hok b _ hb
  cases r2
  have em : its.isEmpty = decide (xs = []) := by
    cases r with
    | nil => exact (decide_eq_true rfl).symm
    | cons _ _ => exact (decide_eq_false fun z => nomatch z).symm
  have key := cmp_nil (prog := X.prog) (w := X.w) (A := X.A) (E := X.xe) (Q := EP X pins σ Q) e e2 hr.rm.units0 neg ⟨.bl (if neg = true then !decide (xs = []) else decide (xs = [])), H, I, by rw [em]; rfl, q⟩
  cases neg <;> exact key
theorem op_eqNil {X : Cx} {k : Nat} (hr : RG k X.A) : OpR X (compareOp .Eq) (rNil false) := op_nil hr false
theorem op_neNil {X : Cx} {k : Nat} (hr : RG k X.A) : OpR X (compareOp .NotEq) (rNil true) := op_nil hr true
theorem g_nil' {H : Hp} {Q : VK} {a b : Addr} {xs : List V} {neg : Bool} (h1 : H a = some (.lst xs)) (h2 : H b = some (.lst [])) (q : Q (.bl (if neg = true then !decide (xs = []) else decide (xs = []))) H) : rNil neg (.ref a) (.ref b) H Q := ⟨a, b, xs, rfl, rfl, h1, h2, q⟩
theorem g_neNilV {H : Hp} {Q : VK} {a b : Addr} {xs : List V} (h1 : H a = some (.lst xs)) (h2 : H b = some (.lst [])) (q : Q (.bl (!decide (xs = []))) H) : rNil true (.ref a) (.ref b) H Q := g_nil' h1 h2 q
theorem g_eqNilV {H : Hp} {Q : VK} {a b : Addr} {xs : List V} (h1 : H a = some (.lst xs)) (h2 : H b = some (.lst [])) (q : Q (.bl (decide (xs = []))) H) : rNil false (.ref a) (.ref b) H Q := g_nil' h1 h2 q
/-- a text's method, the text in a variable or written -/
theorem g_bmV {K : PySem.W.Frag} {σ : L2.St} {H : Hp} {Q : VK} {n : Nat} {z : Str} {t : TA} {r : V → List V → Hp → VK → Prop} (hv : σ[n]? = some (some (.str z))) (q : t σ H fun xs H1 => r (.str z) xs H1 Q) : tBM K "str" r (tVar n) t σ H Q := ⟨_, hv, rfl, q⟩
end Hf

set_option Elab.async false
set_option linter.all false
set_option maxRecDepth 100000
set_option maxHeartbeats 4000000
namespace Hf
open PySem L2 PySem.Spec PyProof.Rows
/-! ### lambdas with one parameter that has a default, handed to a def that calls them without arguments -/
/-- parameters that are no names of the maker; captured ones and globals -/
structure LamD (N : List Str) (sc scope : Scope) : Prop where
  kind : scope.kind = .function
  co : scope.isCoroutine = false
  gen : scope.isGenerator = false
  own : ∀ y ∈ scope.names, y.2 ≠ .cell ∧ (y.2 = .local → y.1 ∉ N)
  free : ∀ y ∈ scope.names, y.2 = .free → sc.names.lookup y.1 = some .cell ∨ sc.names.lookup y.1 = some .free
def lamDB (N : List Str) (sc scope : Scope) : Bool :=
  decide (scope.kind = .function) && !scope.isCoroutine && !scope.isGenerator && scope.names.all fun y => !decide (y.2 = .cell) && (!decide (y.2 = .local) || !decide (y.1 ∈ N)) && (!decide (y.2 = .free) || decide (sc.names.lookup y.1 = some .cell) || decide (sc.names.lookup y.1 = some .free))
theorem lamD_by {N : List Str} {sc scope : Scope} (h : lamDB N sc scope = true) : LamD N sc scope := by
  unfold lamDB at h
  simp only [Bool.and_eq_true, Bool.or_eq_true, Bool.not_eq_true', decide_eq_true_eq, decide_eq_false_iff_not, List.all_eq_true] at h
  obtain ⟨⟨⟨h1, h2⟩, h3⟩, h4⟩ := h
  refine ⟨h1, h2, h3, fun y hy => ⟨(h4 y hy).1.1, fun e => ?_⟩, fun y hy e => ?_⟩
  · rcases (h4 y hy).1.2 with z | z
    · exact absurd e z
    · exact z
  · rcases (h4 y hy).2 with (z | z) | z
    · exact absurd e z
    · exact .inl z
    · exact .inr z
theorem LamD.has {X : Cx} {scope : Scope} (L : LamD X.N X.env.scope scope) (ok : X.Ok) : ∀ y ∈ scope.names, y.2 = .free → ∃ c, X.env.cells.lookup y.1 = some c := fun y hy e => by
  rcases L.free y hy e with k | k
  · exact ok.has _ (.inl k)
  · exact ok.has _ (.inr k)
section
variable {X : Cx} {pins : List (Addr × Obj)} {σ : L2.St} {H HZ : Hp} {s s1 : Shared}
abbrev dfnO (qual : Str) (params : Arguments) (body : Expr) (scope : Scope) (cl : List (Str × Addr)) (T : Addr) (doc pm : Value) (c' : Addr) (ctv : Value) : Obj :=
  PySem.W.kdv_obj "<lambda>" qual params (.expr body) scope cl (.ref T) doc pm c' ctv
/-- the lambda is made: its default's tuple and its code object are new, or the code object is found in the table -/
theorem lam_makeD {T : List (Addr × Str)} {c P : Addr} {params : Arguments} {body : Expr} {scope : Scope} {pos : Pos} {E : Value → Shared → Prop} {Q : Value → Shared → Prop} {i : Int} {j : Nat} {dp : Pos} (I : Inv X pins σ H s) (TB : LamX.TabB X.base X.mg c P) (hcode : X.env.code = .ref c)
    (hm : (P, X.env.qual ++ "<lambda>") ∈ T) (hu : ∀ p ∈ T, p.1 = P → p.2 = X.env.qual ++ "<lambda>") (hT : LamX.Tabs T H) (hd : params.defaults = [.Constant (.int i) j dp]) (hk0 : params.kw_defaults = []) (hfree : ∀ y ∈ scope.names, y.2 = .free → ∃ c, X.env.cells.lookup y.1 = some c)
    (h : ∀ (f c' t : Addr) (u doc pm ctv : Value) (H1 : Hp) (s' : Shared), Inv X pins σ H1 s' → LamX.ExtN H H1 → LamX.Tabs T H1 →
      s'.heap.get? f = some (dfnO (X.env.qual ++ "<lambda>") params body scope (cloFrom X.env.cells scope.names []) t doc pm c' ctv) → H1 f = none → f ∉ frs X.stack → H1 c' = some (LamX.CodeO c' (X.env.qual ++ "<lambda>")) →
      s'.heap.get? t = some (PySem.W.kdv_tup [u]) → H1 t = none → t ∉ frs X.stack → Q (.ref f) s') :
    wpAny (model X.prog X.w) X.A (eval (.Lambda params body scope pos) X.env) Q E s := by
  refine PySem.W.kdv_lam (by rw [hd]; rfl) hk0 ?_
  rw [hd]
  refine PySem.W.kdv_all1 (wpAny_Constant_int (PySem.W.kdv_all0 ?_))
  rw [makeFunction_eq]
  simp only [List.zip_nil_right, List.filterMap_nil, List.isEmpty_nil, if_true, pure_bind, List.isEmpty_cons, Bool.false_eq_true, if_false]
  refine wpAny_bind (wpAny_newTextTuple ?_)
  have I2 : Inv X pins σ H { s with toks := s.toks + 1, heap := s.heap.push (PySem.W.kdv_tup [.int i s.toks]) } := I.kept (t' := s.toks + 1) fun b o e => Heap.get?_push_of_some _ e
  have eT : (s.heap.push (PySem.W.kdv_tup [.int i s.toks])).get? s.heap.objs.size = some (PySem.W.kdv_tup [.int i s.toks]) := Heap.get?_push_size _ rfl
  have nT : H s.heap.objs.size = none := I.hok.fresh (Nat.le_refl _)
  have nofr0 : s.heap.objs.size ∉ frs X.stack := fun z => by
    rcases List.mem_cons.mp (I.stkSub _ z) with e | e
    · have h1 := I.lt
      rw [← e] at h1
      exact Nat.lt_irrefl _ h1
    · exact I.nofs (Nat.le_refl _) e
  have lt2 : s.heap.objs.size < (s.heap.push (PySem.W.kdv_tup [.int i s.toks])).objs.size := by rw [Heap.size_push]; exact Nat.lt_succ_self _
  generalize hs2 : ({ s with toks := s.toks + 1, heap := s.heap.push (PySem.W.kdv_tup [.int i s.toks]) } : Shared) = s2 at I2
  have eh : s2.heap = s.heap.push (PySem.W.kdv_tup [.int i s.toks]) := by rw [← hs2]
  rw [← eh] at eT lt2
  have goal : wpAny (model X.prog X.w) X.A (makeTail "<lambda>" (X.env.qual ++ "<lambda>") params (.expr body) scope X.env (.ref s.heap.objs.size) .none none pos pos.line) Q E s2 := by
    clear hs2 eh
    obtain ⟨ps, hP, ht, ha⟩ := hT _ hm
    have bP : s2.heap.BuiltinsAt X.mg P := TB.bm.keeps I2.bk
    have hP' : s2.heap.get? P = some { cls := .none, data := .fields ps } := I2.hok P _ hP
    have nofr : ∀ f, s2.heap.objs.size ≤ f → f ∉ frs X.stack := fun f hf z => by
      rcases List.mem_cons.mp (I2.stkSub _ z) with e | e
      · have h1 := I2.lt
        rw [← e] at h1
        exact Nat.lt_irrefl _ (Nat.lt_of_lt_of_le h1 hf)
      · exact I2.nofs hf e
    have tP : s.heap.objs.size ≠ P := fun z => by
      rw [z, hP] at nT
      cases nT
    cases hc : codeAmong pos ps.toList with
    | none =>
      refine PySem.W.kdv_makeTail (mg := X.mg) (c := c) (P := P) (ps := ps) (closure_ok hfree) I2.ok.glob (I2.mod.glob.keeps I2.bk) hcode (TB.code.keeps I2.bk) hP' ht hc TB.gP bP fun c' ctv doc h' tk hx hge hlt hrec htb => ?_
      obtain ⟨c2, oc, vs, t, e2, hoc, hd2, hv⟩ := hrec
      cases e2
      have hsz : s2.heap.objs.size ≤ h'.objs.size := Nat.le_trans hge (Nat.le_of_lt hlt)
      have nC : H c' = none := I2.hok.fresh hge
      have tC : s.heap.objs.size ≠ c' := Nat.ne_of_lt (Nat.lt_of_lt_of_le lt2 hge)
      have I1 := LamX.inv_table (t' := tk) (more := #[rawInt pos.line, rawInt pos.col, .ref c']) (h' := h'.push (dfnO (X.env.qual ++ "<lambda>") params body scope (cloFrom X.env.cells scope.names []) s.heap.objs.size doc ((X.mg "__name__").getD .none) c' ctv)) I2 hP
        (fun b o hb e => Heap.get?_push_of_some _ (hx b o hb e)) (Heap.get?_push_of_some _ htb) hge ⟨oc, vs, t, Heap.get?_push_of_some _ hoc, hd2, hv⟩
      have hE : LamX.ExtN H (upd (upd H P (.tbl (ps ++ #[rawInt pos.line, rawInt pos.col, .ref c']))) c' (LamX.CodeO c' (X.env.qual ++ "<lambda>"))) := fun b o e n => by
        rw [upd_ne (ne_of_none e nC), upd_ne (fun z => n ps (Option.some.inj (e.symm.trans (by rw [z]; exact hP))))]
        exact e
      have eL : (ps ++ #[rawInt pos.line, rawInt pos.col, .ref c']).toList = ps.toList ++ [rawInt pos.line, rawInt pos.col, .ref c'] := by simp
      refine h h'.objs.size c' s.heap.objs.size (.int i s.toks) doc ((X.mg "__name__").getD .none) ctv _ _ I1 hE (fun p hp => ?_) (Heap.get?_push_size _ rfl) ?_ (nofr _ hsz) upd_same (Heap.get?_push_of_some _ (hx _ _ tP eT)) (by rw [upd_ne tC, upd_ne tP]; exact nT) nofr0
      · by_cases hb : p.1 = P
        · rw [hu p hp hb, hb]
          refine ⟨_, by rw [upd_ne (ne_of_none hP nC), upd_same], by rw [eL]; exact PySem.TriplesOk_snoc _ _ _ _ ht, fun p' cv hcv => ?_⟩
          rw [eL] at hcv
          rcases LamX.among_app _ ht hcv with z | z
          · obtain ⟨c0, e1, e2⟩ := ha p' cv z
            exact ⟨c0, e1, hE _ _ e2 LamX.codeO_ne⟩
          · exact ⟨c', z, upd_same⟩
        · obtain ⟨ps', a1, a2, a3⟩ := hT p hp
          refine ⟨ps', by rw [upd_ne (ne_of_none a1 nC), upd_ne hb]; exact a1, a2, fun p' cv hcv => ?_⟩
          obtain ⟨c0, e1, e2⟩ := a3 p' cv hcv
          exact ⟨c0, e1, hE _ _ e2 LamX.codeO_ne⟩
      · have n1 : h'.objs.size ≠ c' := Nat.ne_of_gt hlt
        have n2 : h'.objs.size ≠ P := Nat.ne_of_gt (Nat.lt_of_lt_of_le (Heap.lt_size hP') hsz)
        rw [upd_ne n1, upd_ne n2]
        exact I2.hok.fresh hsz
    | some cv =>
      obtain ⟨c', e, hco⟩ := ha pos cv hc
      subst e
      refine PySem.W.kdv_makeTailHit (mg := X.mg) (c := c) (P := P) (ps := ps) (closure_ok hfree) I2.ok.glob (I2.mod.glob.keeps I2.bk) hcode (TB.code.keeps I2.bk) hP' ht hc bP fun ctv doc h' tk hx hsz => ?_
      have I1 : Inv X pins σ H { s2 with heap := h'.push (dfnO (X.env.qual ++ "<lambda>") params body scope (cloFrom X.env.cells scope.names []) s.heap.objs.size doc ((X.mg "__name__").getD .none) c' ctv), toks := tk } := I2.kept fun b o e => Heap.get?_push_of_some _ (hx b o e)
      exact h h'.objs.size c' s.heap.objs.size (.int i s.toks) doc ((X.mg "__name__").getD .none) ctv H _ I1 (LamX.ExtN.refl H) hT (Heap.get?_push_size _ rfl) (I2.hok.fresh hsz) (nofr _ hsz) hco (Heap.get?_push_of_some _ (hx _ _ eT)) nT nofr0
  exact goal
/-- the lambda's frame, entered with its default -/
theorem lam_startD {A : Around} {outer : List Env} {E : XK} {scope : Scope} {f c' : Addr} {h₁ : Heap} {tk : Nat} {bs : List (Str × Value)} (I : Inv X pins σ H s) (L : LamD X.N X.env.scope scope) (e0 : Env0 X.prog X.w X.K X.mg X.base A outer s1 HZ) (hd : A.handled = none)
    (un : Un (frs X.stack) [] H HZ s.heap s1.heap) (hns : h₁.Ns s1.heap.objs.size fun y => bs.reverse.lookup y) (kp : ∀ b o, s1.heap.get? b = some o → h₁.get? b = some o) :
    Inv (LamX.lamCx X A outer s1 HZ E scope f c') [] σ HZ { s1 with heap := h₁, toks := tk } := by
  have hfree := L.has I.ok
  have cm : ∀ {y c}, (cloFrom X.env.cells scope.names []).lookup y = some c → X.env.cells.lookup y = some c := fun {y c} e => by
    rcases cloFrom_mem (PySem.mem_of_lookup e) with hm | ⟨h1, h2⟩
    · cases hm
    · obtain ⟨c1, hc⟩ := hfree _ h1 rfl
      have hc : X.env.cells.lookup y = some c1 := hc
      have e2 : c = c1 := by
        rw [h2, hc] <;> rfl
      rw [e2]
      exact hc
  have look : ∀ {y}, scope.names.lookup y = some .free → ∃ c, (cloFrom X.env.cells scope.names []).lookup y = some c := fun {y} hl => by
    have hy : (y, NameKind.free) ∈ scope.names := PySem.mem_of_lookup hl
    exact mem_lookup (cloFrom_has (cells := X.env.cells) (acc := []) hy)
  have cellK : ∀ {c : Addr} {v : Option Value}, H c = none → s.heap.IsCell c v → h₁.IsCell c v := fun {c v} n ⟨o, ho, hd⟩ => by
    obtain ⟨sl, q⟩ := un.any ho n (by simp)
    exact ⟨_, kp _ _ q, hd⟩
  have noA : ∀ b : Addr, b ∉ (LamX.lamCx X A outer s1 HZ E scope f c').ex := fun b z => absurd (show b ∈ ([] : List Addr) from z) (by simp)
  refine ⟨⟨e0.mod, L.kind, rfl, rfl, Nat.le_refl _, fun y z c e1 e2 => I.ok.inj y z c (cm e1) (cm e2), fun y hy => ?_, fun y c z _ => ?_, fun _ => hd, Around.frames_deeper e0.frames, .inr ⟨rfl, rfl⟩, fun b z => absurd z (noA b), e0.bs, e0.bsz, fun b _ _ => noA b,
      fun b z => absurd z (noA b), e0.funs, e0.frf⟩,
    rfl, e0.bare, Un.kept kp, ⟨_, hns, fun i y v e1 e2 e3 => ?_⟩, fun y c e => ?_, e0.hok.fresh (Nat.le_refl _), fun y c e => ?_, fun q hq => absurd (show q ∈ ([] : List (Addr × Obj)) ++ [] from hq) (by simp), e0.hok.kept kp, I.len⟩
  · have hy : scope.names.lookup y = some .cell ∨ scope.names.lookup y = some .free := hy
    rcases hy with hy | hy
    · exact absurd rfl (L.own _ (PySem.mem_of_lookup hy)).1
    · exact look hy
  · have z : false = true := z
    cases z
  · have e3 : Vis scope y := e3
    rcases e3 with k | k | k
    · exact absurd (List.mem_of_getElem? e1) ((L.own _ (PySem.mem_of_lookup k)).2 rfl)
    · exact absurd rfl (L.own _ (PySem.mem_of_lookup k)).1
    · obtain ⟨m, hn, hl⟩ := I.loc
      have hvis : Vis X.env.scope y := (L.free _ (PySem.mem_of_lookup k) rfl).elim (fun k => .inr (.inl k)) (fun k => .inr (.inr k))
      obtain ⟨w', r, q⟩ := hl i y v e1 e2 hvis
      obtain ⟨c2, h2⟩ := look k
      refine ⟨w', r, .inr ⟨.inr k, c2, h2, ?_⟩⟩
      have c1 := cm h2
      rcases q with ⟨k', _⟩ | ⟨_, c3, e', z⟩
      · have k' : X.env.scope.names.lookup y = some .local := k'
        rcases L.free _ (PySem.mem_of_lookup k) rfl with k2 | k2 <;> rw [show X.env.scope.names.lookup y = _ from k2] at k' <;> cases k'
      · rw [c1] at e'
        cases e'
        exact cellK (I.freeC y _ c1) z
  · obtain ⟨w', z⟩ := I.cell y c (cm e)
    exact ⟨w', cellK (I.freeC y c (cm e)) z⟩
  · obtain ⟨v, o, ho, hd⟩ := I.cell y c (cm e)
    exact un.free c o ho (I.freeC y c (cm e)) (by simp)
end
section
variable {X : Cx} {pins : List (Addr × Obj)} {σ : L2.St} {H : Hp} {s : Shared} {Ng : List Str} {qg : Str} {sg : Scope} {g f c' tA : Addr} {cdg pm ctv doc u0 : Value} {params : Arguments} {body : Expr} {scope : Scope} {k i : Nat} {a x0 : Str} {pn : List (Addr × Obj)} {xe : Value → Shared → Prop} {W : WX} {tb : XK → TE} {p1 p2 : Pos}
/-- how the only parameter gets its default -/
def DBind (params : Arguments) (body : Expr) (scope : Scope) (x0 : Str) : Prop := ∀ (q : Str) (cl : List (Str × Addr)) (dV doc pm cv ctv : Value), ∃ kk : Option (Array Value) → Sem (List (Str × Value)),
  bindArgs (PySem.W.kdv_fn "<lambda>" q params (.expr body) scope cl dV doc pm cv ctv) ⟨[], []⟩ = seqItems? dV >>= kk ∧ ∀ u, kk (some #[u]) = pure [(x0, u)]
theorem pe_actD (I : Inv X pins σ H s) (L : LamD X.N X.env.scope scope) (hloc : scope.names.lookup x0 = some .local)
    (hf : s.heap.get? f = some (dfnO (X.env.qual ++ "<lambda>") params body scope (cloFrom X.env.cells scope.names []) tA doc pm c' ctv)) (hfn : H f = none) (hfr : f ∉ frs X.stack)
    (ht : s.heap.get? tA = some (PySem.W.kdv_tup [u0])) (htn : H tA = none) (htr : tA ∉ frs X.stack)
    (hbind : DBind params body scope x0)
    (tk : Takes ((cxOf CX0 X.prog X.w X.K X.mg X.base Ng qg sg g cdg X.A X.stack s H E0).tr pn xe) W) (hr : RG (k + 1) (X.A.deeper (envOfC qg sg s.heap.objs.size g cdg)))
    (hbody : ∀ (B : Around) (out : List Env) (s2 : Shared) (H2 : Hp) (E : XK), RG k (B.deeper (LamX.lamEnv X scope s2.heap.objs.size f c')) → PE (LamX.lamCx X B out s2 H2 E scope f c') body (tb E))
    (hN : Ng[i]? = some a) (hv : Vis sg a) (hd : (a == ("__debug__" : Str)) = false := by decide) (hcd : (a == ("__classdict__" : Str)) = false := by decide) :
    PE ((cxOf CX0 X.prog X.w X.K X.mg X.base Ng qg sg g cdg X.A X.stack s H E0).tr pn xe) (.Call (.Name a p1) [] [] p2) (tAct i f c' (X.env.qual ++ "<lambda>") W fun E H' Q => tb E σ H' Q) := by
  refine ⟨?_⟩
  rintro pz sZ σZ HZ Q IZ ⟨w1, w2, w3⟩
  refine wpAny_Call_Name_kw ?_
  refine thn ((pe_var (pos := p1) (i := i) hN hv hd hcd).run pz sZ σZ HZ (fun v H1 => v = .ref f ∧ H1 = HZ) IZ ⟨.ref f, w1, rfl, rfl⟩) ?_
  rintro u s1 ⟨v, H1, J, rv, ev, eh⟩
  subst ev
  subst eh
  have eu : u = Value.ref f := rv
  subst eu
  have stays := J.base.keep f _ hf hfn hfr (by intro z; cases z)
  have staysT := J.base.keep tA _ ht htn htr (by intro z; cases z)
  refine PySem.W.callWith_F0 ⟨_, _, _, _, stays⟩ ?_
  obtain ⟨⟨oc, us, tq, g1, g2, g3⟩, _⟩ := J.hok c' _ w2
  have main : codeAny (model X.prog X.w) (X.A.deeper (envOfC qg sg s.heap.objs.size g cdg)) (.call (.ref f) ⟨[], []⟩) (CR (L2.CX X.prog X.w) (envOfC qg sg s.heap.objs.size g cdg :: X.stack) X.prog X.w H1 s1 Q fun cls d H' => W cls d σZ H') s1 := by
    obtain ⟨kk, b1, b2⟩ := hbind (X.env.qual ++ "<lambda>") (cloFrom X.env.cells scope.names []) (.ref tA) doc pm (.ref c') ctv
    have bt : BindsTo s1 (PySem.W.kdv_fn "<lambda>" (X.env.qual ++ "<lambda>") params (.expr body) scope (cloFrom X.env.cells scope.names []) (.ref tA) doc pm (.ref c') ctv) ⟨[], []⟩ [(x0, u0)] := BindsTo.of_defaults rfl staysT rfl b1 (b2 u0)
    refine PySem.W.kla_callFunE hr.rm.depth stays rfl L.co L.gen rfl ⟨c', oc, us, tq, rfl, g1, g2, g3⟩ (bt _ _ _ _ ?_)
    refine wpAny_newFunctionEnv (fun y hy => (L.own y hy).1) (fun y hy => by rw [List.mem_singleton.mp hy]; exact hloc) ?_ L.kind
    intro h₁ hns hsb
    refine ⟨J.nolimit.fresh _ hsb, ?_⟩
    have kp : ∀ b o, s1.heap.get? b = some o → h₁.get? b = some o := by
      intro b o e
      exact hsb.extBut b o (Nat.ne_of_lt (Heap.lt_size e)) (Heap.get?_push_of_some _ e)
    have start := lam_startD (f := f) (c' := c') (tk := s1.toks + [(x0, u0)].length) (E := fun cls d H' => W cls d σZ H') I L J.env0 hr.rm.hd J.base hns kp
    refine PySem.W.kla_codeExpr (wpAny_mono ((hbody _ _ s1 H1 _ (hr.deeper _)).run [] _ _ H1 Q start w3) ?_ (fun e s' z => z))
    rintro v s' ⟨w', H', J', rv', q'⟩
    exact ⟨w', H', J'.os, J'.bare, J'.base, J'.hok, rv', q'⟩
  refine wpAny_call (codeAny_mono main ?_)
  intro r s' z
  match r, z with
  | .error e, z => exact tk _ _ (XE.of_call J (fun cls d H' h => h) z)
  | .ok (.ret u), z => exact J.after z
  | .ok .next, z => exact z.elim
  | .ok .brk, z => exact z.elim
  | .ok .cont, z => exact z.elim
end
section
variable {X : Cx} [Tb] {k j : Nat} {x a x0 : Str} {st : Stmt} {N : List Str} {TT : (XK → Hp → VK → Prop) → Hp → VK → Prop} {c Pt : Addr} {params : Arguments} {body : Expr} {scope : Scope} {t : XK → TE} {p lpos pos : Pos} {i0 : Int} {j0 : Nat} {dp : Pos}
/-- x(lambda y=0: body) -/
theorem pe_lamD (G : Gv X.prog X.w X.K X.mg X.base k x st N a TT) (TB : LamX.TabB X.base X.mg c Pt) (hcode : X.env.code = .ref c) (hmT : (Pt, X.env.qual ++ "<lambda>") ∈ Tb.T) (hu : ∀ p ∈ Tb.T, p.1 = Pt → p.2 = X.env.qual ++ "<lambda>")
    (hr : RG j X.A) (hj : k + 2 ≤ j) (L : LamD X.N X.env.scope scope) (hloc : scope.names.lookup x0 = some .local) (hb : Bnd st x x [a] 1 [] @fun _ us _ => us) (hd : params.defaults = [.Constant (.int i0) j0 dp]) (hk0 : params.kw_defaults = [])
    (hbind : DBind params body scope x0)
    (hbody : ∀ (B : Around) (out : List Env) (s2 : Shared) (H2 : Hp) (E : XK) (f c' : Addr), RG k (B.deeper (LamX.lamEnv X scope s2.heap.objs.size f c')) → PE (LamX.lamCx X B out s2 H2 E scope f c') body (t E))
    (hg : Gl X x := by rfl) (hdb : (x == ("__debug__" : Str)) = false := by decide) :
    PE X (.Call (.Name x p) [.Lambda params body scope lpos] [] pos) (tLamG TT t) := by
  obtain ⟨gf, fd, hm, U⟩ := G.ex
  obtain ⟨oc, od, kV, doc, pm, an, cdv, ct, osl, rfl, lk, hcd⟩ := U.ex
  refine ⟨?_⟩
  rintro pins s σ H Q I ⟨hT, h⟩
  refine wpAny_Call_Name_kw (ld_glob I hg hm ?_ hdb)
  refine PySem.W.callWith_K (h₀ := X.base) I.ok.mod.kin U.kp ?_ (by rfl) (by rfl)
  show wpAny _ _ (spliced ((false, eval (.Lambda params body scope lpos) X.env) :: backTo pos (starEach [] X.env))) _ _ s
  refine Calls.spliced_cons (lam_makeD I TB hcode hmT hu hT hd hk0 (L.has I.ok) ?_)
  intro f c' tA u0 doc' pm' ctv H1 s' I1 eN T1 hf hfn hfr hco ht htn htr
  refine Calls.spliced_nil ⟨I1.kIn, ?_⟩
  have ran : codeAny (model X.prog X.w) X.A (.call (.ref gf) ⟨[.ref f], []⟩) (CR CX0 X.stack X.prog X.w H1 s' Q E0) s' := by
    refine one_call (k := k + 1) (us := [.ref f]) (xs := [.ref f]) lk hcd G.sc rfl (hr.mono hj) I1.env0 (.of_eq (hb kV doc pm an cdv ct [.ref f] [] rfl rfl).1) (.cons rfl .nil) ?_
    intro hr'
    exact G.go gf cdv X.A X.stack s' H1 Q f c' (X.env.qual ++ "<lambda>") _ hr' (fun W pn xe p1 p2 tk => pe_actD I1 L hloc hf hfn hfr ht htn htr hbind tk hr' (fun B out s2 H2 E r => hbody B out s2 H2 E f c' r) G.at0 G.vis G.nodebug G.noclass) hco (h H1 eN T1)
  refine wpAny_call (codeAny_mono ran ?_)
  intro r s2 z
  match r, z with
  | .error e, z => exact z.elim
  | .ok (.ret u), z => exact I1.after z
  | .ok .next, z => exact z.elim
  | .ok .brk, z => exact z.elim
  | .ok .cont, z => exact z.elim
end
/-! ### text * number -/
def rMulT : R2 := fun x y H Q => ∃ z n, x = .str z ∧ y = .int n ∧ z.length ≤ 100 ∧ -100000 ≤ n ∧ n ≤ 100000 ∧ Q (.str (Txt.mul z n)) H
theorem op_mulT {X : Cx} : OpR X (binaryOp .Mult) rMulT := by
  intro pins s σ H x y v u Q I rx ry h
  obtain ⟨z, n, rfl, rfl, hz, h1, h2, q⟩ := h
  obtain ⟨t, rfl⟩ := rx
  obtain ⟨t', rfl⟩ := ry
  refine SB.mul ⟨?_, fun h3 _ => ?_, fun h3 _ => ?_⟩ (fun t' tk => ⟨.str (Txt.mul z n), H, I.tok _, ⟨_, rfl⟩, q⟩)
  · rw [Bool.or_eq_false_iff, decide_eq_false_iff_not, decide_eq_false_iff_not]
    omega
  · have k : (92233720368547 : Int) ≤ (2 ^ 63 - 1) / n := (Int.le_ediv_iff_mul_le (by omega)).mpr (by omega)
    omega
  · have k : z.length * n.toNat ≤ 100 * 100000 := Nat.mul_le_mul hz (by omega)
    unfold Builtin.Str.tooLong
    exact decide_eq_false (Nat.not_lt.mpr (Nat.le_trans k (by decide)))
def rMulB (K : PySem.W.Frag) : R2 := fun x y H Q => rMulA K x y H Q ∨ (rMulT x y H Q ∨ rRepT K x y H Q)
theorem op_mulB {X : Cx} : OpR X (binaryOp .Mult) (rMulB X.K) := op_mulA.or (op_mulT.or op_repT)
section
variable {K : PySem.W.Frag} {H : Hp} {Q : VK} {i j : Int} {a : Addr} {z : Str} {x : V}
theorem g_mulBI (c : CMul i j) (q : Q (.int (i * j)) H) : rMulB K (.int i) (.int j) H Q := .inl (g_mulI c q)
theorem g_mulBT (h : z.length ≤ 100) (h1 : -100000 ≤ j) (h2 : j ≤ 100000) (q : Q (.str (Txt.mul z j)) H) : rMulB K (.str z) (.int j) H Q := .inr (.inl ⟨z, j, rfl, rfl, h, h1, h2, q⟩)
theorem g_mulBR (q : rMulA K (.ref a) (.int j) H Q) : rMulB K (.ref a) (.int j) H Q := .inl q
theorem foldl_app (c : Array Nat) : ∀ (n : Nat) (a : Array Nat), (List.foldl (fun x1 x2 => x1 ++ x2) a (List.replicate n c)).toList = a.toList ++ (List.replicate n c.toList).flatten
  | 0, a => by simp
  | n + 1, a => by
    rw [List.replicate_succ, List.foldl_cons, foldl_app c n, List.replicate_succ, List.flatten_cons, Array.toList_append, List.append_assoc]
theorem cs_mul (z : Str) (n : Int) : cs (Txt.mul z n) = (List.replicate n.toNat (cs z)).flatten := by
  unfold Txt.mul
  by_cases h1 : n < 1
  · rw [if_pos h1, show n.toNat = 0 by omega]
    rfl
  · rw [if_neg h1]
    by_cases h2 : n = 1
    · subst h2
      rw [if_pos (by simp)]
      simp
    · by_cases h3 : z.length = 0
      · rw [if_pos (by simp [h3])]
        have e : cs z = [] := List.length_eq_zero_iff.mp (by rw [cs_len]; exact h3)
        rw [e]
        simp
      · rw [if_neg (by simp [h2, h3])]
        show Array.toList _ = _
        rw [foldl_app]
        rfl
end
/-! ### comprehensions over ranges, with a test -/
theorem walk_rngY {lo : Int} {n : Nat} : Walk (Itr lo n) ((List.range n).map fun i => V.int (lo + (i : Nat))).length (fun _ => True) (YAt ((List.range n).map fun i => V.int (lo + (i : Nat)))) := by
  rw [List.length_map, List.length_range]
  refine Walk.mono walk_range (fun _ h => h) ?_
  rintro i H x H' hi _ ⟨rfl, rfl⟩
  refine ⟨rfl, ?_⟩
  rw [List.getElem?_map, List.getElem?_range hi]
  rfl
/-! ### except tuples of two and four -/
section
variable {X : Cx} {x1 x2 n : Str} {c1 c2 : Value} {i kk : Nat} {body suite : List Stmt} {b₀ : Stmt} {np1 np2 tp pos pos' : Pos} {tb : WX → TS} {ts : Addr → Value → Option Addr → TS}
theorem ps_try_tup2 (hs : X.stack = X.env :: X.outer) (hf : X.env.frame = some X.env.locals) (hex : X.ex = []) (hN : X.N.Nodup) (hi : X.N[i]? = some n) (hln : X.env.kindOf n = some .local) (m1 : Names X x1 c1) (m2 : Names X x2 c2)
    (hb : ∀ (W : WX) (pn : List (Addr × Obj)) (xe : Value → Shared → Prop), Takes (X.tr pn xe) W → PassesOwn (model X.prog X.w) X.A X.env xe → PSs (X.tr pn xe) body (tb W))
    (hsu : ∀ (a : Addr) (oe : Obj) (cls : Value) (d : Option Addr) (pn : List (Addr × Obj)), Zc cls d oe → (∃ vs, oe.data = .fields vs) → PSs (X.suite a ((a, oe) :: pn)) (b₀ :: suite) (ts a cls d)) :
    PS X (.Try body [.ExceptHandler (some (.Tuple [.Name x1 np1, .Name x2 np2] kk tp)) (some n) (b₀ :: suite) pos'] [] [] pos) (fun D σ H => tb (wTup X.K [c1, c2] i ts D) D σ H) := by
  refine ⟨fun pins s σ H D I h => ?_⟩
  have ok := I.ok
  have hfr : X.A.frames = some (X.env :: X.outer) := by rw [ok.frames, hs]
  have hloc : Loc X.env.scope n := .inl hln
  refine wpAny_Try_except ?_
  refine wpAny_mono ((hb (wTup X.K [c1, c2] i ts D) (X.pn ++ pins) _ (fun u s' xx => ?_) PassesOwn.looking).run [] s σ H D (I.toTry _) h) (fun f s1 hsp => ?_) (fun e s1 he => he)
  · obtain ⟨a, B, sI, pins', σ', H', cls, d, rfl, J', nb, up, sky, na, os, ag, hmat, hyes⟩ := xx
    have J : Inv X pins σ' H' sI := J'.ofTry ok
    have sky' : Sky B (X.env :: X.outer) a (Zc cls d) X.env.locals s'.heap := by rw [← hs]; exact sky
    show wpAny (model X.prog X.w) X.A (noteFrame (.ref a) X.env) _ _ _
    refine Sky.land Zc.steady hfr hf sky' fun h3 fl3 up3 => ?_
    have J3 : Inv X pins σ' H' { s' with heap := h3 } := J.landed nb fl3.1 (up.trans up3) os ag
    obtain ⟨oe3, vs3, he3, hz3, hd3⟩ := fl3.there
    have nfr : a ∉ frs (X.env :: X.outer) := by
      intro hm
      obtain ⟨_, o', e', hnf⟩ := fl3.2.2.1.mem hm
      rw [he3] at e'
      cases e'
      exact hnf _ hd3
    have nL : a ≠ X.env.locals := fun z => nfr (List.mem_filterMap.mpr ⟨X.env, List.mem_cons_self, by rw [hf, z]⟩)
    have nF : a ∉ X.fs := by
      intro hm
      obtain ⟨e, he, q⟩ := List.mem_filterMap.mp hm
      exact nfr (List.mem_filterMap.mpr ⟨e, List.mem_cons_of_mem _ he, q⟩)
    have nI : sI.heap.get? a = none := by
      cases q : sI.heap.get? a with
      | none => rfl
      | some o =>
        have z := nb a o q (by rw [hs]; exact nfr)
        rw [fl3.2.1] at z
        cases z
    have n0 : X.s_0.heap.get? a = none := by
      cases q : X.s_0.heap.get? a with
      | none => rfl
      | some o =>
        obtain ⟨o', z⟩ := J.base.there a o q (by rw [hex]; exact fun z => nomatch z)
        rw [nI] at z
        cases z
    have np : ∀ p ∈ X.pn ++ pins, p.1 ≠ a := by
      intro p hp q
      have z := (J.pin p hp).1
      rw [q, nI] at z
      cases z
    have S3 := J3.suite he3 hd3 na nL nF
    refine wpAny_handleBy_cons (codeAny_handlers_test ?_) (by intro q; cases q)
    have LT : PySem.W.Looks (model X.prog X.w) h3 (typeOf (.ref a)) cls := fun A Q E s k q => wpAny_typeOf_ref (k _ _ he3) (by rw [hz3.1]; exact q)
    have test : ∀ {x : Str} {c : Value} {np : Pos} {Q : Value → Shared → Prop} {E : Value → Shared → Prop}, Names X x c → Q c { s' with heap := h3 } → wpAny (model X.prog X.w) (X.A.mark (some (.ref a))) (eval (.Name x np) X.env) Q E { s' with heap := h3 } := by
      intro x c np Q E hc q
      obtain ⟨hg, hdbg, hm | ⟨hm, hv, hnn⟩⟩ := hc
      · exact ld_glob (X := X.suite a ((a, oe3) :: (X.pn ++ pins))) S3 hg hm q hdbg
      · exact ld_blt (X := X.suite a ((a, oe3) :: (X.pn ++ pins))) S3 hg hm hv q hnn hdbg
    refine wpAny_Tuple (wpAny_items_cons (test m1 (wpAny_items_cons (test m2 (wpAny_items_nil ⟨by size_fits, ?_⟩)))))
    have kp : ∀ b o, h3.get? b = some o → (h3.push { cls := .type "tuple", data := .seq [c1, c2].toArray }).get? b = some o := fun _ _ z => Heap.get?_push_of_some _ z
    have fl4 := flyK fl3 kp
    have J4 : Inv X pins σ' H' { s' with heap := h3.push { cls := .type "tuple", data := .seq [c1, c2].toArray } } := J.landed nb fl4.1 ((up.trans up3).trans (Heap.UpToSlots.of_keeps kp)) os ag
    refine (PySem.W.exm_tup2 J4.kIn (LT.keeps kp) (Heap.get?_push_size h3 rfl) hmat).here ?_
    refine codeAny_handlers_suite_as ?_
    refine HandSPX.lands_againZ fl4 fun h5 fl5 up5 => ?_
    have J5 : Inv X pins σ' H' { s' with heap := h5 } := J.landed nb fl5.1 (((up.trans up3).trans (Heap.UpToSlots.of_keeps kp)).trans up5) os ag
    obtain ⟨oe5, vs5, he5, hz5, hd5⟩ := fl5.there
    have S5 := J5.suite he5 hd5 na nL nF
    refine store_ok (X := X.suite a ((a, oe5) :: (X.pn ++ pins))) (v := .ref a) S5 hN hi hloc rfl (fun s6 S6 => ?_) (.inr hln)
    refine wpAny_mono ((hsu a oe5 cls d (X.pn ++ pins) hz5 ⟨_, hd5⟩).run [] s6 _ H' _ S6 (hyes a na)) (fun f s7 hsp => ?_) (fun _ _ z => False.elim z)
    match f, hsp with
    | .next, ⟨σ7, H7, S7, hn7, q7⟩ =>
      have g7 := (S7.pin (a, oe5) (List.mem_append_left _ List.mem_cons_self)).1
      have I7 : Inv X pins σ7 H7 s7 := S7.unsuite ok
      have I8 := Inv.noteX I7 n0 g7 hz5 hd5 hn7 nL np
      exact gone_ok I8 hN hi hln fun s9 J9 => ⟨_, _, J9, q7⟩
    | .brk, ⟨_, _, _, q⟩ => exact q.elim
    | .cont, ⟨_, _, _, q⟩ => exact q.elim
    | .ret u, ⟨_, _, _, _, _, q⟩ => exact q.elim
  · match f, hsp with
    | .next, ⟨σ', H', J', q⟩ => exact wpAny_execs_nil ⟨σ', H', J'.ofTry ok, q⟩
    | .brk, ⟨σ', H', J', q⟩ => exact ⟨σ', H', J'.ofTry ok, q⟩
    | .cont, ⟨σ', H', J', q⟩ => exact ⟨σ', H', J'.ofTry ok, q⟩
    | .ret u, ⟨v, σ', H', J', r, q⟩ => exact ⟨v, σ', H', J'.ofTry ok, r, q⟩
end
section
variable {X : Cx} {x1 x2 x3 x4 n : Str} {c1 c2 c3 c4 : Value} {i kk : Nat} {body suite : List Stmt} {b₀ : Stmt} {np1 np2 np3 np4 tp pos pos' : Pos} {tb : WX → TS} {ts : Addr → Value → Option Addr → TS}
theorem ps_try_tup4 (hs : X.stack = X.env :: X.outer) (hf : X.env.frame = some X.env.locals) (hex : X.ex = []) (hN : X.N.Nodup) (hi : X.N[i]? = some n) (hln : X.env.kindOf n = some .local) (m1 : Names X x1 c1) (m2 : Names X x2 c2) (m3 : Names X x3 c3) (m4 : Names X x4 c4)
    (hb : ∀ (W : WX) (pn : List (Addr × Obj)) (xe : Value → Shared → Prop), Takes (X.tr pn xe) W → PassesOwn (model X.prog X.w) X.A X.env xe → PSs (X.tr pn xe) body (tb W))
    (hsu : ∀ (a : Addr) (oe : Obj) (cls : Value) (d : Option Addr) (pn : List (Addr × Obj)), Zc cls d oe → (∃ vs, oe.data = .fields vs) → PSs (X.suite a ((a, oe) :: pn)) (b₀ :: suite) (ts a cls d)) :
    PS X (.Try body [.ExceptHandler (some (.Tuple [.Name x1 np1, .Name x2 np2, .Name x3 np3, .Name x4 np4] kk tp)) (some n) (b₀ :: suite) pos'] [] [] pos) (fun D σ H => tb (wTup X.K [c1, c2, c3, c4] i ts D) D σ H) := by
  refine ⟨fun pins s σ H D I h => ?_⟩
  have ok := I.ok
  have hfr : X.A.frames = some (X.env :: X.outer) := by rw [ok.frames, hs]
  have hloc : Loc X.env.scope n := .inl hln
  refine wpAny_Try_except ?_
  refine wpAny_mono ((hb (wTup X.K [c1, c2, c3, c4] i ts D) (X.pn ++ pins) _ (fun u s' xx => ?_) PassesOwn.looking).run [] s σ H D (I.toTry _) h) (fun f s1 hsp => ?_) (fun e s1 he => he)
  · obtain ⟨a, B, sI, pins', σ', H', cls, d, rfl, J', nb, up, sky, na, os, ag, hmat, hyes⟩ := xx
    have J : Inv X pins σ' H' sI := J'.ofTry ok
    have sky' : Sky B (X.env :: X.outer) a (Zc cls d) X.env.locals s'.heap := by rw [← hs]; exact sky
    show wpAny (model X.prog X.w) X.A (noteFrame (.ref a) X.env) _ _ _
    refine Sky.land Zc.steady hfr hf sky' fun h3 fl3 up3 => ?_
    have J3 : Inv X pins σ' H' { s' with heap := h3 } := J.landed nb fl3.1 (up.trans up3) os ag
    obtain ⟨oe3, vs3, he3, hz3, hd3⟩ := fl3.there
    have nfr : a ∉ frs (X.env :: X.outer) := by
      intro hm
      obtain ⟨_, o', e', hnf⟩ := fl3.2.2.1.mem hm
      rw [he3] at e'
      cases e'
      exact hnf _ hd3
    have nL : a ≠ X.env.locals := fun z => nfr (List.mem_filterMap.mpr ⟨X.env, List.mem_cons_self, by rw [hf, z]⟩)
    have nF : a ∉ X.fs := by
      intro hm
      obtain ⟨e, he, q⟩ := List.mem_filterMap.mp hm
      exact nfr (List.mem_filterMap.mpr ⟨e, List.mem_cons_of_mem _ he, q⟩)
    have nI : sI.heap.get? a = none := by
      cases q : sI.heap.get? a with
      | none => rfl
      | some o =>
        have z := nb a o q (by rw [hs]; exact nfr)
        rw [fl3.2.1] at z
        cases z
    have n0 : X.s_0.heap.get? a = none := by
      cases q : X.s_0.heap.get? a with
      | none => rfl
      | some o =>
        obtain ⟨o', z⟩ := J.base.there a o q (by rw [hex]; exact fun z => nomatch z)
        rw [nI] at z
        cases z
    have np : ∀ p ∈ X.pn ++ pins, p.1 ≠ a := by
      intro p hp q
      have z := (J.pin p hp).1
      rw [q, nI] at z
      cases z
    have S3 := J3.suite he3 hd3 na nL nF
    refine wpAny_handleBy_cons (codeAny_handlers_test ?_) (by intro q; cases q)
    have LT : PySem.W.Looks (model X.prog X.w) h3 (typeOf (.ref a)) cls := fun A Q E s k q => wpAny_typeOf_ref (k _ _ he3) (by rw [hz3.1]; exact q)
    have test : ∀ {x : Str} {c : Value} {np : Pos} {Q : Value → Shared → Prop} {E : Value → Shared → Prop}, Names X x c → Q c { s' with heap := h3 } → wpAny (model X.prog X.w) (X.A.mark (some (.ref a))) (eval (.Name x np) X.env) Q E { s' with heap := h3 } := by
      intro x c np Q E hc q
      obtain ⟨hg, hdbg, hm | ⟨hm, hv, hnn⟩⟩ := hc
      · exact ld_glob (X := X.suite a ((a, oe3) :: (X.pn ++ pins))) S3 hg hm q hdbg
      · exact ld_blt (X := X.suite a ((a, oe3) :: (X.pn ++ pins))) S3 hg hm hv q hnn hdbg
    refine wpAny_Tuple (wpAny_items_cons (test m1 (wpAny_items_cons (test m2 (wpAny_items_cons (test m3 (wpAny_items_cons (test m4 (wpAny_items_nil ⟨by size_fits, ?_⟩)))))))))
    have kp : ∀ b o, h3.get? b = some o → (h3.push { cls := .type "tuple", data := .seq [c1, c2, c3, c4].toArray }).get? b = some o := fun _ _ z => Heap.get?_push_of_some _ z
    have fl4 := flyK fl3 kp
    have J4 : Inv X pins σ' H' { s' with heap := h3.push { cls := .type "tuple", data := .seq [c1, c2, c3, c4].toArray } } := J.landed nb fl4.1 ((up.trans up3).trans (Heap.UpToSlots.of_keeps kp)) os ag
    refine (PySem.W.exm_tup4 J4.kIn (LT.keeps kp) (Heap.get?_push_size h3 rfl) hmat).here ?_
    refine codeAny_handlers_suite_as ?_
    refine HandSPX.lands_againZ fl4 fun h5 fl5 up5 => ?_
    have J5 : Inv X pins σ' H' { s' with heap := h5 } := J.landed nb fl5.1 (((up.trans up3).trans (Heap.UpToSlots.of_keeps kp)).trans up5) os ag
    obtain ⟨oe5, vs5, he5, hz5, hd5⟩ := fl5.there
    have S5 := J5.suite he5 hd5 na nL nF
    refine store_ok (X := X.suite a ((a, oe5) :: (X.pn ++ pins))) (v := .ref a) S5 hN hi hloc rfl (fun s6 S6 => ?_) (.inr hln)
    refine wpAny_mono ((hsu a oe5 cls d (X.pn ++ pins) hz5 ⟨_, hd5⟩).run [] s6 _ H' _ S6 (hyes a na)) (fun f s7 hsp => ?_) (fun _ _ z => False.elim z)
    match f, hsp with
    | .next, ⟨σ7, H7, S7, hn7, q7⟩ =>
      have g7 := (S7.pin (a, oe5) (List.mem_append_left _ List.mem_cons_self)).1
      have I7 : Inv X pins σ7 H7 s7 := S7.unsuite ok
      have I8 := Inv.noteX I7 n0 g7 hz5 hd5 hn7 nL np
      exact gone_ok I8 hN hi hln fun s9 J9 => ⟨_, _, J9, q7⟩
    | .brk, ⟨_, _, _, q⟩ => exact q.elim
    | .cont, ⟨_, _, _, q⟩ => exact q.elim
    | .ret u, ⟨_, _, _, _, _, q⟩ => exact q.elim
  · match f, hsp with
    | .next, ⟨σ', H', J', q⟩ => exact wpAny_execs_nil ⟨σ', H', J'.ofTry ok, q⟩
    | .brk, ⟨σ', H', J', q⟩ => exact ⟨σ', H', J'.ofTry ok, q⟩
    | .cont, ⟨σ', H', J', q⟩ => exact ⟨σ', H', J'.ofTry ok, q⟩
    | .ret u, ⟨v, σ', H', J', r, q⟩ => exact ⟨v, σ', H', J'.ofTry ok, r, q⟩
end
/-! ### a for over a tuple, held back from being unrolled -/
def Hold (P : Prop) : Prop := P
theorem Hold.mk {P : Prop} (h : P) : Hold P := h
theorem g_forTH {K : PySem.W.Frag} {σ : L2.St} {H : Hp} {te : TE} {g : TG} {tb : TS} {D : Ends} (q : te σ H fun v H1 => Hold (∃ a, v = V.ref a ∧ (∃ xs, SqT K H1 a xs) ∧ ∃ W : Nat → Nat → L2.St → Hp → Prop, (∃ m, W 0 m σ H1) ∧ ∀ i m σ H, W i m σ H →
      ((Itt K a).stop i H ∧ D.nx σ H) ∨ ((Itt K a).go i H ∧ ∃ N : L2.St → Hp → Prop, (∀ σ' H', N σ' H' → ∃ m', m' < m ∧ W (i + 1) m' σ' H') ∧ ∀ x H', (Itt K a).yld i H x H' → g x σ H' fun σ2 H2 => tb { D with nx := N, ct := N, bk := D.nx } σ2 H2))) : tFor (iTup K te) g tb D σ H := q
end Hf

set_option Elab.async false
set_option linter.all false
set_option maxRecDepth 100000
set_option maxHeartbeats 4000000
namespace Hf
open PySem L2 PySem.Spec PyProof.Rows
/-! ### the end: what the program's top has left -/
theorem endG {P : Program} {w : World} {K : PySem.W.Frag} {mg : Str → Option Value} {fa : Addr} {k : Nat} {x y : Str} {st : Stmt} {sp : Sp} (hmg : mg x = some (.ref fa)) (d : ∃ f, mg x = some (.ref f) ∧ ∃ fd, Fun K x x st f fd)
    (hb : ∀ (kV doc pm : Value) (an : Option Addr) (cdv ct u : Value), bindArgs (PySem.W.fnOf x x (defArgs st) (defBody st) (defScope st) .none kV doc pm an cdv ct) ⟨[u], []⟩ = pure [(y, u)])
    (F : ∀ base : Heap, Df P w K mg base k x st [y] sp) :
    ∃ fd : FuncData, (∀ (s : Shared) (u : Value), BindsTo s fd ⟨[u], []⟩ [(y, u)]) ∧ ∀ base : Heap, K.In base → base.Ns mainGlobals mg → FnG P w K mg base CX0 k fa fd [y] sp := by
  obtain ⟨f, hm, fd, U⟩ := d
  have e := hmg.symm.trans hm
  cases e
  refine ⟨fd, fun s u => ?_, fun base _ _ => ?_⟩
  · obtain ⟨oc, od, kV, doc, pm, an, cdv, ct, osl, rfl, lk, hcd⟩ := U.ex
    exact .of_eq (hb kV doc pm an cdv ct u)
  · obtain ⟨f', fd', hm', U', F'⟩ := (F base).ex
    have e' := hmg.symm.trans hm'
    cases e'
    obtain ⟨oc, od, kV, doc, pm, an, cdv, ct, osl, e1, lk, hcd⟩ := U.ex
    obtain ⟨oc', od', kV', doc', pm', an', cdv', ct', osl', e1', lk', hcd'⟩ := U'.ex
    have e2 := lk.symm.trans lk'
    simp only [Option.some.injEq, Obj.mk.injEq, Data.func.injEq] at e2
    rw [e2.2.2.1]
    exact F'
section
variable {K : PySem.W.Frag} {h : Heap} {mg : Str → Option Value}
theorem mkD {x : Str} {st : Stmt} {f : Addr} {oc : Value} {od an : Option Addr} {osl : Array (Option Value)} {kV doc pm cdv ct : Value} (X : K.In h) (G : h.Ns mainGlobals mg) (a : PySem.W.nsIn K mainGlobals x = some (some (.ref f)))
    (l : K.lookup f = some ⟨oc, od, .func (PySem.W.fnOf x x (defArgs st) (defBody st) (defScope st) .none kV doc pm an cdv ct), osl⟩) (c : PySem.W.codeIn K cdv x = true) (k : PySem.W.keepIn K (.ref f) = true) :
    ∃ f, mg x = some (.ref f) ∧ ∃ fd, Fun K x x st f fd := ⟨f, PySem.W.mg_of X G a, _, fun_mk l c k⟩
theorem mkC {x : Str} {v : V} {u : Value} (X : K.In h) (G : h.Ns mainGlobals mg) (a : PySem.W.nsIn K mainGlobals x = some (some u)) (r : RelV v u) : ∃ u, mg x = some u ∧ RelV v u := ⟨_, PySem.W.mg_of X G a, r⟩
theorem mkT {x : Str} {xs : List V} {a : Addr} {od : Option Addr} {its : Array Value} {n : Nat} {sl : Array (Option Value)} (X : K.In h) (G : h.Ns mainGlobals mg) (e : PySem.W.nsIn K mainGlobals x = some (some (.ref a)))
    (l : K.lookup a = some ⟨.type "tuple", od, .seq its n, sl⟩) (z : its.size ≤ sizeLine) (r : Vals xs its.toList) : ∃ a, mg x = some (.ref a) ∧ ∀ H : Hp, SqT K H a xs :=
  ⟨a, PySem.W.mg_of X G e, fun _ => .inr ⟨_, its, n, l, rfl, rfl, z, r⟩⟩
end
end Hf

set_option Elab.async false
set_option linter.all false
set_option maxRecDepth 100000
set_option maxHeartbeats 4000000
namespace Hf
open PySem L2 PySem.Spec PyProof.Rows
open He (ga ma fAd eqO eqO_ok ba refsD frT frT_in frT_none emptyTab emptyTab_eq relB relB_ok relAll relAll_ok cT)
/-! ### the end over a head that the kernel runs: facts by names -/
def refsOf (g : Addr → Option Obj) (a : Addr) : List Addr := match g a with
  | some o => refsD o
  | none => []
/-- what is reached in n steps; only what came last is asked again -/
def asL (g : Addr → Option Obj) : Nat → List Addr → List Addr → List Addr
  | 0, seen, last => seen ++ last
  | n + 1, seen, last => asL g n (seen ++ last) (last.flatMap (refsOf g)).eraseDups
def asH (g : Addr → Option Obj) (n : Nat) : List Addr := asL g n [] [mainGlobals, cStatics]
abbrev FnX : Type := Option (Str × Str × Arguments × FuncBody × Scope × Addr × List Str × Addr)
def fnX (K : PySem.W.Frag) (a : Addr) : FnX := match K.lookup a with
  | some ⟨_, _, .func fd, _⟩ => some (fd.name, fd.qualname, fd.params, fd.body, fd.scope, fd.globals, fd.closure.map (·.1), fd.builtins)
  | _ => none
/-- a function of the text: where it stands, what it is -/
structure FD where
  ad : PySem.W.Frag → Addr
  name : Str
  qual : Str
  params : Arguments
  body : List Stmt
  scope : Scope
  clo : List Str := []
  dvs : List V := []
  kws : List (Str × V) := []
def gAd (x : Str) (K : PySem.W.Frag) : Addr := ga K x
def mAd (x m : Str) (K : PySem.W.Frag) : Addr := ma K (ga K x) m
/-- the getter of the property m of the class x -/
def pAd (x m : Str) (K : PySem.W.Frag) : Addr := match PySem.W.recIn K (ma K (ga K x) m) "property" with
  | some (.ref g :: _) => g
  | _ => 0
def FD.val (d : FD) : FnX := some (d.name, d.qual, d.params, .stmts d.body, d.scope, mainGlobals, d.clo, builtinsNs)
/-- no defaults, a code object of its name -/
def plainB (K : PySem.W.Frag) (d : FD) : Bool := PySem.W.keepIn K (.ref (d.ad K)) && (match K.lookup (d.ad K) with
  | some ⟨_, _, .func fd, _⟩ => PySem.W.codeIn K fd.code d.qual && (He.dflB K fd.defaults d.dvs && He.kwdB K fd.kwdefaults d.kws)
  | _ => false)
/-- an own class at the name x -/
def clsB (K : PySem.W.Frag) (x : Str) : Bool :=
  eqO (PySem.W.nsIn K mainGlobals x) (some (some (.ref (ga K x)))) && (PySem.W.plainGet K (ga K x) Str.empty && (PySem.W.hasDictIn K (ga K x) && (PySem.W.plainOver K (ga K x) && (eqO (PySem.W.findIn K (.ref (ga K x)) "__setattr__") (some (some (.builtin "object.__setattr__"))) &&
  (eqO (PySem.W.findIn K (.ref (ga K x)) "__class__") (some (some (.builtin "object.__class__"))) && (eqO (PySem.W.specialIn K (.builtin "object.__class__") "__get__") (some (some (.builtin "getset_descriptor.__get__"))) && (decide (PySem.W.takesIn K (.builtin "object.__class__") = some true) &&
  (decide (PySem.W.mroIn K (ga K x) (.type "object") = some true) && (PySem.W.makesIn K (ga K x) && (PySem.W.keepIn K (.ref (ga K x)) && (decide (PySem.W.subIn K (.ref (ga K x)) (.type "object") = some true) && (decide (PySem.W.kitOne K (.ref (ga K x)) (.ref (ga K x)) = some true) &&
  (PySem.W.notFirst K (ga K x) (.ref (ga K x)) && BT.all fun T => decide (PySem.W.kitOne K (.type T) (.ref (ga K x)) = some false) && (PySem.W.notFirst K (ga K x) (.type T) && decide (PySem.W.kitOne K (.ref (ga K x)) (.type T) = some false)))))))))))))))
def methB (K : PySem.W.Frag) (x m : Str) : Bool := eqO (PySem.W.findIn K (.ref (ga K x)) m) (some (some (.ref (ma K (ga K x) m)))) && PySem.W.isFn K (.ref (ma K (ga K x) m))
def propB (K : PySem.W.Frag) (x m : Str) : Bool := eqO (PySem.W.findIn K (.ref (ga K x)) m) (some (some (.ref (ma K (ga K x) m)))) && (eqO (PySem.W.specialIn K (.ref (ma K (ga K x) m)) "__get__") (some (some (.builtin "property.__get__"))) &&
  (decide (PySem.W.takesIn K (.ref (ma K (ga K x) m)) = some true) && (match PySem.W.recIn K (ma K (ga K x) m) "property" with
    | some (.ref _ :: _) => true
    | _ => false)))
def initB (K : PySem.W.Frag) (file : Str) (C : Addr) (q : Str) : Value → Value → Value → List (Str × Addr) → Bool
  | .none, .none, .ref cda, [(_, cc)] => PySem.W.codeIn K (.ref cda) q && ((match K.lookup cda with
    | some ⟨_, _, .fields vs, _⟩ => (match (vs[2]? : Option Value) with
      | some (.str f _) => file == f
      | _ => false)
    | _ => false) && (match K.lookup cc with
    | some ⟨_, _, .cell (some (.ref C')), _⟩ => decide (C' = C)
    | _ => false))
  | _, _, _, _ => false
theorem initB_ok {K : PySem.W.Frag} {file : Str} {C : Addr} {q : Str} {a b c : Value} {cl : List (Str × Addr)} (h : initB K file C q a b c cl = true) : ∃ cda w cc ccl ccd vs ccs f tf cx cy cz, a = .none ∧ b = .none ∧ c = .ref cda ∧ cl = [(w, cc)] ∧ PySem.W.codeIn K (.ref cda) q = true ∧
    K.lookup cda = some ⟨ccl, ccd, .fields vs, ccs⟩ ∧ (vs[2]? : Option Value) = some (.str f tf) ∧ (file == f) = true ∧ K.lookup cc = some ⟨cx, cy, .cell (some (.ref C)), cz⟩ := by
  unfold initB at h
  split at h
  · obtain ⟨g1, g2⟩ := ba h
    obtain ⟨g3, g4⟩ := ba g2
    split at g3
    · rename_i lc
      split at g3
      · rename_i hv
        split at g4
        · rename_i lcc
          have eC := of_decide_eq_true g4
          subst eC
          exact ⟨_, _, _, _, _, _, _, _, _, _, _, _, rfl, rfl, rfl, rfl, g1, lc, hv, g3, lcc⟩
        · cases g4
      · cases g3
    · cases g3
  · cases h
/-- an own exception class (with one field) at the name nm -/
def xB (K : PySem.W.Frag) (file nm fld : Str) (bm : List Value) (B newId initId : String) : Bool :=
  eqO (PySem.W.nsIn K mainGlobals nm) (some (some (.ref (ga K nm)))) && (eqO (PySem.W.findIn K (.ref (ga K nm)) "__init__") (some (some (.ref (ma K (ga K nm) "__init__")))) &&
  ((match K.lookup (ma K (ga K nm) "__init__") with
    | some ⟨_, _, .func fd, _⟩ => initB K file (ga K nm) fd.qualname fd.defaults fd.kwdefaults fd.code fd.closure
    | _ => false) && (PySem.W.excInitIn K (ga K nm) bm newId && (PySem.W.excOver K (ga K nm) bm && (decide (PySem.W.ks_superIn K (ga K nm) (ga K nm) "__init__" = some (some (.builtin initId))) && (decide (PySem.W.subIn K (.ref (ga K nm)) (.type B) = some true) &&
  (eqO (PySem.W.findIn K (.ref (ga K nm)) "__setattr__") (some (some (.builtin "object.__setattr__"))) && (eqO (PySem.W.takerIn K (ga K nm) fld) (some none) && (PySem.W.hasDictIn K (ga K nm) && (decide (PySem.W.typeIn K (.ref (ma K (ga K nm) "__init__")) = some (.type "function")) &&
  (decide (PySem.W.mroIn K (ga K nm) (.ref (ga K nm)) = some true) && (eqO (PySem.W.nsIn K mainGlobals "super") (some none) && (eqO (PySem.W.nsIn K cStatics "thirdparty.any") (some none) && (PySem.W.keepIn K (.ref (ga K nm)) && (decide (PySem.W.typeIn K (.ref (ga K nm)) = some (.type "type")) &&
  (eqO (PySem.W.findIn K (.ref (ga K nm)) fld) (some none) && (eqO (PySem.W.findIn K (.ref (ga K nm)) "__getattribute__") (some (some (.builtin "BaseException.__getattribute__"))) && (eqO (PySem.W.findIn K (.ref (ga K nm)) "__getattr__") (some none) &&
  (decide (PySem.W.subIn K (.ref (ga K nm)) (.type "BaseException") = some true) && ((PySem.W.clsIn K (ga K nm)).isSome && (eqO (PySem.W.findIn K (.ref (ga K nm)) "__class__") (some (some (.builtin "object.__class__"))) &&
  (eqO (PySem.W.specialIn K (.builtin "object.__class__") "__get__") (some (some (.builtin "getset_descriptor.__get__"))) && (decide (PySem.W.takesIn K (.builtin "object.__class__") = some true) && decide (PySem.W.mroIn K (ga K nm) (.type "object") = some true))))))))))))))))))))))))
inductive Fc where
  | glo (x : Str)
  | free (x : Str)
  | con (x : Str) (v : V)
  | tup (x : Str) (vs : List V)
  | xc (file nm fld : Str) (bm : List Value) (B newId initId : String)
  | exm (x : Str) (ys : List Str)
  | kit (x y : Str) (b : Bool)
  | kitT (x : Str) (T : String) (b : Bool)
  | own (p : PySem.W.Frag → Bool)
  | cls (x : Str)
  | meth (x m : Str)
  | prop (x m : Str)
  | noat (x f : Str)
  | neb (x : Str)
  | nof (x y : Str)
  | bin (x : Str) (nm : String)
  | clm (x m : Str)
  | stm (x m : Str)
  | lef (x : Str)
  | sub (x y : Str)
  | nsb (x y : Str)
def binB (K : PySem.W.Frag) (x : Str) (nm : String) : Bool := PySem.W.selfFirst K (ga K x) && (eqO (PySem.W.findIn K (.ref (ga K x)) (dunderR nm)) (some none) && BT.all fun T => (PySem.W.findIn K (.type T) (PySem.dunder nm)).isSome && ((PySem.W.findIn K (.type T) (dunderR nm)).isSome && decide (PySem.W.subIn K (.type T) (.ref (ga K x)) = some false)))
def clmB (K : PySem.W.Frag) (x m : Str) : Bool := PySem.W.readsIn K (ga K x) (.type "type") && (eqO (PySem.W.specialIn K (.ref (ga K x)) "__getattribute__") (some (some (.builtin "type.__getattribute__"))) && (He5.wrapB K (ga K x) "classmethod" "classmethod.__get__" m && PySem.W.fnIn K (He5.wf K (ga K x) "classmethod" m)))
def stmB (K : PySem.W.Frag) (x m : Str) : Bool := PySem.W.readsIn K (ga K x) (.type "type") && (eqO (PySem.W.specialIn K (.ref (ga K x)) "__getattribute__") (some (some (.builtin "type.__getattribute__"))) && He5.wrapB K (ga K x) "staticmethod" "staticmethod.__get__" m)
def sAd (x m : Str) (K : PySem.W.Frag) : Addr := He5.wf K (ga K x) "staticmethod" m
def wAd (x m : Str) (K : PySem.W.Frag) : Addr := He5.wf K (ga K x) "classmethod" m
def lefB (K : PySem.W.Frag) (x : Str) : Bool := LT.all fun T => decide (PySem.W.subIn K (.ref (ga K x)) (.type T) = some false)
def subB (K : PySem.W.Frag) (x y : Str) : Bool := decide (PySem.W.subIn K (.ref (ga K x)) (.ref (ga K y)) = some true) && (!(decide (ga K y = ga K x)) && (eqO (PySem.W.nsIn K mainGlobals x) (some (some (.ref (ga K x)))) && eqO (PySem.W.nsIn K mainGlobals y) (some (some (.ref (ga K y))))))
def nsbB (K : PySem.W.Frag) (x y : Str) : Bool := decide (PySem.W.subIn K (.ref (ga K x)) (.ref (ga K y)) = some false) && (!(decide (ga K y = ga K x)) && (eqO (PySem.W.nsIn K mainGlobals x) (some (some (.ref (ga K x)))) && eqO (PySem.W.nsIn K mainGlobals y) (some (some (.ref (ga K y))))))
def Fc.ok (K : PySem.W.Frag) : Fc → Bool
  | .glo x => eqO (PySem.W.nsIn K mainGlobals x) (some (some (.ref (ga K x))))
  | .free x => eqO (PySem.W.nsIn K mainGlobals x) (some none)
  | .con x v => (match PySem.W.nsIn K mainGlobals x with
    | some (some u) => relB v u
    | _ => false)
  | .tup x vs => eqO (PySem.W.nsIn K mainGlobals x) (some (some (.ref (ga K x)))) && (match K.lookup (ga K x) with
    | some ⟨.type c, _, .seq its _, _⟩ => decide (c = "tuple") && (decide (its.size ≤ sizeLine) && relAll vs its.toList)
    | _ => false)
  | .xc file nm fld bm B n i => xB K file nm fld bm B n i
  | .exm x ys => eqO (PySem.W.nsIn K mainGlobals x) (some (some (.ref (ga K x)))) && ((ys.all fun y => eqO (PySem.W.nsIn K mainGlobals y) (some (some (.ref (ga K y))))) && decide (PySem.W.exmAny K (.ref (ga K x)) (ys.map fun y => .ref (ga K y)) = some true))
  | .kit x y b => eqO (PySem.W.nsIn K mainGlobals x) (some (some (.ref (ga K x)))) && (eqO (PySem.W.nsIn K mainGlobals y) (some (some (.ref (ga K y)))) && decide (PySem.W.kitOne K (.ref (ga K x)) (.ref (ga K y)) = some b))
  | .kitT x T b => eqO (PySem.W.nsIn K mainGlobals x) (some (some (.ref (ga K x)))) && decide (PySem.W.kitOne K (.ref (ga K x)) (.type T) = some b)
  | .own p => p K
  | .cls x => clsB K x
  | .meth x m => methB K x m
  | .prop x m => propB K x m
  | .noat x f => eqO (PySem.W.findIn K (.ref (ga K x)) f) (some none)
  | .neb x => eqO (PySem.W.findIn K (.ref (ga K x)) "__ne__") (some (some (.builtin "object.__ne__")))
  | .nof x y => PySem.W.notFirst K (ga K x) (.ref (ga K y))
  | .bin x nm => binB K x nm
  | .clm x m => clmB K x m
  | .stm x m => stmB K x m
  | .lef x => lefB K x
  | .sub x y => subB K x y
  | .nsb x y => nsbB K x y
abbrev AlH : Type := List FnX × Bool
def tabsH (g : Addr → Option Obj) (tf : List (Str × Option Str)) (K : PySem.W.Frag) : Bool := (tf.all fun p => PySem.W.codeHdIn K (cT K p).1 (cT K p).2 && (match g (cT K p).2 with
  | some o => emptyTab o
  | none => false)) && decide ((tf.map fun p => (cT K p).2).Nodup)
def obsK (g : Addr → Option Obj) (fds : List FD) (ps : List FD) (fcs : List Fc) (tf : List (Str × Option Str)) (K : PySem.W.Frag) : AlH := (fds.map fun d => fnX K (d.ad K), (ps.all fun d => plainB K d) && ((fcs.all fun f => f.ok K) && tabsH g tf K))
def obsH (n : Nat) (fds ps : List FD) (fcs : List Fc) (tf : List (Str × Option Str)) (g : Addr → Option Obj) : AlH := obsK g fds ps fcs tf (frT g (asH g n))
/-- what is told -/
structure SaysH (fds ps : List FD) (fcs : List Fc) (tf : List (Str × Option Str)) (h : Heap) (K : PySem.W.Frag) : Prop where
  fns : (fds.map fun d => fnX K (d.ad K)) = fds.map FD.val
  pls : (ps.all fun d => plainB K d) = true
  fcs : (fcs.all fun f => f.ok K) = true
  hd : ∀ p ∈ tf, PySem.W.codeHdIn K (cT K p).1 (cT K p).2 = true
  out : ∀ p ∈ tf, K.lookup (cT K p).2 = none
  empty : ∀ p ∈ tf, h.get? (cT K p).2 = some { cls := .none, data := .fields #[] }
  nd : (tf.map fun p => (cT K p).2).Nodup
theorem saysH_of {n : Nat} {fds ps : List FD} {fcs : List Fc} {tf : List (Str × Option Str)} {h : Heap} (e : obsH n fds ps fcs tf h.get? = (fds.map FD.val, true)) : SaysH fds ps fcs tf h (frT h.get? (asH h.get? n)) := by
  have e1 : ((fds.map fun d => fnX (frT h.get? (asH h.get? n)) (d.ad (frT h.get? (asH h.get? n)))) : List FnX) = fds.map FD.val := congrArg (fun z : AlH => z.1) e
  have e2 : ((ps.all fun d => plainB (frT h.get? (asH h.get? n)) d) && ((fcs.all fun f => f.ok (frT h.get? (asH h.get? n))) && tabsH h.get? tf (frT h.get? (asH h.get? n)))) = true := congrArg (fun z : AlH => z.2) e
  obtain ⟨h1, h2⟩ := ba e2
  obtain ⟨h3, h4⟩ := ba h2
  obtain ⟨h5, h6⟩ := ba h4
  have key : ∀ p ∈ tf, PySem.W.codeHdIn (frT h.get? (asH h.get? n)) (cT (frT h.get? (asH h.get? n)) p).1 (cT (frT h.get? (asH h.get? n)) p).2 = true ∧ ∃ o, h.get? (cT (frT h.get? (asH h.get? n)) p).2 = some o ∧ emptyTab o = true := fun p hp => by
    obtain ⟨h7, h8⟩ := ba (List.all_eq_true.mp h5 p hp)
    refine ⟨h7, ?_⟩
    cases q : h.get? (cT (frT h.get? (asH h.get? n)) p).2 with
    | none => rw [q] at h8; cases h8
    | some o => rw [q] at h8; exact ⟨o, rfl, h8⟩
  exact ⟨e1, h1, h3, fun p hp => (key p hp).1, fun p hp => by
    obtain ⟨_, o, q, z⟩ := key p hp
    exact frT_none q z, fun p hp => by
    obtain ⟨_, o, q, z⟩ := key p hp
    rw [q, emptyTab_eq z], of_decide_eq_true h6⟩
def hookH (n : Nat) (fds ps : List FD) (fcs : List Fc) (tf : List (Str × Option Str)) : PySem.W.Hook where
  α := AlH
  obs := fun s => obsH n fds ps fcs tf s.heap.get?
  val := fun _ => (fds.map FD.val, true)
  says := fun _ h => ∃ K : PySem.W.Frag, K.In h ∧ SaysH fds ps fcs tf h K
  of := fun _ _ e => ⟨_, frT_in, saysH_of e⟩
  keeps := fun _ _ _ ⟨K, hK, c⟩ k => ⟨K, PySem.W.Frag.In.keeps hK k, { c with empty := fun p hp => k _ _ (c.empty p hp) }⟩
theorem obsH_eq {n : Nat} {fds ps : List FD} {fcs : List Fc} {tf : List (Str × Option Str)} {g : Addr → Option Obj} {s : Shared} (h : ∀ a, g a = s.heap.get? a) : obsH n fds ps fcs tf g = (hookH n fds ps fcs tf).obs s := by
  have e : g = s.heap.get? := funext h
  rw [e] <;> rfl
section
variable {fds ps : List FD} {fcs : List Fc} {tf : List (Str × Option Str)} {h : Heap} {K : PySem.W.Frag} {mg : Str → Option Value}
theorem SaysH.fc (c : SaysH fds ps fcs tf h K) (i : Nat) {f : Fc} (e : fcs[i]? = some f := by rfl) : f.ok K = true := List.all_eq_true.mp c.fcs f (List.mem_of_getElem? e)
theorem SaysH.fd (c : SaysH fds ps fcs tf h K) (i : Nat) {d : FD} (e : fds[i]? = some d := by rfl) : fnX K (d.ad K) = d.val := by
  have e2 : (fds.map fun d => fnX K (d.ad K))[i]? = (fds.map FD.val)[i]? := by rw [c.fns]
  rw [List.getElem?_map, List.getElem?_map, e] at e2
  exact Option.some.inj e2
theorem SaysH.pl (c : SaysH fds ps fcs tf h K) (i : Nat) {d : FD} (e : ps[i]? = some d := by rfl) : plainB K d = true := List.all_eq_true.mp c.pls d (List.mem_of_getElem? e)
theorem fc_free (X : K.In h) (G : h.Ns mainGlobals mg) {x : Str} (c : (Fc.free x).ok K = true) : mg x = none := PySem.W.mg_none_of X G (eqO_ok c)
theorem fc_glo (X : K.In h) (G : h.Ns mainGlobals mg) {x : Str} (c : (Fc.glo x).ok K = true) : XN K x (.ref (ga K x)) ∧ mg x = some (.ref (ga K x)) := ⟨eqO_ok c, PySem.W.mg_of X G (eqO_ok c)⟩
theorem fc_nm (X : K.In h) (G : h.Ns mainGlobals mg) {x : Str} (c : (Fc.glo x).ok K = true) : ∃ C, XN K x (.ref C) ∧ mg x = some (.ref C) := ⟨_, fc_glo X G c⟩
theorem fc_con (X : K.In h) (G : h.Ns mainGlobals mg) {x : Str} {v : V} (c : (Fc.con x v).ok K = true) : ∃ u, mg x = some u ∧ RelV v u := by
  have c : (match PySem.W.nsIn K mainGlobals x with | some (some u) => relB v u | _ => false) = true := c
  cases q : PySem.W.nsIn K mainGlobals x with
  | none => rw [q] at c; cases c
  | some r =>
    cases r with
    | none => rw [q] at c; cases c
    | some u => rw [q] at c; exact ⟨u, PySem.W.mg_of X G q, relB_ok c⟩
theorem fc_tup (X : K.In h) (G : h.Ns mainGlobals mg) {x : Str} {vs : List V} (c : (Fc.tup x vs).ok K = true) : ∃ a, mg x = some (.ref a) ∧ ∀ H : Hp, SqT K H a vs := by
  have c : (eqO (PySem.W.nsIn K mainGlobals x) (some (some (.ref (ga K x)))) && (match K.lookup (ga K x) with
    | some ⟨.type c, _, .seq its _, _⟩ => decide (c = "tuple") && (decide (its.size ≤ sizeLine) && relAll vs its.toList)
    | _ => false)) = true := c
  obtain ⟨h0, c⟩ := ba c
  refine ⟨_, PySem.W.mg_of X G (eqO_ok h0), fun H => ?_⟩
  cases q : K.lookup (ga K x) with
  | none => rw [q] at c; cases c
  | some o =>
    obtain ⟨oc, od, dt, osl⟩ := o
    rw [q] at c
    cases oc with
    | type t =>
      cases dt with
      | seq its n =>
        obtain ⟨h1, h2⟩ := ba (show (decide (t = "tuple") && (decide (its.size ≤ sizeLine) && relAll vs its.toList)) = true from c)
        obtain ⟨h3, h4⟩ := ba h2
        exact .inr ⟨_, its, n, q, congrArg Value.type (of_decide_eq_true h1), rfl, of_decide_eq_true h3, relAll_ok h4⟩
      | _ => cases c
    | _ => cases dt <;> cases c
theorem fc_exm {x n1 n2 n3 : Str} (c : (Fc.exm x [n1, n2, n3]).ok K = true) : ∀ cls C1 C2 C3, XN K x cls → XN K n1 (.ref C1) → XN K n2 (.ref C2) → XN K n3 (.ref C3) → PySem.W.exmAny K cls [.ref C1, .ref C2, .ref C3] = some true := by
  unfold Fc.ok at c
  obtain ⟨h0, c⟩ := ba c
  obtain ⟨h1, h2⟩ := ba c
  have k := fun y hy => List.all_eq_true.mp h1 y hy
  exact mkE (eqO_ok h0) (eqO_ok (k n1 (by simp))) (eqO_ok (k n2 (by simp))) (eqO_ok (k n3 (by simp))) (of_decide_eq_true h2)
inductive XNs (K : PySem.W.Frag) : List Str → List Value → Prop
  | nil : XNs K [] []
  | cons {y : Str} {C : Value} {ys : List Str} {Cs : List Value} : XN K y C → XNs K ys Cs → XNs K (y :: ys) (C :: Cs)
/-- the same for a tuple of any length -/
theorem fc_exmG {x : Str} {ys : List Str} (c : (Fc.exm x ys).ok K = true) : ∀ cls (Cs : List Value), XN K x cls → XNs K ys Cs → PySem.W.exmAny K cls Cs = some true := by
  intro cls Cs hx hs
  unfold Fc.ok at c
  obtain ⟨h0, c⟩ := ba c
  obtain ⟨h1, h2⟩ := ba c
  have k := fun y hy => List.all_eq_true.mp h1 y hy
  have e0 := XN.inj (eqO_ok h0) hx
  have eC : ∀ (ys : List Str) (Cs : List Value), (∀ y ∈ ys, eqO (PySem.W.nsIn K mainGlobals y) (some (some (.ref (ga K y)))) = true) → XNs K ys Cs → Cs = ys.map fun y => .ref (ga K y) := by
    intro ys Cs kk f
    induction f with
    | nil => rfl
    | cons a b ih =>
      rw [List.map_cons, ← ih fun y hy => kk y (List.mem_cons_of_mem _ hy), XN.inj (eqO_ok (kk _ List.mem_cons_self)) a]
  rw [eC ys Cs k hs, ← e0]
  exact of_decide_eq_true h2
theorem fc_kit {x y : Str} {b : Bool} (c : (Fc.kit x y b).ok K = true) : ∀ C C2, XN K x (.ref C) → XN K y (.ref C2) → PySem.W.kitOne K (.ref C) (.ref C2) = some b := by
  unfold Fc.ok at c
  obtain ⟨h0, c⟩ := ba c
  obtain ⟨h1, h2⟩ := ba c
  exact mkI (eqO_ok h0) (eqO_ok h1) (of_decide_eq_true h2)
theorem fc_kitT {x : Str} {T : String} {b : Bool} (c : (Fc.kitT x T b).ok K = true) : ∀ C, XN K x (.ref C) → PySem.W.kitOne K (.ref C) (.type T) = some b := by
  unfold Fc.ok at c
  obtain ⟨h0, h2⟩ := ba c
  exact mkIT (eqO_ok h0) (of_decide_eq_true h2)
/-- a function by what is looked at -/
theorem fd_at {d : FD} (e : fnX K (d.ad K) = d.val) : ∃ (oc : Value) (od : Option Addr) (fd : FuncData) (osl : Array (Option Value)), K.lookup (d.ad K) = some ⟨oc, od, .func fd, osl⟩ ∧ fd.name = d.name ∧ fd.qualname = d.qual ∧ fd.params = d.params ∧ fd.body = .stmts d.body ∧ fd.scope = d.scope ∧ fd.globals = mainGlobals ∧ fd.closure.map (·.1) = d.clo ∧ fd.builtins = builtinsNs := by
  unfold fnX at e
  cases q : K.lookup (d.ad K) with
  | none => rw [q] at e; cases e
  | some o =>
    obtain ⟨oc, od, dt, osl⟩ := o
    rw [q] at e
    cases dt with
    | func fd =>
      have e2 : (some (fd.name, fd.qualname, fd.params, fd.body, fd.scope, fd.globals, fd.closure.map (·.1), fd.builtins) : FnX) = some (d.name, d.qual, d.params, .stmts d.body, d.scope, mainGlobals, d.clo, builtinsNs) := e
      simp only [Option.some.injEq, Prod.mk.injEq] at e2
      obtain ⟨h1, h2, h3, h4, h5, h6, h7, h8⟩ := e2
      exact ⟨oc, od, fd, osl, rfl, h1, h2, h3, h4, h5, h6, h7, h8⟩
    | _ => cases e
/-- a def with its defaults -/
theorem fd_def {d : FD} (e : fnX K (d.ad K) = d.val) (hc : d.clo = []) (b : plainB K d = true) : ∃ (fd : FuncData) (c : Addr), fd.code = .ref c ∧ FunD K d.name d.qual d.params d.body d.scope d.dvs d.kws (d.ad K) fd := by
  obtain ⟨oc, od, fd, osl, lk, h1, h2, h3, h4, h5, h6, h7, h8⟩ := fd_at e
  obtain ⟨kp, b2⟩ := ba b
  rw [lk] at b2
  obtain ⟨n1, n2, n3, n4, n5, n6, n7, n8, n9, n10, n11, n12, n13, n14, n15⟩ := fd
  have h7' : n7 = [] := by
    rw [hc] at h7
    exact List.map_eq_nil_iff.mp h7
  simp only at h1 h2 h3 h4 h5 h6 h8
  subst h1 h2 h3 h4 h5 h6 h7' h8
  obtain ⟨c1, c2⟩ := ba b2
  obtain ⟨c3, c4⟩ := ba c2
  obtain ⟨c, rfl⟩ := He.codeIn_ref c1
  exact ⟨_, c, rfl, ⟨oc, od, n8, n9, n10, n11, n12, _, n14, osl, rfl, lk, c1, He.dflB_ok c3, He.kwdB_ok c4⟩, kp⟩
/-- a plain def -/
theorem fd_plain {d : FD} (e : fnX K (d.ad K) = d.val) (hc : d.clo = []) (hd : d.dvs = []) (b : plainB K d = true) : ∃ (oc : Value) (od : Option Addr) (kV doc pm : Value) (an : Option Addr) (c : Addr) (ct : Value) (osl : Array (Option Value)),
    K.lookup (d.ad K) = some ⟨oc, od, .func (PySem.W.fnOf d.name d.qual d.params d.body d.scope .none kV doc pm an (.ref c) ct), osl⟩ ∧ PySem.W.codeIn K (.ref c) d.qual = true ∧ PySem.W.keepIn K (.ref (d.ad K)) = true := by
  obtain ⟨fd, c, ec, F⟩ := fd_def e hc b
  obtain ⟨oc, od, dV, kV, doc, pm, an, cdv, ct, osl, rfl, lk, ci, hD, hK⟩ := F.ex
  rcases hD with ⟨_, rfl⟩ | ⟨h, _⟩
  · have ec' : cdv = .ref c := ec
    subst ec'
    exact ⟨oc, od, kV, doc, pm, an, c, ct, osl, lk, ci, F.kp⟩
  · exact absurd hd h
theorem fd_fun {x : Str} {st : Stmt} (X : K.In h) (G : h.Ns mainGlobals mg) (c : (Fc.glo x).ok K = true) (e : fnX K (gAd x K) = FD.val ⟨gAd x, x, x, defArgs st, defBody st, defScope st, [], [], []⟩) (b : plainB K ⟨gAd x, x, x, defArgs st, defBody st, defScope st, [], [], []⟩ = true) :
    ∃ f, mg x = some (.ref f) ∧ ∃ fd, Fun K x x st f fd := by
  obtain ⟨oc, od, kV, doc, pm, an, c0, ct, osl, lk, ci, kp⟩ := fd_plain (d := ⟨gAd x, x, x, defArgs st, defBody st, defScope st, [], [], []⟩) e rfl rfl b
  exact ⟨_, (fc_glo X G c).2, _, ⟨oc, od, kV, doc, pm, an, _, ct, osl, rfl, lk, ci⟩, kp⟩
theorem fd_funK {x : Str} {st : Stmt} {dvs : List V} {kws : List (Str × V)} (X : K.In h) (G : h.Ns mainGlobals mg) (c : (Fc.glo x).ok K = true) (e : fnX K (gAd x K) = FD.val ⟨gAd x, x, x, defArgs st, defBody st, defScope st, [], dvs, kws⟩) (b : plainB K ⟨gAd x, x, x, defArgs st, defBody st, defScope st, [], dvs, kws⟩ = true) :
    ∃ f, mg x = some (.ref f) ∧ ∃ fd, FunD K x x (defArgs st) (defBody st) (defScope st) dvs kws f fd := by
  obtain ⟨fd, _, _, F⟩ := fd_def (d := ⟨gAd x, x, x, defArgs st, defBody st, defScope st, [], dvs, kws⟩) e rfl b
  exact ⟨_, (fc_glo X G c).2, fd, F⟩
theorem fd_tab {x : Str} {st : Stmt} (X : K.In h) (G : h.Ns mainGlobals mg) (s : SaysH fds ps fcs tf h K) (ht : (x, none) ∈ tf) (c : (Fc.glo x).ok K = true) (e : fnX K (gAd x K) = FD.val ⟨gAd x, x, x, defArgs st, defBody st, defScope st, [], [], []⟩) (b : plainB K ⟨gAd x, x, x, defArgs st, defBody st, defScope st, [], [], []⟩ = true) :
    IsTab K mg h x st (cT K (x, none)) := by
  obtain ⟨oc, od, kV, doc, pm, an, c0, ct, osl, lk, ci, kp⟩ := fd_plain (d := ⟨gAd x, x, x, defArgs st, defBody st, defScope st, [], [], []⟩) e rfl rfl b
  have ec : (cT K (x, none)).1 = c0 := He.codeOf_eq lk rfl
  refine ⟨⟨_, _, (fc_glo X G c).2, ⟨⟨oc, od, kV, doc, pm, an, ct, osl, rfl, ?_, ?_⟩, kp⟩⟩, PySem.W.codeHd_of_K X (s.hd _ ht), s.empty _ ht, s.out _ ht⟩
  · rw [ec]; exact lk
  · rw [ec]; exact ci
theorem fc_x {P : Program} {file nm fld txt : Str} {bm : List Value} {B newId initId : String} {d : FD} {p1 p2 r0 r1 r2 r3 r4 r5 r6 r7 r8 r9 : Pos} (xb : XBase B newId initId bm) (X : K.In h) (G : h.Ns mainGlobals mg) (c : (Fc.xc file nm fld bm B newId initId).ok K = true)
    (hf : P.main.file = file) (e : fnX K (d.ad K) = d.val) (d0 : d.ad = mAd nm "__init__") (d1 : d.name = "__init__") (d3 : d.params = xArgs fld p1 p2) (d4 : d.body = xBody fld txt r0 r1 r2 r3 r4 r5 r6 r7 r8 r9) (d5 : d.scope = xScope fld) (d6 : d.clo = [("__class__" : Str)])
    (c3 : (P.main.scope.names.lookup ("super" : Str)).isSome = false) (c4 : (fld == ("__debug__" : Str)) = false ∧ fld ≠ "self" ∧ (xScope fld).names.lookup fld = some .local ∧ (xScope fld).names.lookup ("__class__" : Str) = some .free ∧ (xScope fld).names.lookup ("super" : Str) = some .globalImplicit)
    (c7 : txt.length ≤ 1000) (c8 : XCall txt r0 r1 r2 r3 r4)
    (c9 : ∀ doc pm an cdv ct cc qual a b, bindArgs (PySem.W.ksFn "__init__" qual (xArgs fld p1 p2) (xBody fld txt r0 r1 r2 r3 r4 r5 r6 r7 r8 r9) (xScope fld) .none .none doc pm an cdv ct cc) ⟨[a, b], []⟩ = pure [(("self" : Str), a), (fld, b)])
    (c10 : ∀ doc pm an cdv ct cc qual a b, bindArgs (PySem.W.ksFn "__init__" qual (xArgs fld p1 p2) (xBody fld txt r0 r1 r2 r3 r4 r5 r6 r7 r8 r9) (xScope fld) .none .none doc pm an cdv ct cc) ⟨[a], [(fld, b)]⟩ = pure [(("self" : Str), a), (fld, b)]) : XCls P K mg nm fld := by
  unfold Fc.ok xB at c
  obtain ⟨a1, c⟩ := ba c
  obtain ⟨a2, c⟩ := ba c
  obtain ⟨a3, c⟩ := ba c
  obtain ⟨b1, c⟩ := ba c
  obtain ⟨b2, c⟩ := ba c
  obtain ⟨b3, c⟩ := ba c
  obtain ⟨b4, c⟩ := ba c
  obtain ⟨b5, c⟩ := ba c
  obtain ⟨b6, c⟩ := ba c
  obtain ⟨b7, c⟩ := ba c
  obtain ⟨b8, c⟩ := ba c
  obtain ⟨b9, c⟩ := ba c
  obtain ⟨k1, c⟩ := ba c
  obtain ⟨k2, c⟩ := ba c
  obtain ⟨l1, c⟩ := ba c
  obtain ⟨l2, c⟩ := ba c
  obtain ⟨l3, c⟩ := ba c
  obtain ⟨e1, c⟩ := ba c
  obtain ⟨e2, c⟩ := ba c
  obtain ⟨e3, c⟩ := ba c
  obtain ⟨e4, c⟩ := ba c
  obtain ⟨e5, c⟩ := ba c
  obtain ⟨e6, c⟩ := ba c
  obtain ⟨e7, e8⟩ := ba c
  obtain ⟨oc, od, fd, osl, lk, f1, f2, f3, f4, f5, f6, f7, f8⟩ := fd_at e
  have ea : d.ad K = ma K (ga K nm) "__init__" := by rw [d0]; rfl
  rw [ea] at lk
  rw [lk] at a3
  obtain ⟨n1, n2, n3, n4, n5, n6, n7, n8, n9, n10, n11, n12, n13, n14, n15⟩ := fd
  simp only at f1 f2 f3 f4 f5 f6 f8
  rw [d1] at f1
  rw [d3] at f3
  rw [d4] at f4
  rw [d5] at f5
  rw [d6] at f7
  subst f1 f3 f4 f5 f6 f8
  obtain ⟨cda, w, cc, ccl, ccd, vs, ccs, f, tf, cx, cy, cz, rfl, rfl, rfl, rfl, g1, lc, hv, g3, lcc⟩ := initB_ok (show initB K file (ga K nm) n2 n8 n9 n13 n7 = true from a3)
  have ew : w = ("__class__" : Str) := (List.cons.inj f7).1
  subst ew
  exact mkX xb X G (eqO_ok a1) (eqO_ok a2) lk lc lcc hv b1 b2 (of_decide_eq_true b3) (of_decide_eq_true b4) (eqO_ok b5) (eqO_ok b6) b7 (of_decide_eq_true b8) (of_decide_eq_true b9) (eqO_ok k1) (eqO_ok k2) c3 c4 g1 (by rw [hf]; exact g3) c7 c8 (fun a b => c9 _ _ _ _ _ _ _ a b) (fun a b => c10 _ _ _ _ _ _ _ a b)
    l1 (of_decide_eq_true l2) (eqO_ok l3) (eqO_ok e1) (eqO_ok e2) (of_decide_eq_true e3) e4 (eqO_ok e5) (eqO_ok e6) (of_decide_eq_true e7) (of_decide_eq_true e8)
end
section
variable {h : Heap} {K : PySem.W.Frag} {mg : Str → Option Value}
theorem fc_cls {x : Str} (X : K.In h) (G : h.Ns mainGlobals mg) (c : (Fc.cls x).ok K = true) : OwnC K mg x (ga K x) := by
  have c : clsB K x = true := c
  unfold clsB at c
  obtain ⟨a1, c⟩ := ba c
  obtain ⟨a2, c⟩ := ba c
  obtain ⟨a3, c⟩ := ba c
  obtain ⟨a4, c⟩ := ba c
  obtain ⟨a5, c⟩ := ba c
  obtain ⟨a6, c⟩ := ba c
  obtain ⟨a7, c⟩ := ba c
  obtain ⟨a8, c⟩ := ba c
  obtain ⟨a9, c⟩ := ba c
  obtain ⟨b1, c⟩ := ba c
  obtain ⟨b2, c⟩ := ba c
  obtain ⟨b3, c⟩ := ba c
  obtain ⟨b4, c⟩ := ba c
  obtain ⟨b5, b6⟩ := ba c
  refine ⟨eqO_ok a1, PySem.W.mg_of X G (eqO_ok a1), ⟨a2, a3, a4, eqO_ok a5⟩, eqO_ok a6, eqO_ok a7, of_decide_eq_true a8, of_decide_eq_true a9, b1, b2, of_decide_eq_true b3, of_decide_eq_true b4, b5, fun T hT => ?_⟩
  obtain ⟨q1, q2⟩ := ba (List.all_eq_true.mp b6 T hT)
  obtain ⟨q3, q4⟩ := ba q2
  exact ⟨of_decide_eq_true q1, q3, of_decide_eq_true q4⟩
theorem fc_meth {x m : Str} (c : (Fc.meth x m).ok K = true) : PySem.W.findIn K (.ref (ga K x)) m = some (some (.ref (mAd x m K))) ∧ PySem.W.isFn K (.ref (mAd x m K)) = true := by
  obtain ⟨a, b⟩ := ba (show methB K x m = true from c)
  exact ⟨eqO_ok a, b⟩
theorem fc_prop {x m : Str} (c : (Fc.prop x m).ok K = true) : PropOf K (ga K x) m (mAd x m K) (pAd x m K) := by
  have c : propB K x m = true := c
  unfold propB at c
  obtain ⟨a1, c⟩ := ba c
  obtain ⟨a2, c⟩ := ba c
  obtain ⟨a3, c⟩ := ba c
  refine ⟨eqO_ok a1, eqO_ok a2, of_decide_eq_true a3, ?_⟩
  unfold pAd mAd
  cases q : PySem.W.recIn K (ma K (ga K x) m) "property" with
  | none => rw [q] at c; cases c
  | some l =>
    cases l with
    | nil => rw [q] at c; cases c
    | cons v r =>
      rw [q] at c
      cases v with
      | ref g => exact ⟨r, rfl⟩
      | _ => cases c
theorem fc_noat {x f : Str} (c : (Fc.noat x f).ok K = true) : NoAttr K (ga K x) f := eqO_ok c
theorem fc_neb {x : Str} (c : (Fc.neb x).ok K = true) : PySem.W.findIn K (.ref (ga K x)) "__ne__" = some (some (.builtin "object.__ne__")) := eqO_ok c
end
/-! ### the walk -/
theorem walkH {l : PySem.W.OpenLaw} {n k : Nat} {q : Program} {loose : List Str} {XP : (Str → Option Value) → Heap → Prop} {YP : World → Heap → Prop} {d : DefRec} {x : Str}
    (hn : l.most = some n) (hn2 : n ≤ sizeLine) (hdf : d.params.defaults = []) (rm : RG k callerA)
    (F : ∀ (w : World) (mg : Str → Option Value) (fa : Addr) (h : Heap), YP w h → h.Ns mainGlobals mg → mg d.name = some (.ref fa) → ∃ K : PySem.W.Frag, K.In h ∧ LawT l.prog w K mg k n x fa h) :
    PySem.W.WalkO q loose XP YP l.row.toRowW d [] (fun f vs => PySem.call f vs) := by
  refine Att.attach_call hn hdf ?_
  intro w s₀ s₁ mg mb fa o pm cd doc a vs ns G Y ho hd hcd hmg hobj hints hlen hg
  obtain ⟨K, kin, fd, cs, sp, hc, hb, ht, hF⟩ := F w mg fa _ Y G.T.g hmg
  exact lawT kin G.T.g G.T.b G.T.builtins G.T.nolimit hg (fun p hp => (hc p hp).1) (fun p hp => (hc p hp).2.1) (fun p hp => (hc p hp).2.2) G.T.bmain hobj hints (Nat.le_trans hlen hn2) rm hF hb (fun H h1 h2 => ht H a ns hlen h1 h2)
/-- a law without tables -/
theorem lawT0 {P : Program} {w : World} {K : PySem.W.Frag} {mg : Str → Option Value} {k n : Nat} {x : Str} {fa : Addr} {h : Heap} {sp : Sp}
    (F : ∃ fd : FuncData, (∀ (s : Shared) (u : Value), BindsTo s fd ⟨[u], []⟩ [(x, u)]) ∧ ∀ base : Heap, K.In base → base.Ns mainGlobals mg → FnG P w K mg base CX0 k fa fd [x] sp)
    (top : ∀ (H : Hp) (a : Addr) (ns : List Int), ns.length ≤ n → SqL K H a (ns.map V.int) → sp [.ref a] H (fun v _ => v = .bl true) E0) : LawT P w K mg k n x fa h := by
  obtain ⟨fd, hb, hF⟩ := F
  exact ⟨fd, [], sp, (fun p hp => nomatch hp), hb, (fun H a ns hl _ hS => top H a ns hl hS), fun base kb g _ => hF base kb g⟩
section
variable {fds ps : List FD} {fcs : List Fc} {tf : List (Str × Option Str)} {h : Heap} {K : PySem.W.Frag} {mg : Str → Option Value}
theorem ga_of {x : Str} {C : Addr} (o : OwnC K mg x (ga K x)) (h : XN K x (.ref C)) : C = ga K x := Value.ref.inj (XN.inj h o.xn)
theorem fd_meth {d : FD} {x m : Str} (o : OwnC K mg x (ga K x)) (c : (Fc.meth x m).ok K = true) (e : fnX K (d.ad K) = d.val) (b : plainB K d = true) (ed : d.ad = mAd x m) (hc : d.clo = []) : ∀ C, XN K x (.ref C) →
    ∃ (f : Addr) (fd : FuncData), PySem.W.findIn K (.ref C) m = some (some (.ref f)) ∧ PySem.W.isFn K (.ref f) = true ∧ FunD K d.name d.qual d.params d.body d.scope d.dvs d.kws f fd := fun C h => by
  rw [ga_of o h]
  obtain ⟨fd, _, _, F⟩ := fd_def e hc b
  rw [ed] at F
  exact ⟨_, fd, (fc_meth c).1, (fc_meth c).2, F⟩
theorem fd_prop {d : FD} {x m : Str} (o : OwnC K mg x (ga K x)) (c : (Fc.prop x m).ok K = true) (e : fnX K (d.ad K) = d.val) (b : plainB K d = true) (ed : d.ad = pAd x m) (hc : d.clo = []) : ∀ C, XN K x (.ref C) →
    ∃ (p f : Addr) (fd : FuncData), PropOf K C m p f ∧ FunD K d.name d.qual d.params d.body d.scope d.dvs d.kws f fd := fun C h => by
  rw [ga_of o h]
  obtain ⟨fd, _, _, F⟩ := fd_def e hc b
  rw [ed] at F
  exact ⟨_, _, fd, fc_prop c, F⟩
theorem fc_noatC {x f : Str} (o : OwnC K mg x (ga K x)) (c : (Fc.noat x f).ok K = true) : ∀ C, XN K x (.ref C) → NoAttr K C f := fun C h => by
  rw [ga_of o h]
  exact fc_noat c
theorem fc_binC {x : Str} {nm : String} (o : OwnC K mg x (ga K x)) (c : (Fc.bin x nm).ok K = true) : ∀ C, XN K x (.ref C) → BinF K C nm := fun C h => by
  rw [ga_of o h]
  obtain ⟨a1, c⟩ := ba (show binB K x nm = true from c)
  obtain ⟨a2, c⟩ := ba c
  refine ⟨a1, eqO_ok a2, fun T hT => ?_⟩
  obtain ⟨q1, q⟩ := ba (List.all_eq_true.mp c T hT)
  obtain ⟨q2, q3⟩ := ba q
  exact ⟨Option.isSome_iff_exists.mp q1, Option.isSome_iff_exists.mp q2, of_decide_eq_true q3⟩
theorem fc_nebC {x : Str} (o : OwnC K mg x (ga K x)) (c : (Fc.neb x).ok K = true) : ∀ C, XN K x (.ref C) → PySem.W.findIn K (.ref C) "__ne__" = some (some (.builtin "object.__ne__")) := fun C h => by
  rw [ga_of o h]
  exact fc_neb c
end
section
variable {h : Heap} {K : PySem.W.Frag} {mg : Str → Option Value}
theorem fd_cls {d : FD} {x m : Str} (o : OwnC K mg x (ga K x)) (c : (Fc.clm x m).ok K = true) (e : fnX K (d.ad K) = d.val) (b : plainB K d = true) (ed : d.ad = wAd x m) (hc : d.clo = []) : ∀ C, XN K x (.ref C) →
    ∃ (p g : Addr) (fd : FuncData), ClX.CRead K C (.type "type") ∧ ClX.CMet K C (.type "type") m p g ∧ FunD K d.name d.qual d.params d.body d.scope d.dvs d.kws g fd := fun C h => by
  rw [ga_of o h]
  obtain ⟨fd, _, _, F⟩ := fd_def e hc b
  rw [ed] at F
  have c : clmB K x m = true := c
  unfold clmB at c
  obtain ⟨a1, c⟩ := ba c
  obtain ⟨a2, c⟩ := ba c
  obtain ⟨a3, a4⟩ := ba c
  obtain ⟨w1, w2⟩ := He5.wrapB_ok a3
  exact ⟨_, _, fd, ⟨a1, eqO_ok a2⟩, ⟨w1, w2, a4⟩, F⟩
theorem fd_stm {d : FD} {x m : Str} (o : OwnC K mg x (ga K x)) (c : (Fc.stm x m).ok K = true) (e : fnX K (d.ad K) = d.val) (b : plainB K d = true) (ed : d.ad = sAd x m) (hc : d.clo = []) : ∀ C, XN K x (.ref C) →
    ∃ (p g : Addr) (fd : FuncData), ClX.CRead K C (.type "type") ∧ (PySem.W.findCls K (.ref C) (.type "type") m = some (.get (.builtin "staticmethod.__get__") (.ref p) .none (.ref C)) ∧ ∃ rest, PySem.W.recIn K p "staticmethod" = some (.ref g :: rest)) ∧ FunD K d.name d.qual d.params d.body d.scope d.dvs d.kws g fd := fun C h => by
  rw [ga_of o h]
  obtain ⟨fd, _, _, F⟩ := fd_def e hc b
  rw [ed] at F
  have c : stmB K x m = true := c
  unfold stmB at c
  obtain ⟨a1, c⟩ := ba c
  obtain ⟨a2, a3⟩ := ba c
  exact ⟨_, _, fd, ⟨a1, eqO_ok a2⟩, He5.wrapB_ok a3, F⟩
theorem fc_lefC {x : Str} (o : OwnC K mg x (ga K x)) (c : (Fc.lef x).ok K = true) : ∀ C, XN K x (.ref C) → Lef K C := fun C h => by
  rw [ga_of o h]
  exact fun T hT => of_decide_eq_true (List.all_eq_true.mp (show (LT.all fun T => decide (PySem.W.subIn K (.ref (ga K x)) (.type T) = some false)) = true from c) T hT)
theorem fc_subC {x y : Str} (c : (Fc.sub x y).ok K = true) : ∀ C D, XN K x (.ref C) → XN K y (.ref D) → D ≠ C ∧ PySem.W.subIn K (.ref C) (.ref D) = some true := fun C D h h2 => by
  have c : subB K x y = true := c
  unfold subB at c
  obtain ⟨a1, c⟩ := ba c
  obtain ⟨a2, c⟩ := ba c
  obtain ⟨a3, a4⟩ := ba c
  have e1 : C = ga K x := Value.ref.inj (XN.inj h (eqO_ok a3))
  have e2 : D = ga K y := Value.ref.inj (XN.inj h2 (eqO_ok a4))
  subst e1 e2
  refine ⟨fun e => ?_, of_decide_eq_true a1⟩
  rw [decide_eq_true e] at a2
  cases a2
theorem fc_nsbC {x y : Str} (c : (Fc.nsb x y).ok K = true) : ∀ C D, XN K x (.ref C) → XN K y (.ref D) → D ≠ C ∧ PySem.W.subIn K (.ref C) (.ref D) = some false := fun C D h h2 => by
  have c : nsbB K x y = true := c
  unfold nsbB at c
  obtain ⟨a1, c⟩ := ba c
  obtain ⟨a2, c⟩ := ba c
  obtain ⟨a3, a4⟩ := ba c
  have e1 : C = ga K x := Value.ref.inj (XN.inj h (eqO_ok a3))
  have e2 : D = ga K y := Value.ref.inj (XN.inj h2 (eqO_ok a4))
  subst e1 e2
  refine ⟨fun e => ?_, of_decide_eq_true a1⟩
  rw [decide_eq_true e] at a2
  cases a2
theorem fc_nofC {x y : Str} (o : OwnC K mg x (ga K x)) (o2 : OwnC K mg y (ga K y)) (c : (Fc.nof x y).ok K = true) : ∀ C D, XN K x (.ref C) → XN K y (.ref D) → PySem.W.notFirst K C (.ref D) = true := fun C D h h2 => by
  rw [ga_of o h, ga_of o2 h2]
  exact c
end
end Hf

set_option Elab.async false
set_option linter.all false
set_option maxRecDepth 100000
set_option maxHeartbeats 4000000
set_option linter.unusedVariables false
namespace Law
open PySem L2 Hf
/-! ### octets and their payloads -/
def AL : Str := "ABCDEFGHIJKLMNOPQRSTUVWXYZabcdefghijklmnopqrstuvwxyz0123456789+-"
def LT : Str := "ABCDEFGHIJKLMNOPQRSTUVWXYZabcdefghijklmnopqrstuvwxyz0123456789"
def DG : Str := "0123456789ABCDEF"
def isOct (o : Int) : Prop := 0 ≤ o ∧ o ≤ 255
def isLit (o : Int) : Prop := (48 ≤ o ∧ o ≤ 57) ∨ (65 ≤ o ∧ o ≤ 90) ∨ (97 ≤ o ∧ o ≤ 122)
instance (o : Int) : Decidable (isLit o) := by unfold isLit; exact inferInstance
def dig (d : Int) : Nat := if d < 10 then 48 + d.toNat else 55 + d.toNat
/-- the signs of an octet -/
def form (o : Int) : List Nat := if o = 32 then [95] else if isLit o then [o.toNat] else [61, dig (o / 16), dig (o % 16)]
def payH (os : List Int) : List Nat := os.flatMap form
def alpha (d : Int) : Nat := if d < 26 then 65 + d.toNat else if d < 52 then 71 + d.toNat else if d < 62 then d.toNat - 4 else if d = 62 then 43 else 45
/-- the digits of octets, three by three -/
def b64 : List Int → List Int
  | a :: b :: c :: r => a / 4 :: (a % 4 * 16 + b / 16) :: (b % 16 * 4 + c / 64) :: c % 64 :: b64 r
  | [a, b] => [a / 4, a % 4 * 16 + b / 16, b % 16 * 4]
  | [a] => [a / 4, a % 4 * 16]
  | [] => []
def payS (os : List Int) : List Nat := (b64 os).map alpha
def strL (l : List Nat) : Str := ⟨l.toArray⟩
theorem cs_strL (l : List Nat) : cs (strL l) = l := rfl
theorem len_strL (l : List Nat) : (strL l).length = l.length := by show l.toArray.size = _; simp
theorem strL_inj {a b : List Nat} (h : strL a = strL b) : a = b := congrArg cs h
theorem strL_app (a b : List Nat) : strL a ++ strL b = strL (a ++ b) := by
  have e : ∀ {x y : Str}, cs x = cs y → x = y := fun {x y} h => by
    obtain ⟨⟨x⟩⟩ := x
    obtain ⟨⟨y⟩⟩ := y
    exact congrArg (fun l : List Nat => (⟨⟨l⟩⟩ : Str)) h
  refine e ?_
  rw [cs_app]
  rfl
theorem al_at : ∀ d : Nat, d < 64 → (cs AL)[d]? = some (alpha d) := by decide +kernel
theorem dg_at : ∀ d : Nat, d < 16 → (cs DG)[d]? = some (dig d) := by decide +kernel
theorem lt_in : ∀ o : Nat, o < 128 → (decide (o ∈ cs LT)) = decide (isLit (o : Int)) := by decide +kernel
theorem b64_app : ∀ (n : Nat) (a b : List Int), a.length = 3 * n → b64 (a ++ b) = b64 a ++ b64 b
  | 0, [], b, _ => rfl
  | n + 1, x :: y :: z :: r, b, h => by
    have h2 : r.length = 3 * n := by simp only [List.length_cons] at h; omega
    show _ :: _ :: _ :: _ :: b64 (r ++ b) = _
    rw [b64_app n r b h2]
    rfl
  | n + 1, [], b, h => by simp only [List.length_nil] at h; omega
  | n + 1, [_], b, h => by simp only [List.length_cons, List.length_nil] at h; omega
  | n + 1, [_, _], b, h => by simp only [List.length_cons, List.length_nil] at h; omega
theorem b64_len : ∀ os : List Int, (b64 os).length = (4 * os.length + 2) / 3
  | [] => by simp [b64]
  | [_] => by simp [b64]
  | [_, _] => by simp [b64]
  | a :: b :: c :: r => by
    show (b64 r).length + 4 = _
    rw [b64_len r]
    simp only [List.length_cons]
    omega
theorem b64_dig : ∀ os : List Int, (∀ o ∈ os, isOct o) → ∀ d ∈ b64 os, 0 ≤ d ∧ d < 64
  | [], _, d, h => absurd h List.not_mem_nil
  | [a], k, d, h => by
    have ha := k a (by simp)
    unfold isOct at ha
    simp only [b64, List.mem_cons, List.mem_nil_iff, or_false] at h
    rcases h with rfl | rfl <;> omega
  | [a, b], k, d, h => by
    have ha := k a (by simp)
    have hb := k b (by simp)
    unfold isOct at ha hb
    simp only [b64, List.mem_cons, List.mem_nil_iff, or_false] at h
    rcases h with rfl | rfl | rfl <;> omega
  | a :: b :: c :: r, k, d, h => by
    have ha := k a (by simp)
    have hb := k b (by simp)
    have hc := k c (by simp)
    unfold isOct at ha hb hc
    simp only [b64, List.mem_cons] at h
    rcases h with rfl | rfl | rfl | rfl | h
    · omega
    · omega
    · omega
    · omega
    · exact b64_dig r (fun o ho => k o (by simp [ho])) d h
theorem b64_inj : ∀ os ps : List Int, (∀ o ∈ os, isOct o) → (∀ o ∈ ps, isOct o) → b64 os = b64 ps → os = ps
  | [], [], _, _, _ => rfl
  | [], [_], _, _, h => by simp [b64] at h
  | [], [_, _], _, _, h => by simp [b64] at h
  | [], _ :: _ :: _ :: _, _, _, h => by simp [b64] at h
  | [_], [], _, _, h => by simp [b64] at h
  | [a], [x], k, l, h => by
    have ha := k a (by simp)
    have hx := l x (by simp)
    unfold isOct at ha hx
    simp only [b64, List.cons.injEq, and_true] at h
    have : a = x := by omega
    rw [this]
  | [_], [_, _], _, _, h => by simp [b64] at h
  | [_], _ :: _ :: _ :: _, _, _, h => by simp [b64] at h
  | [_, _], [], _, _, h => by simp [b64] at h
  | [_, _], [_], _, _, h => by simp [b64] at h
  | [a, b], [x, y], k, l, h => by
    have ha := k a (by simp)
    have hb := k b (by simp)
    have hx := l x (by simp)
    have hy := l y (by simp)
    unfold isOct at ha hb hx hy
    simp only [b64, List.cons.injEq, and_true] at h
    have e1 : a = x := by omega
    have e2 : b = y := by omega
    rw [e1, e2]
  | [_, _], _ :: _ :: _ :: _, _, _, h => by simp [b64] at h
  | _ :: _ :: _ :: _, [], _, _, h => by simp [b64] at h
  | _ :: _ :: _ :: _, [_], _, _, h => by simp [b64] at h
  | _ :: _ :: _ :: _, [_, _], _, _, h => by simp [b64] at h
  | a :: b :: c :: r, x :: y :: z :: q, k, l, h => by
    have ha := k a (by simp)
    have hb := k b (by simp)
    have hc := k c (by simp)
    have hx := l x (by simp)
    have hy := l y (by simp)
    have hz := l z (by simp)
    unfold isOct at ha hb hc hx hy hz
    simp only [b64, List.cons.injEq] at h
    obtain ⟨h1, h2, h3, h4, h5⟩ := h
    have e1 : a = x := by omega
    have e2 : b = y := by omega
    have e3 : c = z := by omega
    rw [e1, e2, e3, b64_inj r q (fun o ho => k o (by simp [ho])) (fun o ho => l o (by simp [ho])) h5]
theorem alpha_inj0 : ∀ d : Nat, d < 64 → ∀ e : Nat, e < 64 → alpha d = alpha e → d = e := by decide +kernel
theorem alpha_inj (d e : Nat) (hd : d < 64) (he : e < 64) (h : alpha d = alpha e) : d = e := alpha_inj0 d hd e he h
theorem map_alpha_inj : ∀ {l m : List Int}, (∀ d ∈ l, 0 ≤ d ∧ d < 64) → (∀ d ∈ m, 0 ≤ d ∧ d < 64) → l.map alpha = m.map alpha → l = m
  | [], [], _, _, _ => rfl
  | [], _ :: _, _, _, h => by simp at h
  | _ :: _, [], _, _, h => by simp at h
  | d :: l, e :: m, k1, k2, h => by
    rw [List.map_cons, List.map_cons, List.cons.injEq] at h
    have hd := k1 d List.mem_cons_self
    have he := k2 e List.mem_cons_self
    have q : d.toNat = e.toNat := alpha_inj d.toNat e.toNat (by omega) (by omega) (by
      rw [show ((d.toNat : Nat) : Int) = d by omega, show ((e.toNat : Nat) : Int) = e by omega]
      exact h.1)
    rw [show d = e by omega, map_alpha_inj (fun x hx => k1 x (List.mem_cons_of_mem _ hx)) (fun x hx => k2 x (List.mem_cons_of_mem _ hx)) h.2]
theorem payS_inj {os ps : List Int} (h1 : ∀ o ∈ os, isOct o) (h2 : ∀ o ∈ ps, isOct o) (h : payS os = payS ps) : os = ps :=
  b64_inj os ps h1 h2 (map_alpha_inj (b64_dig os h1) (b64_dig ps h2) h)
theorem payS_len (os : List Int) : (payS os).length = (4 * os.length + 2) / 3 := by
  unfold payS
  rw [List.length_map, b64_len]
theorem payS_app (n : Nat) (a b : List Int) (h : a.length = 3 * n) : payS (a ++ b) = payS a ++ payS b := by
  unfold payS
  rw [b64_app n a b h, List.map_append]
theorem payH_app (a b : List Int) : payH (a ++ b) = payH a ++ payH b := List.flatMap_append
theorem form_len {o : Int} : (form o).length = 1 ∨ (form o).length = 3 := by
  unfold form
  split
  · exact .inl rfl
  · split
    · exact .inl rfl
    · exact .inr rfl
theorem dig_ne {d : Int} (h : 0 ≤ d) (h2 : d < 16) : dig d ≠ 61 := by unfold dig; split <;> omega
theorem form_cnt {o : Int} (h : isOct o) : (form o).count 61 * 2 + 1 = (form o).length := by
  unfold isOct at h
  unfold form
  split
  · decide
  · split
    · rename_i _ l
      unfold isLit at l
      rw [List.count_cons, List.count_nil]
      have : ¬ o.toNat = 61 := by omega
      simp [this]
    · have a := dig_ne (d := o / 16) (by omega) (by omega)
      have b := dig_ne (d := o % 16) (by omega) (by omega)
      simp [List.count_cons, a, b]
theorem payH_cnt : ∀ {os : List Int}, (∀ o ∈ os, isOct o) → (payH os).count 61 * 2 + os.length = (payH os).length ∧ os.length ≤ (payH os).length ∧ (payH os).length ≤ 3 * os.length
  | [], _ => ⟨rfl, Nat.le_refl _, Nat.le_refl _⟩
  | o :: os, h => by
    have a := form_cnt (h o List.mem_cons_self)
    have b := payH_cnt fun x hx => h x (List.mem_cons_of_mem _ hx)
    have e : payH (o :: os) = form o ++ payH os := rfl
    have l := form_len (o := o)
    rw [e, List.count_append, List.length_append, List.length_cons]
    omega
/-! ### codes and their octets -/
inductive Kn | la | wi | st
def Kn.s : Kn → Str
  | .la => "latin"
  | .wi => "wide"
  | .st => "steps"
def stp (c : Int) : List Int := if c ≤ 127 then [c] else if c / 128 ≤ 127 then [128 + c % 128, c / 128] else [128 + c % 128, 128 + c / 128 % 128, c / 128 / 128]
def enc : Kn → Int → List Int
  | .la, c => [c]
  | .wi, c => [c / 256, c % 256]
  | .st, c => stp c
def octs (k : Kn) (ns : List Int) : List Int := ns.flatMap (enc k)
/-- c is a code that the charset k has -/
def has (k : Kn) (c : Int) : Prop := 32 ≤ c ∧ c ≤ 65535 ∧ (k = .la → c ≤ 255)
theorem enc_oct {k : Kn} {c : Int} (h : has k c) : ∀ o ∈ enc k c, isOct o := by
  obtain ⟨h1, h2, h3⟩ := h
  intro o ho
  unfold isOct
  cases k with
  | la =>
    have h4 := h3 rfl
    simp only [enc, List.mem_singleton] at ho
    omega
  | wi =>
    simp only [enc, List.mem_cons, List.mem_nil_iff, or_false] at ho
    omega
  | st =>
    simp only [enc, stp] at ho
    split at ho
    · simp only [List.mem_singleton] at ho
      omega
    · split at ho
      · simp only [List.mem_cons, List.mem_nil_iff, or_false] at ho
        omega
      · simp only [List.mem_cons, List.mem_nil_iff, or_false] at ho
        omega
theorem octs_oct {k : Kn} {ns : List Int} (h : ∀ c ∈ ns, has k c) : ∀ o ∈ octs k ns, isOct o := fun o ho => by
  obtain ⟨c, hc, ho⟩ := List.mem_flatMap.mp ho
  exact enc_oct (h c hc) o ho
theorem octs_app (k : Kn) (a b : List Int) : octs k (a ++ b) = octs k a ++ octs k b := List.flatMap_append
theorem enc_len (k : Kn) (c : Int) : 1 ≤ (enc k c).length ∧ (enc k c).length ≤ 3 := by
  cases k with
  | la => exact ⟨Nat.le_refl _, by show 1 ≤ 3; decide⟩
  | wi => exact ⟨by show 1 ≤ 2; decide, by show 2 ≤ 3; decide⟩
  | st =>
    simp only [enc, stp]
    split
    · exact ⟨Nat.le_refl _, by show 1 ≤ 3; decide⟩
    · split
      · exact ⟨by show 1 ≤ 2; decide, by show 2 ≤ 3; decide⟩
      · exact ⟨by show 1 ≤ 3; decide, Nat.le_refl _⟩
theorem octs_len (k : Kn) : ∀ ns : List Int, (octs k ns).length ≤ 3 * ns.length
  | [] => Nat.le_refl _
  | c :: ns => by
    have a := (enc_len k c).2
    have b := octs_len k ns
    have e : octs k (c :: ns) = enc k c ++ octs k ns := rfl
    rw [e, List.length_append, List.length_cons]
    omega
/-- two codes with the same beginning of octets are the same -/
theorem enc_pre {k : Kn} {c d : Int} {r q : List Int} (h1 : has k c) (h2 : has k d) (h : enc k c ++ r = enc k d ++ q) : c = d ∧ r = q := by
  obtain ⟨a1, a2, _⟩ := h1
  obtain ⟨b1, b2, _⟩ := h2
  cases k with
  | la =>
    simp only [enc, List.cons_append, List.nil_append, List.cons.injEq] at h
    exact h
  | wi =>
    simp only [enc, List.cons_append, List.nil_append, List.cons.injEq] at h
    exact ⟨by omega, h.2.2⟩
  | st =>
    simp only [enc, stp] at h
    by_cases p1 : c ≤ 127
    · rw [if_pos p1] at h
      by_cases p2 : d ≤ 127
      · rw [if_pos p2] at h
        simp only [List.cons_append, List.nil_append, List.cons.injEq] at h
        exact ⟨h.1, h.2⟩
      · rw [if_neg p2] at h
        by_cases p3 : d / 128 ≤ 127
        · rw [if_pos p3] at h
          simp only [List.cons_append, List.nil_append, List.cons.injEq] at h
          omega
        · rw [if_neg p3] at h
          simp only [List.cons_append, List.nil_append, List.cons.injEq] at h
          omega
    · rw [if_neg p1] at h
      by_cases p2 : d ≤ 127
      · rw [if_pos p2] at h
        by_cases p3 : c / 128 ≤ 127
        · rw [if_pos p3] at h
          simp only [List.cons_append, List.nil_append, List.cons.injEq] at h
          omega
        · rw [if_neg p3] at h
          simp only [List.cons_append, List.nil_append, List.cons.injEq] at h
          omega
      · rw [if_neg p2] at h
        by_cases p3 : c / 128 ≤ 127 <;> by_cases p4 : d / 128 ≤ 127
        · rw [if_pos p3, if_pos p4] at h
          simp only [List.cons_append, List.nil_append, List.cons.injEq] at h
          exact ⟨by omega, h.2.2⟩
        · rw [if_pos p3, if_neg p4] at h
          simp only [List.cons_append, List.nil_append, List.cons.injEq] at h
          omega
        · rw [if_neg p3, if_pos p4] at h
          simp only [List.cons_append, List.nil_append, List.cons.injEq] at h
          omega
        · rw [if_neg p3, if_neg p4] at h
          simp only [List.cons_append, List.nil_append, List.cons.injEq] at h
          exact ⟨by omega, h.2.2.2⟩
theorem octs_inj {k : Kn} : ∀ {ns ms : List Int}, (∀ c ∈ ns, has k c) → (∀ c ∈ ms, has k c) → octs k ns = octs k ms → ns = ms
  | [], [], _, _, _ => rfl
  | [], d :: ms, _, _, h => by
    have a := congrArg List.length h
    have e : octs k (d :: ms) = enc k d ++ octs k ms := rfl
    rw [e, List.length_append] at a
    have := (enc_len k d).1
    have z : (octs k []).length = 0 := rfl
    omega
  | c :: ns, [], _, _, h => by
    have a := congrArg List.length h
    have e : octs k (c :: ns) = enc k c ++ octs k ns := rfl
    rw [e, List.length_append] at a
    have := (enc_len k c).1
    have z : (octs k []).length = 0 := rfl
    omega
  | c :: ns, d :: ms, h1, h2, h => by
    obtain ⟨e1, e2⟩ := enc_pre (k := k) (h1 c List.mem_cons_self) (h2 d List.mem_cons_self) h
    rw [e1, octs_inj (fun x hx => h1 x (List.mem_cons_of_mem _ hx)) (fun x hx => h2 x (List.mem_cons_of_mem _ hx)) e2]
end Law
namespace Law
open PySem L2 Hf
/-! ### texts as rows of signs -/
theorem strL_cs (z : Str) : strL (cs z) = z := by
  obtain ⟨⟨z⟩⟩ := z
  rfl
theorem str_strL {z : Str} {l : List Nat} (h : cs z = l) : z = strL l := by rw [← h, strL_cs]
theorem join_flat : ∀ ss : List Str, Str.join (Str.ofString "") ss = strL (ss.flatMap cs)
  | [] => rfl
  | [x] => by
    show x = strL (cs x ++ [])
    rw [List.append_nil, strL_cs]
  | x :: y :: r => by
    have b := join_flat (y :: r)
    have e : Str.join (Str.ofString "") (x :: y :: r) = x ++ Str.ofString "" ++ Str.join (Str.ofString "") (y :: r) := rfl
    rw [e, b]
    have k : x = strL (cs x) := (strL_cs x).symm
    have m : (Str.ofString "") = strL [] := by decide +kernel
    rw [m]
    conv => lhs; rw [k]
    rw [strL_app, strL_app, List.append_nil]
    rfl
theorem al_ix : ∀ d : Nat, d < 64 → Builtin.Str.occurrences AL ⟨#[alpha d]⟩ 0 AL.length 1 = [d] := by decide +kernel
theorem dg_ix : ∀ d : Nat, d < 16 → Builtin.Str.occurrences DG ⟨#[dig d]⟩ 0 DG.length 1 = [d] := by decide +kernel
theorem al_in : ∀ d : Nat, d < 64 → decide (alpha d ∈ cs AL) = true := by decide +kernel
theorem dg_in : ∀ d : Nat, d < 16 → decide (dig d ∈ cs DG) = true := by decide +kernel
theorem drop_min {α : Type} (l : List α) (i : Nat) : l.drop (min i l.length) = l.drop i := by
  rcases Nat.le_total i l.length with h | h
  · rw [Nat.min_eq_left h]
  · rw [Nat.min_eq_right h, List.drop_length, List.drop_of_length_le h]
theorem cutL {α : Type} (l : List α) (i j : Nat) (h : i ≤ j) : (l.drop (min i l.length)).take (min j l.length - min i l.length) = (l.drop i).take (j - i) := by
  rw [drop_min]
  by_cases k : l.length ≤ j
  · rw [Nat.min_eq_right k, List.take_of_length_le (l := l.drop i) (i := j - i) (by rw [List.length_drop]; omega)]
    rcases Nat.le_total i l.length with g | g
    · rw [Nat.min_eq_left g, List.take_of_length_le (by rw [List.length_drop]; omega)]
    · rw [List.drop_of_length_le g, List.take_nil]
  · rw [Nat.min_eq_left (by omega), Nat.min_eq_left (by omega)]
theorem cutS_nat (l : List Nat) (i j : Nat) (h : i ≤ j) : cutS (strL l) (some (i : Int)) (some (j : Int)) = strL ((l.drop i).take (j - i)) := by
  unfold cutS
  rw [HT.sIx_nat, HT.sIx_nat, len_strL]
  show strL ((l.drop _).take _) = _
  rw [cutL l i j h]
theorem cutV_nat (l : List V) (i j : Nat) (h : i ≤ j) : cutV l (some (i : Int)) (some (j : Int)) = (l.drop i).take (j - i) := by
  unfold cutV
  rw [HT.sIx_nat, HT.sIx_nat, cutL l i j h]
theorem cutV_to (l : List V) (j : Nat) : cutV l none (some (j : Int)) = l.take j := by
  unfold cutV
  rw [HT.sIx_none, HT.sIx_nat, List.drop_zero, Nat.sub_zero]
  rcases Nat.le_total j l.length with h | h
  · rw [Nat.min_eq_left h]
  · rw [Nat.min_eq_right h, List.take_length, List.take_of_length_le h]
theorem cutV_from (l : List V) (i : Nat) : cutV l (some (i : Int)) none = l.drop i := by
  unfold cutV
  rw [HT.sIx_none, HT.sIx_nat, drop_min]
  refine List.take_of_length_le ?_
  rw [List.length_drop]
  omega
theorem cnt_eq (c : Nat) : ∀ l : List Nat, PyProof.Rows.cnt c l = (l.count c : Nat)
  | [] => rfl
  | x :: l => by
    rw [PyProof.Rows.cnt_cons, cnt_eq c l, List.count_cons]
    by_cases h : x = c
    · subst h
      simp
      omega
    · simp [h]
theorem count61 (l : List Nat) : Txt.count (strL l) (Str.ofString "=") = (l.count 61 : Nat) := by
  rw [show (Str.ofString "=") = ⟨#[61]⟩ from sg_c61, PyProof.Rows.count_is]
  exact cnt_eq 61 l
end Law
namespace Law
open PySem L2 Hf
/-! ### octets as binary digits -/
def bitN (o w : Int) : Nat := 48 + (o / w % 2).toNat
def W8 : List Int := [128, 64, 32, 16, 8, 4, 2, 1]
def W6 : List Int := [32, 16, 8, 4, 2, 1]
def bits8 (o : Int) : List Nat := W8.map (bitN o)
def bv (c : Nat) : Int := if c = 49 then 1 else 0
def sixD : List Nat → List Int
  | a :: b :: c :: d :: e :: f :: r => (32 * bv a + 16 * bv b + 8 * bv c + 4 * bv d + 2 * bv e + bv f) :: sixD r
  | _ => []
theorem bv_bit {o w : Int} : bv (bitN o w) = o / w % 2 := by
  unfold bv bitN
  rcases Int.emod_two_eq (o / w) with h | h <;> rw [h] <;> decide
theorem bv_48 : bv 48 = 0 := rfl
def padN (n : Nat) : Nat := ((0 - (n : Int)) % 6).toNat
theorem six_b64 : ∀ os : List Int, (∀ o ∈ os, isOct o) → sixD (os.flatMap bits8 ++ List.replicate (padN (8 * os.length)) 48) = b64 os
  | [], _ => rfl
  | [a], h => by
    have ha := h a (by simp)
    unfold isOct at ha
    have e : [a].flatMap bits8 = bits8 a := by simp
    rw [e]
    show [32 * bv (bitN a 128) + 16 * bv (bitN a 64) + 8 * bv (bitN a 32) + 4 * bv (bitN a 16) + 2 * bv (bitN a 8) + bv (bitN a 4), 32 * bv (bitN a 2) + 16 * bv (bitN a 1) + 8 * bv 48 + 4 * bv 48 + 2 * bv 48 + bv 48] = [a / 4, a % 4 * 16]
    simp only [bv_bit, bv_48, List.cons.injEq, and_true]
    omega
  | [a, b], h => by
    have ha := h a (by simp)
    have hb := h b (by simp)
    unfold isOct at ha hb
    have e : [a, b].flatMap bits8 = bits8 a ++ bits8 b := by simp
    have p : List.replicate (padN (8 * [a, b].length)) 48 = [48, 48] := by
      have q : padN 16 = 2 := by decide
      rw [show 8 * [a, b].length = 16 from rfl, q]
      rfl
    rw [e, p]
    show [32 * bv (bitN a 128) + 16 * bv (bitN a 64) + 8 * bv (bitN a 32) + 4 * bv (bitN a 16) + 2 * bv (bitN a 8) + bv (bitN a 4), 32 * bv (bitN a 2) + 16 * bv (bitN a 1) + 8 * bv (bitN b 128) + 4 * bv (bitN b 64) + 2 * bv (bitN b 32) + bv (bitN b 16),
      32 * bv (bitN b 8) + 16 * bv (bitN b 4) + 8 * bv (bitN b 2) + 4 * bv (bitN b 1) + 2 * bv 48 + bv 48] = [a / 4, a % 4 * 16 + b / 16, b % 16 * 4]
    simp only [bv_bit, bv_48, List.cons.injEq, and_true]
    omega
  | a :: b :: c :: r, h => by
    have ha := h a (by simp)
    have hb := h b (by simp)
    have hc := h c (by simp)
    unfold isOct at ha hb hc
    have ih := six_b64 r fun o ho => h o (by simp [ho])
    have e : (a :: b :: c :: r).flatMap bits8 = bits8 a ++ (bits8 b ++ (bits8 c ++ r.flatMap bits8)) := by simp
    have p : padN (8 * (a :: b :: c :: r).length) = padN (8 * r.length) := by
      unfold padN
      simp only [List.length_cons]
      omega
    rw [e, p, List.append_assoc, List.append_assoc, List.append_assoc]
    show (32 * bv (bitN a 128) + 16 * bv (bitN a 64) + 8 * bv (bitN a 32) + 4 * bv (bitN a 16) + 2 * bv (bitN a 8) + bv (bitN a 4)) :: (32 * bv (bitN a 2) + 16 * bv (bitN a 1) + 8 * bv (bitN b 128) + 4 * bv (bitN b 64) + 2 * bv (bitN b 32) + bv (bitN b 16)) ::
      (32 * bv (bitN b 8) + 16 * bv (bitN b 4) + 8 * bv (bitN b 2) + 4 * bv (bitN b 1) + 2 * bv (bitN c 128) + bv (bitN c 64)) :: (32 * bv (bitN c 32) + 16 * bv (bitN c 16) + 8 * bv (bitN c 8) + 4 * bv (bitN c 4) + 2 * bv (bitN c 2) + bv (bitN c 1)) :: sixD (r.flatMap bits8 ++ List.replicate (padN (8 * r.length)) 48)
      = a / 4 :: (a % 4 * 16 + b / 16) :: (b % 16 * 4 + c / 64) :: c % 64 :: b64 r
    rw [ih]
    simp only [bv_bit, List.cons.injEq, and_true]
    omega
theorem bits8_len (o : Int) : (bits8 o).length = 8 := rfl
theorem bitsL_len : ∀ os : List Int, (os.flatMap bits8).length = 8 * os.length
  | [] => rfl
  | o :: os => by
    rw [List.flatMap_cons, List.length_append, bits8_len, bitsL_len os, List.length_cons]
    omega
theorem sixD_len : ∀ (n : Nat) (l : List Nat), l.length = 6 * n → (sixD l).length = n
  | 0, [], _ => rfl
  | n + 1, a :: b :: c :: d :: e :: f :: r, h => by
    have h2 : r.length = 6 * n := by simp only [List.length_cons] at h; omega
    show (sixD r).length + 1 = _
    rw [sixD_len n r h2]
  | n + 1, [], h => by simp at h
  | n + 1, [_], h => by simp at h; omega
  | n + 1, [_, _], h => by simp at h; omega
  | n + 1, [_, _, _], h => by simp at h; omega
  | n + 1, [_, _, _, _], h => by simp at h; omega
  | n + 1, [_, _, _, _, _], h => by simp at h; omega
/-- the digit of the six bits at 6·i -/
theorem sixD_at : ∀ (i : Nat) (l : List Nat), 6 * i + 6 ≤ l.length → ∃ a b c d e f, (l.drop (6 * i)).take 6 = [a, b, c, d, e, f] ∧ (∀ j, j < 6 → l[6 * i + j]? = [a, b, c, d, e, f][j]?) ∧ (sixD l)[i]? = some (32 * bv a + 16 * bv b + 8 * bv c + 4 * bv d + 2 * bv e + bv f)
  | 0, a :: b :: c :: d :: e :: f :: r, _ => ⟨a, b, c, d, e, f, rfl, fun j hj => by
    rw [Nat.mul_zero, Nat.zero_add]
    match j, hj with
    | 0, _ => rfl
    | 1, _ => rfl
    | 2, _ => rfl
    | 3, _ => rfl
    | 4, _ => rfl
    | 5, _ => rfl, rfl⟩
  | i + 1, a :: b :: c :: d :: e :: f :: r, h => by
    have h2 : 6 * i + 6 ≤ r.length := by simp only [List.length_cons] at h; omega
    obtain ⟨a', b', c', d', e', f', h3, h4, h5⟩ := sixD_at i r h2
    refine ⟨a', b', c', d', e', f', ?_, fun j hj => ?_, h5⟩
    · rw [show 6 * (i + 1) = 6 * i + 6 by omega]
      exact h3
    · rw [show 6 * (i + 1) + j = 6 * i + j + 6 by omega]
      exact h4 j hj
  | _, [], h => by simp at h
  | _, [_], h => by simp at h
  | _, [_, _], h => by simp at h
  | _, [_, _, _], h => by simp at h
  | _, [_, _, _, _], h => by simp at h
  | _, [_, _, _, _, _], h => by simp at h
theorem sum6 (b : Nat → Bool) : (((List.range 6).filter b).map fun j => W6.getD j 0).sum = 32 * (if b 0 = true then 1 else 0) + 16 * (if b 1 = true then 1 else 0) + 8 * (if b 2 = true then 1 else 0) + 4 * (if b 3 = true then 1 else 0) + 2 * (if b 4 = true then 1 else 0) + (if b 5 = true then 1 else 0) := by
  rw [show List.range 6 = [0, 1, 2, 3, 4, 5] from rfl]
  simp only [List.filter_cons, List.filter_nil]
  cases b 0 <;> cases b 1 <;> cases b 2 <;> cases b 3 <;> cases b 4 <;> cases b 5 <;> rfl
theorem cs_bit {o w : Int} : cs (Str.ofString (toString (o / w % 2))) = [bitN o w] := by
  unfold bitN
  rcases Int.emod_two_eq (o / w) with h | h <;> rw [h] <;> decide +kernel
end Law
namespace Law
open PySem L2 Hf
/-! ### reading payloads -/
def hx (c : Nat) : Option Int := if 48 ≤ c ∧ c ≤ 57 then some ((c : Int) - 48) else if 65 ≤ c ∧ c ≤ 70 then some ((c : Int) - 55) else none
theorem hx_dig {c : Nat} {d : Int} (h : hx c = some d) : c = dig d ∧ 0 ≤ d ∧ d < 16 := by
  unfold hx at h
  split at h
  · have e := Option.some.inj h
    unfold dig
    refine ⟨?_, by omega, by omega⟩
    rw [if_pos (by omega)]
    omega
  · split at h
    · have e := Option.some.inj h
      unfold dig
      refine ⟨?_, by omega, by omega⟩
      rw [if_neg (by omega)]
      omega
    · cases h
theorem hx_of0 : ∀ d : Nat, d < 16 → hx (dig (d : Int)) = some (d : Int) := by decide +kernel
theorem hx_of {d : Int} (h0 : 0 ≤ d) (h1 : d < 16) : hx (dig d) = some d := by
  have e := hx_of0 d.toNat (by omega)
  rw [show ((d.toNat : Nat) : Int) = d by omega] at e
  exact e
theorem hx_in0 : ∀ c : Nat, c < 128 → decide (c ∈ cs DG) = (hx c).isSome := by decide +kernel
theorem hx_none {c : Nat} (h : c < 128) : c ∉ cs DG ↔ hx c = none := by
  have e := hx_in0 c h
  rw [← decide_eq_false_iff_not, e]
  cases hx c <;> simp
def hexP : Option Int → Option Int → Option (Int × Nat)
  | some x, some y => some (16 * x + y, 3)
  | _, _ => none
def hexO : List Nat → Option (Int × Nat)
  | a :: b :: _ => hexP (hx a) (hx b)
  | _ => none
def stepC (c : Nat) (r : List Nat) : Option (Int × Nat) := if c = 61 then hexO r else if c = 95 then some (32, 1) else if isLit (c : Int) then some ((c : Int), 1) else none
/-- the octet at the beginning of a row of signs and how many signs it takes -/
def stepH : List Nat → Option (Int × Nat)
  | [] => none
  | c :: r => stepC c r
theorem hexO_ok {r : List Nat} {o : Int} {k : Nat} (h : hexO r = some (o, k)) : ∃ a b r' x y, r = a :: b :: r' ∧ hx a = some x ∧ hx b = some y ∧ o = 16 * x + y ∧ k = 3 := by
  match r, h with
  | a :: b :: r', h =>
    have h : hexP (hx a) (hx b) = some (o, k) := h
    cases ha : hx a with
    | none => rw [ha] at h; cases h
    | some x =>
      cases hb : hx b with
      | none => rw [ha, hb] at h; cases h
      | some y =>
        rw [ha, hb] at h
        simp only [hexP, Option.some.injEq, Prod.mk.injEq] at h
        exact ⟨a, b, r', x, y, rfl, ha, hb, h.1.symm, h.2.symm⟩
def runH (l : List Nat) : Nat → Nat → List Int → List Int ⊕ Nat
  | 0, _, os => .inl os
  | n + 1, p, os => if p < l.length then (match stepH (l.drop p) with
      | some (o, k) => runH l n (p + k) (os ++ [o])
      | none => .inr p) else .inl os
def outH (l : List Nat) : List Int ⊕ Nat := runH l l.length 0 []
theorem runH_end {l : List Nat} {p : Nat} {os : List Int} (h : l.length ≤ p) : ∀ n, runH l n p os = .inl os
  | 0 => rfl
  | n + 1 => by
    unfold runH
    rw [if_neg (by omega)]
theorem stepH_oct {l : List Nat} {o : Int} {k : Nat} (h : stepH l = some (o, k)) : 1 ≤ k ∧ k ≤ l.length ∧ isOct o := by
  cases l with
  | nil => cases h
  | cons c r =>
    have h : stepC c r = some (o, k) := h
    unfold stepC at h
    by_cases c1 : c = 61
    · rw [if_pos c1] at h
      obtain ⟨a, b, r', x, y, rfl, ha, hb, rfl, rfl⟩ := hexO_ok h
      obtain ⟨_, x0, x1⟩ := hx_dig ha
      obtain ⟨_, y0, y1⟩ := hx_dig hb
      refine ⟨by decide, by simp only [List.length_cons]; omega, ?_⟩
      unfold isOct
      omega
    · rw [if_neg c1] at h
      by_cases c2 : c = 95
      · rw [if_pos c2] at h
        simp only [Option.some.injEq, Prod.mk.injEq] at h
        obtain ⟨rfl, rfl⟩ := h
        exact ⟨by decide, by simp only [List.length_cons]; omega, by decide, by decide⟩
      · rw [if_neg c2] at h
        by_cases c3 : isLit (c : Int)
        · rw [if_pos c3] at h
          have li := c3
          simp only [Option.some.injEq, Prod.mk.injEq] at h
          obtain ⟨rfl, rfl⟩ := h
          unfold isLit at li
          exact ⟨by decide, by simp only [List.length_cons]; omega, by omega, by omega⟩
        · rw [if_neg c3] at h
          cases h
theorem stepH_form {o : Int} (h : isOct o) (r : List Nat) : stepH (form o ++ r) = some (o, (form o).length) := by
  unfold isOct at h
  unfold form
  by_cases h32 : o = 32
  · rw [if_pos h32, h32]
    rfl
  · rw [if_neg h32]
    by_cases hl : isLit o
    · rw [if_pos hl]
      have hl2 := hl
      unfold isLit at hl2
      show stepC o.toNat r = _
      unfold stepC
      rw [if_neg (by omega), if_neg (by omega), show ((o.toNat : Nat) : Int) = o by omega, if_pos hl]
      rfl
    · rw [if_neg hl]
      show stepC 61 (dig (o / 16) :: dig (o % 16) :: r) = _
      unfold stepC
      rw [if_pos rfl]
      show hexP (hx (dig (o / 16))) (hx (dig (o % 16))) = _
      rw [hx_of (by omega) (by omega), hx_of (by omega) (by omega)]
      show some (16 * (o / 16) + o % 16, 3) = some (o, 3)
      rw [show 16 * (o / 16) + o % 16 = o by omega]
theorem runH_pay : ∀ (os : List Int) (pre : List Nat) (acc : List Int) (n : Nat), (∀ o ∈ os, isOct o) → (payH os).length ≤ n → runH (pre ++ payH os) n pre.length acc = .inl (acc ++ os)
  | [], pre, acc, n, _, _ => by
    rw [List.append_nil]
    exact runH_end (by show (pre ++ []).length ≤ _; rw [List.append_nil]; exact Nat.le_refl _) n
  | o :: os, pre, acc, n, h, hn => by
    have fl := form_len (o := o)
    have e : payH (o :: os) = form o ++ payH os := rfl
    rw [e, List.length_append] at hn
    obtain ⟨m, rfl⟩ : ∃ m, n = m + 1 := ⟨n - 1, by omega⟩
    unfold runH
    rw [if_pos (by rw [e, List.length_append, List.length_append]; omega), List.drop_left, e, stepH_form (h o List.mem_cons_self)]
    have ih := runH_pay os (pre ++ form o) (acc ++ [o]) m (fun x hx => h x (List.mem_cons_of_mem _ hx)) (by omega)
    rw [List.length_append, List.append_assoc, List.append_assoc] at ih
    exact ih
theorem outH_pay {os : List Int} (h : ∀ o ∈ os, isOct o) : outH (payH os) = .inl os := by
  have e := runH_pay os [] [] (payH os).length h (Nat.le_refl _)
  exact e
theorem runH_oct {l : List Nat} : ∀ (n p : Nat) (os r : List Int), (∀ o ∈ os, isOct o) → os.length ≤ p → runH l n p os = .inl r → (∀ o ∈ r, isOct o) ∧ r.length ≤ max p l.length
  | 0, p, os, r, h, hp, e => by
    cases e
    exact ⟨h, by omega⟩
  | n + 1, p, os, r, h, hp, e => by
    unfold runH at e
    split at e
    · rename_i pl
      cases hs : stepH (l.drop p) with
      | none => rw [hs] at e; cases e
      | some ok =>
        obtain ⟨o, k⟩ := ok
        rw [hs] at e
        obtain ⟨k1, k2, k3⟩ := stepH_oct hs
        rw [List.length_drop] at k2
        have q := runH_oct n (p + k) (os ++ [o]) r (fun x hx => by
          rcases List.mem_append.mp hx with hx | hx
          · exact h x hx
          · rw [List.mem_singleton.mp hx]; exact k3) (by rw [List.length_append, List.length_singleton]; omega) e
        exact ⟨q.1, by have := q.2; omega⟩
    · cases e
      exact ⟨h, by omega⟩
theorem outH_oct {l : List Nat} {r : List Int} (e : outH l = .inl r) : (∀ o ∈ r, isOct o) ∧ r.length ≤ l.length := by
  have q := runH_oct l.length 0 [] r (fun o h => nomatch h) (Nat.le_refl _) e
  exact ⟨q.1, by have := q.2; omega⟩
/-! #### the coding s -/
def ax (c : Nat) : Option Int := if 65 ≤ c ∧ c ≤ 90 then some ((c : Int) - 65) else if 97 ≤ c ∧ c ≤ 122 then some ((c : Int) - 71) else if 48 ≤ c ∧ c ≤ 57 then some ((c : Int) + 4) else if c = 43 then some 62 else if c = 45 then some 63 else none
theorem ax_alpha {c : Nat} {d : Int} (h : ax c = some d) : c = alpha d ∧ 0 ≤ d ∧ d < 64 := by
  unfold ax at h
  unfold alpha
  split at h
  · have e := Option.some.inj h
    exact ⟨by rw [if_pos (by omega)]; omega, by omega, by omega⟩
  · split at h
    · have e := Option.some.inj h
      exact ⟨by rw [if_neg (by omega), if_pos (by omega)]; omega, by omega, by omega⟩
    · split at h
      · have e := Option.some.inj h
        exact ⟨by rw [if_neg (by omega), if_neg (by omega), if_pos (by omega)]; omega, by omega, by omega⟩
      · split at h
        · have e := Option.some.inj h
          subst e
          exact ⟨by rename_i hc; rw [hc]; decide, by decide, by decide⟩
        · split at h
          · have e := Option.some.inj h
            subst e
            exact ⟨by rename_i hc; rw [hc]; decide, by decide, by decide⟩
          · cases h
theorem ax_of0 : ∀ d : Nat, d < 64 → ax (alpha (d : Int)) = some (d : Int) := by decide +kernel
theorem ax_of {d : Int} (h0 : 0 ≤ d) (h1 : d < 64) : ax (alpha d) = some d := by
  have e := ax_of0 d.toNat (by omega)
  rw [show ((d.toNat : Nat) : Int) = d by omega] at e
  exact e
theorem ax_in0 : ∀ c : Nat, c < 128 → decide (c ∈ cs AL) = (ax c).isSome := by decide +kernel
/-- the digits of signs: all of them, or the first place that has none -/
def digS : List Nat → List Int ⊕ Nat
  | [] => .inl []
  | c :: r => match ax c with
    | none => .inr 0
    | some d => match digS r with
      | .inl ds => .inl (d :: ds)
      | .inr k => .inr (k + 1)
def dS : List Int → List Int
  | a :: b :: c :: d :: r => (4 * a + b / 16) :: (b % 16 * 16 + c / 4) :: (c % 4 * 64 + d) :: dS r
  | [a, b, c] => [4 * a + b / 16, b % 16 * 16 + c / 4]
  | [a, b] => [4 * a + b / 16]
  | _ => []
/-- whether bits are left over -/
def loS : List Int → Bool
  | _ :: _ :: _ :: _ :: r => loS r
  | [_, _, c] => decide (0 < c % 4)
  | [_, b] => decide (0 < b % 16)
  | _ => false
def outS (l : List Nat) : List Int ⊕ Nat := match digS l with
  | .inr k => .inr k
  | .inl ds => if l.length % 4 = 1 then .inr l.length else if loS ds = true then .inr (l.length - 1) else .inl (dS ds)
theorem digS_ok : ∀ {l : List Nat} {ds : List Int}, digS l = .inl ds → l = ds.map alpha ∧ ∀ d ∈ ds, 0 ≤ d ∧ d < 64
  | [], ds, h => by
    cases h
    exact ⟨rfl, fun d hd => nomatch hd⟩
  | c :: r, ds, h => by
    unfold digS at h
    cases hc : ax c with
    | none => rw [hc] at h; cases h
    | some d =>
      rw [hc] at h
      cases hr : digS r with
      | inr k => rw [hr] at h; cases h
      | inl es =>
        rw [hr] at h
        cases h
        obtain ⟨e1, e2⟩ := digS_ok hr
        obtain ⟨a1, a2⟩ := ax_alpha hc
        exact ⟨by rw [List.map_cons, ← a1, ← e1], List.forall_mem_cons.mpr ⟨a2, e2⟩⟩
theorem digS_map : ∀ {ds : List Int}, (∀ d ∈ ds, 0 ≤ d ∧ d < 64) → digS (ds.map alpha) = .inl ds
  | [], _ => rfl
  | d :: ds, h => by
    have hd := h d List.mem_cons_self
    rw [List.map_cons]
    unfold digS
    rw [ax_of hd.1 hd.2, digS_map fun x hx => h x (List.mem_cons_of_mem _ hx)]
theorem digS_bad : ∀ {l : List Nat} {k : Nat}, digS l = .inr k → k < l.length ∧ (∃ c, l[k]? = some c ∧ ax c = none) ∧ ∀ i, i < k → ∃ c d, l[i]? = some c ∧ ax c = some d
  | [], _, h => by cases h
  | c :: r, k, h => by
    unfold digS at h
    cases hc : ax c with
    | none =>
      rw [hc] at h
      cases h
      exact ⟨by simp, ⟨c, rfl, hc⟩, fun i hi => by omega⟩
    | some d =>
      rw [hc] at h
      cases hr : digS r with
      | inl es => rw [hr] at h; cases h
      | inr j =>
        rw [hr] at h
        cases h
        obtain ⟨q1, q2, q3⟩ := digS_bad hr
        refine ⟨by simp only [List.length_cons]; omega, q2, fun i hi => ?_⟩
        cases i with
        | zero => exact ⟨c, d, rfl, hc⟩
        | succ i => exact q3 i (by omega)
theorem dS_b64 : ∀ ds : List Int, (∀ d ∈ ds, 0 ≤ d ∧ d < 64) → ds.length % 4 ≠ 1 → loS ds = false → b64 (dS ds) = ds
  | [], _, _, _ => rfl
  | [_], _, h, _ => absurd rfl h
  | [a, b], k, _, h => by
    have ha := k a (by simp)
    have hb := k b (by simp)
    have h2 := of_decide_eq_false h
    show [(4 * a + b / 16) / 4, (4 * a + b / 16) % 4 * 16] = [a, b]
    simp only [List.cons.injEq, and_true]
    omega
  | [a, b, c], k, _, h => by
    have ha := k a (by simp)
    have hb := k b (by simp)
    have hc := k c (by simp)
    have h2 := of_decide_eq_false h
    show [(4 * a + b / 16) / 4, (4 * a + b / 16) % 4 * 16 + (b % 16 * 16 + c / 4) / 16, (b % 16 * 16 + c / 4) % 16 * 4] = [a, b, c]
    simp only [List.cons.injEq, and_true]
    omega
  | a :: b :: c :: d :: r, k, h, hl => by
    have ha := k a (by simp)
    have hb := k b (by simp)
    have hc := k c (by simp)
    have hd := k d (by simp)
    have ih := dS_b64 r (fun x hx => k x (by simp [hx])) (by simp only [List.length_cons] at h; omega) hl
    show (4 * a + b / 16) / 4 :: ((4 * a + b / 16) % 4 * 16 + (b % 16 * 16 + c / 4) / 16) :: ((b % 16 * 16 + c / 4) % 16 * 4 + (c % 4 * 64 + d) / 64) :: (c % 4 * 64 + d) % 64 :: b64 (dS r) = a :: b :: c :: d :: r
    rw [ih]
    simp only [List.cons.injEq, and_true]
    omega
theorem dS_oct : ∀ ds : List Int, (∀ d ∈ ds, 0 ≤ d ∧ d < 64) → (∀ o ∈ dS ds, isOct o) ∧ (dS ds).length ≤ ds.length
  | [], _ => ⟨fun o h => (nomatch h), Nat.le_refl _⟩
  | [_], _ => ⟨fun o h => (nomatch h), Nat.zero_le _⟩
  | [a, b], k => by
    have ha := k a (by simp)
    have hb := k b (by simp)
    refine ⟨fun o ho => ?_, by show 1 ≤ 2; decide⟩
    obtain rfl := List.mem_singleton.mp (show o ∈ [4 * a + b / 16] from ho)
    unfold isOct
    omega
  | [a, b, c], k => by
    have ha := k a (by simp)
    have hb := k b (by simp)
    have hc := k c (by simp)
    refine ⟨fun o ho => ?_, by show 2 ≤ 3; decide⟩
    have ho : o ∈ [4 * a + b / 16, b % 16 * 16 + c / 4] := ho
    simp only [List.mem_cons, List.mem_nil_iff, or_false] at ho
    unfold isOct
    omega
  | a :: b :: c :: d :: r, k => by
    have ha := k a (by simp)
    have hb := k b (by simp)
    have hc := k c (by simp)
    have hd := k d (by simp)
    obtain ⟨i1, i2⟩ := dS_oct r (fun x hx => k x (by simp [hx]))
    refine ⟨fun o ho => ?_, ?_⟩
    · have ho : o ∈ (4 * a + b / 16) :: (b % 16 * 16 + c / 4) :: (c % 4 * 64 + d) :: dS r := ho
      simp only [List.mem_cons] at ho
      unfold isOct
      rcases ho with rfl | rfl | rfl | ho
      · omega
      · omega
      · omega
      · exact i1 o ho
    · show (dS r).length + 3 ≤ r.length + 4
      omega
theorem dS_inv : ∀ os : List Int, (∀ o ∈ os, isOct o) → dS (b64 os) = os ∧ loS (b64 os) = false
  | [], _ => ⟨rfl, rfl⟩
  | [a], k => by
    have ha := k a (by simp)
    unfold isOct at ha
    refine ⟨?_, ?_⟩
    · show [4 * (a / 4) + a % 4 * 16 / 16] = [a]
      simp only [List.cons.injEq, and_true]
      omega
    · show decide (0 < a % 4 * 16 % 16) = false
      exact decide_eq_false (by omega)
  | [a, b], k => by
    have ha := k a (by simp)
    have hb := k b (by simp)
    unfold isOct at ha hb
    refine ⟨?_, ?_⟩
    · show [4 * (a / 4) + (a % 4 * 16 + b / 16) / 16, (a % 4 * 16 + b / 16) % 16 * 16 + b % 16 * 4 / 4] = [a, b]
      simp only [List.cons.injEq, and_true]
      omega
    · show decide (0 < b % 16 * 4 % 4) = false
      exact decide_eq_false (by omega)
  | a :: b :: c :: r, k => by
    have ha := k a (by simp)
    have hb := k b (by simp)
    have hc := k c (by simp)
    unfold isOct at ha hb hc
    obtain ⟨i1, i2⟩ := dS_inv r fun x hx => k x (by simp [hx])
    refine ⟨?_, i2⟩
    show (4 * (a / 4) + (a % 4 * 16 + b / 16) / 16) :: ((a % 4 * 16 + b / 16) % 16 * 16 + (b % 16 * 4 + c / 64) / 4) :: ((b % 16 * 4 + c / 64) % 4 * 64 + c % 64) :: dS (b64 r) = a :: b :: c :: r
    rw [i1]
    simp only [List.cons.injEq, and_true]
    omega
theorem outS_pay {os : List Int} (h : ∀ o ∈ os, isOct o) : outS (payS os) = .inl os := by
  obtain ⟨e1, e2⟩ := dS_inv os h
  have l := payS_len os
  unfold outS
  rw [show payS os = (b64 os).map alpha from rfl, digS_map (b64_dig os h)]
  simp only
  rw [show ((b64 os).map alpha).length = (payS os).length from rfl, if_neg (by omega), e2, if_neg Bool.false_ne_true, e1]
theorem outS_oct {l : List Nat} {r : List Int} (e : outS l = .inl r) : (∀ o ∈ r, isOct o) ∧ r.length ≤ l.length ∧ payS r = l := by
  unfold outS at e
  cases hd : digS l with
  | inr k => rw [hd] at e; cases e
  | inl ds =>
    rw [hd] at e
    simp only at e
    obtain ⟨l1, l2⟩ := digS_ok hd
    have ll : l.length = ds.length := by rw [l1, List.length_map]
    split at e
    · cases e
    · split at e
      · cases e
      · rename_i n1 n2
        cases e
        have lo : loS ds = false := by
          cases h : loS ds with
          | false => rfl
          | true => exact absurd h n2
        obtain ⟨d1, d2⟩ := dS_oct ds l2
        refine ⟨d1, by omega, ?_⟩
        unfold payS
        rw [dS_b64 ds l2 (by omega) lo, l1]
/-! #### digits as bits, octets out of bits -/
def bits6 (d : Int) : List Nat := W6.map (bitN d)
def eightD : List Nat → List Int
  | a :: b :: c :: d :: e :: f :: g :: h :: r => (128 * bv a + 64 * bv b + 32 * bv c + 16 * bv d + 8 * bv e + 4 * bv f + 2 * bv g + bv h) :: eightD r
  | _ => []
/-- the bits behind the last whole octet -/
def restD : List Nat → List Nat
  | _ :: _ :: _ :: _ :: _ :: _ :: _ :: _ :: r => restD r
  | l => l
theorem eight_dS : ∀ ds : List Int, (∀ d ∈ ds, 0 ≤ d ∧ d < 64) → ds.length % 4 ≠ 1 → eightD (ds.flatMap bits6) = dS ds
  | [], _, _ => rfl
  | [_], _, h => absurd rfl h
  | [a, b], k, _ => by
    have ha := k a (by simp)
    have hb := k b (by simp)
    have e : [a, b].flatMap bits6 = bits6 a ++ bits6 b := by simp
    rw [e]
    show [128 * bv (bitN a 32) + 64 * bv (bitN a 16) + 32 * bv (bitN a 8) + 16 * bv (bitN a 4) + 8 * bv (bitN a 2) + 4 * bv (bitN a 1) + 2 * bv (bitN b 32) + bv (bitN b 16)] = [4 * a + b / 16]
    simp only [bv_bit, List.cons.injEq, and_true]
    omega
  | [a, b, c], k, _ => by
    have ha := k a (by simp)
    have hb := k b (by simp)
    have hc := k c (by simp)
    have e : [a, b, c].flatMap bits6 = bits6 a ++ (bits6 b ++ bits6 c) := by simp
    rw [e]
    show [128 * bv (bitN a 32) + 64 * bv (bitN a 16) + 32 * bv (bitN a 8) + 16 * bv (bitN a 4) + 8 * bv (bitN a 2) + 4 * bv (bitN a 1) + 2 * bv (bitN b 32) + bv (bitN b 16),
      128 * bv (bitN b 8) + 64 * bv (bitN b 4) + 32 * bv (bitN b 2) + 16 * bv (bitN b 1) + 8 * bv (bitN c 32) + 4 * bv (bitN c 16) + 2 * bv (bitN c 8) + bv (bitN c 4)] = [4 * a + b / 16, b % 16 * 16 + c / 4]
    simp only [bv_bit, List.cons.injEq, and_true]
    omega
  | a :: b :: c :: d :: r, k, h => by
    have ha := k a (by simp)
    have hb := k b (by simp)
    have hc := k c (by simp)
    have hd := k d (by simp)
    have ih := eight_dS r (fun x hx => k x (by simp [hx])) (by simp only [List.length_cons] at h; omega)
    have e : (a :: b :: c :: d :: r).flatMap bits6 = bits6 a ++ (bits6 b ++ (bits6 c ++ (bits6 d ++ r.flatMap bits6))) := by simp
    rw [e]
    show (128 * bv (bitN a 32) + 64 * bv (bitN a 16) + 32 * bv (bitN a 8) + 16 * bv (bitN a 4) + 8 * bv (bitN a 2) + 4 * bv (bitN a 1) + 2 * bv (bitN b 32) + bv (bitN b 16)) ::
      (128 * bv (bitN b 8) + 64 * bv (bitN b 4) + 32 * bv (bitN b 2) + 16 * bv (bitN b 1) + 8 * bv (bitN c 32) + 4 * bv (bitN c 16) + 2 * bv (bitN c 8) + bv (bitN c 4)) ::
      (128 * bv (bitN c 2) + 64 * bv (bitN c 1) + 32 * bv (bitN d 32) + 16 * bv (bitN d 16) + 8 * bv (bitN d 8) + 4 * bv (bitN d 4) + 2 * bv (bitN d 2) + bv (bitN d 1)) :: eightD (r.flatMap bits6) = (4 * a + b / 16) :: (b % 16 * 16 + c / 4) :: (c % 4 * 64 + d) :: dS r
    rw [ih]
    simp only [bv_bit, List.cons.injEq, and_true]
    omega
theorem bit49 {o w : Int} : (49 = bitN o w) ↔ o / w % 2 = 1 := by
  unfold bitN
  rcases Int.emod_two_eq (o / w) with h | h <;> rw [h] <;> decide
theorem rest_lo : ∀ ds : List Int, (∀ d ∈ ds, 0 ≤ d ∧ d < 64) → ds.length % 4 ≠ 1 → (49 ∈ restD (ds.flatMap bits6) ↔ loS ds = true)
  | [], _, _ => by simp [restD, loS]
  | [_], _, h => absurd rfl h
  | [a, b], k, _ => by
    have hb := k b (by simp)
    have e : [a, b].flatMap bits6 = bits6 a ++ bits6 b := by simp
    rw [e]
    show 49 ∈ [bitN b 8, bitN b 4, bitN b 2, bitN b 1] ↔ decide (0 < b % 16) = true
    simp only [List.mem_cons, List.mem_nil_iff, or_false, bit49, decide_eq_true_eq]
    omega
  | [a, b, c], k, _ => by
    have hc := k c (by simp)
    have e : [a, b, c].flatMap bits6 = bits6 a ++ (bits6 b ++ bits6 c) := by simp
    rw [e]
    show 49 ∈ [bitN c 2, bitN c 1] ↔ decide (0 < c % 4) = true
    simp only [List.mem_cons, List.mem_nil_iff, or_false, bit49, decide_eq_true_eq]
    omega
  | a :: b :: c :: d :: r, k, h => by
    have ih := rest_lo r (fun x hx => k x (by simp [hx])) (by simp only [List.length_cons] at h; omega)
    have e : (a :: b :: c :: d :: r).flatMap bits6 = bits6 a ++ (bits6 b ++ (bits6 c ++ (bits6 d ++ r.flatMap bits6))) := by simp
    rw [e]
    exact ih
theorem restD_drop : ∀ (n : Nat) (l : List Nat), l.length / 8 = n → restD l = l.drop (8 * n)
  | 0, l, h => by
    have hl : l.length < 8 := by omega
    match l, hl with
    | [], _ => rfl
    | [_], _ => rfl
    | [_, _], _ => rfl
    | [_, _, _], _ => rfl
    | [_, _, _, _], _ => rfl
    | [_, _, _, _, _], _ => rfl
    | [_, _, _, _, _, _], _ => rfl
    | [_, _, _, _, _, _, _], _ => rfl
    | _ :: _ :: _ :: _ :: _ :: _ :: _ :: _ :: _, hl => simp only [List.length_cons] at hl; omega
  | n + 1, a :: b :: c :: d :: e :: f :: g :: h' :: r, h => by
    have h2 : r.length / 8 = n := by simp only [List.length_cons] at h; omega
    show restD r = _
    rw [restD_drop n r h2, show 8 * (n + 1) = 8 * n + 8 by omega]
    rfl
  | n + 1, [], h => by simp at h
  | n + 1, [_], h => by simp at h
  | n + 1, [_, _], h => by simp at h
  | n + 1, [_, _, _], h => by simp at h
  | n + 1, [_, _, _, _], h => by simp at h
  | n + 1, [_, _, _, _, _], h => by simp at h
  | n + 1, [_, _, _, _, _, _], h => by simp at h
  | n + 1, [_, _, _, _, _, _, _], h => by simp at h
theorem eightD_len : ∀ (n : Nat) (l : List Nat), l.length / 8 = n → (eightD l).length = n
  | 0, l, h => by
    have hl : l.length < 8 := by omega
    match l, hl with
    | [], _ => rfl
    | [_], _ => rfl
    | [_, _], _ => rfl
    | [_, _, _], _ => rfl
    | [_, _, _, _], _ => rfl
    | [_, _, _, _, _], _ => rfl
    | [_, _, _, _, _, _], _ => rfl
    | [_, _, _, _, _, _, _], _ => rfl
    | _ :: _ :: _ :: _ :: _ :: _ :: _ :: _ :: _, hl => simp only [List.length_cons] at hl; omega
  | n + 1, a :: b :: c :: d :: e :: f :: g :: h' :: r, h => by
    have h2 : r.length / 8 = n := by simp only [List.length_cons] at h; omega
    show (eightD r).length + 1 = _
    rw [eightD_len n r h2]
  | n + 1, [], h => by simp at h
  | n + 1, [_], h => by simp at h
  | n + 1, [_, _], h => by simp at h
  | n + 1, [_, _, _], h => by simp at h
  | n + 1, [_, _, _, _], h => by simp at h
  | n + 1, [_, _, _, _, _], h => by simp at h
  | n + 1, [_, _, _, _, _, _], h => by simp at h
  | n + 1, [_, _, _, _, _, _, _], h => by simp at h
/-- the octet of the eight bits at 8·i -/
theorem eightD_at : ∀ (i : Nat) (l : List Nat), 8 * i + 8 ≤ l.length → ∃ a b c d e f g h, (∀ j, j < 8 → l[8 * i + j]? = [a, b, c, d, e, f, g, h][j]?) ∧ (eightD l)[i]? = some (128 * bv a + 64 * bv b + 32 * bv c + 16 * bv d + 8 * bv e + 4 * bv f + 2 * bv g + bv h)
  | 0, a :: b :: c :: d :: e :: f :: g :: h :: r, _ => ⟨a, b, c, d, e, f, g, h, fun j hj => by
    rw [Nat.mul_zero, Nat.zero_add]
    match j, hj with
    | 0, _ => rfl
    | 1, _ => rfl
    | 2, _ => rfl
    | 3, _ => rfl
    | 4, _ => rfl
    | 5, _ => rfl
    | 6, _ => rfl
    | 7, _ => rfl, rfl⟩
  | i + 1, a :: b :: c :: d :: e :: f :: g :: h' :: r, h => by
    have h2 : 8 * i + 8 ≤ r.length := by simp only [List.length_cons] at h; omega
    obtain ⟨a', b', c', d', e', f', g', h'', h4, h5⟩ := eightD_at i r h2
    refine ⟨a', b', c', d', e', f', g', h'', fun j hj => ?_, h5⟩
    rw [show 8 * (i + 1) + j = 8 * i + j + 8 by omega]
    exact h4 j hj
  | _, [], h => by simp at h
  | _, [_], h => by simp at h
  | _, [_, _], h => by simp at h
  | _, [_, _, _], h => by simp at h
  | _, [_, _, _, _], h => by simp at h
  | _, [_, _, _, _, _], h => by simp at h
  | _, [_, _, _, _, _, _], h => by simp at h
  | _, [_, _, _, _, _, _, _], h => by simp at h
theorem sum8 (b : Nat → Bool) : (((List.range 8).filter b).map fun j => W8.getD j 0).sum = 128 * (if b 0 = true then 1 else 0) + 64 * (if b 1 = true then 1 else 0) + 32 * (if b 2 = true then 1 else 0) + 16 * (if b 3 = true then 1 else 0) + 8 * (if b 4 = true then 1 else 0) + 4 * (if b 5 = true then 1 else 0) + 2 * (if b 6 = true then 1 else 0) + (if b 7 = true then 1 else 0) := by
  rw [show List.range 8 = [0, 1, 2, 3, 4, 5, 6, 7] from rfl]
  simp only [List.filter_cons, List.filter_nil]
  cases b 0 <;> cases b 1 <;> cases b 2 <;> cases b 3 <;> cases b 4 <;> cases b 5 <;> cases b 6 <;> cases b 7 <;> rfl
end Law
namespace Law
open PySem L2 Hf
theorem dS_app : ∀ (n : Nat) (a b : List Int), a.length = 4 * n → dS (a ++ b) = dS a ++ dS b ∧ loS (a ++ b) = loS b
  | 0, [], b, _ => ⟨rfl, rfl⟩
  | n + 1, x :: y :: z :: w :: r, b, h => by
    have h2 : r.length = 4 * n := by simp only [List.length_cons] at h; omega
    obtain ⟨i1, i2⟩ := dS_app n r b h2
    refine ⟨?_, i2⟩
    show _ :: _ :: _ :: dS (r ++ b) = _
    rw [i1]
    rfl
  | n + 1, [], b, h => by simp at h
  | n + 1, [_], b, h => by simp at h; omega
  | n + 1, [_, _], b, h => by simp at h; omega
  | n + 1, [_, _, _], b, h => by simp at h; omega
/-- the digits at 4·i -/
theorem grp4 (ds : List Int) (i : Nat) (h : i < (ds.length + 3) / 4) (n : ds.length % 4 ≠ 1) : (∃ a b c d, (ds.drop (4 * i)).take 4 = [a, b, c, d]) ∨ ((∃ a b c, (ds.drop (4 * i)).take 4 = [a, b, c]) ∨ (∃ a b, (ds.drop (4 * i)).take 4 = [a, b])) ∧ ds.length ≤ 4 * i + 4 := by
  have l : ((ds.drop (4 * i)).take 4).length = min 4 (ds.length - 4 * i) := by rw [List.length_take, List.length_drop]
  generalize (ds.drop (4 * i)).take 4 = g at l
  match g, l with
  | [], l => simp at l; omega
  | [a], l => simp at l; omega
  | [a, b], l => exact .inr ⟨.inr ⟨a, b, rfl⟩, by simp at l; omega⟩
  | [a, b, c], l => exact .inr ⟨.inl ⟨a, b, c, rfl⟩, by simp at l; omega⟩
  | [a, b, c, d], _ => exact .inl ⟨a, b, c, d, rfl⟩
  | _ :: _ :: _ :: _ :: _ :: _, l => simp at l; omega
end Law
namespace Law
open PySem L2 Hf
theorem getD_at {l : List Nat} {i c : Nat} (h : l[i]? = some c) : l.getD i 0 = c := by rw [List.getD_eq_getElem?_getD, h]; rfl
theorem filt_ok {l : List Nat} {ds : List Int} (h : digS l = .inl ds) : (List.range l.length).filter (fun j => (ax (l.getD j 0)).isNone) = [] := by
  obtain ⟨e, k⟩ := digS_ok h
  rw [List.filter_eq_nil_iff]
  intro j hj
  have hj := List.mem_range.mp hj
  have m : l.getD j 0 ∈ l := by
    rw [List.getD_eq_getElem?_getD, List.getElem?_eq_getElem hj]
    exact List.getElem_mem hj
  rw [e] at m
  obtain ⟨d, hd, e2⟩ := List.mem_map.mp m
  rw [← e] at e2
  rw [← e2, ax_of (k d hd).1 (k d hd).2]
  simp
theorem filt_bad {l : List Nat} {k : Nat} (h : digS l = .inr k) : ∃ r, (List.range l.length).filter (fun j => (ax (l.getD j 0)).isNone) = k :: r := by
  obtain ⟨kl, ⟨c, hc, ac⟩, bf⟩ := digS_bad h
  have e : List.range l.length = List.range k ++ (List.range (l.length - k)).map (k + ·) := by
    rw [← List.range_add, show k + (l.length - k) = l.length by omega]
  have z : (List.range k).filter (fun j => (ax (l.getD j 0)).isNone) = [] := by
    rw [List.filter_eq_nil_iff]
    intro j hj
    obtain ⟨c', d', h1, h2⟩ := bf j (List.mem_range.mp hj)
    rw [getD_at h1, h2]
    simp
  obtain ⟨m, hm⟩ : ∃ m, l.length - k = m + 1 := ⟨l.length - k - 1, by omega⟩
  rw [e, List.filter_append, z, List.nil_append, hm, List.range_succ_eq_map, List.map_cons, Nat.add_zero, List.filter_cons, getD_at hc, ac]
  exact ⟨_, rfl⟩
theorem flat_bits {l : List Nat} {ds : List Int} (h : digS l = .inl ds) (f : Nat → Int) (hf : ∀ d, 0 ≤ d → d < 64 → f (alpha d) = d) : l.flatMap (fun c => bits6 (f c)) = ds.flatMap bits6 := by
  obtain ⟨e, k⟩ := digS_ok h
  rw [e]
  clear e h
  induction ds with
  | nil => rfl
  | cons d ds ih =>
    have hd := k d List.mem_cons_self
    rw [List.map_cons, List.flatMap_cons, List.flatMap_cons, hf d hd.1 hd.2, ih fun x hx => k x (List.mem_cons_of_mem _ hx)]
theorem bits6_len : ∀ ds : List Int, (ds.flatMap bits6).length = 6 * ds.length
  | [] => rfl
  | d :: ds => by
    rw [List.flatMap_cons, List.length_append, bits6_len ds, List.length_cons]
    show 6 + _ = _
    omega
end Law
namespace Law
open PySem L2 Hf PySem.Spec PyProof.Rows
def topS (i : Nat) : Stmt := PySem.Challenge.pw_headerfold_k10_payloads_read.main.body.getD i (.Pass ⟨0, 0, 0, 0⟩)
abbrev s_law_begin : Stmt := topS 22
theorem sc_law_begin : FnScope ["script"] ["script"] (defScope s_law_begin) := ⟨rfl, rfl, rfl, by decide +kernel, rfl, by decide +kernel, by decide +kernel⟩
abbrev s_law_mixed : Stmt := topS 23
theorem sc_law_mixed : FnScope ["cell", "k", "mixed"] ["cell", "k"] (defScope s_law_mixed) := ⟨rfl, rfl, rfl, by decide +kernel, rfl, by decide +kernel, by decide +kernel⟩
abbrev s_law_next : Stmt := topS 24
theorem sc_law_next : FnScope ["draw", "bound", "found", "cells", "cell"] ["draw", "bound"] (defScope s_law_next) := ⟨rfl, rfl, rfl, by decide +kernel, rfl, by decide +kernel, by decide +kernel⟩
abbrev s_is_integer : Stmt := topS 7
theorem sc_is_integer : FnScope ["thing"] ["thing"] (defScope s_is_integer) := ⟨rfl, rfl, rfl, by decide +kernel, rfl, by decide +kernel, by decide +kernel⟩
abbrev s_check_coding : Stmt := topS 13
theorem sc_check_coding : FnScope ["coding"] ["coding"] (defScope s_check_coding) := ⟨rfl, rfl, rfl, by decide +kernel, rfl, by decide +kernel, by decide +kernel⟩
abbrev s_check_octets : Stmt := topS 14
theorem sc_check_octets : FnScope ["octets", "place", "octet"] ["octets"] (defScope s_check_octets) := ⟨rfl, rfl, rfl, by decide +kernel, rfl, by decide +kernel, by decide +kernel⟩
abbrev s_form_of : Stmt := topS 15
theorem sc_form_of : FnScope ["octet", "sign"] ["octet"] (defScope s_form_of) := ⟨rfl, rfl, rfl, by decide +kernel, rfl, by decide +kernel, by decide +kernel⟩
abbrev s_bits_written : Stmt := topS 16
theorem sc_bits_written : FnScope ["octets", "found", "start", "group", "one", "two", "three", "number", "digits", "digit"] ["octets"] (defScope s_bits_written) := ⟨rfl, rfl, rfl, by decide +kernel, rfl, by decide +kernel, by decide +kernel⟩
abbrev s_payload_of : Stmt := topS 17
theorem sc_payload_of : FnScope ["coding", "octets", "octet"] ["coding", "octets"] (defScope s_payload_of) := ⟨rfl, rfl, rfl, by decide +kernel, rfl, by decide +kernel, by decide +kernel⟩
abbrev s_forms_read : Stmt := topS 18
theorem sc_forms_read : FnScope ["payload", "found", "at", "sign", "pair"] ["payload"] (defScope s_forms_read) := ⟨rfl, rfl, rfl, by decide +kernel, rfl, by decide +kernel, by decide +kernel⟩
abbrev s_bits_read : Stmt := topS 19
theorem sc_bits_read : FnScope ["payload", "place", "sign", "found", "start", "digits", "one", "two", "three", "four", "number", "octets"] ["payload"] (defScope s_bits_read) := ⟨rfl, rfl, rfl, by decide +kernel, rfl, by decide +kernel, by decide +kernel⟩
abbrev s_octets_of : Stmt := topS 20
theorem sc_octets_of : FnScope ["coding", "payload"] ["coding", "payload"] (defScope s_octets_of) := ⟨rfl, rfl, rfl, by decide +kernel, rfl, by decide +kernel, by decide +kernel⟩
abbrev s_law_letters : Stmt := topS 25
theorem sc_law_letters : FnScope [] [] (defScope s_law_letters) := ⟨rfl, rfl, rfl, by decide +kernel, rfl, by decide +kernel, by decide +kernel⟩
abbrev s_law_bits : Stmt := topS 26
theorem sc_law_bits : FnScope ["number", "weights", "weight"] ["number", "weights"] (defScope s_law_bits) := ⟨rfl, rfl, rfl, by decide +kernel, rfl, by decide +kernel, by decide +kernel⟩
abbrev s_law_forms : Stmt := topS 27
theorem sc_law_forms : FnScope ["signs", "found", "at", "digits", "sign", "pair", "one"] ["signs"] (defScope s_law_forms) := ⟨rfl, rfl, rfl, by decide +kernel, rfl, by decide +kernel, by decide +kernel⟩
abbrev s_law_octets : Stmt := topS 28
theorem sc_law_octets : FnScope ["way", "signs", "wrong", "bits", "many", "weights", "found", "k", "sign", "j"] ["way", "signs"] (defScope s_law_octets) := ⟨rfl, rfl, rfl, by decide +kernel, rfl, by decide +kernel, by decide +kernel⟩
abbrev s_law_told : Stmt := topS 29
theorem sc_law_told : FnScope ["deed", "error", "found", "e"] ["deed"] (defScope s_law_told) := ⟨rfl, rfl, rfl, by decide +kernel, rfl, by decide +kernel, by decide +kernel⟩
abbrev s_law_bent : Stmt := topS 30
theorem sc_law_bent : FnScope ["draw", "signs", "at", "way", "one"] ["draw", "signs"] (defScope s_law_bent) := ⟨rfl, rfl, rfl, by decide +kernel, rfl, by decide +kernel, by decide +kernel⟩
abbrev s_law_right : Stmt := topS 31
theorem sc_law_right : FnScope ["way", "signs", "due", "told"] ["way", "signs"] (defScope s_law_right) := ⟨rfl, rfl, rfl, by decide +kernel, rfl, by decide +kernel, by decide +kernel⟩
abbrev s_law : Stmt := topS 32
theorem sc_law : FnScope ["script", "draw", "bout", "row", "way", "signs", "turn", "odd", "told", "other", "k"] ["script"] (defScope s_law) := ⟨rfl, rfl, rfl, by decide +kernel, rfl, by decide +kernel, by decide +kernel⟩
end Law
namespace Law
open PySem Hf
open L2 (V)
abbrev RR : PySem.W.OpenRow := PySem.W.OpenLaw.row PySem.Challenge.rw_headerfold_k10_payloads_read
abbrev D_law_begin : FD := ⟨gAd "_law_begin", "_law_begin", "_law_begin", L2.defArgs s_law_begin, L2.defBody s_law_begin, L2.defScope s_law_begin, [], [], []⟩
abbrev D_law_mixed : FD := ⟨gAd "_law_mixed", "_law_mixed", "_law_mixed", L2.defArgs s_law_mixed, L2.defBody s_law_mixed, L2.defScope s_law_mixed, [], [], []⟩
abbrev D_law_next : FD := ⟨gAd "_law_next", "_law_next", "_law_next", L2.defArgs s_law_next, L2.defBody s_law_next, L2.defScope s_law_next, [], [], []⟩
abbrev D_is_integer : FD := ⟨gAd "is_integer", "is_integer", "is_integer", L2.defArgs s_is_integer, L2.defBody s_is_integer, L2.defScope s_is_integer, [], [], []⟩
abbrev D_check_coding : FD := ⟨gAd "check_coding", "check_coding", "check_coding", L2.defArgs s_check_coding, L2.defBody s_check_coding, L2.defScope s_check_coding, [], [], []⟩
abbrev D_check_octets : FD := ⟨gAd "check_octets", "check_octets", "check_octets", L2.defArgs s_check_octets, L2.defBody s_check_octets, L2.defScope s_check_octets, [], [], []⟩
abbrev D_form_of : FD := ⟨gAd "form_of", "form_of", "form_of", L2.defArgs s_form_of, L2.defBody s_form_of, L2.defScope s_form_of, [], [], []⟩
abbrev D_bits_written : FD := ⟨gAd "bits_written", "bits_written", "bits_written", L2.defArgs s_bits_written, L2.defBody s_bits_written, L2.defScope s_bits_written, [], [], []⟩
abbrev D_payload_of : FD := ⟨gAd "payload_of", "payload_of", "payload_of", L2.defArgs s_payload_of, L2.defBody s_payload_of, L2.defScope s_payload_of, [], [], []⟩
abbrev D_forms_read : FD := ⟨gAd "forms_read", "forms_read", "forms_read", L2.defArgs s_forms_read, L2.defBody s_forms_read, L2.defScope s_forms_read, [], [], []⟩
abbrev D_bits_read : FD := ⟨gAd "bits_read", "bits_read", "bits_read", L2.defArgs s_bits_read, L2.defBody s_bits_read, L2.defScope s_bits_read, [], [], []⟩
abbrev D_octets_of : FD := ⟨gAd "octets_of", "octets_of", "octets_of", L2.defArgs s_octets_of, L2.defBody s_octets_of, L2.defScope s_octets_of, [], [], []⟩
abbrev D_law_letters : FD := ⟨gAd "_law_letters", "_law_letters", "_law_letters", L2.defArgs s_law_letters, L2.defBody s_law_letters, L2.defScope s_law_letters, [], [], []⟩
abbrev D_law_bits : FD := ⟨gAd "_law_bits", "_law_bits", "_law_bits", L2.defArgs s_law_bits, L2.defBody s_law_bits, L2.defScope s_law_bits, [], [], []⟩
abbrev D_law_forms : FD := ⟨gAd "_law_forms", "_law_forms", "_law_forms", L2.defArgs s_law_forms, L2.defBody s_law_forms, L2.defScope s_law_forms, [], [], []⟩
abbrev D_law_octets : FD := ⟨gAd "_law_octets", "_law_octets", "_law_octets", L2.defArgs s_law_octets, L2.defBody s_law_octets, L2.defScope s_law_octets, [], [], []⟩
abbrev D_law_told : FD := ⟨gAd "_law_told", "_law_told", "_law_told", L2.defArgs s_law_told, L2.defBody s_law_told, L2.defScope s_law_told, [], [], []⟩
abbrev D_law_bent : FD := ⟨gAd "_law_bent", "_law_bent", "_law_bent", L2.defArgs s_law_bent, L2.defBody s_law_bent, L2.defScope s_law_bent, [], [], []⟩
abbrev D_law_right : FD := ⟨gAd "_law_right", "_law_right", "_law_right", L2.defArgs s_law_right, L2.defBody s_law_right, L2.defScope s_law_right, [], [], []⟩
abbrev D_law : FD := ⟨gAd "law", "law", "law", L2.defArgs s_law, L2.defBody s_law, L2.defScope s_law, [], [], []⟩
abbrev X_BadCoding : FD := ⟨mAd "BadCoding" "__init__", "__init__", "BadCoding.__init__", L2.defArgs (clsAt (topS 4) 0), L2.defBody (clsAt (topS 4) 0), L2.defScope (clsAt (topS 4) 0), [("__class__" : Str)], [], []⟩
abbrev X_BadOctet : FD := ⟨mAd "BadOctet" "__init__", "__init__", "BadOctet.__init__", L2.defArgs (clsAt (topS 2) 0), L2.defBody (clsAt (topS 2) 0), L2.defScope (clsAt (topS 2) 0), [("__class__" : Str)], [], []⟩
abbrev X_BadPayload : FD := ⟨mAd "BadPayload" "__init__", "__init__", "BadPayload.__init__", L2.defArgs (clsAt (topS 3) 0), L2.defBody (clsAt (topS 3) 0), L2.defScope (clsAt (topS 3) 0), [("__class__" : Str)], [], []⟩
def fds : List FD := ([D_law_begin, D_law_mixed, D_law_next, D_is_integer, D_check_coding, D_check_octets, D_form_of, D_bits_written, D_payload_of, D_forms_read, D_bits_read, D_octets_of, D_law_letters, D_law_bits, D_law_forms, D_law_octets, D_law_told, D_law_bent, D_law_right, D_law, X_BadCoding, X_BadOctet, X_BadPayload] : List FD)
def pls : List FD := ([D_law_begin, D_law_mixed, D_law_next, D_is_integer, D_check_coding, D_check_octets, D_form_of, D_bits_written, D_payload_of, D_forms_read, D_bits_read, D_octets_of, D_law_letters, D_law_bits, D_law_forms, D_law_octets, D_law_told, D_law_bent, D_law_right, D_law] : List FD)
def fcs : List Fc := ([.glo "_law_begin", .glo "_law_mixed", .glo "_law_next", .glo "is_integer", .glo "check_coding", .glo "check_octets", .glo "form_of", .glo "bits_written", .glo "payload_of", .glo "forms_read", .glo "bits_read", .glo "octets_of", .glo "_law_letters", .glo "_law_bits", .glo "_law_forms", .glo "_law_octets", .glo "_law_told", .glo "_law_bent", .glo "_law_right", .glo "law", .free "bool", .free "enumerate", .free "int", .free "isinstance", .free "len", .free "list", .free "ord", .free "range", .free "repr", .free "str", .free "sum", .free "tuple", .con "MARKS" (V.str " !\"#$&'()*+,-./0123456789:;<=>?@ABCDEFGHIJKLMNOPQRSTUVWXYZ[\\]^_`abcdefghijklmnopqrstuvwxyz{|}~"), .tup "CODINGS" [V.str "h", V.str "s"], .con "ALPHABET" (V.str "ABCDEFGHIJKLMNOPQRSTUVWXYZabcdefghijklmnopqrstuvwxyz0123456789+-"), .con "LITERALS" (V.str "ABCDEFGHIJKLMNOPQRSTUVWXYZabcdefghijklmnopqrstuvwxyz0123456789")] : List Fc) ++ ([.con "DIGITS" (V.str "0123456789ABCDEF"), .glo "BadCoding", .glo "BadPayload", .xc PySem.Challenge.pw_headerfold_k10_payloads_read.main.file "BadCoding" "given" [.type "ValueError", .type "Exception", .type "BaseException", .type "object"] "ValueError" "ValueError.__new__" "ValueError.__init__", .xc PySem.Challenge.pw_headerfold_k10_payloads_read.main.file "BadOctet" "place" [.type "ValueError", .type "Exception", .type "BaseException", .type "object"] "ValueError" "ValueError.__new__" "ValueError.__init__", .xc PySem.Challenge.pw_headerfold_k10_payloads_read.main.file "BadPayload" "place" [.type "ValueError", .type "Exception", .type "BaseException", .type "object"] "ValueError" "ValueError.__new__" "ValueError.__init__", .exm "BadCoding" ["BadCoding", "BadPayload"], .exm "BadPayload" ["BadCoding", "BadPayload"], .kit "BadCoding" "BadCoding" true, .kit "BadPayload" "BadCoding" false] : List Fc)
def tf : List (Str × Option Str) := [("_law_right", none), ("law", none)]
abbrev hk : PySem.W.Hook := hookH 5 fds pls fcs tf
def ob (s : PySem.W.SharedT) : AlH := obsH 5 fds pls fcs tf (HandSHeadRun.getT s)
theorem ob_eq (s : PySem.W.SharedT) : ob s = hk.obs s.abs := obsH_eq (HandSHeadRun.getT_eq s)
def nms : List Str := ([("HeaderError" : Str), ("BadOctet" : Str), ("BadPayload" : Str), ("BadCoding" : Str), ("MARKS" : Str), ("is_integer" : Str), ("CODINGS" : Str), ("ALPHABET" : Str), ("LITERALS" : Str), ("DIGITS" : Str), ("check_coding" : Str), ("check_octets" : Str), ("form_of" : Str), ("bits_written" : Str), ("payload_of" : Str), ("forms_read" : Str), ("bits_read" : Str), ("octets_of" : Str), ("_law_begin" : Str), ("_law_mixed" : Str), ("_law_next" : Str), ("_law_letters" : Str), ("_law_bits" : Str), ("_law_forms" : Str), ("_law_octets" : Str), ("_law_told" : Str), ("_law_bent" : Str), ("_law_right" : Str)] : List Str)
abbrev qv : Program := PySem.W.view RR.prog [32]
set_option maxRecDepth 100000 in
set_option maxHeartbeats 0 in
theorem run (w : World) : HandSHeadRun.RunEq RR qv hk ob 40000 nms w := by
  intro os
  kernel_rfl
end Law
namespace Law
open PySem L2 Hf PySem.Spec PyProof.Rows
local macro_rules
  | `(tactic| fail "many") => `(tactic| (intro xs H Q E h; repeat (first | exact congrArg List.length h.1 | obtain ⟨_, h⟩ := h)))
  | `(tactic| fail "drstep") => `(tactic| with_reducible first | apply DrawAt.same (by assumption) | apply DrawAt.new (by assumption))
  | `(tactic| fail "dr") => `(tactic| with_reducible first | assumption | ((fail "drstep"); fail "dr"))
  | `(tactic| fail "dru") => `(tactic| exact DrawAt.up (by with_reducible (fail "dr")) (by omega))
  | `(tactic| fail "ne") => `(tactic| with_reducible first | assumption | (apply Ne.symm; assumption) | (apply Ne.symm; apply ne_of_none ?_ (by assumption); fail "h") | (apply ne_of_none ?_ (by assumption); fail "h"))
  | `(tactic| fail "hstep") => `(tactic| with_reducible first | apply Same.at_ (by assumption) | apply Keep.at_ (by assumption) (by fail "dr") | apply upd_new (by assumption) | apply upd_off (by fail "ne"))
  | `(tactic| fail "h") => `(tactic| with_reducible first | assumption | exact upd_same | ((fail "hstep"); fail "h"))
  | `(tactic| fail "sqstep") => `(tactic| with_reducible first | apply Same.seq (by assumption) | apply Same.seqT (by assumption) | apply Keep.seq (by assumption) (by fail "dr") | apply Keep.seqT (by assumption) (by fail "dr") | apply seq_new (by assumption) | apply seqT_new (by assumption))
  | `(tactic| fail "sq") => `(tactic| with_reducible first | assumption | (apply SqL.of; first | assumption | exact upd_same) | (apply SqT.of; first | assumption | exact upd_same) | ((fail "sqstep"); fail "sq") | (apply SqL.of; fail "h") | (apply SqT.of; fail "h"))
  | `(tactic| fail "free") => `(tactic| with_reducible first | assumption | ((refine Same.free (H' := ?_) ?_ (by assumption)); fail "same"))
  | `(tactic| fail "free2") => `(tactic| with_reducible first | assumption | (apply Same.free (by assumption); fail "free2") | (apply free_upd; fail "free2"))
  | `(tactic| fail "samestep") => `(tactic| with_reducible first | apply Same.trans ?_ (by assumption) | apply Same.new (by assumption) | apply Same.upd (by fail "free") | apply Same.put (by fail "free2"))
  | `(tactic| fail "same") => `(tactic| with_reducible first | assumption | exact Same.refl _ | ((fail "samestep"); fail "same"))
  | `(tactic| fail "keepstep") => `(tactic| with_reducible first | apply Keep.trans ?_ (by assumption) | apply Keep.same ?_ (by assumption) | apply Keep.fresh (by assumption) | apply Keep.set)
  | `(tactic| fail "keep") => `(tactic| with_reducible first | assumption | exact Keep.refl _ _ | ((fail "keepstep"); fail "keep"))
  | `(tactic| fail "dp") => `(tactic| with_reducible first | assumption | exact Dp.non | exact Dp.bl _ | exact Dp.int _ | exact Dp.str _ | (apply Dp.lst; (fail "sq"); fail "dp") | (apply Dp.tup; (fail "sq"); fail "dp") | exact DpAll.nil | (apply DpAll.cons; (fail "dp"); fail "dp"))
  | `(tactic| fail "sz") => `(tactic| first | assumption | (simp only [List.length_cons, List.length_nil, List.length_append]; omega) | omega)
  | `(tactic| fail "cmul") => `(tactic| first | exact Or.inl ⟨by omega, by omega⟩ | exact Or.inr ⟨by omega, by omega⟩)
  | `(tactic| fail "sh") => `(tactic| first | exact Sh.non | exact Sh.bl _ | (refine Sh.int ?_; omega) | (apply Sh.list; fail "sh") | (apply Sh.tup; fail "sh") | exact Shs.nil | (apply Shs.cons; (fail "sh"); fail "sh"))
  | `(tactic| fail "all") => `(tactic| repeat (first | exact List.forall_mem_nil _ | refine List.forall_mem_cons.mpr ⟨⟨_, rfl, by omega, by omega⟩, ?_⟩))
local macro_rules
  | `(tactic| fail "as") => `(tactic| first | (with_reducible first | assumption | (apply As.cut; fail "as")) | (with_reducible apply As.app; (fail "as"); fail "as") | (refine As.of (n := 1) ?_ ?_ <;> decide) | (refine As.of (n := 100) ?_ ?_ <;> decide))
  | `(tactic| fail "line") => `(tactic| first | decide | (refine As.line (by fail "as") ?_; omega))
  | `(tactic| fail "line2") => `(tactic| first | decide | (refine As.line2 (by fail "as") (by fail "as") ?_; omega))
  | `(tactic| fail "allS") => `(tactic| repeat (first | exact List.forall_mem_nil _ | refine List.forall_mem_cons.mpr ⟨⟨_, rfl, by decide +kernel, by decide +kernel⟩, ?_⟩))
  | `(tactic| fail "szA") => `(tactic| ((show _ ≤ _); (refine Nat.le_trans (?_ : _ ≤ 100000) (by decide)); simp only [List.length_cons, List.length_nil, List.length_append]; omega))
  | `(tactic| fail "sgn") => `(tactic| with_reducible first | exact rfl | exact sg_c10 | exact sg_c32 | exact sg_c33 | exact sg_c34 | exact sg_c35 | exact sg_c36 | exact sg_c37 | exact sg_c38 | exact sg_c39 | exact sg_c40 | exact sg_c41 | exact sg_c42 | exact sg_c43 | exact sg_c44 | exact sg_c45 | exact sg_c46 | exact sg_c47 | exact sg_c48 | exact sg_c49 | exact sg_c50 | exact sg_c51 | exact sg_c52 | exact sg_c53 | exact sg_c54 | exact sg_c55 | exact sg_c56 | exact sg_c57 | exact sg_c58 | exact sg_c59 | exact sg_c60 | exact sg_c61 | exact sg_c62 | exact sg_c63 | exact sg_c64 | exact sg_c65 | exact sg_c66 | exact sg_c67 | exact sg_c68 | exact sg_c69 | exact sg_c70 | exact sg_c71 | exact sg_c72 | exact sg_c73 | exact sg_c74 | exact sg_c75 | exact sg_c76 | exact sg_c77 | exact sg_c78 | exact sg_c79 | exact sg_c80 | exact sg_c81 | exact sg_c82 | exact sg_c83 | exact sg_c84 | exact sg_c85 | exact sg_c86 | exact sg_c87 | exact sg_c88 | exact sg_c89 | exact sg_c90 | exact sg_c91 | exact sg_c92 | exact sg_c93 | exact sg_c94 | exact sg_c95 | exact sg_c96 | exact sg_c97 | exact sg_c98 | exact sg_c99 | exact sg_c100 | exact sg_c101 | exact sg_c102 | exact sg_c103 | exact sg_c104 | exact sg_c105 | exact sg_c106 | exact sg_c107 | exact sg_c108 | exact sg_c109 | exact sg_c110 | exact sg_c111 | exact sg_c112 | exact sg_c113 | exact sg_c114 | exact sg_c115 | exact sg_c116 | exact sg_c117 | exact sg_c118 | exact sg_c119 | exact sg_c120 | exact sg_c121 | exact sg_c122 | exact sg_c123 | exact sg_c124 | exact sg_c125 | exact sg_c126)
  | `(tactic| fail "allI") => `(tactic| repeat (first | exact List.forall_mem_nil _ | refine List.forall_mem_cons.mpr ⟨⟨_, rfl⟩, ?_⟩))
  | `(tactic| fail "bd") => `(tactic| (rw [Bool.eq_iff_iff]; simp <;> omega))
local macro_rules
  | `(tactic| fail "kit") => `(tactic| with_reducible first | exact k_NoneType_str | exact k_NoneType_int | exact k_NoneType_bool | exact k_NoneType_tuple | exact k_NoneType_list | exact k_NoneType_dict | exact k_bool_str | exact k_bool_int | exact k_bool_bool | exact k_bool_tuple | exact k_bool_list | exact k_bool_dict | exact k_tuple_str | exact k_tuple_int | exact k_tuple_bool | exact k_tuple_tuple | exact k_tuple_list | exact k_tuple_dict | exact k_list_str | exact k_list_int | exact k_list_bool | exact k_list_tuple | exact k_list_list | exact k_list_dict | exact k_dict_str | exact k_dict_int | exact k_dict_bool | exact k_dict_tuple | exact k_dict_list | exact k_dict_dict | exact k_int_str | exact k_int_int | exact k_int_bool | exact k_int_tuple | exact k_int_list | exact k_int_dict | exact k_str_str | exact k_str_int | exact k_str_bool | exact k_str_tuple | exact k_str_list | exact k_str_dict)
  | `(tactic| fail "ty") => `(tactic| with_reducible first | exact TyX.base .non | exact TyX.base (.bl _) | exact TyX.base (.int _) | exact TyX.base (.str _) | assumption | (apply tyx_same (by assumption); fail "ty") | (apply TyX.base; apply TyOf.lst; fail "h") | (apply TyX.base; apply TyOf.tup; fail "h") | (apply TyX.base; apply TyOf.dK; fail "h"))
local macro_rules
  | `(tactic| fail "dq") => `(tactic| with_reducible first | assumption | exact Dq.non | exact Dq.bl _ | exact Dq.int _ | exact Dq.str _ | (apply Dq.lst; (fail "sq"); fail "dq") | (apply Dq.tup; (fail "sq"); fail "dq") | (apply Dq.dct; fail "h") | exact DqAll.nil | (apply DqAll.cons; (fail "dq"); fail "dq") | ((apply Dq.same); (assumption); fail "dq") | ((apply Dq.new); (assumption); fail "dq") | (apply Dq.of; fail "dp"))
  | `(tactic| fail "szq") => `(tactic| first | assumption | exact Sz.non | exact Sz.bl _ | (refine Sz.int ?_; omega) | exact Sz.dct | (with_reducible apply Sz.list; fail "szq") | (with_reducible apply Sz.tup; fail "szq") | exact Szs.nil | (with_reducible apply Szs.cons; (fail "szq"); fail "szq") | (refine Sz.str (n := 100) ?_ ?_ <;> decide))
local macro_rules | `(tactic| fail "go1") => `(tactic| first
  | ((with_reducible apply g_var); (exact rfl))
  | with_reducible refine g_c ?_
  | with_reducible refine g_op ?_
  | with_reducible refine g_test ?_
  | with_reducible refine g_tB ?_
  | with_reducible refine g_bl ?_
  | with_reducible refine g_and ?_
  | with_reducible refine g_or ?_
  | with_reducible refine g_not ?_
  | with_reducible refine g_andV ?_
  | with_reducible refine g_orV ?_
  | with_reducible refine g_notV ?_
  | with_reducible refine g_ifE ?_
  | with_reducible refine g_chain ?_
  | with_reducible refine g_nil ?_
  | with_reducible refine g_cons ?_
  | with_reducible refine g_cb ?_
  | with_reducible refine g_callG ?_
  | with_reducible refine g_tup ?_
  | with_reducible refine g_lst ?_
  | ((with_reducible refine g_sz ?_ ?_); (fail "sz"))
  | with_reducible refine g_addI ?_
  | ((((with_reducible apply g_addL); ((fail "sq")); ((fail "sq"))); try (fail "szA")); try dsimp only [List.cons_append, List.nil_append])
  | with_reducible refine g_sub ?_
  | ((with_reducible refine g_mulI ?_ ?_); (fail "cmul"))
  | (((with_reducible apply g_rep1); (fail "h"); (decide); (decide); (decide)); dsimp only [Int.reduceToNat, List.replicate])
  | ((with_reducible refine g_div ?_ ?_); exact ⟨by omega, by omega⟩)
  | ((with_reducible refine g_mod ?_ ?_); first | omega | (simp only [List.length_map]; omega))
  | ((with_reducible refine g_pow ?_ ?_); exact ⟨by decide, by decide, by decide⟩)
  | with_reducible refine g_eqI ?_
  | with_reducible refine g_eqB ?_
  | ((with_reducible apply g_eqS); (fail "dp"); (fail "dp"); (fail "sh"); (omega))
  | ((with_reducible apply g_neS); (fail "dp"); (fail "dp"); (fail "sh"); (omega))
  | ((with_reducible apply g_reprQ); (fail "dq"); (fail "szq"); (omega); (omega))
  | ((with_reducible apply g_aug); (exact rfl))
  | ((with_reducible refine g_iaddT ?_ ?_); (fail "line2"))
  | with_reducible refine g_iaddI ?_
  | with_reducible refine g_then ?_
  | ((with_reducible apply g_tupL); (fail "sq"))
  | with_reducible refine g_revL ?_
  | ((with_reducible apply g_cntS); (exact rfl))
  | with_reducible refine g_cnt1 ?_
  | with_reducible refine g_for3 ?_
  | with_reducible refine g_callX ?_
  | with_reducible refine g_raiseX ?_
  | with_reducible refine g_isRN ?_
  | with_reducible refine g_isNN ?_
  | with_reducible refine g_exc1 ?_
  | with_reducible refine g_xv ?_
  | with_reducible refine g_eqT ?_
  | with_reducible refine g_neI ?_
  | with_reducible refine g_neB ?_
  | with_reducible refine g_neT ?_
  | with_reducible refine g_ltI ?_
  | with_reducible refine g_leI ?_
  | with_reducible refine g_gtI ?_
  | with_reducible refine g_geI ?_
  | with_reducible refine g_inS ?_
  | with_reducible refine g_niS ?_
  | ((with_reducible refine g_iteT ?_ ?_); omega)
  | ((with_reducible refine g_iteF ?_ ?_); omega)
  | ((with_reducible refine g_iteNT ?_ ?_); omega)
  | ((with_reducible refine g_iteNF ?_ ?_); omega)
  | ((with_reducible refine g_iteNF ?_ ?_); with_reducible rfl)
  | ((with_reducible refine g_iteT ?_ ?_); with_reducible rfl)
  | with_reducible refine g_ite (fun _ => ?_) (fun _ => ?_)
  | with_reducible refine g_iteN (fun _ => ?_) (fun _ => ?_)
  | with_reducible refine iteT ?_
  | with_reducible refine iteF ?_
  | ((with_reducible apply g_lenL); ((fail "sq")))
  | ((with_reducible apply g_lenU); ((fail "sq")))
  | with_reducible refine g_isiII ?_
  | with_reducible refine g_isiIB ?_
  | with_reducible refine g_isiBB ?_
  | with_reducible refine g_isiBI ?_
  | with_reducible refine g_isiSS ?_
  | with_reducible refine g_isiSI ?_
  | with_reducible refine g_isiIS ?_
  | ((with_reducible apply g_isi); (fail "ty"); (fail "kit"))
  | ((with_reducible apply g_leC); (fail "sgn"); (fail "sgn"))
  | ((with_reducible apply g_ltC); (fail "sgn"); (fail "sgn"))
  | ((with_reducible apply g_inC); (fail "sgn"))
  | ((with_reducible apply g_niC); (fail "sgn"))
  | ((with_reducible apply g_append); (exact rfl); (fail "h"))
  | (((with_reducible apply g_app); (fail "h"); (fail "sz")); try dsimp only [List.cons_append, List.nil_append])
  | with_reducible refine g_part ?_
  | with_reducible refine g_nopart ?_
  | with_reducible refine g_isint ?_
  | with_reducible refine g_un ?_
  | with_reducible refine g_neg ?_
  | with_reducible refine g_m0 ?_
  | with_reducible refine g_m1 ?_
  | with_reducible refine g_str ?_
  | with_reducible refine g_sl ?_
  | ((with_reducible refine g_slS ?_ ?_); (fail "line"))
  | ((with_reducible refine g_lenT ?_ ?_); (fail "line"))
  | ((with_reducible refine g_addT ?_ ?_); (fail "line2"))
  | with_reducible refine g_name ?_
  | with_reducible refine g_pc ?_
  | with_reducible refine g_asgG ?_
  | ((with_reducible apply g_gtup); (fail "sq"); exact rfl)
  | with_reducible refine g_gcons ?_
  | with_reducible refine g_gnil ?_
  | with_reducible refine g_pn ?_
  | with_reducible refine g_for1 ?_
  | with_reducible refine g_for2 ?_
  | with_reducible refine g_lc1 ?_
  | with_reducible refine g_lc2 ?_
  | with_reducible refine g_par ?_
  | with_reducible refine g_par3 ?_
  | with_reducible refine g_two ?_
  | with_reducible refine g_i1 ?_
  | with_reducible refine g_i2 ?_
  | with_reducible refine g_three ?_
  | (with_reducible refine ⟨_, fun _ _ n => n, ?_⟩)
  | with_reducible refine g_dput ?_
  | ((with_reducible apply g_dcells); (exact rfl); ((fail "h")))
  | ((with_reducible apply g_dat); (exact rfl); ((fail "h")))
  | ((with_reducible apply g_dleft); (exact rfl); ((fail "h")))
  | ((with_reducible apply g_dused); (exact rfl); ((fail "h")))
  | ((with_reducible apply g_pat); (exact rfl); ((fail "h")))
  | ((with_reducible apply g_pleft); (exact rfl); ((fail "h")))
  | ((with_reducible apply g_pused); (exact rfl); ((fail "h")))
  | ((with_reducible apply g_ixT); (fail "sq"); (exact rfl))
  | ((with_reducible apply g_ixL); (fail "sq"); (exact rfl))
  | ((with_reducible apply g_args); (exact rfl); (exact rfl))
  | ((with_reducible refine g_sp ?_); (fail "call"))
  | ((with_reducible refine g_spx ?_); (fail "call"))
  | with_reducible refine g_iteNtt ?_
  | with_reducible refine g_iteNff ?_
  | with_reducible refine g_iteb (fun _ => ?_) (fun _ => ?_)
  | with_reducible refine g_iteNb (fun _ => ?_) (fun _ => ?_)
  | with_reducible refine g_seq ?_
  | with_reducible refine g_asg ?_
  | with_reducible refine g_ret ?_
  | with_reducible refine g_ifS ?_
  | with_reducible refine g_next ?_
  | with_reducible refine g_drop ?_
  | intro p np)
local macro_rules | `(tactic| fail "go") => `(tactic| repeat' fail "go1")
local macro_rules
  | `(tactic| fail "tbs") => `(tactic| with_reducible first | assumption | ((apply Tbs.same (by assumption)); fail "tbs") | ((apply Tbs.new (by assumption)); fail "tbs") | ((apply Tbs.keep (by assumption) (by fail "dr")); fail "tbs") | ((apply Tbs.put (by fail "h")); fail "tbs"))
  | `(tactic| fail "not") => `(tactic| with_reducible first | assumption | (apply NoT.of0; assumption) | ((apply NoT.back (by assumption)); fail "not") | ((apply NoT.backS (by assumption)); fail "not") | ((refine NoT.backU ?_ (by assumption)); fail "not"))
  | `(tactic| fail "ext") => `(tactic| with_reducible first | assumption | exact LamX.ExtN.refl _ | ((apply ExtN.snoc ?_ (by assumption)); fail "ext") | ((apply ExtN.tr ?_ (by assumption)); fail "ext") | ((apply ExtN.new (by assumption)); fail "ext") | ((apply ExtN.put (by fail "not")); fail "ext") | ((apply ExtN.same); fail "same"))
  | `(tactic| fail "hstep") => `(tactic| with_reducible first | apply ExtN.at_ (by assumption) | fail "zz")
  | `(tactic| fail "sqstep") => `(tactic| with_reducible first | apply ExtN.seq (by assumption) | apply ExtN.seqT (by assumption) | fail "zz")
  | `(tactic| fail "drstep") => `(tactic| with_reducible first | apply ExtN.draw (by assumption) | fail "zz")
local macro_rules
  | `(tactic| fail "xe") => `(tactic| with_reducible first | assumption | ((apply XE.up); (assumption); fail "same"))
  | `(tactic| fail "xa") => `(tactic| with_reducible first | assumption | ((apply XAt.same); (assumption); fail "same"))
local macro_rules | `(tactic| fail "go1") => `(tactic| first
  | with_reducible refine g_mkV ?_
  | with_reducible refine g_exc1 ?_
  | ((with_reducible apply g_xe); (fail "xe"))
  | ((with_reducible apply g_isXC); (fail "xa"); (assumption); (assumption))
  | ((with_reducible apply g_isXT); (fail "xa"); (assumption); (assumption))
  | (with_reducible refine g_isXno _ (by fail "xa") (by assumption) (by fail "sq") (by first | exact vals_r4 | exact vals_t2 | exact vals_r2) (by assumption) ?_)
  | ((with_reducible apply g_xvA); (fail "xa"); (assumption))
  | ((with_reducible apply g_cntBM); (exact rfl); (fail "sq")))
local macro_rules
  | `(tactic| fail "go1") => `(tactic| with_reducible refine g_held0 ?_)
local macro_rules
  | `(tactic| fail "braise") => `(tactic| (intro E1 Q1 H1 e1 t1 rz; (fail "go"); exact rz _ _ _ (by assumption) (by fail "same") (by assumption)))
  | `(tactic| fail "nle") => `(tactic| exact Nat.le_of_ble_eq_true rfl)
local macro_rules
  | `(tactic| fail "bret") => `(tactic| (intro E1 Q1 H1 e1 t1 hq; (fail "go"); exact hq _ _ (by fail "same") (by first | exact Dq.bl _ | exact Dq.int _ | exact Dq.str _ | exact Dq.non)))
local macro_rules | `(tactic| fail "go1") => `(tactic| first
  | with_reducible refine g_mkC ?_
  | with_reducible refine g_propC ?_
  | with_reducible refine g_fldT ?_
  | with_reducible refine g_sfldT ?_
  | ((with_reducible apply g_fldA); (fail "h"); (exact OwnC.cl (by assumption)); (assumption); (exact rfl))
  | ((with_reducible apply g_sfldA); (fail "h"); (exact OwnC.cl (by assumption)); (assumption); (exact Nat.le_of_ble_eq_true rfl))
  | ((with_reducible apply g_ins); (fail "h"); (exact OwnC.xn (by assumption)))
  | ((with_reducible apply g_isO); (assumption); (fail "h"))
  | ((with_reducible apply g_isOT); (assumption); (fail "h"); decide)
  | ((with_reducible apply g_isTO); (assumption); (fail "ty"); decide))
local macro_rules | `(tactic| fail "go1") => `(tactic| first
  | with_reducible refine g_forT0 ?_
  | ((with_reducible apply g_unT); (fail "sq"))
  | with_reducible refine g_unC ?_
  | with_reducible refine g_unN ?_
  | ((with_reducible apply g_unKT); (fail "sq"))
  | ((with_reducible apply g_unKL); (fail "sq")))
local macro_rules | `(tactic| fail "go1") => `(tactic| first
  | ((with_reducible apply g_argsC); (exact rfl); (exact rfl); intro C x dx o hx hdx hne)
  | ((with_reducible apply g_seqT); (fail "sq"); exact rfl)
  | ((with_reducible apply g_seqL); (fail "sq"); exact rfl))
local macro_rules | `(tactic| fail "go1") => `(tactic| first
  | (((with_reducible apply g_catT); (fail "sq"); (fail "sq"); (exact Nat.le_of_ble_eq_true rfl)); try dsimp only [List.cons_append, List.nil_append])
  | ((with_reducible apply g_lstOfT); (fail "sq"))
  | ((with_reducible apply g_lstOfL); (fail "sq")))
local macro_rules | `(tactic| fail "go1") => `(tactic| first
  | with_reducible refine g_methS ?_
  | ((with_reducible apply g_insMS); (fail "h"); (fail "isc"); (exact rfl))
  | with_reducible refine g_staC ?_
  | ((with_reducible apply g_staN); (first | assumption | exact OwnC.xn (by assumption)))
  | ((with_reducible apply g_ixO); (fail "h"); (fail "isc"))
  | ((with_reducible apply g_inO); (fail "h"); (fail "isc")))
local macro_rules | `(tactic| fail "go1") => `(tactic| first
  | with_reducible refine g_starts ?_
  | with_reducible refine g_ends ?_
  | ((with_reducible apply g_neNilV); (fail "h"); (exact upd_same))
  | ((with_reducible apply g_eqNilV); (fail "h"); (exact upd_same))
  | ((with_reducible apply g_bmV); (exact rfl)))
local macro_rules | `(tactic| fail "go1") => `(tactic| first
  | ((with_reducible refine g_mulBI ?_ ?_); (fail "cmul"))
  | ((with_reducible refine g_mulBT ?_ ?_ ?_ ?_); (decide); (omega); (omega))
  | with_reducible refine g_mulBR ?_)
local macro_rules | `(tactic| fail "go1") => `(tactic| first
  | ((with_reducible apply g_extend); (exact rfl); (fail "h"))
  | ((with_reducible apply g_star); (exact rfl); (fail "h")))
local macro_rules
  | `(tactic| fail "isc") => `(tactic| first | (with_reducible assumption) | exact IsC.one (by assumption) | exact IsC.one (OwnC.xn (by assumption)))
local macro_rules | `(tactic| fail "go1") => `(tactic| first
  | with_reducible refine g_propS ?_
  | ((with_reducible apply g_insS); (fail "h"); (fail "isc"))
  | ((with_reducible apply g_slot); (fail "h"); (fail "isc"))
  | with_reducible refine g_boolB ?_
  | ((with_reducible apply g_listOfL); (fail "sq"))
  | ((with_reducible apply g_listOfT); (fail "sq"))
  | with_reducible refine g_ordC ?_
  | ((with_reducible refine g_strI ?_ ?_); (omega))
  | with_reducible refine g_truS ?_
  | with_reducible refine g_notS ?_
  | with_reducible refine g_clsC ?_
  | ((with_reducible apply g_clsN); (first | assumption | exact OwnC.xn (by assumption)))
  | with_reducible refine g_okB ?_
  | with_reducible refine g_okS ?_
  | ((with_reducible refine g_okN ?_ ?_); omega))
local macro_rules | `(tactic| fail "go1") => `(tactic| first
  | with_reducible refine g_methC ?_
  | ((with_reducible refine g_divW ?_ ?_ ?_); (omega); (omega))
  | ((with_reducible apply g_insM); (fail "h"); (exact OwnC.xn (by assumption)); (exact rfl)))
@[reducible] def g_bits_read_1_ {α : Type} (us _ws : List α) : List α := us
theorem b_bits_read_1_ : Bnd s_bits_read "bits_read" "bits_read" ["payload"] 1 ([] : List Str) @g_bits_read_1_ := fun _ _ _ _ _ _ us ws h1 h2 => match us, ws, h1, h2 with | [_], [], _, _ => ⟨rfl, rfl⟩
theorem b_bits_read_1__s : Shuf 1 0 @g_bits_read_1_ := fun _ _ _ _ r _ _ _ => r
@[reducible] def g_bits_written_1_ {α : Type} (us _ws : List α) : List α := us
theorem b_bits_written_1_ : Bnd s_bits_written "bits_written" "bits_written" ["octets"] 1 ([] : List Str) @g_bits_written_1_ := fun _ _ _ _ _ _ us ws h1 h2 => match us, ws, h1, h2 with | [_], [], _, _ => ⟨rfl, rfl⟩
theorem b_bits_written_1__s : Shuf 1 0 @g_bits_written_1_ := fun _ _ _ _ r _ _ _ => r
@[reducible] def g_check_coding_1_ {α : Type} (us _ws : List α) : List α := us
theorem b_check_coding_1_ : Bnd s_check_coding "check_coding" "check_coding" ["coding"] 1 ([] : List Str) @g_check_coding_1_ := fun _ _ _ _ _ _ us ws h1 h2 => match us, ws, h1, h2 with | [_], [], _, _ => ⟨rfl, rfl⟩
theorem b_check_coding_1__s : Shuf 1 0 @g_check_coding_1_ := fun _ _ _ _ r _ _ _ => r
@[reducible] def g_check_octets_1_ {α : Type} (us _ws : List α) : List α := us
theorem b_check_octets_1_ : Bnd s_check_octets "check_octets" "check_octets" ["octets"] 1 ([] : List Str) @g_check_octets_1_ := fun _ _ _ _ _ _ us ws h1 h2 => match us, ws, h1, h2 with | [_], [], _, _ => ⟨rfl, rfl⟩
theorem b_check_octets_1__s : Shuf 1 0 @g_check_octets_1_ := fun _ _ _ _ r _ _ _ => r
@[reducible] def g_form_of_1_ {α : Type} (us _ws : List α) : List α := us
theorem b_form_of_1_ : Bnd s_form_of "form_of" "form_of" ["octet"] 1 ([] : List Str) @g_form_of_1_ := fun _ _ _ _ _ _ us ws h1 h2 => match us, ws, h1, h2 with | [_], [], _, _ => ⟨rfl, rfl⟩
theorem b_form_of_1__s : Shuf 1 0 @g_form_of_1_ := fun _ _ _ _ r _ _ _ => r
@[reducible] def g_forms_read_1_ {α : Type} (us _ws : List α) : List α := us
theorem b_forms_read_1_ : Bnd s_forms_read "forms_read" "forms_read" ["payload"] 1 ([] : List Str) @g_forms_read_1_ := fun _ _ _ _ _ _ us ws h1 h2 => match us, ws, h1, h2 with | [_], [], _, _ => ⟨rfl, rfl⟩
theorem b_forms_read_1__s : Shuf 1 0 @g_forms_read_1_ := fun _ _ _ _ r _ _ _ => r
@[reducible] def g_is_integer_1_ {α : Type} (us _ws : List α) : List α := us
theorem b_is_integer_1_ : Bnd s_is_integer "is_integer" "is_integer" ["thing"] 1 ([] : List Str) @g_is_integer_1_ := fun _ _ _ _ _ _ us ws h1 h2 => match us, ws, h1, h2 with | [_], [], _, _ => ⟨rfl, rfl⟩
theorem b_is_integer_1__s : Shuf 1 0 @g_is_integer_1_ := fun _ _ _ _ r _ _ _ => r
@[reducible] def g_law_begin_1_ {α : Type} (us _ws : List α) : List α := us
theorem b_law_begin_1_ : Bnd s_law_begin "_law_begin" "_law_begin" ["script"] 1 ([] : List Str) @g_law_begin_1_ := fun _ _ _ _ _ _ us ws h1 h2 => match us, ws, h1, h2 with | [_], [], _, _ => ⟨rfl, rfl⟩
theorem b_law_begin_1__s : Shuf 1 0 @g_law_begin_1_ := fun _ _ _ _ r _ _ _ => r
@[reducible] def g_law_bent_2_ {α : Type} (us _ws : List α) : List α := us
theorem b_law_bent_2_ : Bnd s_law_bent "_law_bent" "_law_bent" ["draw", "signs"] 2 ([] : List Str) @g_law_bent_2_ := fun _ _ _ _ _ _ us ws h1 h2 => match us, ws, h1, h2 with | [_, _], [], _, _ => ⟨rfl, rfl⟩
theorem b_law_bent_2__s : Shuf 2 0 @g_law_bent_2_ := fun _ _ _ _ r _ _ _ => r
@[reducible] def g_law_bits_2_ {α : Type} (us _ws : List α) : List α := us
theorem b_law_bits_2_ : Bnd s_law_bits "_law_bits" "_law_bits" ["number", "weights"] 2 ([] : List Str) @g_law_bits_2_ := fun _ _ _ _ _ _ us ws h1 h2 => match us, ws, h1, h2 with | [_, _], [], _, _ => ⟨rfl, rfl⟩
theorem b_law_bits_2__s : Shuf 2 0 @g_law_bits_2_ := fun _ _ _ _ r _ _ _ => r
@[reducible] def g_law_forms_1_ {α : Type} (us _ws : List α) : List α := us
theorem b_law_forms_1_ : Bnd s_law_forms "_law_forms" "_law_forms" ["signs"] 1 ([] : List Str) @g_law_forms_1_ := fun _ _ _ _ _ _ us ws h1 h2 => match us, ws, h1, h2 with | [_], [], _, _ => ⟨rfl, rfl⟩
theorem b_law_forms_1__s : Shuf 1 0 @g_law_forms_1_ := fun _ _ _ _ r _ _ _ => r
@[reducible] def g_law_letters_0_ {α : Type} (us _ws : List α) : List α := us
theorem b_law_letters_0_ : Bnd s_law_letters "_law_letters" "_law_letters" [] 0 ([] : List Str) @g_law_letters_0_ := fun _ _ _ _ _ _ us ws h1 h2 => match us, ws, h1, h2 with | [], [], _, _ => ⟨rfl, rfl⟩
theorem b_law_letters_0__s : Shuf 0 0 @g_law_letters_0_ := fun _ _ _ _ r _ _ _ => r
@[reducible] def g_law_mixed_2_ {α : Type} (us _ws : List α) : List α := us
theorem b_law_mixed_2_ : Bnd s_law_mixed "_law_mixed" "_law_mixed" ["cell", "k"] 2 ([] : List Str) @g_law_mixed_2_ := fun _ _ _ _ _ _ us ws h1 h2 => match us, ws, h1, h2 with | [_, _], [], _, _ => ⟨rfl, rfl⟩
theorem b_law_mixed_2__s : Shuf 2 0 @g_law_mixed_2_ := fun _ _ _ _ r _ _ _ => r
@[reducible] def g_law_next_2_ {α : Type} (us _ws : List α) : List α := us
theorem b_law_next_2_ : Bnd s_law_next "_law_next" "_law_next" ["draw", "bound"] 2 ([] : List Str) @g_law_next_2_ := fun _ _ _ _ _ _ us ws h1 h2 => match us, ws, h1, h2 with | [_, _], [], _, _ => ⟨rfl, rfl⟩
theorem b_law_next_2__s : Shuf 2 0 @g_law_next_2_ := fun _ _ _ _ r _ _ _ => r
@[reducible] def g_law_octets_2_ {α : Type} (us _ws : List α) : List α := us
theorem b_law_octets_2_ : Bnd s_law_octets "_law_octets" "_law_octets" ["way", "signs"] 2 ([] : List Str) @g_law_octets_2_ := fun _ _ _ _ _ _ us ws h1 h2 => match us, ws, h1, h2 with | [_, _], [], _, _ => ⟨rfl, rfl⟩
theorem b_law_octets_2__s : Shuf 2 0 @g_law_octets_2_ := fun _ _ _ _ r _ _ _ => r
@[reducible] def g_law_right_2_ {α : Type} (us _ws : List α) : List α := us
theorem b_law_right_2_ : Bnd s_law_right "_law_right" "_law_right" ["way", "signs"] 2 ([] : List Str) @g_law_right_2_ := fun _ _ _ _ _ _ us ws h1 h2 => match us, ws, h1, h2 with | [_, _], [], _, _ => ⟨rfl, rfl⟩
theorem b_law_right_2__s : Shuf 2 0 @g_law_right_2_ := fun _ _ _ _ r _ _ _ => r
@[reducible] def g_law_told_1_ {α : Type} (us _ws : List α) : List α := us
theorem b_law_told_1_ : Bnd s_law_told "_law_told" "_law_told" ["deed"] 1 ([] : List Str) @g_law_told_1_ := fun _ _ _ _ _ _ us ws h1 h2 => match us, ws, h1, h2 with | [_], [], _, _ => ⟨rfl, rfl⟩
theorem b_law_told_1__s : Shuf 1 0 @g_law_told_1_ := fun _ _ _ _ r _ _ _ => r
def g_octets_of_0_payload_coding {α : Type} : List α → List α → List α
  | [], [w0, w1] => [w1, w0]
  | _, _ => []
theorem b_octets_of_0_payload_coding : Bnd s_octets_of "octets_of" "octets_of" ["coding", "payload"] 0 (["payload", "coding"] : List Str) @g_octets_of_0_payload_coding := fun _ _ _ _ _ _ us ws h1 h2 => match us, ws, h1, h2 with | [], [_, _], _, _ => ⟨rfl, rfl⟩
theorem b_octets_of_0_payload_coding_s : Shuf 0 2 @g_octets_of_0_payload_coding := by
  intro xs us zs ws r q h1 h2
  obtain ⟨rfl, rfl⟩ := vals_0 r h1
  obtain ⟨z0, w0, _, _, rfl, rfl, c0, q, h2⟩ := vals_S q h2
  obtain ⟨z1, w1, _, _, rfl, rfl, c1, q, h2⟩ := vals_S q h2
  obtain ⟨rfl, rfl⟩ := vals_0 q h2
  exact .cons c1 (.cons c0 (.nil))
@[reducible] def g_octets_of_2_ {α : Type} (us _ws : List α) : List α := us
theorem b_octets_of_2_ : Bnd s_octets_of "octets_of" "octets_of" ["coding", "payload"] 2 ([] : List Str) @g_octets_of_2_ := fun _ _ _ _ _ _ us ws h1 h2 => match us, ws, h1, h2 with | [_, _], [], _, _ => ⟨rfl, rfl⟩
theorem b_octets_of_2__s : Shuf 2 0 @g_octets_of_2_ := fun _ _ _ _ r _ _ _ => r
@[reducible] def g_payload_of_2_ {α : Type} (us _ws : List α) : List α := us
theorem b_payload_of_2_ : Bnd s_payload_of "payload_of" "payload_of" ["coding", "octets"] 2 ([] : List Str) @g_payload_of_2_ := fun _ _ _ _ _ _ us ws h1 h2 => match us, ws, h1, h2 with | [_, _], [], _, _ => ⟨rfl, rfl⟩
theorem b_payload_of_2__s : Shuf 2 0 @g_payload_of_2_ := fun _ _ _ _ r _ _ _ => r
structure Txt0 (P : Program) (K : PySem.W.Frag) (mg : Str → Option Value) : Prop where
  d_law_begin : ∃ f, mg "_law_begin" = some (.ref f) ∧ ∃ fd, Fun K "_law_begin" "_law_begin" s_law_begin f fd
  d_law_mixed : ∃ f, mg "_law_mixed" = some (.ref f) ∧ ∃ fd, Fun K "_law_mixed" "_law_mixed" s_law_mixed f fd
  d_law_next : ∃ f, mg "_law_next" = some (.ref f) ∧ ∃ fd, Fun K "_law_next" "_law_next" s_law_next f fd
  d_is_integer : ∃ f, mg "is_integer" = some (.ref f) ∧ ∃ fd, Fun K "is_integer" "is_integer" s_is_integer f fd
  d_check_coding : ∃ f, mg "check_coding" = some (.ref f) ∧ ∃ fd, Fun K "check_coding" "check_coding" s_check_coding f fd
  d_check_octets : ∃ f, mg "check_octets" = some (.ref f) ∧ ∃ fd, Fun K "check_octets" "check_octets" s_check_octets f fd
  d_form_of : ∃ f, mg "form_of" = some (.ref f) ∧ ∃ fd, Fun K "form_of" "form_of" s_form_of f fd
  d_bits_written : ∃ f, mg "bits_written" = some (.ref f) ∧ ∃ fd, Fun K "bits_written" "bits_written" s_bits_written f fd
  d_payload_of : ∃ f, mg "payload_of" = some (.ref f) ∧ ∃ fd, Fun K "payload_of" "payload_of" s_payload_of f fd
  d_forms_read : ∃ f, mg "forms_read" = some (.ref f) ∧ ∃ fd, Fun K "forms_read" "forms_read" s_forms_read f fd
  d_bits_read : ∃ f, mg "bits_read" = some (.ref f) ∧ ∃ fd, Fun K "bits_read" "bits_read" s_bits_read f fd
  d_octets_of : ∃ f, mg "octets_of" = some (.ref f) ∧ ∃ fd, Fun K "octets_of" "octets_of" s_octets_of f fd
  d_law_letters : ∃ f, mg "_law_letters" = some (.ref f) ∧ ∃ fd, Fun K "_law_letters" "_law_letters" s_law_letters f fd
  d_law_bits : ∃ f, mg "_law_bits" = some (.ref f) ∧ ∃ fd, Fun K "_law_bits" "_law_bits" s_law_bits f fd
  d_law_forms : ∃ f, mg "_law_forms" = some (.ref f) ∧ ∃ fd, Fun K "_law_forms" "_law_forms" s_law_forms f fd
  d_law_octets : ∃ f, mg "_law_octets" = some (.ref f) ∧ ∃ fd, Fun K "_law_octets" "_law_octets" s_law_octets f fd
  d_law_told : ∃ f, mg "_law_told" = some (.ref f) ∧ ∃ fd, Fun K "_law_told" "_law_told" s_law_told f fd
  d_law_bent : ∃ f, mg "_law_bent" = some (.ref f) ∧ ∃ fd, Fun K "_law_bent" "_law_bent" s_law_bent f fd
  x_BadCoding : XCls P K mg "BadCoding" "given"
  x_BadOctet : XCls P K mg "BadOctet" "place"
  x_BadPayload : XCls P K mg "BadPayload" "place"
  n_BadCoding : ∃ C, XN K "BadCoding" (.ref C) ∧ mg "BadCoding" = some (.ref C)
  n_BadPayload : ∃ C, XN K "BadPayload" (.ref C) ∧ mg "BadPayload" = some (.ref C)
  e_BadCoding : ∀ cls C1 C2, XN K "BadCoding" cls → XN K "BadCoding" (.ref C1) → XN K "BadPayload" (.ref C2) → PySem.W.exmAny K cls [.ref C1, .ref C2] = some true
  e_BadPayload : ∀ cls C1 C2, XN K "BadPayload" cls → XN K "BadCoding" (.ref C1) → XN K "BadPayload" (.ref C2) → PySem.W.exmAny K cls [.ref C1, .ref C2] = some true
  i_BadCoding_BadCoding : ∀ C C2, XN K "BadCoding" (.ref C) → XN K "BadCoding" (.ref C2) → PySem.W.kitOne K (.ref C) (.ref C2) = some true
  i_BadPayload_BadCoding : ∀ C C2, XN K "BadPayload" (.ref C) → XN K "BadCoding" (.ref C2) → PySem.W.kitOne K (.ref C) (.ref C2) = some false
  b_bool : mg "bool" = none
  b_enumerate : mg "enumerate" = none
  b_int : mg "int" = none
  b_isinstance : mg "isinstance" = none
  b_len : mg "len" = none
  b_list : mg "list" = none
  b_ord : mg "ord" = none
  b_range : mg "range" = none
  b_repr : mg "repr" = none
  b_str : mg "str" = none
  b_sum : mg "sum" = none
  b_tuple : mg "tuple" = none
  c_MARKS : ∃ u, mg "MARKS" = some u ∧ RelV (V.str " !\"#$&'()*+,-./0123456789:;<=>?@ABCDEFGHIJKLMNOPQRSTUVWXYZ[\\]^_`abcdefghijklmnopqrstuvwxyz{|}~") u
  c_CODINGS : ∃ a, mg "CODINGS" = some (.ref a) ∧ ∀ H : Hp, SqT K H a [V.str "h", V.str "s"]
  c_ALPHABET : ∃ u, mg "ALPHABET" = some u ∧ RelV (V.str "ABCDEFGHIJKLMNOPQRSTUVWXYZabcdefghijklmnopqrstuvwxyz0123456789+-") u
  c_LITERALS : ∃ u, mg "LITERALS" = some u ∧ RelV (V.str "ABCDEFGHIJKLMNOPQRSTUVWXYZabcdefghijklmnopqrstuvwxyz0123456789") u
  c_DIGITS : ∃ u, mg "DIGITS" = some u ∧ RelV (V.str "0123456789ABCDEF") u
variable [Tb]
structure Txt (P : Program) (K : PySem.W.Frag) (mg : Str → Option Value) (base : Heap) : Prop extends Txt0 P K mg where
  t_law_right : MakerAt K mg base "_law_right" s_law_right
  t_law : MakerAt K mg base "law" s_law
variable {P : Program} {w : World} {K : PySem.W.Frag} {mg : Str → Option Value} {base : Heap}

def sp_law_begin (K : PySem.W.Frag) : Sp := fun vs H Q _ =>
  ∃ (a : Addr) (ns : List Int), vs = [.ref a] ∧ SqL K H a (ns.map V.int) ∧ ns.length ≤ 63 ∧ ∀ H' d c, Same H H' → H d = none → DrawAt K 0 H' d c → Q (.ref d) H'
theorem df_law_begin (T : Txt P K mg base) : Df P w K mg base 1 "_law_begin" s_law_begin ["script"] (sp_law_begin K) := by
  have sc := sc_law_begin
  obtain ⟨f, hm, fd, F⟩ := T.d_law_begin
  refine ⟨f, fd, hm, F, okG F sc (by fail "many") (fun cdv A outer s H vs Q E hr h => ?_)⟩
  · obtain ⟨a, ns, rfl, hs, hn, k⟩ := h
    refine ⟨_, (pss_one (ps_ret (pe_disp (pps_cons pe_str (pe_op op_addA (pv 0) (pe_lst (pa_cons pe_int pa_nil))) (pps_cons pe_str pe_int (pps_cons pe_str pe_int (pps_cons pe_str pe_int pps_nil)))) (by rfl) (by rfl) (fun z => by cases z) (by decide)))), ?_⟩
    dsimp only [cxOf, Cx.wish, L2.start, List.map, List.length, List.replicate, List.append, List.cons_append, List.nil_append, Nat.reduceAdd, Nat.reduceSub, Nat.zero_add]
    refine g_ret ?_
    intro p np
    have hs1 := seq_new (o := HO.dK []) np hs
    fail "go"
    · simp only [List.length_map, List.length_cons, List.length_nil]
      exact Nat.le_trans (by omega : _ ≤ 100) (by decide)
    rename_i p1 np1 p2 np2
    refine ⟨by fail "h", drawK p2 0 0 0, rfl, (by show 4 ≤ 15; decide), ?_⟩
    refine k _ p p2 (by fail "same") np ⟨ns ++ [0], 0, 0, 0, upd_same, ?_, by simp, by simp; omega, by omega, by omega, by omega, by omega⟩
    rw [List.map_append]
    exact (upd_off (Ne.symm (ne_of_none (upd_new np1 upd_same) np2)) upd_same)
local macro_rules | `(tactic| fail "call") => `(tactic| ((with_reducible show sp_law_begin _ _ _ _ _); refine ⟨_, _, rfl, by with_reducible (fail "sq"), by assumption, fun H' d c s' nd D => ?_⟩))

def sp_law_mixed (K : PySem.W.Frag) : Sp := fun vs H Q _ =>
  ∃ x k : Int, vs = [.int x, .int k] ∧ 0 ≤ k ∧ k ≤ 1000000000 ∧ ∀ H' r, Same H H' → 0 ≤ r → Q (.int r) H'
theorem df_law_mixed (T : Txt P K mg base) : Df P w K mg base 1 "_law_mixed" s_law_mixed ["cell", "k"] (sp_law_mixed K) := by
  have sc := sc_law_mixed
  obtain ⟨f, hm, fd, F⟩ := T.d_law_mixed
  refine ⟨f, fd, hm, F, okG F sc (by fail "many") (fun cdv A outer s H vs Q E hr h => ?_)⟩
  · obtain ⟨x, k, rfl, h1, h2, q⟩ := h
    refine ⟨_, (pss_cons (ps_set (i := 2) sc.nd rfl (Or.inl rfl) (pe_op op_modA (pe_op op_addA (pe_op op_addA (pe_op op_addA (pe_op op_modA (pv 0) pe_int) (pe_op op_mulA (pe_op op_mulA pe_int (pv 1)) (pv 1))) (pe_op op_mulA pe_int (pv 1))) pe_int) pe_int))
 (pss_cons (ps_set (i := 2) sc.nd rfl (Or.inl rfl) (pe_op op_modA (pe_op op_mulA (pe_op op_modA (pe_op op_mulA (pv 2) (pv 2)) pe_int) (pv 2)) pe_int))
 (pss_one (ps_ret (pe_op op_divA (pe_op op_modA (pe_op op_mulA (pv 2) (pe_op op_addA pe_int (pe_op op_mulA pe_int (pe_op op_modA (pv 1) pe_int)))) pe_int) pe_int))))), ?_⟩
    dsimp only [cxOf, Cx.wish, L2.start, List.map, List.length, List.replicate, List.append, List.cons_append, List.nil_append, Nat.reduceAdd, Nat.reduceSub, Nat.zero_add]
    fail "go"
    exact q _ _ (Same.refl _) (by omega)
local macro_rules | `(tactic| fail "call") => `(tactic| ((with_reducible show sp_law_mixed _ _ _ _ _); refine ⟨_, _, rfl, by omega, by omega, fun H' r s' hr0 => ?_⟩))

def sp_law_next (K : PySem.W.Frag) : Sp := fun vs H Q _ =>
  ∃ (d : Addr) (b : Int) (n : Nat) (c : Addr), vs = [.ref d, .int b] ∧ 0 < b ∧ b < 1000000000 ∧ DrawAt K n H d c ∧ n < 1000000000 ∧ ∀ H' r, Keep d H H' → DrawAt K (n + 1) H' d c → 0 ≤ r → r < b → Q (.int r) H'
theorem df_law_next (T : Txt P K mg base) : Df P w K mg base 2 "_law_next" s_law_next ["draw", "bound"] (sp_law_next K) := by
  have sc := sc_law_next
  obtain ⟨f, hm, fd, F⟩ := T.d_law_next
  refine ⟨f, fd, hm, F, okG F sc (by fail "many") (fun cdv A outer s H vs Q E hr h => ?_)⟩
  · obtain ⟨d, b, n, c, rfl, h1, h2, D, h3, k⟩ := h
    refine ⟨_, (pss_cons (ps_if (pt_cmpR op_gtA (pe_dget (hu_of hr.rm) (pv 0) pe_str (fun _ _ => rfl)) pe_int (nomark _)) (pss_cons (ps_set (i := 2) sc.nd rfl (Or.inl rfl) (pe_op op_modA (pe_dget (hu_of hr.rm) (pv 0) pe_str (fun _ _ => rfl)) (pv 1)))
 (pss_cons (ps_dput (hu_of hr.rm) (pv 0) pe_str (pe_op op_divA (pe_dget (hu_of hr.rm) (pv 0) pe_str (fun _ _ => rfl)) (pv 1)) rfl)
 (pss_one (ps_ret (pv 2))))) pss_nil)
 (pss_cons (ps_set (i := 3) sc.nd rfl (Or.inl rfl) (pe_dget (hu_of hr.rm) (pv 0) pe_str (fun _ _ => rfl)))
 (pss_cons (ps_set (i := 4) sc.nd rfl (Or.inl rfl) (pe_ix ix_seq (pv 3) (pe_op op_modA (pe_dget (hu_of hr.rm) (pv 0) pe_str (fun _ _ => rfl)) (pe_callB call_lenA (by rfl) T.b_len (by decide +kernel) (pa_cons (pv 3) pa_nil))) (fun _ _ => rfl)))
 (pss_cons (ps_dput (hu_of hr.rm) (pv 0) pe_str (pe_op op_addA (pe_dget (hu_of hr.rm) (pv 0) pe_str (fun _ _ => rfl)) pe_int) rfl)
 (pss_cons (ps_if (PW.pt (pw_and (pt_cmpR op_geA (pv 4) (pe_op op_powA pe_int pe_int) (nomark _)) (pw_and1 (pt_cmpR op_leA (pe_dget (hu_of hr.rm) (pv 0) pe_str (fun _ _ => rfl)) (pe_callB call_lenA (by rfl) T.b_len (by decide +kernel) (pa_cons (pv 3) pa_nil)) (nomark _))))) (pss_cons (ps_dput (hu_of hr.rm) (pv 0) pe_str (pe_op op_divA (pv 4) (pv 1)) rfl)
 (pss_one (ps_ret (pe_op op_modA (pv 4) (pv 1))))) pss_nil)
 (pss_cons (ps_dput (hu_of hr.rm) (pv 0) pe_str (pe_op op_addA (pe_dget (hu_of hr.rm) (pv 0) pe_str (fun _ _ => rfl)) pe_int) rfl)
 (pss_one (ps_ret (pe_op op_modA (pe_callG (sp := sp_law_mixed K) (df_law_mixed T) hr (by decide) b_law_mixed_2_ b_law_mixed_2__s (pa_cons (pe_callG (sp := sp_law_mixed K) (df_law_mixed T) hr (by decide) b_law_mixed_2_ b_law_mixed_2__s (pa_cons (pv 4) (pa_cons (pe_dget (hu_of hr.rm) (pv 0) pe_str (fun _ _ => rfl)) pa_nil)) pk_nil) (pa_cons (pe_dget (hu_of hr.rm) (pv 0) pe_str (fun _ _ => rfl)) pa_nil)) pk_nil) (pv 1)))))))))), ?_⟩
    dsimp only [cxOf, Cx.wish, L2.start, List.map, List.length, List.replicate, List.append, List.cons_append, List.nil_append, Nat.reduceAdd, Nat.reduceSub, Nat.zero_add]
    obtain ⟨ns, a, l, u, hd, hs, g1, g2, g3, g4, g5, g6⟩ := id D
    have ncd : c ≠ d := D.ne hs rfl
    fail "go"
    · exact k _ _ (Keep.set (Keep.refl _ _)) ⟨ns, a, _, u, upd_same, upd_off ncd hs, by omega, by omega, by omega, by omega, by omega, by omega⟩ (Int.emod_nonneg _ (by omega)) (Int.emod_lt_of_pos _ h1)
    obtain ⟨x, hx, _⟩ := at_ints (ns := ns) (i := a % (ns.length : Int)) (Int.emod_nonneg _ (by omega)) (Int.emod_lt_of_pos _ (by omega))
    have hx' : atI (ns.map V.int) (a % ((ns.map V.int).length : Int)) = some (.int x) := by rw [List.length_map]; exact hx
    refine g_ixL (SqL.of hs) hx' ?_
    have S0 : ∀ o, SqL K (upd H d o) c (ns.map V.int) := fun o => SqL.of (upd_off ncd hs)
    have S1 := S0 (HO.dK (drawK c (a + 1) l u))
    have S2 : ∀ o', (upd (upd H d (HO.dK (drawK c (a + 1) l u))) d o') c = some (.lst (ns.map V.int)) := fun o' => upd_off ncd (upd_off ncd hs)
    have D2 : DrawAt K (n + 1) (upd (upd H d (HO.dK (drawK c (a + 1) l u))) d (HO.dK (drawK c (a + 1) l (u + 1)))) d c := ⟨ns, a + 1, l, u + 1, upd_same, S2 _, g1, g2, by omega, by omega, by omega, by omega⟩
    fail "go"
    · exact k _ _ (by fail "keep") ⟨ns, a + 1, _, u, upd_same, S2 _, g1, g2, by omega, by omega, by omega, by omega⟩ (Int.emod_nonneg _ (by omega)) (Int.emod_lt_of_pos _ h1)
    all_goals exact k _ _ (by fail "keep") (by fail "dr") (Int.emod_nonneg _ (by omega)) (Int.emod_lt_of_pos _ h1)
local macro_rules | `(tactic| fail "call") => `(tactic| ((with_reducible show sp_law_next _ _ _ _ _); refine ⟨_, _, _, _, rfl, by omega, by omega, by with_reducible (fail "dr"), by omega, fun H' r k' D' hr0 hr1 => ?_⟩))
inductive Kd (K : PySem.W.Frag) (H : Hp) : V → Prop where
  | str {z : Str} (h : As 100000 z) : Kd K H (.str z)
  | int (i : Int) : Kd K H (.int i)
  | non : Kd K H .non
  | bl (b : Bool) : Kd K H (.bl b)
  | tup {a : Addr} (h : TyX K H (.ref a) (.type "tuple")) : Kd K H (.ref a)
  | lst {a : Addr} (h : TyX K H (.ref a) (.type "list")) : Kd K H (.ref a)
  | dct {a : Addr} (h : TyX K H (.ref a) (.type "dict")) : Kd K H (.ref a)
theorem Kd.same {K : PySem.W.Frag} {H H1 : Hp} {v : V} (e : Same H H1) (k : Kd K H v) : Kd K H1 v := by
  cases k with
  | str h => exact .str h
  | int i => exact .int i
  | non => exact .non
  | bl b => exact .bl b
  | tup h => exact .tup (tyx_same e h)
  | lst h => exact .lst (tyx_same e h)
  | dct h => exact .dct (tyx_same e h)
theorem Kd.keep {K : PySem.W.Frag} {H H1 : Hp} {d : Addr} {v : V} (e : Keep d H H1) (n : v ≠ .ref d) (k : Kd K H v) : Kd K H1 v := by
  cases k with
  | str h => exact .str h
  | int i => exact .int i
  | non => exact .non
  | bl b => exact .bl b
  | tup h => exact .tup (tyx_keep e n h)
  | lst h => exact .lst (tyx_keep e n h)
  | dct h => exact .dct (tyx_keep e n h)
def KdD (K : PySem.W.Frag) (H : Hp) (d : Addr) (v : V) : Prop := Kd K H v ∧ v ≠ .ref d
theorem KdD.keep {K : PySem.W.Frag} {H H1 : Hp} {d : Addr} {v : V} (e : Keep d H H1) (k : KdD K H d v) : KdD K H1 d v := ⟨k.1.keep e k.2, k.2⟩
theorem KdD.same {K : PySem.W.Frag} {H H1 : Hp} {d : Addr} {v : V} (e : Same H H1) (k : KdD K H d v) : KdD K H1 d v := ⟨k.1.same e, k.2⟩
theorem KdD.new {K : PySem.W.Frag} {H : Hp} {d p : Addr} {v : V} {o : HO} (e : H p = none) (k : KdD K H d v) : KdD K (upd H p o) d v := KdD.same (Same.upd e (Same.refl H)) k
theorem KdD.str {K : PySem.W.Frag} {H : Hp} {d : Addr} {z : Str} (h : As 100000 z) : KdD K H d (.str z) := ⟨.str h, fun e => nomatch e⟩
theorem KdD.int {K : PySem.W.Frag} {H : Hp} {d : Addr} (i : Int) : KdD K H d (.int i) := ⟨.int i, fun e => nomatch e⟩
theorem KdD.non {K : PySem.W.Frag} {H : Hp} {d : Addr} : KdD K H d .non := ⟨.non, fun e => nomatch e⟩
theorem KdD.bl {K : PySem.W.Frag} {H : Hp} {d : Addr} (i : Bool) : KdD K H d (.bl i) := ⟨.bl i, fun e => nomatch e⟩
theorem KdD.ref {K : PySem.W.Frag} {H : Hp} {d a : Addr} (h : Kd K H (.ref a)) (n : a ≠ d) : KdD K H d (.ref a) := ⟨h, fun e => n (V.ref.inj e)⟩
local macro_rules
  | `(tactic| fail "kdd") => `(tactic| with_reducible first | assumption | exact KdD.int _ | exact KdD.non | exact KdD.bl _ | (apply KdD.str; apply As.mono (by fail "as"); omega) | (apply KdD.same (by assumption); fail "kdd") | (apply KdD.keep (by assumption); fail "kdd") | (apply KdD.new (by assumption); fail "kdd"))
  | `(tactic| fail "kd") => `(tactic| with_reducible first | assumption | (apply Kd.same ?_ (by assumption); fail "same") | exact Kd.int _ | exact Kd.non | exact Kd.bl _ | exact And.left (by assumption) | (apply Kd.str; apply As.mono (by fail "as"); omega))
def MK : Str := " !\"#$&'()*+,-./0123456789:;<=>?@ABCDEFGHIJKLMNOPQRSTUVWXYZ[\\]^_`abcdefghijklmnopqrstuvwxyz{|}~"
def isI : V → Bool | .int _ => true | _ => false
theorem g_neSame {K : PySem.W.Frag} {H : Hp} {Q : VK} {z : Str} (q : Q (.bl false) H) : rNeA K (.str z) (.str z) H Q := g_neT (by rw [decide_eq_true rfl]; exact q)
theorem g_eqSame {K : PySem.W.Frag} {H : Hp} {Q : VK} {z : Str} (q : Q (.bl true) H) : rEqA K (.str z) (.str z) H Q := g_eqT (by rw [decide_eq_true rfl]; exact q)
local macro_rules | `(tactic| fail "go1") => `(tactic| with_reducible refine g_neSame ?_)
local macro_rules | `(tactic| fail "go1") => `(tactic| with_reducible refine g_eqSame ?_)
theorem g_slL {K : PySem.W.Frag} {H : Hp} {Q : VK} {a : Addr} {xs ys : List V} {lo hi : Option Int} (h : SqL K H a xs) (e : cutV xs lo hi = ys) (q : ∀ p, H p = none → Q (.ref p) (upd H p (.lst ys))) : rSlL K (.ref a) lo hi H Q := ⟨a, xs, rfl, h, e ▸ q⟩

def sp_is_integer (K : PySem.W.Frag) : Sp := fun vs H Q _ =>
  ∃ v : V, vs = [v] ∧ Kd K H v ∧ ∀ H', Same H H' → Q (.bl (isI v)) H'
theorem df_is_integer (T : Txt P K mg base) : Df P w K mg base 1 "is_integer" s_is_integer ["thing"] (sp_is_integer K) := by
  have sc := sc_is_integer
  obtain ⟨f, hm, fd, F⟩ := T.d_is_integer
  refine ⟨f, fd, hm, F, okG F sc (by fail "many") (fun cdv A outer s H vs Q E hr h => ?_)⟩
  · obtain ⟨v, rfl, kd, q⟩ := h
    refine ⟨_, (pss_one (ps_ret (pe_and (pe_callB call_isi (by rfl) T.b_isinstance (by decide +kernel) (pa_cons (pv 0) (pa_cons (pe_bltn (v := V.ty "int") (u := .type "int") (by rfl) T.b_int (by decide +kernel) rfl) pa_nil))) (pe_one (pe_not (pe_callB call_isi (by rfl) T.b_isinstance (by decide +kernel) (pa_cons (pv 0) (pa_cons (pe_bltn (v := V.ty "bool") (u := .type "bool") (by rfl) T.b_bool (by decide +kernel) rfl) pa_nil)))))))), ?_⟩
    dsimp only [cxOf, Cx.wish, L2.start, List.map, List.length, List.replicate, List.append, List.cons_append, List.nil_append, Nat.reduceAdd, Nat.reduceSub, Nat.zero_add]
    cases kd <;> fail "go" <;> exact q _ (Same.refl _)
local macro_rules | `(tactic| fail "call") => `(tactic| ((with_reducible show sp_is_integer _ _ _ _ _); refine ⟨_, rfl, by fail "kd", fun H' s' => ?_⟩))
def Octs (os : List Int) : Prop := os.length ≤ 400 ∧ ∀ o ∈ os, isOct o
section
variable {K : PySem.W.Frag} {H : Hp} {Q : VK} {σ : L2.St}
theorem g_niF {x : V} {a : Addr} {xs : List V} (h : SqT K H a xs) (h1 : flatV x = true) (h2 : xs.all flatV = true) (e : inV x xs = true) (q : Q (.bl false) H) : rNotInA K x (.ref a) H Q := .inl ⟨a, xs, rfl, .inr h, h1, h2, by
  show Q (.bl (!inV x xs)) H
  rw [e]
  exact q⟩
theorem oct_at {os : List Int} {i : Nat} {y : V} (h : (os.map V.int)[i]? = some y) : ∃ o, os[i]? = some o ∧ y = .int o := by
  rw [List.getElem?_map] at h
  obtain ⟨o, h1, h2⟩ := Option.map_eq_some_iff.mp h
  exact ⟨o, h1, h2.symm⟩
theorem at_of {l : List Nat} {d : Int} {c : Nat} (h0 : 0 ≤ d) (h : l[d.toNat]? = some c) : atI l d = some c := by
  rw [show d = ((d.toNat : Nat) : Int) by omega]
  exact atI_nat h
theorem ix_dg {d : Int} (h0 : 0 ≤ d) (h1 : d < 16) (q : Q (.str (strL [dig d])) H) : rIx K (.str (Str.ofString "0123456789ABCDEF")) (.int d) H Q := by
  have e := dg_at d.toNat (by omega)
  rw [show ((d.toNat : Nat) : Int) = d by omega] at e
  exact g_ixS (c := dig d) (by decide +kernel) (at_of h0 e) q
theorem ix_al {d : Int} (h0 : 0 ≤ d) (h1 : d < 64) (q : Q (.str (strL [alpha d])) H) : rIx K (.str (Str.ofString "ABCDEFGHIJKLMNOPQRSTUVWXYZabcdefghijklmnopqrstuvwxyz0123456789+-")) (.int d) H Q := by
  have e := al_at d.toNat (by omega)
  rw [show ((d.toNat : Nat) : Int) = d by omega] at e
  exact g_ixS (c := alpha d) (by decide +kernel) (at_of h0 e) q
theorem mk_hi : ∀ i, i < 89 → MK.cps.toList[i + 5]? = some (i + 38) := by decide +kernel
theorem ix_mk {c : Int} (h1 : 38 ≤ c) (h2 : c ≤ 126) (q : Q (.str ⟨#[c.toNat]⟩) H) : rIx K (.str MK) (.int (c - 32 - 1)) H Q := by
  have e := mk_hi (c - 38).toNat (by omega)
  rw [show (c - 38).toNat + 38 = c.toNat by omega, show (c - 38).toNat + 5 = (c - 32 - 1).toNat by omega] at e
  exact g_ixS (by decide +kernel) (at_of (by omega) e) q
theorem ss_len : ∀ ss : List Str, (ss.flatMap cs).length = (ss.map (·.length)).sum
  | [] => rfl
  | x :: r => by
    rw [List.flatMap_cons, List.length_append, List.map_cons, List.sum_cons, ss_len r, cs_len]
theorem g_joinG {p : Addr} {ss : List Str} {l : List Nat} (h : H p = some (.lst (ss.map V.str))) (e : ss.flatMap cs = l) (hl : l.length ≤ 100000) (q : Q (.str (strL l)) H) : rJoin K (.str (Str.ofString "")) [.ref p] H Q := by
  subst e
  refine ⟨_, p, ss, rfl, rfl, .inl (SqL.of h), ?_, ?_⟩
  · rw [ss_len] at hl
    rw [show (Str.ofString "").length = 0 by decide]
    omega
  · rw [TL.join_eq, join_flat]
    exact q
theorem sg_map (l : List Nat) : l.map sg = (l.map fun c => (⟨#[c]⟩ : Str)).map V.str := by
  rw [List.map_map]
  rfl
theorem sg_flat : ∀ l : List Nat, (l.map fun c => (⟨#[c]⟩ : Str)).flatMap cs = l
  | [] => rfl
  | c :: l => by
    rw [List.map_cons, List.flatMap_cons, sg_flat l]
    rfl
/-- the items at i·k .. i·k + k -/
theorem grp {α : Type} (os : List α) (k i : Nat) : os.take (k * (i + 1)) = os.take (k * i) ++ (os.drop (k * i)).take k := by
  rw [Nat.mul_add, Nat.mul_one, List.take_add]
theorem grp_len {α : Type} (os : List α) (k i : Nat) : ((os.drop (k * i)).take k).length = min k (os.length - k * i) := by
  rw [List.length_take, List.length_drop]
theorem grp3 (os : List Int) (i : Nat) (h : i < (os.length + 2) / 3) : (∃ a, (os.drop (3 * i)).take 3 = [a]) ∨ (∃ a b, (os.drop (3 * i)).take 3 = [a, b]) ∨ (∃ a b c, (os.drop (3 * i)).take 3 = [a, b, c]) := by
  have l := grp_len os 3 i
  generalize (os.drop (3 * i)).take 3 = g at l
  match g, l with
  | [], l => simp at l; omega
  | [a], _ => exact .inl ⟨a, rfl⟩
  | [a, b], _ => exact .inr (.inl ⟨a, b, rfl⟩)
  | [a, b, c], _ => exact .inr (.inr ⟨a, b, c, rfl⟩)
  | _ :: _ :: _ :: _ :: _, l => simp at l; omega
theorem grp_mem {os : List Int} {k i : Nat} {o : Int} (h : o ∈ (os.drop (k * i)).take k) : o ∈ os := List.mem_of_mem_drop (List.mem_of_mem_take h)
theorem cut_grp (os : List Int) (k i : Nat) (lo hi : Int) (h1 : lo = (k * i : Nat)) (h2 : hi = (k * i + k : Nat)) : cutV (os.map V.int) (some lo) (some hi) = ((os.drop (k * i)).take k).map V.int := by
  rw [h1, h2, cutV_nat _ _ _ (by omega), ← List.map_drop, ← List.map_take, Nat.add_sub_cancel_left]
def alV : V → V | .int d => .str (strL [alpha d]) | v => v
theorem form_sp {o : Int} (h : o = 32) : strL (form o) = Str.ofString "_" := by subst h; decide +kernel
theorem form_lit {o : Int} (h1 : 48 ≤ o) (h2 : o ≤ 122) (g : o.toNat ∈ (Str.ofString "ABCDEFGHIJKLMNOPQRSTUVWXYZabcdefghijklmnopqrstuvwxyz0123456789").cps.toList) : strL (form o) = ⟨#[o.toNat]⟩ := by
  have e := lt_in o.toNat (by omega)
  rw [show ((o.toNat : Nat) : Int) = o by omega, decide_eq_true (show o.toNat ∈ cs LT from g)] at e
  unfold form
  rw [if_neg (by omega), if_pos (of_decide_eq_true e.symm)]
  rfl
theorem form_hex {o : Int} (h : o ≠ 32) (g : ¬ isLit o) : Str.ofString "=" ++ strL [dig (o / 16)] ++ strL [dig (o % 16)] = strL (form o) := by
  unfold form
  rw [if_neg h, if_neg g, show (Str.ofString "=") = strL [61] by decide +kernel, strL_app, strL_app]
  rfl
theorem lit_no {o : Int} (h1 : 48 ≤ o) (h2 : o ≤ 122) (g : ¬ o.toNat ∈ (Str.ofString "ABCDEFGHIJKLMNOPQRSTUVWXYZabcdefghijklmnopqrstuvwxyz0123456789").cps.toList) : ¬ isLit o := by
  have e := lt_in o.toNat (by omega)
  rw [show ((o.toNat : Nat) : Int) = o by omega, decide_eq_false (show ¬ o.toNat ∈ cs LT from g)] at e
  exact of_decide_eq_false e.symm
theorem grpP (g : List Int) (hg : (∃ a, g = [a]) ∨ (∃ a b, g = [a, b]) ∨ (∃ a b c, g = [a, b, c])) (o : ∀ c ∈ g, isOct c) : ∃ x y z, (g ++ [0, 0]).take 3 = [x, y, z] ∧ isOct x ∧ isOct y ∧ isOct z ∧ b64 g = [x / 4, x % 4 * 16 + y / 16, y % 16 * 4 + z / 64, z % 64].take (g.length + 1) ∧ 1 ≤ g.length ∧ g.length ≤ 3 := by
  have z0 : isOct 0 := ⟨by decide, by decide⟩
  rcases hg with ⟨a, rfl⟩ | ⟨a, b, rfl⟩ | ⟨a, b, c, rfl⟩
  · refine ⟨a, 0, 0, rfl, o a (by simp), z0, z0, ?_, by simp, by simp⟩
    show [a / 4, a % 4 * 16] = [a / 4, a % 4 * 16 + 0]
    rw [Int.add_zero]
  · refine ⟨a, b, 0, rfl, o a (by simp), o b (by simp), z0, ?_, by simp, by simp⟩
    show [a / 4, a % 4 * 16 + b / 16, b % 16 * 4] = [a / 4, a % 4 * 16 + b / 16, b % 16 * 4 + 0]
    rw [Int.add_zero]
  · exact ⟨a, b, c, rfl, o a (by simp), o b (by simp), o c (by simp), rfl, by simp, by simp⟩
theorem num_dig {x y z n : Int} (hx : isOct x) (hy : isOct y) (hz : isOct z) (e : n = 65536 * x + 256 * y + z) : n / 262144 = x / 4 ∧ n / 4096 % 64 = x % 4 * 16 + y / 16 ∧ n / 64 % 64 = y % 16 * 4 + z / 64 ∧ n % 64 = z % 64 := by
  unfold isOct at hx hy hz
  omega
theorem al_sg (l : List Int) : (l.map V.int).map alV = (l.map alpha).map sg := by
  rw [List.map_map, List.map_map]
  rfl
theorem add_hex {a : Int} (q : Q (.str (Str.ofString "=" ++ strL [dig a])) H) : rAddA K (.str (Str.ofString "=")) (.str (strL [dig a])) H Q := g_addT (by rw [len_strL]; show _ + 1 ≤ _; decide +kernel) q
theorem add_hex2 {a b : Int} (q : Q (.str (Str.ofString "=" ++ strL [dig a] ++ strL [dig b])) H) : rAddA K (.str (Str.ofString "=" ++ strL [dig a])) (.str (strL [dig b])) H Q := g_addT (by
  have e : Str.ofString "=" ++ strL [dig a] = strL [61, dig a] := by
    rw [show (Str.ofString "=") = strL [61] by decide +kernel, strL_app]
    rfl
  rw [e, len_strL, len_strL]
  show 2 + 1 ≤ _
  decide +kernel) q
theorem len_L {l : List Nat} (h : l.length ≤ 100000) (q : Q (.int l.length) H) : rLenA K [.str (strL l)] H Q := g_lenT (by rw [len_strL]; exact Nat.le_trans h (by decide +kernel)) (by rw [len_strL]; exact q)
theorem ix_L {l : List Nat} {i : Int} {n c : Nat} (h : l.length ≤ 100000) (e : i = (n : Nat)) (g : l[n]? = some c) (q : Q (.str ⟨#[c]⟩) H) : rIx K (.str (strL l)) (.int i) H Q := by
  subst e
  exact g_ixS (by rw [len_strL]; exact Nat.le_trans h (by decide +kernel)) (atI_nat g) q
theorem sl_L {l : List Nat} {lo hi : Int} {i j : Nat} {m : List Nat} (h : l.length ≤ 100000) (e1 : lo = (i : Nat)) (e2 : hi = (j : Nat)) (g : i ≤ j) (e : (l.drop i).take (j - i) = m) (q : Q (.str (strL m)) H) : rSlS (.str (strL l)) (some lo) (some hi) H Q := by
  subst e1 e2 e
  refine g_slS (by rw [len_strL]; exact Nat.le_trans h (by decide +kernel)) ?_
  rw [cutS_nat l i j g]
  exact q
def dal (c : Nat) : Int := ((cs AL).findIdx (· == c) : Nat)
theorem dal_al0 : ∀ d : Nat, d < 64 → dal (alpha d) = d := by decide +kernel
theorem dal_al {d : Int} (h0 : 0 ≤ d) (h1 : d < 64) : dal (alpha d) = d := by
  have e := dal_al0 d.toNat (by omega)
  rw [show ((d.toNat : Nat) : Int) = d by omega] at e
  exact e
theorem dal_map {g : List Int} (h : ∀ o ∈ g, isOct o) : (cs (strL (payS g))).map (fun c => V.int (dal c)) = (b64 g).map V.int := by
  show ((b64 g).map alpha).map _ = _
  rw [List.map_map]
  refine List.map_congr_left fun d hd => ?_
  obtain ⟨h0, h1⟩ := b64_dig g h d hd
  show V.int (dal (alpha d)) = _
  rw [dal_al h0 h1]
theorem payS_grp {os : List Int} (i : Nat) (h : i < (os.length + 2) / 3) : ((payS os).drop (4 * i)).take 4 = payS ((os.drop (3 * i)).take 3) := by
  have tl : (os.take (3 * i)).length = 3 * i := by rw [List.length_take]; omega
  have e : payS os = payS (os.take (3 * i)) ++ payS (os.drop (3 * i)) := by rw [← payS_app i _ _ tl, List.take_append_drop]
  have l : (payS (os.take (3 * i))).length = 4 * i := by rw [payS_len, tl]; omega
  rw [e, ← l, List.drop_left]
  by_cases k : 3 ≤ (os.drop (3 * i)).length
  · have l3 : ((os.drop (3 * i)).take 3).length = 3 * 1 := by rw [List.length_take]; omega
    have l4 : (payS ((os.drop (3 * i)).take 3)).length = 4 := by rw [payS_len, l3]
    conv => lhs; rw [← List.take_append_drop 3 (os.drop (3 * i)), payS_app 1 _ _ l3]
    rw [← l4, List.take_left]
  · rw [List.take_of_length_le (l := os.drop (3 * i)) (by omega)]
    refine List.take_of_length_le ?_
    rw [payS_len]
    omega
theorem pay4 {os : List Int} {i : Nat} (h : ∀ o ∈ (os.drop (3 * i)).take 3, isOct o) : (payS ((os.drop (3 * i)).take 3)).length ≤ 4 := by
  have := grp_len os 3 i
  rw [payS_len]
  omega
theorem g_bmS {z : Str} {t : TA} {r : V → List V → Hp → VK → Prop} (q : t σ H fun xs H1 => r (.str z) xs H1 Q) : tBM K "str" r (tC (.str z)) t σ H Q := ⟨rfl, q⟩
theorem len_L2 {a b : Nat} (q : Q (.int 2) H) : rLenA K [.str (strL [a, b])] H Q := len_L (l := [a, b]) (Nat.le_of_ble_eq_true rfl) q
theorem ix_20 {a b : Nat} (q : Q (.str ⟨#[a]⟩) H) : rIx K (.str (strL [a, b])) (.int 0) H Q := ix_L (l := [a, b]) (n := 0) (Nat.le_of_ble_eq_true rfl) rfl rfl q
theorem ix_21 {a b : Nat} (q : Q (.str ⟨#[b]⟩) H) : rIx K (.str (strL [a, b])) (.int 1) H Q := ix_L (l := [a, b]) (n := 1) (Nat.le_of_ble_eq_true rfl) rfl rfl q
theorem len_U2 {a : Addr} {x y : V} (h : SqT K H a [x, y]) (q : Q (.int 2) H) : rLenA K [.ref a] H Q := g_lenU h q
theorem eqNo {a b : Str} (e : decide (a = b) = false) (q : Q (.bl false) H) : rEqA K (.str a) (.str b) H Q := g_eqT (by rw [e]; exact q)
theorem eqYes {a b : Str} (e : decide (a = b) = true) (q : Q (.bl true) H) : rEqA K (.str a) (.str b) H Q := g_eqT (by rw [e]; exact q)
theorem g_forE0 {t : TA} {g : TG} {tb : TS} {D : Ends} (q : t σ H fun vs H1 => tFor (iEnumT K (fun _ H Q => Q vs H)) g tb D σ H1) : tFor (iEnumT K t) g tb D σ H := q
theorem unr_flat {α : Type} {St : Hp → Prop} {g : TG} {tb : TS} {D : Ends} (f : α → List V) (I : List α → L2.St → Hp → Prop) (hn : ∀ σ H, I [] σ H → D.nx σ H)
    (hs : ∀ x r σ H, I (x :: r) σ H → (∀ σ2 H2, I r σ2 H2 → unr St g tb D (r.flatMap f) σ2 H2) → unr St g tb D (f x ++ r.flatMap f) σ H) : ∀ l σ H, I l σ H → unr St g tb D (l.flatMap f) σ H
  | [], σ, H, h => hn σ H h
  | x :: r, σ, H, h => hs x r σ H h (unr_flat f I hn hs r)
theorem eqC {c d : Nat} {z : Str} (e : z = ⟨#[d]⟩) (q : Q (.bl (decide (c = d))) H) : rEqA K (.str ⟨#[c]⟩) (.str z) H Q := by
  refine g_eqT ?_
  have k : decide ((⟨#[c]⟩ : Str) = z) = decide (c = d) := by
    rw [e]
    by_cases p : c = d
    · rw [decide_eq_true p, decide_eq_true (by rw [p])]
    · rw [decide_eq_false p, decide_eq_false (fun z => p ?_)]
      have := congrArg cs z
      simpa [cs] using this
  rw [k]
  exact q
theorem in_lit {o : Int} (h1 : 0 ≤ o) (h : isLit o) (q : Q (.bl true) H) : rInA K (.str ⟨#[o.toNat]⟩) (.str (Str.ofString "ABCDEFGHIJKLMNOPQRSTUVWXYZabcdefghijklmnopqrstuvwxyz0123456789")) H Q := by
  have e := lt_in o.toNat (by unfold isLit at h; omega)
  rw [show ((o.toNat : Nat) : Int) = o by omega, decide_eq_true h] at e
  refine g_inS ?_
  rw [show decide (o.toNat ∈ (Str.ofString "ABCDEFGHIJKLMNOPQRSTUVWXYZabcdefghijklmnopqrstuvwxyz0123456789").cps.toList) = true from e]
  exact q
theorem in_dg {d : Int} (h0 : 0 ≤ d) (h1 : d < 16) (q : Q (.bl true) H) : rInA K (.str ⟨#[dig d]⟩) (.str (Str.ofString "0123456789ABCDEF")) H Q := by
  have e := dg_in d.toNat (by omega)
  rw [show ((d.toNat : Nat) : Int) = d by omega] at e
  refine g_inS ?_
  rw [show decide (dig d ∈ (Str.ofString "0123456789ABCDEF").cps.toList) = true from e]
  exact q
theorem six_dg {d : Int} (h0 : 0 ≤ d) (h1 : d < 16) (q : Q (.int d) H) : rSIndex (.str (Str.ofString "0123456789ABCDEF")) [.str ⟨#[dig d]⟩] H Q := by
  have e := dg_ix d.toNat (by omega)
  rw [show ((d.toNat : Nat) : Int) = d by omega] at e
  refine g_sindex e ?_
  rw [show ((d.toNat : Nat) : Int) = d by omega]
  exact q
theorem six_al {d : Int} (h0 : 0 ≤ d) (h1 : d < 64) (q : Q (.int d) H) : rSIndex (.str (Str.ofString "ABCDEFGHIJKLMNOPQRSTUVWXYZabcdefghijklmnopqrstuvwxyz0123456789+-")) [.str ⟨#[alpha d]⟩] H Q := by
  have e := al_ix d.toNat (by omega)
  rw [show ((d.toNat : Nat) : Int) = d by omega] at e
  refine g_sindex e ?_
  rw [show ((d.toNat : Nat) : Int) = d by omega]
  exact q
theorem al_mem {os : List Int} (h : ∀ o ∈ os, isOct o) {c : Nat} (m : c ∈ payS os) : c ∈ cs AL := by
  obtain ⟨d, hd, rfl⟩ := List.mem_map.mp m
  obtain ⟨h0, h1⟩ := b64_dig os h d hd
  have e := al_in d.toNat (by omega)
  rw [show ((d.toNat : Nat) : Int) = d by omega] at e
  exact of_decide_eq_true e
/-- the signs of the octet at i -/
theorem form_at {os : List Int} {i : Nat} {o : Int} (h : os[i]? = some o) : payH os = payH (os.take i) ++ (form o ++ payH (os.drop (i + 1))) ∧ payH (os.take (i + 1)) = payH (os.take i) ++ form o := by
  obtain ⟨hi, e⟩ := List.getElem?_eq_some_iff.mp h
  have a : os.take (i + 1) = os.take i ++ [o] := by rw [List.take_succ, h]; rfl
  have b : payH [o] = form o := by show form o ++ [] = _; rw [List.append_nil]
  have c : os = os.take (i + 1) ++ os.drop (i + 1) := (List.take_append_drop _ _).symm
  refine ⟨?_, by rw [a, payH_app, b]⟩
  rw [← List.append_assoc, ← b, ← payH_app, ← a, ← payH_app, ← c]
theorem at_app {α : Type} {P R : List α} {c : α} : (P ++ (c :: R))[P.length]? = some c := by
  rw [List.getElem?_append_right (Nat.le_refl _), Nat.sub_self]
  rfl
theorem forET_in {j m N : Nat} {a : Addr} {xs : List V} {D : Ends} {tb : TS} (hN : 2 = N) (h : SqT K H a xs) (Pv : Nat → L2.St → Hp → Prop) (h0 : Pv 0 σ H) (hl : ∀ i σ' H', i ≤ xs.length → Pv i σ' H' → SqT K H' a xs)
    (hs : ∀ i x σ' H1 H' T, i < xs.length → xs[i]? = some x → Pv i σ' H1 → H1 T = none → H' = upd H1 T (.tup [.int (i : Nat), x]) →
      tb { D with nx := Pv (i + 1), ct := Pv (i + 1), bk := D.nx } ((σ'.set j (some (.int (i : Nat)))).set m (some x)) H')
    (hd : ∀ σ' H', Pv xs.length σ' H' → D.nx σ' H') : tFor (iEnumT K (fun _ H Q => Q [.ref a] H)) (gTup K N (gCons (gName j) (gCons (gName m) gNil))) tb D σ H := by
  subst hN
  refine ⟨a, xs, rfl, h, for_it walk_enumT Pv h0 hl ?_ hd⟩
  rintro i x σ' H1 H' hi p ⟨T, y, rfl, hT, e, hy⟩
  refine ⟨T, _, rfl, .inl (.inl (by rw [e]; exact upd_same)), rfl, _, _, rfl, _, _, rfl, rfl, ?_⟩
  exact hs i y σ' H1 H' T hi hy p hT e
theorem octs_at {c : Kn} {ns : List Int} {i : Nat} {n : Int} (h : ns[i]? = some n) : octs c (ns.take (i + 1)) = octs c (ns.take i) ++ enc c n := by
  rw [List.take_succ, h]
  show octs c (ns.take i ++ [n]) = _
  rw [octs_app]
  show octs c (ns.take i) ++ (enc c n ++ []) = _
  rw [List.append_nil]
theorem wi_len : ∀ ns : List Int, (octs .wi ns).length = 2 * ns.length
  | [] => rfl
  | c :: ns => by
    show (octs .wi ns).length + 2 = _
    rw [wi_len ns, List.length_cons]
    omega
theorem wi_grp {ns : List Int} {i : Nat} {c : Int} (h : ns[i]? = some c) : ((octs .wi ns).drop (2 * i)).take 2 = [c / 256, c % 256] := by
  obtain ⟨hi, e⟩ := List.getElem?_eq_some_iff.mp h
  have k : ns = ns.take i ++ (c :: ns.drop (i + 1)) := by rw [← e, ← List.drop_eq_getElem_cons hi, List.take_append_drop]
  have l : (octs .wi (ns.take i)).length = 2 * i := by rw [wi_len, List.length_take]; omega
  have z : octs .wi ns = octs .wi (ns.take i) ++ (c / 256 :: c % 256 :: octs .wi (ns.drop (i + 1))) := by
    conv => lhs; rw [k]
    rw [octs_app]
    rfl
  rw [z, ← l, List.drop_left]
  rfl
theorem stp_step {c : Int} (h : 127 < c) (h2 : c ≤ 65535) : stp c = (128 + c % 128) :: stp (c / 128) := by
  unfold stp
  rw [if_neg (by omega)]
  by_cases p : c / 128 ≤ 127
  · rw [if_pos p, if_pos p]
  · rw [if_neg p, if_neg p, if_pos (by omega)]
theorem stp_end {c : Int} (h : c ≤ 127) : stp c = [c] := by
  unfold stp
  rw [if_pos h]
end
local macro_rules
  | `(tactic| fail "catA") => `(tactic| ((with_reducible apply g_catA); (fail "h"); (fail "h"); (simp only [List.length_map, List.length_cons, List.length_nil]; omega)))
local macro_rules | `(tactic| fail "go1") => `(tactic| first
  | ((with_reducible refine len_L ?_ ?_); (first | assumption | omega))
  | ((with_reducible refine g_bmS ?_))
  | ((with_reducible refine len_L2 ?_))
  | ((with_reducible refine ix_20 ?_))
  | ((with_reducible refine ix_21 ?_))
  | ((with_reducible apply len_U2); (fail "sq"))
  | ((with_reducible refine eqC (by fail "sgn") ?_))
  | ((with_reducible refine in_lit ?_ ?_ ?_); (omega); (assumption))
  | ((with_reducible refine in_dg ?_ ?_ ?_); (omega); (omega))
  | ((with_reducible refine six_dg ?_ ?_ ?_); (omega); (omega))
  | ((with_reducible refine six_al ?_ ?_ ?_); (omega); (omega))
  | ((with_reducible refine add_hex ?_))
  | ((with_reducible refine add_hex2 ?_))
  | ((with_reducible refine ix_dg ?_ ?_ ?_); (omega); (omega))
  | ((with_reducible refine ix_al ?_ ?_ ?_); (omega); (omega)))
/-- of a built-in type, no tuple -/
inductive Ntp (K : PySem.W.Frag) (H : Hp) : V → Prop where
  | str {z : Str} (h : As 100000 z) : Ntp K H (.str z)
  | int (i : Int) : Ntp K H (.int i)
  | non : Ntp K H .non
  | bl (b : Bool) : Ntp K H (.bl b)
  | lst {a : Addr} (h : TyX K H (.ref a) (.type "list")) : Ntp K H (.ref a)
  | dct {a : Addr} (h : TyX K H (.ref a) (.type "dict")) : Ntp K H (.ref a)
def nOct : V → Bool | .int o => !(decide (0 ≤ o) && decide (o ≤ 255)) | _ => true
def BadAt (xs : List V) (j : Nat) (y : V) : Prop := xs.length ≤ 400 ∧ xs[j]? = some y ∧ nOct y = true ∧ ∀ i, i < j → ∃ o, xs[i]? = some (.int o) ∧ isOct o
def badC : V → Bool | .str z => !(inV (.str z) [.str "h", .str "s"]) | _ => true
/-- no octets, and what that asks -/
def BadOs (K : PySem.W.Frag) (H : Hp) (E : XK) (w : V) : Prop := (∃ p xs j y, w = .ref p ∧ H p = some (.tup xs) ∧ BadAt xs j y ∧ Kd K H y ∧ Rz K H E "BadOctet" "place" (.int (j : Nat))) ∨ (Ntp K H w ∧ Rz K H E "BadOctet" "place" .non)
theorem g_niT {K : PySem.W.Frag} {H : Hp} {Q : VK} {x : V} {a : Addr} {xs : List V} (h : SqT K H a xs) (h1 : flatV x = true) (h2 : xs.all flatV = true) (e : (!inV x xs) = true) (q : Q (.bl true) H) : rNotInA K x (.ref a) H Q := .inl ⟨a, xs, rfl, .inr h, h1, h2, by
  show Q (.bl (!inV x xs)) H
  rw [e]
  exact q⟩

def sp_check_coding (K : PySem.W.Frag) : Sp := fun vs H Q E =>
  ∃ (v : V), vs = [v] ∧ ((∃ z, v = .str z ∧ (z = "h" ∨ z = "s") ∧ ∀ H', Same H H' → Q .non H') ∨ (Kd K H v ∧ badC v = true ∧ Rz K H E "BadCoding" "given" v))
theorem df_check_coding (T : Txt P K mg base) : DfX P w K mg base 3 "check_coding" s_check_coding ["coding"] (sp_check_coding K) := by
  have sc := sc_check_coding
  obtain ⟨f, hm, fd, F⟩ := T.d_check_coding
  refine ⟨f, fd, hm, F, okX F sc (by fail "many") (fun cdv A outer s H vs Q E hr h => ?_)⟩
  · obtain ⟨v, rfl, kk⟩ := h
    obtain ⟨a_CODINGS, hm_CODINGS, sq_CODINGS⟩ := T.c_CODINGS
    refine ⟨_, (pss_one (ps_if (PW.pt (pw_or (pt_not (pt_val (pe_callB call_isi (by rfl) T.b_isinstance (by decide +kernel) (pa_cons (pv 0) (pa_cons (pe_bltn (v := V.ty "str") (u := .type "str") (by rfl) T.b_str (by decide +kernel) rfl) pa_nil))))) (pw_or1 (pt_cmpR op_notInA (pv 0) (pe_globE (v := V.ref a_CODINGS) ⟨_, hm_CODINGS, rfl⟩) rfl)))) (pss_one (ps_raiseX T.x_BadCoding rfl hr (by decide) (takes_of rfl rfl rfl rfl) (pa_cons (pv 0) pa_nil))) pss_nil)), ?_⟩
    dsimp only [cxOf, Cx.wish, L2.start, List.map, List.length, List.replicate, List.append, List.cons_append, List.nil_append, Nat.reduceAdd, Nat.reduceSub, Nat.zero_add]
    rcases kk with ⟨z, rfl, hz, k⟩ | ⟨kd, hb, x⟩
    · rcases hz with rfl | rfl
      all_goals fail "go"
      all_goals refine g_niF (sq_CODINGS _) rfl (by decide +kernel) (by decide +kernel) ?_
      all_goals fail "go"
      all_goals exact k _ (Same.refl _)
    · cases kd
      case str z hz =>
        fail "go"
        refine g_niT (sq_CODINGS _) rfl (by decide +kernel) hb ?_
        fail "go"
        exact x _ _ _ ‹_› (by fail "same") ‹_›
      all_goals fail "go"
      all_goals exact x _ _ _ ‹_› (by fail "same") ‹_›
local macro_rules | `(tactic| fail "call") => `(tactic| ((with_reducible show sp_check_coding _ _ _ _ _); refine ⟨_, rfl, ?_⟩))

def sp_check_octets (K : PySem.W.Frag) : Sp := fun vs H Q E =>
  ∃ (v : V), vs = [v] ∧ ((∃ p os, v = .ref p ∧ H p = some (.tup (os.map V.int)) ∧ Octs os ∧ ∀ H', Same H H' → Q .non H') ∨ BadOs K H E v)
theorem df_check_octets (T : Txt P K mg base) : DfX P w K mg base 3 "check_octets" s_check_octets ["octets"] (sp_check_octets K) := by
  have sc := sc_check_octets
  obtain ⟨f, hm, fd, F⟩ := T.d_check_octets
  refine ⟨f, fd, hm, F, okX F sc (by fail "many") (fun cdv A outer s H vs Q E hr h => ?_)⟩
  · obtain ⟨v, rfl, kk⟩ := h
    refine ⟨_, (pss_cons (ps_if (pt_not (pt_val (pe_callB call_isi (by rfl) T.b_isinstance (by decide +kernel) (pa_cons (pv 0) (pa_cons (pe_bltn (v := V.ty "tuple") (u := .type "tuple") (by rfl) T.b_tuple (by decide +kernel) rfl) pa_nil))))) (pss_one (ps_raiseX T.x_BadOctet rfl hr (by decide) (takes_of rfl rfl rfl rfl) (pa_cons pe_non pa_nil))) pss_nil)
 (pss_one (ps_for (passes_of rfl) rfl (pi_enumT (by rfl) T.b_enumerate (pa_cons (pv 0) pa_nil)) (pg_tup (by rfl) (pgs_cons (pg_name (i := 1) sc.nd rfl (Or.inl rfl)) (pgs_cons (pg_name (i := 2) sc.nd rfl (Or.inl rfl)) pgs_nil))) (pss_one (ps_if (PW.pt (pw_or (pt_not (pt_val (pe_callG (sp := sp_is_integer K) (df_is_integer T) hr (by decide) b_is_integer_1_ b_is_integer_1__s (pa_cons (pv 2) pa_nil) pk_nil))) (pw_or1 (pt_not (pt_chain op_leA op_leA pe_int (pv 2) pe_int))))) (pss_one (ps_raiseX T.x_BadOctet rfl hr (by decide) (takes_of rfl rfl rfl rfl) (pa_cons (pv 1) pa_nil))) pss_nil))))), ?_⟩
    dsimp only [cxOf, Cx.wish, L2.start, List.map, List.length, List.replicate, List.append, List.cons_append, List.nil_append, Nat.reduceAdd, Nat.reduceSub, Nat.zero_add]
    rcases kk with ⟨p, os, rfl, hp, ho, k⟩ | ⟨p, xs, j, y, rfl, hp, ⟨lx, hj, ny, lo⟩, kd, x⟩ | ⟨nt, x⟩
    · fail "go"
      refine g_forET rfl rfl (SqT.of hp) (fun i σ' H' => (∃ u v, σ' = [some (.ref p), u, v]) ∧ Same H H') ⟨⟨_, _, rfl⟩, by fail "same"⟩ ?_ ?_ ?_
      · rintro i σ' H' _ ⟨_, s1⟩
        exact SqT.of (s1 _ _ hp)
      · rintro i y σ' H1 H' T1 hi hy ⟨⟨u, v, rfl⟩, s1⟩ nT rfl
        obtain ⟨o, h1, rfl⟩ := oct_at hy
        have b := ho.2 o (List.mem_of_getElem? h1)
        unfold isOct at b
        fail "go"
        · exact (Bool.false_ne_true ‹(!isI (V.int o)) = true›).elim
        · exact ⟨⟨_, _, rfl⟩, by fail "same"⟩
      · rintro σ' H1 ⟨_, s1⟩
        exact k _ s1
    · fail "go"
      refine g_forET rfl rfl (SqT.of hp) (fun i σ' H' => (∃ u v, σ' = [some (.ref p), u, v]) ∧ Same H H' ∧ i ≤ j) ⟨⟨_, _, rfl⟩, by fail "same", Nat.zero_le _⟩ ?_ ?_ ?_
      · rintro i σ' H' _ ⟨_, s1, _⟩
        exact SqT.of (s1 _ _ hp)
      · rintro i y' σ' H1 H' T1 hi hy ⟨⟨u, v, rfl⟩, s1, li⟩ nT rfl
        by_cases e : i = j
        · subst e
          rw [hj] at hy
          cases hy
          have kd1 := kd.same s1
          have kd2 := kd1.same (Same.upd (o := HO.tup [V.int (i : Nat), y]) nT (Same.refl H1))
          clear kd kd1
          cases y with
          | int o =>
            fail "go"
            all_goals first | exact x _ _ _ ‹_› (by fail "same") ‹_› | (exfalso; unfold nOct at ny; simp at ny; omega)
          | _ =>
            fail "go"
            all_goals first | exact x _ _ _ ‹_› (by fail "same") ‹_› | exact (Bool.noConfusion (show true = false by assumption))
        · obtain ⟨o, h1, b⟩ := lo i (by omega)
          rw [hy] at h1
          cases h1
          unfold isOct at b
          fail "go"
          · exact (Bool.false_ne_true ‹(!isI (V.int o)) = true›).elim
          · exact ⟨⟨_, _, rfl⟩, by fail "same", by omega⟩
      · rintro σ' H1 ⟨_, s1, l⟩
        have := (List.getElem?_eq_some_iff.mp hj).1
        omega
    · cases nt
      all_goals fail "go"
      all_goals exact x _ _ _ ‹_› (by fail "same") ‹_›
local macro_rules | `(tactic| fail "call") => `(tactic| ((with_reducible show sp_check_octets _ _ _ _ _); refine ⟨_, rfl, ?_⟩))

def sp_form_of (K : PySem.W.Frag) : Sp := fun vs H Q _ =>
  ∃ (o : Int), vs = [.int o] ∧ isOct o ∧ ∀ H', Same H H' → Q (.str (strL (form o))) H'
theorem df_form_of (T : Txt P K mg base) : Df P w K mg base 1 "form_of" s_form_of ["octet"] (sp_form_of K) := by
  have sc := sc_form_of
  obtain ⟨f, hm, fd, F⟩ := T.d_form_of
  refine ⟨f, fd, hm, F, okG F sc (by fail "many") (fun cdv A outer s H vs Q E hr h => ?_)⟩
  · obtain ⟨o, rfl, ho, k⟩ := h
    refine ⟨_, (pss_cons (ps_if (pt_cmpR (op_eqA hr) (pv 0) pe_int (nomark _)) (pss_one (ps_ret pe_str)) pss_nil)
 (pss_cons (ps_set (i := 1) sc.nd rfl (Or.inl rfl) (pe_ifExp (pt_chain op_leA op_leA pe_int (pv 0) pe_int) (pe_ix ix_seq (pe_globE T.c_MARKS) (pe_op op_subA (pe_op op_subA (pv 0) pe_int) (pe_ifExp (pt_cmpR op_gtA (pv 0) pe_int (nomark _)) pe_int pe_int)) (fun _ _ => rfl)) pe_str))
 (pss_one (ps_ret (pe_ifExp (pt_cmpR op_inA (pv 1) (pe_globE T.c_LITERALS) rfl) (pv 1) (pe_op op_addA (pe_op op_addA pe_str (pe_ix ix_seq (pe_globE T.c_DIGITS) (pe_op op_divA (pv 0) pe_int) (fun _ _ => rfl))) (pe_ix ix_seq (pe_globE T.c_DIGITS) (pe_op op_modA (pv 0) pe_int) (fun _ _ => rfl)))))))), ?_⟩
    dsimp only [cxOf, Cx.wish, L2.start, List.map, List.length, List.replicate, List.append, List.cons_append, List.nil_append, Nat.reduceAdd, Nat.reduceSub, Nat.zero_add]
    unfold isOct at ho
    fail "go"
    · rename_i e
      have q := k _ (Same.refl _)
      rw [form_sp e] at q
      exact q
    · rename_i n32 g1 g2
      refine ix_mk (by omega) (by omega) ?_
      fail "go"
      · rename_i g
        have q := k _ (Same.refl _)
        rw [form_lit g1 g2 g] at q
        exact q
      · rename_i g
        have q := k _ (Same.refl _)
        rw [← form_hex n32 (lit_no g1 g2 g)] at q
        exact q
    · rename_i g
      exact absurd g (by decide +kernel)
    · rename_i n32 g1 g2 g
      have q := k _ (Same.refl _)
      rw [← form_hex n32 (by unfold isLit; omega)] at q
      exact q
    · rename_i g
      exact absurd g (by decide +kernel)
    · rename_i n32 g1 g
      have q := k _ (Same.refl _)
      rw [← form_hex n32 (by unfold isLit; omega)] at q
      exact q
local macro_rules | `(tactic| fail "call") => `(tactic| ((with_reducible show sp_form_of _ _ _ _ _); refine ⟨_, rfl, by assumption, fun H' s' => ?_⟩))

def sp_bits_written (K : PySem.W.Frag) : Sp := fun vs H Q _ =>
  ∃ (p : Addr) (os : List Int), vs = [.ref p] ∧ H p = some (.tup (os.map V.int)) ∧ Octs os ∧ ∀ H', Same H H' → Q (.str (strL (payS os))) H'
theorem df_bits_written (T : Txt P K mg base) : Df P w K mg base 1 "bits_written" s_bits_written ["octets"] (sp_bits_written K) := by
  have sc := sc_bits_written
  obtain ⟨f, hm, fd, F⟩ := T.d_bits_written
  refine ⟨f, fd, hm, F, okG F sc (by fail "many") (fun cdv A outer s H vs Q E hr h => ?_)⟩
  · obtain ⟨p, os, rfl, hp, ho, k⟩ := h
    refine ⟨_, (pss_cons (ps_set (i := 1) sc.nd rfl (Or.inl rfl) (pe_lst pa_nil))
 (pss_cons (ps_for PassesOwn.never rfl (pi_range3 rfl T.b_range (pa_cons pe_int (pa_cons (pe_callB call_lenA (by rfl) T.b_len (by decide +kernel) (pa_cons (pv 0) pa_nil)) (pa_cons pe_int pa_nil)))) (pg_name (i := 2) sc.nd rfl (Or.inl rfl)) (pss_cons (ps_set (i := 3) sc.nd rfl (Or.inl rfl) (pe_slice sl_tupA (pv 0) (po_some (pv 2)) (po_some (pe_op op_addA (pv 2) pe_int))))
 (pss_cons (ps_asg (pe_slice sl_tupA (pe_op op_addA (pv 3) (pe_tup (pa_cons pe_int (pa_cons pe_int pa_nil)))) po_none (po_some pe_int)) (pg_tup (by rfl) (pgs_cons (pg_name (i := 4) sc.nd rfl (Or.inl rfl)) (pgs_cons (pg_name (i := 5) sc.nd rfl (Or.inl rfl)) (pgs_cons (pg_name (i := 6) sc.nd rfl (Or.inl rfl)) pgs_nil)))))
 (pss_cons (ps_set (i := 7) sc.nd rfl (Or.inl rfl) (pe_op op_addA (pe_op op_addA (pe_op op_mulA pe_int (pv 4)) (pe_op op_mulA pe_int (pv 5))) (pv 6)))
 (pss_cons (ps_set (i := 8) sc.nd rfl (Or.inl rfl) (pe_lst (pa_cons (pe_op op_divA (pv 7) pe_int) (pa_cons (pe_op op_modA (pe_op op_divA (pv 7) pe_int) pe_int) (pa_cons (pe_op op_modA (pe_op op_divA (pv 7) pe_int) pe_int) (pa_cons (pe_op op_modA (pv 7) pe_int) pa_nil))))))
 (pss_one (ps_expr (pe_bm PySem.F.plainAttrs_list PySem.F.slot_list_extend PySem.F.type_list_extend mt_extendA (pv 1) (pa_cons (pe_lc (own := [("digit", 9)]) (g := gName 9) (tt := tYes) rfl sc.nd (pi_list (pe_slice sl_list (pv 8) po_none (po_some (pe_op op_addA (pe_callB call_lenA (by rfl) T.b_len (by decide +kernel) (pa_cons (pv 3) pa_nil)) pe_int)))) (blkOk_by (N := ["octets", "found", "start", "group", "one", "two", "three", "number", "digits", "digit"]) (sc := defScope s_bits_written) (by decide +kernel)) (fun _ _ _ _ _ => (pg_name (i := 9) sc.nd rfl (Or.inl rfl))) (fun _ _ _ _ _ => pts_nil) (fun _ _ _ _ _ => (pe_ix (ixK (r := rIx) (K := K) rfl ix_seq) (pe_globE T.c_ALPHABET) (pv 9) (fun _ _ => rfl)))) pa_nil)))))))))
 (pss_one (ps_ret (pe_joinA pe_str (pv 1)))))), ?_⟩
    dsimp only [cxOf, Cx.wish, L2.start, List.map, List.length, List.replicate, List.append, List.cons_append, List.nil_append, Nat.reduceAdd, Nat.reduceSub, Nat.zero_add]
    fail "go"
    rename_i p1 np1
    have lo := ho.1
    have hp1 : H p1 = none := np1
    refine ⟨0, _, 3, _, rfl, rgc3 (n := (os.map V.int).length) (by rw [List.length_map]; omega), for_rangeC (fun i σ' H' => (∃ a b c d e f g h, σ' = [some (.ref p), some (.ref p1), a, b, c, d, e, f, g, h]) ∧ Same H H' ∧ H' p1 = some (.lst ((payS (os.take (3 * i))).map sg))) ⟨⟨_, _, _, _, _, _, _, _, rfl⟩, by fail "same", upd_same⟩ ?_ ?_⟩
    · rintro i σ' H' hi ⟨⟨a, b, c, d, e, f, g', h, rfl⟩, s1, h1⟩
      rw [List.length_map] at hi
      have sp := grp os 3 i
      have tl : (os.take (3 * i)).length = 3 * i := by rw [List.length_take]; omega
      have cg := cut_grp os 3 i (0 + (i : Nat) * 3) (0 + (i : Nat) * 3 + 3) (by omega) (by omega)
      obtain ⟨x, y, z, e3, ox, oy, oz, eb, l1, l3⟩ := grpP _ (grp3 os i hi) (fun o h => ho.2 o (grp_mem h))
      generalize (os.drop (3 * i)).take 3 = g at sp cg e3 eb l1 l3
      have bx := ox
      have by' := oy
      have bz := oz
      unfold isOct at bx by' bz
      obtain ⟨n1, n2, n3, n4⟩ := num_dig ox oy oz rfl
      fail "go"
      refine g_slTA (by fail "h") cg fun H2 p2 s2 hp2 => ?_
      fail "go"
      fail "catA"
      intro H3 p3 s3 hp3
      fail "go"
      refine g_slTA (ys := [V.int x, V.int y, V.int z]) hp3 ?_ fun H4 p4 s4 hp4 => ?_
      · show cutV _ none (some ((3 : Nat) : Int)) = _
        rw [cutV_to, show [V.int 0, V.int 0] = [(0 : Int), 0].map V.int from rfl, ← List.map_append, ← List.map_take, e3]
        rfl
      fail "go"
      refine g_lcLE ?_
      fail "go"
      refine g_slL (ys := ([x / 4, x % 4 * 16 + y / 16, y % 16 * 4 + z / 64, z % 64].take (g.length + 1)).map V.int) (SqL.of upd_same) ?_ fun p6 np6 => ?_
      · rw [show (((List.map V.int g).length : Nat) : Int) + 1 = ((g.length + 1 : Nat) : Int) by rw [List.length_map]; rfl, cutV_to, n1, n2, n3, n4, List.map_take]
        rfl
      have dm : ∀ t ∈ [x / 4, x % 4 * 16 + y / 16, y % 16 * 4 + z / 64, z % 64], 0 ≤ t ∧ t < 64 := by
        intro t ht
        simp only [List.mem_cons, List.mem_nil_iff, or_false] at ht
        rcases ht with rfl | rfl | rfl | rfl <;> omega
      refine ⟨_, rfl, ⟨_, SqL.of upd_same⟩, lc_pure walk_list (fun _ s => s.seq (SqL.of upd_same)) (fun _ => true) alV (by rw [List.length_map, List.length_take]; exact Nat.le_trans (Nat.min_le_right _ _) (by show 4 ≤ 1000000; decide)) (fun _ => rfl) (fun _ _ _ _ => tst_yes) ?_ ?_⟩
      · intro v hv _ H7 s7 R r
        obtain ⟨t, ht, rfl⟩ := List.mem_map.mp hv
        obtain ⟨t0, t1⟩ := dm t (List.mem_of_mem_take ht)
        fail "go"
        exact r _ (by fail "same")
      · intro D H7 nD s7 hD
        rw [flt_all, al_sg] at hD
        fail "go"
        refine ⟨_, _, _, _, rfl, rfl, by fail "h", .inl hD, ?_, ?_⟩
        · rw [List.length_map, List.length_map, List.length_map, payS_len, tl, List.length_take]
          show _ + min (g.length + 1) 4 ≤ _
          refine Nat.le_trans (m := 5000) (by omega) (by decide +kernel)
        · refine ⟨⟨_, _, _, _, _, _, _, _, rfl⟩, by fail "same", ?_⟩
          rw [sp, payS_app i _ _ tl, List.map_append]
          unfold payS
          rw [eb]
          exact upd_same
    · rintro σ' H' ⟨⟨a, b, c, d, e, f, g, h, rfl⟩, s1, h1⟩
      rw [List.length_map, List.take_of_length_le (by omega)] at h1
      fail "go"
      refine g_joinG (by rw [h1, sg_map]) (sg_flat _) (by rw [payS_len]; omega) ?_
      exact k _ s1
local macro_rules | `(tactic| fail "call") => `(tactic| ((with_reducible show sp_bits_written _ _ _ _ _); refine ⟨_, _, rfl, by fail "h", by assumption, fun H' s' => ?_⟩))

def sp_payload_of (K : PySem.W.Frag) : Sp := fun vs H Q E =>
  ∃ (v w : V), vs = [v, w] ∧ ((∃ z p os, v = .str z ∧ w = .ref p ∧ H p = some (.tup (os.map V.int)) ∧ Octs os ∧ ((z = "h" ∧ ∀ H', Same H H' → Q (.str (strL (payH os))) H') ∨ (z = "s" ∧ ∀ H', Same H H' → Q (.str (strL (payS os))) H'))) ∨ (Kd K H v ∧ badC v = true ∧ Rz K H E "BadCoding" "given" v) ∨ (∃ z, v = .str z ∧ (z = "h" ∨ z = "s") ∧ BadOs K H E w))
theorem df_payload_of (T : Txt P K mg base) : DfX P w K mg base 4 "payload_of" s_payload_of ["coding", "octets"] (sp_payload_of K) := by
  have sc := sc_payload_of
  obtain ⟨f, hm, fd, F⟩ := T.d_payload_of
  refine ⟨f, fd, hm, F, okX F sc (by fail "many") (fun cdv A outer s H vs Q E hr h => ?_)⟩
  · obtain ⟨v, w, rfl, kk⟩ := h
    refine ⟨_, (pss_cons (ps_expr (pe_callX (sp := sp_check_coding K) (df_check_coding T) (takes_of rfl rfl rfl rfl) hr (by decide) b_check_coding_1_ b_check_coding_1__s (pa_cons (pv 0) pa_nil) pk_nil))
 (pss_cons (ps_expr (pe_callX (sp := sp_check_octets K) (df_check_octets T) (takes_of rfl rfl rfl rfl) hr (by decide) b_check_octets_1_ b_check_octets_1__s (pa_cons (pv 1) pa_nil) pk_nil))
 (pss_one (ps_ret (pe_ifExp (pt_cmpR (op_eqA hr) (pv 0) pe_str (nomark _)) (pe_joinA pe_str (pe_lc (own := [("octet", 2)]) (g := gName 2) (tt := tYes) rfl sc.nd (pi_tup (pv 1)) (blkOk_by (N := ["coding", "octets", "octet"]) (sc := defScope s_payload_of) (by decide +kernel)) (fun _ _ _ _ _ => (pg_name (i := 2) sc.nd rfl (Or.inl rfl))) (fun _ _ _ _ _ => pts_nil) (fun _ _ _ _ _ => (pe_callG (sp := sp_form_of K) (df_form_of T) hr (by decide) b_form_of_1_ b_form_of_1__s (pa_cons (pv 2) pa_nil) pk_nil)))) (pe_callG (sp := sp_bits_written K) (df_bits_written T) hr (by decide) b_bits_written_1_ b_bits_written_1__s (pa_cons (pv 1) pa_nil) pk_nil)))))), ?_⟩
    dsimp only [cxOf, Cx.wish, L2.start, List.map, List.length, List.replicate, List.append, List.cons_append, List.nil_append, Nat.reduceAdd, Nat.reduceSub, Nat.zero_add]
    rcases kk with ⟨z, p, os, rfl, rfl, hp, ho, kk⟩ | ⟨kd, hb, x⟩ | ⟨z, rfl, hz, bo⟩
    · have hz : z = "h" ∨ z = "s" := by
        rcases kk with ⟨e, _⟩ | ⟨e, _⟩
        · exact .inl e
        · exact .inr e
      fail "go"
      refine .inl ⟨_, rfl, hz, fun H1 s1 => ?_⟩
      fail "go"
      refine .inl ⟨_, _, rfl, s1 _ _ hp, ho, fun H2 s2 => ?_⟩
      fail "go"
      · rename_i e
        rcases kk with ⟨_, k⟩ | ⟨e2, k⟩
        · refine g_lcTX1 (a := p) (fun R r => by fail "go"; exact r) (SqT.of (by fail "h")) (fun v => match v with | .int o => .str (strL (form o)) | v => v) (by rw [List.length_map]; have := ho.1; omega) (fun _ => rfl) ?_ ?_
          · intro x hx H2 s2 R r
            obtain ⟨o, hm, rfl⟩ := List.mem_map.mp hx
            have b := ho.2 o hm
            fail "go"
            exact r _ (by fail "same")
          · intro D H2 hD s2 hd
            fail "go"
            refine g_joinG (ss := os.map fun o => strL (form o)) (l := payH os) (by rw [hd, List.map_map, List.map_map]; rfl) (by unfold payH; rw [List.flatMap_map]; rfl) (by have := (payH_cnt ho.2).2.2; have := ho.1; omega) ?_
            exact k _ (by fail "same")
        · exact absurd (e2.symm.trans ‹z = Str.ofString "h"›) (by decide +kernel)
      · rcases kk with ⟨e2, k⟩ | ⟨_, k⟩
        · exact absurd e2 (by assumption)
        · fail "go"
          exact k _ (by fail "same")
    · fail "go"
      exact .inr ⟨kd, hb, x⟩
    · fail "go"
      refine .inl ⟨_, rfl, hz, fun H1 s1 => ?_⟩
      fail "go"
      refine .inr ?_
      rcases bo with ⟨p, xs, j, y, rfl, hp, b, kd, x⟩ | ⟨nt, x⟩
      · exact .inl ⟨p, xs, j, y, rfl, s1 _ _ hp, b, kd.same s1, x.same s1⟩
      · refine .inr ⟨?_, x.same s1⟩
        cases nt with
        | str h => exact .str h
        | int i => exact .int i
        | non => exact .non
        | bl b => exact .bl b
        | lst h => exact .lst (tyx_same s1 h)
        | dct h => exact .dct (tyx_same s1 h)
local macro_rules | `(tactic| fail "call") => `(tactic| ((with_reducible show sp_payload_of _ _ _ _ _); refine ⟨_, _, rfl, ?_⟩))
-- len_simp
local macro_rules | `(tactic| fail "go1") => `(tactic| ((with_reducible apply g_lenL); (fail "sq"); (simp only [List.length_append, List.length_cons, List.length_nil, Nat.zero_add, Nat.reduceAdd])))
local macro_rules | `(tactic| fail "go1") => `(tactic| first
  | ((with_reducible refine eqNo ?_ ?_); (decide +kernel))
  | ((with_reducible refine eqYes ?_ ?_); (decide +kernel)))
theorem finV {H H1 : Hp} {Q : VK} {v w : V} (k : ∀ H', Same H H' → Q v H') (e : w = v) (s : Same H H1) : Q w H1 := e ▸ k H1 s
/-- what is wanted of a reading -/
def RdK (K : PySem.W.Frag) (H : Hp) (Q : VK) (E : XK) : List Int ⊕ Nat → Prop
  | .inl os => ∀ H' p, Same H H' → H p = none → H' p = some (.tup (os.map V.int)) → Q (.ref p) H'
  | .inr k => Rz K H E "BadPayload" "place" (.int (k : Nat))
theorem RdK.same {K : PySem.W.Frag} {H H1 : Hp} {Q : VK} {E : XK} {r : List Int ⊕ Nat} (h : RdK K H Q E r) (s : Same H H1) : RdK K H1 Q E r := by
  cases r with
  | inl os => exact fun H' p s' n hp => h H' p (Same.trans s s') (Same.frees0 s n) hp
  | inr k => exact Rz.same h s
/-- signs of a payload -/
def Sgs (l : List Nat) : Prop := l.length ≤ 200 ∧ ∀ c ∈ l, c < 128
theorem runH_in {l : List Nat} {m p : Nat} {os : List Int} {c : Nat} {r : List Nat} {q : List Int ⊕ Nat} (h : runH l (m + 1) p os = q) (hp : p < l.length) (hc : l.drop p = c :: r) : (match stepC c r with | some (o, k) => runH l m (p + k) (os ++ [o]) | none => .inr p) = q := by
  unfold runH at h
  rw [if_pos hp, hc] at h
  exact h
theorem in_lt {K : PySem.W.Frag} {H : Hp} {Q : VK} {c : Nat} (hc : c < 128) (q : Q (.bl (decide (isLit (c : Int)))) H) : rInA K (.str ⟨#[c]⟩) (.str (Str.ofString "ABCDEFGHIJKLMNOPQRSTUVWXYZabcdefghijklmnopqrstuvwxyz0123456789")) H Q := by
  refine g_inS ?_
  rw [show decide (c ∈ (Str.ofString "ABCDEFGHIJKLMNOPQRSTUVWXYZabcdefghijklmnopqrstuvwxyz0123456789").cps.toList) = decide (c ∈ cs LT) from rfl, lt_in c hc]
  exact q
theorem in_hx {K : PySem.W.Frag} {H : Hp} {Q : VK} {c : Nat} (hc : c < 128) (q : Q (.bl (hx c).isSome) H) : rInA K (.str ⟨#[c]⟩) (.str (Str.ofString "0123456789ABCDEF")) H Q := by
  refine g_inS ?_
  rw [show decide (c ∈ (Str.ofString "0123456789ABCDEF").cps.toList) = decide (c ∈ cs DG) from rfl, hx_in0 c hc]
  exact q
theorem ni_ax {K : PySem.W.Frag} {H : Hp} {Q : VK} {c : Nat} (hc : c < 128) (q : Q (.bl (!(ax c).isSome)) H) : rNotInA K (.str ⟨#[c]⟩) (.str (Str.ofString "ABCDEFGHIJKLMNOPQRSTUVWXYZabcdefghijklmnopqrstuvwxyz0123456789+-")) H Q := by
  refine g_niS ?_
  rw [show decide (c ∈ (Str.ofString "ABCDEFGHIJKLMNOPQRSTUVWXYZabcdefghijklmnopqrstuvwxyz0123456789+-").cps.toList) = decide (c ∈ cs AL) from rfl, ax_in0 c hc]
  exact q
theorem six_hx {H : Hp} {Q : VK} {c : Nat} {d : Int} (h : hx c = some d) (q : Q (.int d) H) : rSIndex (.str (Str.ofString "0123456789ABCDEF")) [.str ⟨#[c]⟩] H Q := by
  obtain ⟨rfl, h0, h1⟩ := hx_dig h
  exact six_dg h0 h1 q
theorem in_hxT {K : PySem.W.Frag} {H : Hp} {Q : VK} {c : Nat} {d : Int} (h : hx c = some d) (q : Q (.bl true) H) : rInA K (.str ⟨#[c]⟩) (.str (Str.ofString "0123456789ABCDEF")) H Q := by
  obtain ⟨rfl, h0, h1⟩ := hx_dig h
  exact in_dg h0 h1 q
theorem in_hxF {K : PySem.W.Frag} {H : Hp} {Q : VK} {c : Nat} (h : hx c = none) (hc : c < 128) (q : Q (.bl false) H) : rInA K (.str ⟨#[c]⟩) (.str (Str.ofString "0123456789ABCDEF")) H Q := by
  refine in_hx hc ?_
  rw [h]
  exact q
theorem len_L0 {K : PySem.W.Frag} {H : Hp} {Q : VK} (q : Q (.int 0) H) : rLenA K [.str (strL [])] H Q := len_L (l := []) (Nat.le_of_ble_eq_true rfl) q
theorem len_L1 {K : PySem.W.Frag} {H : Hp} {Q : VK} {a : Nat} (q : Q (.int 1) H) : rLenA K [.str (strL [a])] H Q := len_L (l := [a]) (Nat.le_of_ble_eq_true rfl) q
local macro_rules | `(tactic| fail "go1") => `(tactic| first
  | ((with_reducible refine len_L0 ?_))
  | ((with_reducible refine len_L1 ?_))
  | ((with_reducible refine in_hxT (by assumption) ?_))
  | ((with_reducible refine in_hxF (by assumption) (by assumption) ?_))
  | ((with_reducible refine six_hx (by assumption) ?_))
  | ((with_reducible refine in_lt (by assumption) ?_))
  | ((with_reducible refine ni_ax (by assumption) ?_)))

def sp_forms_read (K : PySem.W.Frag) : Sp := fun vs H Q E =>
  ∃ (l : List Nat), vs = [.str (strL l)] ∧ Sgs l ∧ RdK K H Q E (outH l)
theorem df_forms_read (T : Txt P K mg base) : DfX P w K mg base 3 "forms_read" s_forms_read ["payload"] (sp_forms_read K) := by
  have sc := sc_forms_read
  obtain ⟨f, hm, fd, F⟩ := T.d_forms_read
  refine ⟨f, fd, hm, F, okX F sc (by fail "many") (fun cdv A outer s H vs Q E hr h => ?_)⟩
  · obtain ⟨l, rfl, ⟨ll, lc⟩, kk⟩ := h
    refine ⟨_, (pss_cons (ps_par (i := 1) (j := 2) rfl sc.nd rfl rfl (by decide) rfl rfl (pa_cons (pe_lst pa_nil) (pa_cons pe_int pa_nil)) (by rfl))
 (pss_cons (ps_while (passes_of rfl) (pt_cmpR op_ltA (pv 2) (pe_callB call_lenA (by rfl) T.b_len (by decide +kernel) (pa_cons (pv 0) pa_nil)) (nomark _)) (pss_cons (ps_set (i := 3) sc.nd rfl (Or.inl rfl) (pe_ix ix_seq (pv 0) (pv 2) (fun _ _ => rfl)))
 (pss_cons (ps_set (i := 4) sc.nd rfl (Or.inl rfl) (pe_slice sl_str (pv 0) (po_some (pe_op op_addA (pv 2) pe_int)) (po_some (pe_op op_addA (pv 2) pe_int))))
 (pss_one (ps_if (PW.pt (pw_and (pt_cmpR (op_eqA hr) (pv 3) pe_str (nomark _)) (pw_and (pt_cmpR (op_eqA hr) (pe_callB call_lenA (by rfl) T.b_len (by decide +kernel) (pa_cons (pv 4) pa_nil)) pe_int (nomark _)) (pw_and (pt_cmpR op_inA (pe_ix ix_seq (pv 4) pe_int (fun _ _ => rfl)) (pe_globE T.c_DIGITS) rfl) (pw_and1 (pt_cmpR op_inA (pe_ix ix_seq (pv 4) pe_int (fun _ _ => rfl)) (pe_globE T.c_DIGITS) rfl)))))) (pss_cons (ps_expr (pe_bm PySem.F.plainAttrs_list PySem.F.slot_list_append PySem.F.type_list_append mt_append (pv 1) (pa_cons (pe_op op_addA (pe_op op_mulA pe_int (pe_bm PySem.F.plainAttrs_str PySem.F.slot_str_index PySem.F.type_str_index mt_sindexN (pe_globE T.c_DIGITS) (pa_cons (pe_ix ix_seq (pv 4) pe_int (fun _ _ => rfl)) pa_nil))) (pe_bm PySem.F.plainAttrs_str PySem.F.slot_str_index PySem.F.type_str_index mt_sindexN (pe_globE T.c_DIGITS) (pa_cons (pe_ix ix_seq (pv 4) pe_int (fun _ _ => rfl)) pa_nil))) pa_nil)))
 (pss_one (ps_aug (i := 2) sc.nd rfl (Or.inl rfl) pe_int ip_addA))) (pss_one (ps_if (PW.pt (pw_or (pt_cmpR (op_eqA hr) (pv 3) pe_str (nomark _)) (pw_or1 (pt_cmpR op_inA (pv 3) (pe_globE T.c_LITERALS) rfl)))) (pss_cons (ps_expr (pe_bm PySem.F.plainAttrs_list PySem.F.slot_list_append PySem.F.type_list_append mt_append (pv 1) (pa_cons (pe_ifExp (pt_cmpR (op_eqA hr) (pv 3) pe_str (nomark _)) pe_int (pe_callB call_ordC (by rfl) T.b_ord (by decide +kernel) (pa_cons (pv 3) pa_nil))) pa_nil)))
 (pss_one (ps_aug (i := 2) sc.nd rfl (Or.inl rfl) pe_int ip_addA))) (pss_one (ps_raiseX T.x_BadPayload rfl hr (by decide) (takes_of rfl rfl rfl rfl) (pa_cons (pv 2) pa_nil))))))))))
 (pss_one (ps_ret (pe_tupleOf (by rfl) T.b_tuple (pv 1)))))), ?_⟩
    dsimp only [cxOf, Cx.wish, L2.start, List.map, List.length, List.replicate, List.append, List.cons_append, List.nil_append, Nat.reduceAdd, Nat.reduceSub, Nat.zero_add]
    fail "go"
    rename_i p1 np1
    have hz : l.length ≤ 100000 := by omega
    refine g_while (fun m σ' H' => ∃ (p : Nat) (os : List Int) (x y : Option V), σ' = [some (.str (strL l)), some (.ref p1), some (.int (p : Nat)), x, y] ∧ Same H H' ∧ H' p1 = some (.lst (os.map V.int)) ∧ l.length ≤ m + p ∧ os.length ≤ p ∧ p ≤ l.length ∧ runH l m p os = outH l) l.length ⟨0, [], _, _, rfl, by fail "same", upd_same, by omega, Nat.le_refl _, Nat.zero_le _, rfl⟩ ?_
    rintro m σ' H' ⟨p, os, x, y, rfl, s1, h1, lm, lo, lp, run⟩
    have lz : (os.map V.int).length = os.length := List.length_map ..
    by_cases hp : p < l.length
    · obtain ⟨c, hlc⟩ : ∃ c, l[p]? = some c := ⟨_, List.getElem?_eq_getElem hp⟩
      have hcr : l.drop p = c :: l.drop (p + 1) := by
        obtain ⟨_, e⟩ := List.getElem?_eq_some_iff.mp hlc
        rw [← e]
        exact List.drop_eq_getElem_cons hp
      generalize hr : l.drop (p + 1) = r at hcr
      have cc : c < 128 := lc c (List.mem_of_getElem? hlc)
      have rc : ∀ c ∈ r, c < 128 := fun c hc => lc c (List.mem_of_mem_drop (by rw [hr]; exact hc))
      obtain ⟨m, rfl⟩ : ∃ m', m = m' + 1 := ⟨m - 1, by omega⟩
      have run2 := runH_in run hp hcr
      have lr : r.length = l.length - (p + 1) := by rw [← hr, List.length_drop]
      have fin : ∀ (o : Int) (k : Nat) (H2 : Hp) (x y : Option V), stepC c r = some (o, k) → Same H H2 → H2 p1 = some (.lst (os.map V.int ++ [V.int o])) → ∃ m', m' < m + 1 ∧ ∃ (p' : Nat) (os' : List Int) (x' y' : Option V), [some (V.str (strL l)), some (.ref p1), some (.int ((p : Nat) + (k : Nat))), x, y] = [some (V.str (strL l)), some (.ref p1), some (.int (p' : Nat)), x', y'] ∧ Same H H2 ∧ H2 p1 = some (.lst (os'.map V.int)) ∧ l.length ≤ m' + p' ∧ os'.length ≤ p' ∧ p' ≤ l.length ∧ runH l m' p' os' = outH l := fun o k H2 x y e s h => by
        have so := stepH_oct (l := c :: r) e
        simp only [List.length_cons] at so
        rw [e] at run2
        exact ⟨m, Nat.lt_succ_self _, p + k, os ++ [o], x, y, by rw [Int.natCast_add], s, by rw [h, List.map_append]; rfl, by omega, by rw [List.length_append, List.length_singleton]; omega, by omega, run2⟩
      have bad : stepC c r = none → Rz K H E "BadPayload" "place" (.int (p : Nat)) := fun e => by
        rw [e] at run2
        rw [← run2] at kk
        exact kk
      clear kk run run2
      fail "go"
      refine ix_L hz rfl hlc ?_
      fail "go"
      have sl : ∀ m, r.take 2 = m → ((l.drop (p + 1)).take (p + 3 - (p + 1))) = m := fun m e => by rw [hr, show p + 3 - (p + 1) = 2 by omega, e]
      by_cases c61 : c = 61
      · subst c61
        match r, lr, rc, fin, bad, sl with
        | [], lr, rc, fin, bad, sl =>
          have x := bad rfl
          refine sl_L (i := p + 1) (j := p + 3) (m := []) hz (by omega) (by omega) (by omega) (sl _ rfl) ?_
          fail "go"
          all_goals first | exact absurd (show isLit _ by assumption) (by decide) | exact x _ _ _ ‹_› (by fail "same") ‹_›
        | [a], lr, rc, fin, bad, sl =>
          have x := bad rfl
          refine sl_L (i := p + 1) (j := p + 3) (m := [a]) hz (by omega) (by omega) (by omega) (sl _ rfl) ?_
          fail "go"
          all_goals first | exact absurd (show isLit _ by assumption) (by decide) | exact x _ _ _ ‹_› (by fail "same") ‹_›
        | a :: b :: r', lr, rc, fin, bad, sl =>
          have ca := rc a (by simp)
          have cb := rc b (by simp)
          refine sl_L (i := p + 1) (j := p + 3) (m := [a, b]) hz (by omega) (by omega) (by omega) (sl _ rfl) ?_
          cases ha : hx a with
          | none =>
            have x := bad (show hexP (hx a) (hx b) = none by rw [ha]; rfl)
            fail "go"
            all_goals first | exact absurd (show isLit _ by assumption) (by decide) | exact x _ _ _ ‹_› (by fail "same") ‹_›
          | some va =>
            cases hb : hx b with
            | none =>
              have x := bad (show hexP (hx a) (hx b) = none by rw [ha, hb]; rfl)
              fail "go"
              all_goals first | exact absurd (show isLit _ by assumption) (by decide) | exact x _ _ _ ‹_› (by fail "same") ‹_›
            | some vb =>
              obtain ⟨_, va0, va1⟩ := hx_dig ha
              obtain ⟨_, vb0, vb1⟩ := hx_dig hb
              fail "go"
              exact fin (16 * va + vb) 3 _ _ _ (show hexP (hx a) (hx b) = _ by rw [ha, hb]; rfl) (by fail "same") upd_same
      · refine sl_L (i := p + 1) (j := p + 3) (m := r.take 2) hz (by omega) (by omega) (by omega) (sl _ rfl) ?_
        fail "go"
        all_goals first
          | exact fin 32 1 _ _ _ (by unfold stepC; rw [if_neg c61, if_pos (by assumption)]) (by fail "same") upd_same
          | exact fin (c : Nat) 1 _ _ _ (by unfold stepC; rw [if_neg c61, if_neg (by assumption), if_pos (by assumption)]) (by fail "same") upd_same
          | exact bad (by unfold stepC; rw [if_neg c61, if_neg (by assumption), if_neg (by assumption)]) _ _ _ ‹_› (by fail "same") ‹_›
    · have pe : outH l = .inl os := by rw [← run]; exact runH_end (by omega) m
      rw [pe] at kk
      fail "go"
      exact kk _ _ (by fail "same") (Same.frees0 s1 (by assumption)) upd_same
local macro_rules | `(tactic| fail "call") => `(tactic| ((with_reducible show sp_forms_read _ _ _ _ _); refine ⟨_, rfl, by assumption, ?_⟩))
theorem ax_some {c : Nat} {d : Int} (h : ax c = some d) : (!(ax c).isSome) = false := by rw [h]; rfl
theorem ax_none {c : Nat} (h : ax c = none) : (!(ax c).isSome) = true := by rw [h]; rfl
theorem dal_map2 {g : List Int} (h : ∀ d ∈ g, 0 ≤ d ∧ d < 64) : (cs (strL (g.map alpha))).map (fun c => V.int (dal c)) = g.map V.int := by
  show (g.map alpha).map _ = _
  rw [List.map_map]
  refine List.map_congr_left fun d hd => ?_
  obtain ⟨h0, h1⟩ := h d hd
  show V.int (dal (alpha d)) = _
  rw [dal_al h0 h1]

def sp_bits_read (K : PySem.W.Frag) : Sp := fun vs H Q E =>
  ∃ (l : List Nat), vs = [.str (strL l)] ∧ Sgs l ∧ RdK K H Q E (outS l)
theorem df_bits_read (T : Txt P K mg base) : DfX P w K mg base 3 "bits_read" s_bits_read ["payload"] (sp_bits_read K) := by
  have sc := sc_bits_read
  obtain ⟨f, hm, fd, F⟩ := T.d_bits_read
  refine ⟨f, fd, hm, F, okX F sc (by fail "many") (fun cdv A outer s H vs Q E hr h => ?_)⟩
  · obtain ⟨l, rfl, ⟨ll, lc⟩, kk⟩ := h
    refine ⟨_, (pss_cons (ps_for (passes_of rfl) rfl (pi_enumS (by rfl) T.b_enumerate (pa_cons (pv 0) pa_nil)) (pg_tup (by rfl) (pgs_cons (pg_name (i := 1) sc.nd rfl (Or.inl rfl)) (pgs_cons (pg_name (i := 2) sc.nd rfl (Or.inl rfl)) pgs_nil))) (pss_one (ps_if (pt_cmpR op_notInA (pv 2) (pe_globE T.c_ALPHABET) rfl) (pss_one (ps_raiseX T.x_BadPayload rfl hr (by decide) (takes_of rfl rfl rfl rfl) (pa_cons (pv 1) pa_nil))) pss_nil)))
 (pss_cons (ps_if (pt_cmpR (op_eqA hr) (pe_op op_modA (pe_callB call_lenA (by rfl) T.b_len (by decide +kernel) (pa_cons (pv 0) pa_nil)) pe_int) pe_int (nomark _)) (pss_one (ps_raiseX T.x_BadPayload rfl hr (by decide) (takes_of rfl rfl rfl rfl) (pa_cons (pe_callB call_lenA (by rfl) T.b_len (by decide +kernel) (pa_cons (pv 0) pa_nil)) pa_nil))) pss_nil)
 (pss_cons (ps_set (i := 3) sc.nd rfl (Or.inl rfl) (pe_lst pa_nil))
 (pss_cons (ps_for (passes_of rfl) rfl (pi_range3 rfl T.b_range (pa_cons pe_int (pa_cons (pe_callB call_lenA (by rfl) T.b_len (by decide +kernel) (pa_cons (pv 0) pa_nil)) (pa_cons pe_int pa_nil)))) (pg_name (i := 4) sc.nd rfl (Or.inl rfl)) (pss_cons (ps_setLc (i := 5) (own := [("sign", 2)]) (g := gName 2) (tt := tYes) rfl sc.nd rfl rfl (sw_true rfl rfl rfl (by decide +kernel)) (pi_str (pe_slice sl_str (pv 0) (po_some (pv 4)) (po_some (pe_op op_addA (pv 4) pe_int)))) (blkOk_by (N := ["payload", "place", "sign", "found", "start", "digits", "one", "two", "three", "four", "number", "octets"]) (sc := defScope s_bits_read) (by decide +kernel)) (fun _ _ _ _ _ => (pg_name (i := 2) sc.nd rfl (Or.inl rfl))) (fun _ _ _ _ _ => pts_nil) (fun _ _ _ _ _ => (bmK (K := K) rfl (pe_bm PySem.F.plainAttrs_str PySem.F.slot_str_index PySem.F.type_str_index mt_sindexN (pe_globE T.c_ALPHABET) (pa_cons (pv 2) pa_nil)))))
 (pss_cons (ps_asg (pe_slice sl_list (pe_op op_addA (pv 5) (pe_lst (pa_cons pe_int (pa_cons pe_int pa_nil)))) po_none (po_some pe_int)) (pg_seq (by rfl) (pgs_cons (pg_name (i := 6) sc.nd rfl (Or.inl rfl)) (pgs_cons (pg_name (i := 7) sc.nd rfl (Or.inl rfl)) (pgs_cons (pg_name (i := 8) sc.nd rfl (Or.inl rfl)) (pgs_cons (pg_name (i := 9) sc.nd rfl (Or.inl rfl)) pgs_nil))))))
 (pss_cons (ps_set (i := 10) sc.nd rfl (Or.inl rfl) (pe_op op_addA (pe_op op_addA (pe_op op_addA (pe_op op_mulA pe_int (pv 6)) (pe_op op_mulA pe_int (pv 7))) (pe_op op_mulA pe_int (pv 8))) (pv 9)))
 (pss_cons (ps_set (i := 11) sc.nd rfl (Or.inl rfl) (pe_lst (pa_cons (pe_op op_divA (pv 10) pe_int) (pa_cons (pe_op op_modA (pe_op op_divA (pv 10) pe_int) pe_int) (pa_cons (pe_op op_modA (pv 10) pe_int) pa_nil)))))
 (pss_cons (ps_if (PW.pt (pw_and (pt_cmpR op_ltA (pe_callB call_lenA (by rfl) T.b_len (by decide +kernel) (pa_cons (pv 5) pa_nil)) pe_int (nomark _)) (pw_and1 (pt_cmpR op_gtA (pe_ix ix_seq (pv 11) (pe_op op_subA (pe_callB call_lenA (by rfl) T.b_len (by decide +kernel) (pa_cons (pv 5) pa_nil)) pe_int) (fun _ _ => rfl)) pe_int (nomark _))))) (pss_one (ps_raiseX T.x_BadPayload rfl hr (by decide) (takes_of rfl rfl rfl rfl) (pa_cons (pe_op op_subA (pe_callB call_lenA (by rfl) T.b_len (by decide +kernel) (pa_cons (pv 0) pa_nil)) pe_int) pa_nil))) pss_nil)
 (pss_one (ps_expr (pe_bm PySem.F.plainAttrs_list PySem.F.slot_list_extend PySem.F.type_list_extend mt_extendA (pv 3) (pa_cons (pe_slice sl_list (pv 11) po_none (po_some (pe_op op_subA (pe_callB call_lenA (by rfl) T.b_len (by decide +kernel) (pa_cons (pv 5) pa_nil)) pe_int))) pa_nil))))))))))
 (pss_one (ps_ret (pe_tupleOf (by rfl) T.b_tuple (pv 3)))))))), ?_⟩
    dsimp only [cxOf, Cx.wish, L2.start, List.map, List.length, List.replicate, List.append, List.cons_append, List.nil_append, Nat.reduceAdd, Nat.reduceSub, Nat.zero_add]
    have hz : l.length ≤ 100000 := by omega
    cases hd : digS l with
    | inr k =>
      obtain ⟨kl, ⟨ck, hck, hak⟩, hbf⟩ := digS_bad hd
      have x : Rz K H E "BadPayload" "place" (.int (k : Nat)) := by
        unfold outS at kk
        rw [hd] at kk
        exact kk
      refine g_forES rfl rfl (fun i σ' H' => (∃ u v, σ' = [some (.str (strL l)), u, v, none, none, none, none, none, none, none, none, none]) ∧ Same H H' ∧ i ≤ k) ⟨⟨_, _, rfl⟩, by fail "same", Nat.zero_le _⟩ ?_ ?_
      · rintro i c σ' H1 H' T1 hi hc ⟨⟨u, v, rfl⟩, s1, li⟩ nT rfl
        have hc2 : l[i]? = some c := hc
        have cc : c < 128 := lc c (List.mem_of_getElem? hc2)
        by_cases e : i = k
        · subst e
          rw [hck] at hc2
          cases hc2
          have an := ax_none hak
          fail "go"
          all_goals first | exact x _ _ _ ‹_› (by fail "same") ‹_› | exact absurd (an.symm.trans (by assumption)) (by decide)
        · obtain ⟨c', d', h1, h2⟩ := hbf i (by omega)
          rw [hc2] at h1
          cases h1
          have an := ax_some h2
          fail "go"
          all_goals first | exact ⟨⟨_, _, rfl⟩, by fail "same", by omega⟩ | exact absurd (an.symm.trans (by assumption)) (by decide)
      · rintro σ' H' ⟨_, s1, l1⟩
        rw [len_strL] at l1
        omega
    | inl ds =>
      obtain ⟨el, dd⟩ := digS_ok hd
      have ll2 : l.length = ds.length := by rw [el, List.length_map]
      refine g_forES rfl rfl (fun i σ' H' => (∃ u v, σ' = [some (.str (strL l)), u, v, none, none, none, none, none, none, none, none, none]) ∧ Same H H') ⟨⟨_, _, rfl⟩, by fail "same"⟩ ?_ ?_
      · rintro i c σ' H1 H' T1 hi hc ⟨⟨u, v, rfl⟩, s1⟩ nT rfl
        have hc2 : l[i]? = some c := hc
        have cc : c < 128 := lc c (List.mem_of_getElem? hc2)
        have hax : ∃ d, ax c = some d := by
          have m := List.mem_of_getElem? hc2
          rw [el] at m
          obtain ⟨d, hdm, rfl⟩ := List.mem_map.mp m
          exact ⟨d, ax_of (dd d hdm).1 (dd d hdm).2⟩
        obtain ⟨d, hax⟩ := hax
        have an := ax_some hax
        fail "go"
        all_goals first | exact ⟨⟨_, _, rfl⟩, by fail "same"⟩ | exact absurd (an.symm.trans (by assumption)) (by decide)
      rintro σ' H' ⟨⟨u, v, rfl⟩, s1⟩
      unfold outS at kk
      rw [hd] at kk
      simp only at kk
      by_cases m1 : l.length % 4 = 1
      · rw [if_pos m1] at kk
        have x : Rz K H E "BadPayload" "place" (.int (l.length : Nat)) := kk
        fail "go"
        exact x _ _ _ ‹_› (by fail "same") ‹_›
      · rw [if_neg m1] at kk
        fail "go"
        rename_i p1 np1
        have hp1 : H p1 = none := Same.frees0 s1 np1
        refine ⟨0, _, 4, _, rfl, rgc4 (n := l.length) (by omega), for_rangeC (fun i σ' H' => (∃ u v a b c d e f g h, σ' = [some (.str (strL l)), u, v, some (.ref p1), a, b, c, d, e, f, g, h]) ∧ Same H H' ∧ H' p1 = some (.lst ((dS (ds.take (4 * i))).map V.int)) ∧ loS (ds.take (4 * i)) = false) ⟨⟨_, _, _, _, _, _, _, _, _, _, rfl⟩, by fail "same", upd_same, rfl⟩ ?_ ?_⟩
        · rintro i σ' H' hi ⟨⟨u, v, a, b, c, d, e, f, g', h, rfl⟩, s1, h1, l0⟩
          have hi3 : i < (ds.length + 3) / 4 := by omega
          have tl : (ds.take (4 * i)).length = 4 * i := by rw [List.length_take]; omega
          have sp := grp ds 4 i
          obtain ⟨ap, al⟩ := dS_app i (ds.take (4 * i)) ((ds.drop (4 * i)).take 4) tl
          rw [← sp] at ap al
          have li : ((dS (ds.take (4 * i))).map V.int).length ≤ 400 := by
            have := (dS_oct (ds.take (4 * i)) fun d hd => dd d (List.mem_of_mem_take hd)).2
            rw [List.length_map]
            omega
          have gm : (l.drop (4 * i)).take 4 = ((ds.drop (4 * i)).take 4).map alpha := by rw [el, ← List.map_drop, ← List.map_take]
          have gd : ∀ d ∈ (ds.drop (4 * i)).take 4, 0 ≤ d ∧ d < 64 := fun d hd => dd d (List.mem_of_mem_drop (List.mem_of_mem_take hd))
          have g4 := grp4 ds i hi3 (by omega)
          have gl : ((ds.drop (4 * i)).take 4).length ≤ 4 := by rw [List.length_take]; omega
          have last : ds.length ≤ 4 * i + 4 → ds.take (4 * (i + 1)) = ds := fun z => List.take_of_length_le (by omega)
          generalize (ds.drop (4 * i)).take 4 = g at ap al gm gd g4 gl
          fail "go"
          refine g_lcE ?_
          fail "go"
          refine sl_L (i := 4 * i) (j := 4 * i + 4) (m := g.map alpha) hz (by omega) (by omega) (by omega) (by rw [Nat.add_sub_cancel_left]; exact gm) ?_
          refine ⟨_, rfl, lc_str (fun _ => true) (fun c => V.int (dal c)) (by rw [len_strL, List.length_map]; omega) (fun _ => rfl) (fun _ _ _ _ => tst_yes) ?_ ?_⟩
          · intro c' hc' _ H2 s2 R r
            obtain ⟨d', hd', rfl⟩ := List.mem_map.mp (show c' ∈ g.map alpha from hc')
            obtain ⟨d0, d1⟩ := gd d' hd'
            rw [dal_al d0 d1] at r
            fail "go"
            exact r _ (by fail "same")
          · intro D H2 nD s2 hD
            rw [flt_all] at hD
            have hD2 := hD.trans (congrArg (fun l => some (HO.lst l)) (dal_map2 gd))
            clear hD
            rcases g4 with ⟨x, y, z, w, eg⟩ | ⟨⟨x, y, z, eg⟩ | ⟨x, y, eg⟩, le⟩
            all_goals subst eg
            · have qx := gd x (by simp)
              have qy := gd y (by simp)
              have qz := gd z (by simp)
              have qw := gd w (by simp)
              have hD3 : H2 D = some (.lst [V.int x, V.int y, V.int z, V.int w]) := hD2
              clear hD2
              fail "go"
              refine g_slL (ys := [V.int x, V.int y, V.int z, V.int w]) (SqL.of upd_same) rfl fun p6 np6 => ?_
              fail "go"
              all_goals
                refine g_slL (ys := [V.int ((262144 * x + 4096 * y + 64 * z + w) / 65536), V.int ((262144 * x + 4096 * y + 64 * z + w) / 256 % 256), V.int ((262144 * x + 4096 * y + 64 * z + w) % 256)]) (SqL.of upd_same) rfl fun p7 np7 => ?_
                fail "go"
                refine ⟨_, _, _, _, rfl, rfl, by fail "h", .inl upd_same, ?_, ?_⟩
                · show _ + 3 ≤ _
                  exact Nat.le_trans (Nat.add_le_add_right li _) (by decide +kernel)
                · refine ⟨⟨_, _, _, _, _, _, _, _, _, _, rfl⟩, by fail "same", ?_, al⟩
                  rw [ap, List.map_append, show (262144 * x + 4096 * y + 64 * z + w) / 65536 = 4 * x + y / 16 by omega, show (262144 * x + 4096 * y + 64 * z + w) / 256 % 256 = y % 16 * 16 + z / 4 by omega, show (262144 * x + 4096 * y + 64 * z + w) % 256 = z % 4 * 64 + w by omega]
                  exact upd_same
            · have qx := gd x (by simp)
              have qy := gd y (by simp)
              have qz := gd z (by simp)
              have hD3 : H2 D = some (.lst [V.int x, V.int y, V.int z]) := hD2
              clear hD2
              rw [last le] at al ap
              have al2 : loS ds = decide (0 < z % 4) := al
              fail "go"
              refine g_slL (ys := [V.int x, V.int y, V.int z, V.int 0]) (SqL.of upd_same) rfl fun p6 np6 => ?_
              fail "go"
              · have kx := kk
                rw [al2, decide_eq_true (show 0 < z % 4 by omega), if_pos rfl] at kx
                have kx2 : Rz K H E "BadPayload" "place" (.int ((l.length : Int) - 1)) := by
                  have e : ((l.length : Int) - 1) = ((l.length - 1 : Nat) : Int) := by omega
                  rw [e]
                  exact kx
                exact kx2 _ _ _ ‹_› (by fail "same") ‹_›
              · refine g_slL (ys := [V.int ((262144 * x + 4096 * y + 64 * z + 0) / 65536), V.int ((262144 * x + 4096 * y + 64 * z + 0) / 256 % 256)]) (SqL.of upd_same) rfl fun p7 np7 => ?_
                fail "go"
                refine ⟨_, _, _, _, rfl, rfl, by fail "h", .inl upd_same, ?_, ?_⟩
                · show _ + 2 ≤ _
                  exact Nat.le_trans (Nat.add_le_add_right li _) (by decide +kernel)
                · refine ⟨⟨_, _, _, _, _, _, _, _, _, _, rfl⟩, by fail "same", ?_, by rw [last le, al2]; exact decide_eq_false (by omega)⟩
                  rw [last le, ap, List.map_append, show (262144 * x + 4096 * y + 64 * z + 0) / 65536 = 4 * x + y / 16 by omega, show (262144 * x + 4096 * y + 64 * z + 0) / 256 % 256 = y % 16 * 16 + z / 4 by omega]
                  exact upd_same
            · have qx := gd x (by simp)
              have qy := gd y (by simp)
              have hD3 : H2 D = some (.lst [V.int x, V.int y]) := hD2
              clear hD2
              rw [last le] at al ap
              have al2 : loS ds = decide (0 < y % 16) := al
              fail "go"
              refine g_slL (ys := [V.int x, V.int y, V.int 0, V.int 0]) (SqL.of upd_same) rfl fun p6 np6 => ?_
              fail "go"
              · have kx := kk
                rw [al2, decide_eq_true (show 0 < y % 16 by omega), if_pos rfl] at kx
                have kx2 : Rz K H E "BadPayload" "place" (.int ((l.length : Int) - 1)) := by
                  have e : ((l.length : Int) - 1) = ((l.length - 1 : Nat) : Int) := by omega
                  rw [e]
                  exact kx
                exact kx2 _ _ _ ‹_› (by fail "same") ‹_›
              · refine g_slL (ys := [V.int ((262144 * x + 4096 * y + 64 * 0 + 0) / 65536)]) (SqL.of upd_same) rfl fun p7 np7 => ?_
                fail "go"
                refine ⟨_, _, _, _, rfl, rfl, by fail "h", .inl upd_same, ?_, ?_⟩
                · show _ + 1 ≤ _
                  exact Nat.le_trans (Nat.add_le_add_right li _) (by decide +kernel)
                · refine ⟨⟨_, _, _, _, _, _, _, _, _, _, rfl⟩, by fail "same", ?_, by rw [last le, al2]; exact decide_eq_false (by omega)⟩
                  rw [last le, ap, List.map_append, show (262144 * x + 4096 * y + 64 * 0 + 0) / 65536 = 4 * x + y / 16 by omega]
                  exact upd_same
        · rintro σ' H' ⟨⟨u, v, a, b, c, d, e, f, g, h, rfl⟩, s1, h1, l0⟩
          rw [List.take_of_length_le (by omega)] at h1 l0
          rw [l0, if_neg Bool.false_ne_true] at kk
          fail "go"
          exact kk _ _ (by fail "same") (Same.frees0 s1 (by assumption)) upd_same
local macro_rules | `(tactic| fail "call") => `(tactic| ((with_reducible show sp_bits_read _ _ _ _ _); refine ⟨_, rfl, by assumption, ?_⟩))
/-- of a built-in type, no text -/
inductive Nst (K : PySem.W.Frag) (H : Hp) : V → Prop where
  | int (i : Int) : Nst K H (.int i)
  | non : Nst K H .non
  | bl (b : Bool) : Nst K H (.bl b)
  | tup {a : Addr} (h : TyX K H (.ref a) (.type "tuple")) : Nst K H (.ref a)
  | lst {a : Addr} (h : TyX K H (.ref a) (.type "list")) : Nst K H (.ref a)
  | dct {a : Addr} (h : TyX K H (.ref a) (.type "dict")) : Nst K H (.ref a)
theorem Nst.same {K : PySem.W.Frag} {H H1 : Hp} {v : V} (k : Nst K H v) (e : Same H H1) : Nst K H1 v := by
  cases k with
  | int i => exact .int i
  | non => exact .non
  | bl b => exact .bl b
  | tup h => exact .tup (tyx_same e h)
  | lst h => exact .lst (tyx_same e h)
  | dct h => exact .dct (tyx_same e h)

def sp_octets_of (K : PySem.W.Frag) : Sp := fun vs H Q E =>
  ∃ (v w : V), vs = [v, w] ∧ ((Kd K H v ∧ badC v = true ∧ Rz K H E "BadCoding" "given" v) ∨ (∃ z, v = .str z ∧ ((z = "h" ∨ z = "s") ∧ Nst K H w ∧ Rz K H E "BadPayload" "place" .non ∨ ∃ l, w = .str (strL l) ∧ Sgs l ∧ (z = "h" ∧ RdK K H Q E (outH l) ∨ z = "s" ∧ RdK K H Q E (outS l)))))
theorem df_octets_of (T : Txt P K mg base) : DfX P w K mg base 4 "octets_of" s_octets_of ["coding", "payload"] (sp_octets_of K) := by
  have sc := sc_octets_of
  obtain ⟨f, hm, fd, F⟩ := T.d_octets_of
  refine ⟨f, fd, hm, F, okX F sc (by fail "many") (fun cdv A outer s H vs Q E hr h => ?_)⟩
  · obtain ⟨v, w, rfl, kk⟩ := h
    refine ⟨_, (pss_cons (ps_expr (pe_callX (sp := sp_check_coding K) (df_check_coding T) (takes_of rfl rfl rfl rfl) hr (by decide) b_check_coding_1_ b_check_coding_1__s (pa_cons (pv 0) pa_nil) pk_nil))
 (pss_cons (ps_if (pt_not (pt_val (pe_callB call_isi (by rfl) T.b_isinstance (by decide +kernel) (pa_cons (pv 1) (pa_cons (pe_bltn (v := V.ty "str") (u := .type "str") (by rfl) T.b_str (by decide +kernel) rfl) pa_nil))))) (pss_one (ps_raiseX T.x_BadPayload rfl hr (by decide) (takes_of rfl rfl rfl rfl) (pa_cons pe_non pa_nil))) pss_nil)
 (pss_one (ps_ret (pe_ifExp (pt_cmpR (op_eqA hr) (pv 0) pe_str (nomark _)) (pe_callX (sp := sp_forms_read K) (df_forms_read T) (takes_of rfl rfl rfl rfl) hr (by decide) b_forms_read_1_ b_forms_read_1__s (pa_cons (pv 1) pa_nil) pk_nil) (pe_callX (sp := sp_bits_read K) (df_bits_read T) (takes_of rfl rfl rfl rfl) hr (by decide) b_bits_read_1_ b_bits_read_1__s (pa_cons (pv 1) pa_nil) pk_nil)))))), ?_⟩
    dsimp only [cxOf, Cx.wish, L2.start, List.map, List.length, List.replicate, List.append, List.cons_append, List.nil_append, Nat.reduceAdd, Nat.reduceSub, Nat.zero_add]
    rcases kk with ⟨kd, hb, x⟩ | ⟨z, rfl, ⟨hz, nw, x⟩ | ⟨l, rfl, sl, kk⟩⟩
    · fail "go"
      exact .inr ⟨kd, hb, x⟩
    · fail "go"
      refine .inl ⟨_, rfl, hz, fun H1 s1 => ?_⟩
      have nw1 := nw.same s1
      clear nw
      cases nw1
      all_goals fail "go"
      all_goals exact x _ _ _ ‹_› (by fail "same") ‹_›
    · have hz : z = "h" ∨ z = "s" := by
        rcases kk with ⟨e, _⟩ | ⟨e, _⟩
        · exact .inl e
        · exact .inr e
      fail "go"
      refine .inl ⟨_, rfl, hz, fun H1 s1 => ?_⟩
      fail "go"
      · rename_i e
        rcases kk with ⟨_, k⟩ | ⟨e2, k⟩
        · exact k.same s1
        · exact absurd (e2.symm.trans ‹z = Str.ofString "h"›) (by decide +kernel)
      · rcases kk with ⟨e2, k⟩ | ⟨_, k⟩
        · exact absurd e2 (by assumption)
        · exact k.same s1
local macro_rules | `(tactic| fail "call") => `(tactic| ((with_reducible show sp_octets_of _ _ _ _ _); refine ⟨_, _, rfl, ?_⟩))

def sp_law_letters (K : PySem.W.Frag) : Sp := fun vs H Q _ =>
  vs = [] ∧ ∀ H', Same H H' → Q (.str (Str.ofString "ABCDEFGHIJKLMNOPQRSTUVWXYZabcdefghijklmnopqrstuvwxyz0123456789+-")) H'
theorem df_law_letters (T : Txt P K mg base) : Df P w K mg base 1 "_law_letters" s_law_letters [] (sp_law_letters K) := by
  have sc := sc_law_letters
  obtain ⟨f, hm, fd, F⟩ := T.d_law_letters
  refine ⟨f, fd, hm, F, okG F sc (by fail "many") (fun cdv A outer s H vs Q E hr h => ?_)⟩
  · obtain ⟨rfl, k⟩ := h
    refine ⟨_, (pss_one (ps_ret pe_str)), ?_⟩
    dsimp only [cxOf, Cx.wish, L2.start, List.map, List.length, List.replicate, List.append, List.cons_append, List.nil_append, Nat.reduceAdd, Nat.reduceSub, Nat.zero_add]
    fail "go"
    exact k _ (by fail "same")
local macro_rules | `(tactic| fail "call") => `(tactic| ((with_reducible show sp_law_letters _ _ _ _ _); refine ⟨rfl, fun H' s' => ?_⟩))

def sp_law_bits (K : PySem.W.Frag) : Sp := fun vs H Q _ =>
  ∃ (o : Int) (p : Addr), vs = [.int o, .ref p] ∧ 0 ≤ o ∧ o < 64 ∧ SqL K H p (W6.map V.int) ∧ ∀ H', Same H H' → Q (.str (strL (bits6 o))) H'
theorem df_law_bits (T : Txt P K mg base) : Df P w K mg base 1 "_law_bits" s_law_bits ["number", "weights"] (sp_law_bits K) := by
  have sc := sc_law_bits
  obtain ⟨f, hm, fd, F⟩ := T.d_law_bits
  refine ⟨f, fd, hm, F, okG F sc (by fail "many") (fun cdv A outer s H vs Q E hr h => ?_)⟩
  · obtain ⟨o, p, rfl, ho, ho2, hp, k⟩ := h
    refine ⟨_, (pss_one (ps_ret (pe_joinA pe_str (pe_lc (own := [("weight", 2)]) (g := gName 2) (tt := tYes) rfl sc.nd (pi_list (pv 1)) (blkOk_by (N := ["number", "weights", "weight"]) (sc := defScope s_law_bits) (by decide +kernel)) (fun _ _ _ _ _ => (pg_name (i := 2) sc.nd rfl (Or.inl rfl))) (fun _ _ _ _ _ => pts_nil) (fun _ _ _ _ _ => (pe_callTy call_strI (by rfl) T.b_str (by decide +kernel) (pa_cons (pe_op op_modA (pe_op op_divA (pv 0) (pv 2)) pe_int) pa_nil))))))), ?_⟩
    dsimp only [cxOf, Cx.wish, L2.start, List.map, List.length, List.replicate, List.append, List.cons_append, List.nil_append, Nat.reduceAdd, Nat.reduceSub, Nat.zero_add]
    fail "go"
    refine g_lcL1 rfl hp (fun v => match v with | .int w => .str (Str.ofString (toString (o / w % 2))) | v => v) (by decide) (fun _ => rfl) ?_ ?_
    · intro x hx H2 s2 R r
      obtain ⟨w, hm, rfl⟩ := List.mem_map.mp hx
      have hw : 1 ≤ w ∧ w ≤ 128 := by
        simp only [W6, List.mem_cons, List.mem_nil_iff, or_false] at hm
        omega
      have hq : 0 ≤ o / w := Int.ediv_nonneg ho (by omega)
      have hq2 : o / w ≤ o := Int.ediv_le_self w ho
      fail "go"
      exact r _ (by fail "same")
    · intro D H2 hD s2 hd
      fail "go"
      refine g_joinG (ss := W6.map fun w => Str.ofString (toString (o / w % 2))) (l := bits6 o) (by rw [hd, List.map_map, List.map_map]; rfl) (by unfold bits6; simp only [W6, List.map_cons, List.map_nil, List.flatMap_cons, List.flatMap_nil, cs_bit]; rfl) (by show 6 ≤ 100000; decide) ?_
      exact k _ (by fail "same")
local macro_rules | `(tactic| fail "call") => `(tactic| ((with_reducible show sp_law_bits _ _ _ _ _); refine ⟨_, _, rfl, by assumption, by assumption, by exact SqL.of upd_same, fun H' s' => ?_⟩))
/-- what is wanted of the law's own reading -/
def LwK (H : Hp) (Q : VK) : List Int ⊕ Nat → Prop
  | .inl os => ∀ H' p, Same H H' → H p = none → H' p = some (.lst (os.map V.int)) → Q (.ref p) H'
  | .inr k => ∀ H', Same H H' → Q (.int (k : Nat)) H'
theorem cut62 : cutS (Str.ofString "ABCDEFGHIJKLMNOPQRSTUVWXYZabcdefghijklmnopqrstuvwxyz0123456789+-") none (some 62) = Str.ofString "ABCDEFGHIJKLMNOPQRSTUVWXYZabcdefghijklmnopqrstuvwxyz0123456789" := by decide +kernel
theorem in_lt62 {K : PySem.W.Frag} {H : Hp} {Q : VK} {c : Nat} (hc : c < 128) (q : Q (.bl (decide (isLit (c : Int)))) H) : rInA K (.str ⟨#[c]⟩) (.str (cutS (Str.ofString "ABCDEFGHIJKLMNOPQRSTUVWXYZabcdefghijklmnopqrstuvwxyz0123456789+-") none (some 62))) H Q := by
  rw [cut62]
  exact in_lt hc q
local macro_rules | `(tactic| fail "go1") => `(tactic| with_reducible refine in_lt62 (by assumption) ?_)
def hxV (c : Nat) : V := .int ((hx c).getD 0)

def sp_law_forms (K : PySem.W.Frag) : Sp := fun vs H Q _ =>
  ∃ (l : List Nat), vs = [.str (strL l)] ∧ Sgs l ∧ LwK H Q (outH l)
theorem df_law_forms (T : Txt P K mg base) : Df P w K mg base 2 "_law_forms" s_law_forms ["signs"] (sp_law_forms K) := by
  have sc := sc_law_forms
  obtain ⟨f, hm, fd, F⟩ := T.d_law_forms
  refine ⟨f, fd, hm, F, okG F sc (by fail "many") (fun cdv A outer s H vs Q E hr h => ?_)⟩
  · obtain ⟨l, rfl, ⟨ll, lc⟩, kk⟩ := h
    refine ⟨_, (pss_cons (ps_asg (pe_tup (pa_cons (pe_lst pa_nil) (pa_cons pe_int (pa_cons pe_str pa_nil)))) (pg_tup (by rfl) (pgs_cons (pg_name (i := 1) sc.nd rfl (Or.inl rfl)) (pgs_cons (pg_name (i := 2) sc.nd rfl (Or.inl rfl)) (pgs_cons (pg_name (i := 3) sc.nd rfl (Or.inr rfl)) pgs_nil)))))
 (pss_cons (ps_while PassesOwn.never (pt_cmpR op_ltA (pv 2) (pe_callB call_lenA (by rfl) T.b_len (by decide +kernel) (pa_cons (pv 0) pa_nil)) (nomark _)) (pss_cons (ps_set (i := 4) sc.nd rfl (Or.inl rfl) (pe_ix ix_seq (pv 0) (pv 2) (fun _ _ => rfl)))
 (pss_cons (ps_setLc (i := 5) (own := [("one", 6)]) (g := gName 6) rfl sc.nd rfl rfl (sw_true rfl rfl rfl (by decide +kernel)) (pi_str (pe_slice sl_str (pv 0) (po_some (pe_op op_addA (pv 2) pe_int)) (po_some (pe_op op_addA (pv 2) pe_int)))) (blkOk_by (N := ["signs", "found", "at", "digits", "sign", "pair", "one"]) (sc := defScope s_law_forms) (by decide +kernel)) (fun _ _ _ _ _ => (pg_name (i := 6) sc.nd rfl (Or.inl rfl))) (fun _ _ _ _ _ => pts_one (pt_cmpR (opK (r := rInA) (K := K) rfl op_inA) (pv 6) (pv 3) rfl)) (fun _ _ _ _ _ => (bmK (K := K) rfl (pe_bm PySem.F.plainAttrs_str PySem.F.slot_str_index PySem.F.type_str_index mt_sindexN (pv 3) (pa_cons (pv 6) pa_nil)))))
 (pss_one (ps_if (PW.pt (pw_and (pt_cmpR (op_eqA hr) (pv 4) pe_str (nomark _)) (pw_and1 (pt_cmpR (op_eqA hr) (pe_callB call_lenA (by rfl) T.b_len (by decide +kernel) (pa_cons (pv 5) pa_nil)) pe_int (nomark _))))) (pss_cons (ps_expr (pe_bm PySem.F.plainAttrs_list PySem.F.slot_list_append PySem.F.type_list_append mt_append (pv 1) (pa_cons (pe_op op_addA (pe_op op_mulA pe_int (pe_ix ix_seq (pv 5) pe_int (fun _ _ => rfl))) (pe_ix ix_seq (pv 5) pe_int (fun _ _ => rfl))) pa_nil)))
 (pss_one (ps_set (i := 2) sc.nd rfl (Or.inl rfl) (pe_op op_addA (pv 2) pe_int)))) (pss_one (ps_if (PW.pt (pw_or (pt_cmpR (op_eqA hr) (pv 4) pe_str (nomark _)) (pw_or1 (pt_cmpR op_inA (pv 4) (pe_slice sl_str (pe_callG0 (sp := sp_law_letters K) (df_law_letters T) hr (by decide) b_law_letters_0_ b_law_letters_0__s pk_nil) po_none (po_some pe_int)) rfl)))) (pss_cons (ps_expr (pe_bm PySem.F.plainAttrs_list PySem.F.slot_list_append PySem.F.type_list_append mt_append (pv 1) (pa_cons (pe_ifExp (pt_cmpR (op_eqA hr) (pv 4) pe_str (nomark _)) pe_int (pe_callB call_ordC (by rfl) T.b_ord (by decide +kernel) (pa_cons (pv 4) pa_nil))) pa_nil)))
 (pss_one (ps_set (i := 2) sc.nd rfl (Or.inl rfl) (pe_op op_addA (pv 2) pe_int)))) (pss_one (ps_ret (pv 2))))))))))
 (pss_one (ps_ret (pv 1))))), ?_⟩
    dsimp only [cxOf, Cx.wish, L2.start, List.map, List.length, List.replicate, List.append, List.cons_append, List.nil_append, Nat.reduceAdd, Nat.reduceSub, Nat.zero_add]
    fail "go"
    rename_i p1 np1 pt npt
    have hz : l.length ≤ 100000 := by omega
    refine g_while (fun m σ' H' => ∃ (p : Nat) (os : List Int) (x y : Option V), σ' = [some (.str (strL l)), some (.ref p1), some (.int (p : Nat)), some (.str "0123456789ABCDEF"), x, y, none] ∧ Same H H' ∧ H' p1 = some (.lst (os.map V.int)) ∧ l.length ≤ m + p ∧ os.length ≤ p ∧ p ≤ l.length ∧ runH l m p os = outH l) l.length ⟨0, [], _, _, rfl, by fail "same", (show _ = some (HO.lst []) by fail "h"), by omega, Nat.le_refl _, Nat.zero_le _, rfl⟩ ?_
    rintro m σ' H' ⟨p, os, x, y, rfl, s1, h1, lm, lo, lp, run⟩
    have lz : (os.map V.int).length = os.length := List.length_map ..
    by_cases hp : p < l.length
    · obtain ⟨c, hlc⟩ : ∃ c, l[p]? = some c := ⟨_, List.getElem?_eq_getElem hp⟩
      have hcr : l.drop p = c :: l.drop (p + 1) := by
        obtain ⟨_, e⟩ := List.getElem?_eq_some_iff.mp hlc
        rw [← e]
        exact List.drop_eq_getElem_cons hp
      generalize hr : l.drop (p + 1) = r at hcr
      have cc : c < 128 := lc c (List.mem_of_getElem? hlc)
      have rc : ∀ c ∈ r, c < 128 := fun c hc => lc c (List.mem_of_mem_drop (by rw [hr]; exact hc))
      obtain ⟨m, rfl⟩ : ∃ m', m = m' + 1 := ⟨m - 1, by omega⟩
      have run2 := runH_in run hp hcr
      have lr : r.length = l.length - (p + 1) := by rw [← hr, List.length_drop]
      have fin : ∀ (o : Int) (k : Nat) (H2 : Hp) (x y : Option V), stepC c r = some (o, k) → Same H H2 → H2 p1 = some (.lst (os.map V.int ++ [V.int o])) → ∃ m', m' < m + 1 ∧ ∃ (p' : Nat) (os' : List Int) (x' y' : Option V), [some (V.str (strL l)), some (.ref p1), some (.int ((p : Nat) + (k : Nat))), some (.str "0123456789ABCDEF"), x, y, none] = [some (V.str (strL l)), some (.ref p1), some (.int (p' : Nat)), some (.str "0123456789ABCDEF"), x', y', none] ∧ Same H H2 ∧ H2 p1 = some (.lst (os'.map V.int)) ∧ l.length ≤ m' + p' ∧ os'.length ≤ p' ∧ p' ≤ l.length ∧ runH l m' p' os' = outH l := fun o k H2 x y e s h => by
        have so := stepH_oct (l := c :: r) e
        simp only [List.length_cons] at so
        rw [e] at run2
        exact ⟨m, Nat.lt_succ_self _, p + k, os ++ [o], x, y, by rw [Int.natCast_add], s, by rw [h, List.map_append]; rfl, by omega, by rw [List.length_append, List.length_singleton]; omega, by omega, run2⟩
      have bad : stepC c r = none → ∀ H', Same H H' → Q (.int (p : Nat)) H' := fun e => by
        rw [e] at run2
        rw [← run2] at kk
        exact kk
      clear kk run run2
      fail "go"
      refine ix_L hz rfl hlc ?_
      fail "go"
      refine g_lcE ?_
      fail "go"
      refine sl_L (i := p + 1) (j := p + 3) (m := r.take 2) hz (by omega) (by omega) (by omega) (by rw [hr, show p + 3 - (p + 1) = 2 by omega]) ?_
      have rc2 : ∀ c ∈ r.take 2, c < 128 := fun c hc => rc c (List.mem_of_mem_take hc)
      refine ⟨_, rfl, lc_str (fun c => (hx c).isSome) hxV (by rw [len_strL, List.length_take]; omega) (fun _ => rfl) ?_ ?_ ?_⟩
      · intro c' hc' H2 s2 R r'
        have c1 : c' < 128 := rc2 c' hc'
        cases hh : hx c' with
        | none =>
          rw [hh] at r'
          fail "go"
          exact r' _ (by fail "same")
        | some d =>
          rw [hh] at r'
          fail "go"
          exact r' _ (by fail "same")
      · intro c' hc' hb H2 s2 R r'
        cases hh : hx c' with
        | none => rw [hh] at hb; cases hb
        | some d =>
          unfold hxV at r'
          rw [hh] at r'
          fail "go"
          exact r' _ (by fail "same")
      intro D H2 nD s2 hD
      have key : ∀ g, ((r.take 2).filter (fun c => (hx c).isSome)).map hxV = g → H2 D = some (.lst g) := fun g e => by
        rw [← e]
        exact hD
      clear hD
      by_cases c61 : c = 61
      · subst c61
        match r, lr, rc, fin, bad, key with
        | [], lr, rc, fin, bad, key =>
          have x := bad rfl
          have hD := key [] rfl
          fail "go"
          all_goals first | exact absurd (show isLit _ by assumption) (by decide) | exact x _ (by fail "same")
        | [a], lr, rc, fin, bad, key =>
          have x := bad rfl
          cases ha : hx a with
          | none =>
            have hD := key [] (by simp [ha])
            fail "go"
            all_goals first | exact absurd (show isLit _ by assumption) (by decide) | exact x _ (by fail "same")
          | some va =>
            have hD := key [.int va] (by simp [hxV, ha])
            fail "go"
            all_goals first | exact absurd (show isLit _ by assumption) (by decide) | exact x _ (by fail "same")
        | a :: b :: r', lr, rc, fin, bad, key =>
          cases ha : hx a with
          | none =>
            have x := bad (show hexP (hx a) (hx b) = none by rw [ha]; rfl)
            cases hb : hx b with
            | none =>
              have hD := key [] (by simp [ha, hb])
              fail "go"
              all_goals first | exact absurd (show isLit _ by assumption) (by decide) | exact x _ (by fail "same")
            | some vb =>
              have hD := key [.int vb] (by simp [hxV, ha, hb])
              fail "go"
              all_goals first | exact absurd (show isLit _ by assumption) (by decide) | exact x _ (by fail "same")
          | some va =>
            cases hb : hx b with
            | none =>
              have x := bad (show hexP (hx a) (hx b) = none by rw [ha, hb]; rfl)
              have hD := key [.int va] (by simp [hxV, ha, hb])
              fail "go"
              all_goals first | exact absurd (show isLit _ by assumption) (by decide) | exact x _ (by fail "same")
            | some vb =>
              have hD := key [.int va, .int vb] (by simp [hxV, ha, hb])
              obtain ⟨_, va0, va1⟩ := hx_dig ha
              obtain ⟨_, vb0, vb1⟩ := hx_dig hb
              fail "go"
              exact fin (16 * va + vb) 3 _ _ _ (show hexP (hx a) (hx b) = _ by rw [ha, hb]; rfl) (by fail "same") upd_same
      · fail "go"
        all_goals first
          | exact fin 32 1 _ _ _ (by unfold stepC; rw [if_neg c61, if_pos (by assumption)]) (by fail "same") upd_same
          | exact fin (c : Nat) 1 _ _ _ (by unfold stepC; rw [if_neg c61, if_neg (by assumption), if_pos (by assumption)]) (by fail "same") upd_same
          | exact bad (by unfold stepC; rw [if_neg c61, if_neg (by assumption), if_neg (by assumption)]) _ (by fail "same")
    · have pe : outH l = .inl os := by rw [← run]; exact runH_end (by omega) m
      rw [pe] at kk
      fail "go"
      exact kk _ _ (by fail "same") (Same.frees0 (H := H) (by fail "same") np1) (by fail "h")
local macro_rules | `(tactic| fail "call") => `(tactic| ((with_reducible show sp_law_forms _ _ _ _ _); refine ⟨_, rfl, by assumption, ?_⟩))
theorem add_LL {K : PySem.W.Frag} {H : Hp} {Q : VK} {a b : List Nat} (h : a.length + b.length ≤ 100000) (q : Q (.str (strL (a ++ b))) H) : rAddA K (.str (strL a)) (.str (strL b)) H Q := g_addT (by rw [len_strL, len_strL]; exact Nat.le_trans h (by decide +kernel)) (by rw [strL_app]; exact q)
theorem ix_bit {K : PySem.W.Frag} {H : Hp} {Q : VK} {l : List Nat} {i : Int} {n c : Nat} (h : l.length ≤ 100000) (e : i = (n : Nat)) (g : l[n]? = some c) (q : Q (.str ⟨#[c]⟩) H) : rIx K (.str (strL l)) (.int i) H Q := ix_L h e g q
def is1 (l : List Nat) (m : Nat) : V → Bool | .int j => decide (l.getD (m + j.toNat) 0 = 49) | _ => false
def wt (W : List Int) : V → V | .int j => .int (W.getD j.toNat 0) | v => v
theorem rng_wt (W : List Int) (l : List Nat) (m n : Nat) : ((((List.range n).map fun i => V.int (0 + (i : Nat))).filter (is1 l m)).map (wt W)) = (((List.range n).filter fun j => decide (l.getD (m + j) 0 = 49)).map fun j => W.getD j 0).map V.int := by
  rw [List.filter_map, List.map_map, List.map_map]
  have e : (is1 l m ∘ fun i : Nat => V.int (0 + (i : Int))) = fun j : Nat => decide (l.getD (m + j) 0 = 49) := funext fun j => by
    show decide (l.getD (m + (0 + (j : Int)).toNat) 0 = 49) = _
    rw [show (0 + (j : Int)).toNat = j by omega]
  have e2 : (wt W ∘ fun i : Nat => V.int (0 + (i : Int))) = (V.int ∘ fun j : Nat => W.getD j 0) := funext fun j => by
    show V.int (W.getD (0 + (j : Int)).toNat 0) = _
    rw [show (0 + (j : Int)).toNat = j by omega]
    rfl
  rw [e, e2]
theorem cutS_from (l : List Nat) (i : Nat) : cutS (strL l) (some (i : Int)) none = strL (l.drop i) := by
  unfold cutS
  rw [HT.sIx_none, HT.sIx_nat, len_strL]
  show strL ((l.drop _).take _) = _
  rw [drop_min, List.take_of_length_le (by rw [List.length_drop]; omega)]
theorem cutS_to (l : List Nat) (j : Nat) : cutS (strL l) none (some (j : Int)) = strL (l.take j) := by
  unfold cutS
  rw [HT.sIx_none, HT.sIx_nat, len_strL]
  show strL ((l.drop 0).take _) = _
  rw [List.drop_zero, Nat.sub_zero]
  rcases Nat.le_total j l.length with h | h
  · rw [Nat.min_eq_left h]
  · rw [Nat.min_eq_right h, List.take_length, List.take_of_length_le h]
theorem sl_from {l : List Nat} {lo : Int} {i : Nat} {H : Hp} {Q : VK} (h : l.length ≤ 100000) (e : lo = (i : Nat)) (q : Q (.str (strL (l.drop i))) H) : rSlS (.str (strL l)) (some lo) none H Q := by
  subst e
  refine g_slS (by rw [len_strL]; exact Nat.le_trans h (by decide +kernel)) ?_
  rw [cutS_from]
  exact q
theorem sl_to {l : List Nat} {hi : Int} {j : Nat} {H : Hp} {Q : VK} (h : l.length ≤ 100000) (e : hi = (j : Nat)) (q : Q (.str (strL (l.take j))) H) : rSlS (.str (strL l)) none (some hi) H Q := by
  subst e
  refine g_slS (by rw [len_strL]; exact Nat.le_trans h (by decide +kernel)) ?_
  rw [cutS_to]
  exact q
theorem in_1 {K : PySem.W.Frag} {H : Hp} {Q : VK} {l : List Nat} (q : Q (.bl (decide (49 ∈ l))) H) : rInA K (.str (Str.ofString "1")) (.str (strL l)) H Q := g_inC (c := 49) (by decide +kernel) q
theorem g_bmC {K : PySem.W.Frag} {σ : L2.St} {H : Hp} {Q : VK} {T : String} {t : TA} {r : V → List V → Hp → VK → Prop} {n m : Nat} {sp : Sp} {g : List V → List V → List V} {ta tk : TA} (q : tCallG n m sp g ta tk σ H fun x H1 => tyV K T x H1 ∧ t σ H1 fun xs H2 => r x xs H2 Q) : tBM K T r (tCallG n m sp g ta tk) t σ H Q := q
theorem g_tyS {K : PySem.W.Frag} {H : Hp} {z : Str} {p : Prop} (q : p) : tyV K "str" (.str z) H ∧ p := ⟨rfl, q⟩
local macro_rules | `(tactic| fail "go1") => `(tactic| first
  | with_reducible refine g_bmC ?_
  | with_reducible refine g_tyS ?_)
theorem ne_nilE {H : Hp} {Q : VK} {a b : Addr} (h1 : H a = some (.lst [])) (h2 : H b = some (.lst [])) (q : Q (.bl false) H) : rNil true (.ref a) (.ref b) H Q := g_neNilV h1 h2 (by rw [decide_eq_true rfl]; exact q)
theorem ne_nilC {H : Hp} {Q : VK} {a b : Addr} {x : V} {xs : List V} (h1 : H a = some (.lst (x :: xs))) (h2 : H b = some (.lst [])) (q : Q (.bl true) H) : rNil true (.ref a) (.ref b) H Q := g_neNilV h1 h2 (by rw [decide_eq_false (List.cons_ne_nil _ _)]; exact q)
local macro_rules | `(tactic| fail "go1") => `(tactic| first
  | ((with_reducible apply ne_nilE); (fail "h"); (exact upd_same))
  | ((with_reducible apply ne_nilC); (fail "h"); (exact upd_same)))
def badV (l : List Nat) : V → Bool | .int j => (ax (l.getD j.toNat 0)).isNone | _ => false
theorem rng_bad (l : List Nat) (n : Nat) : (((List.range n).map fun i => V.int (0 + (i : Nat))).filter (badV l)).map (fun v => v) = ((List.range n).filter fun j => (ax (l.getD j 0)).isNone).map fun j => V.int ((j : Nat) : Int) := by
  rw [List.map_id', List.filter_map]
  have e : (badV l ∘ fun i : Nat => V.int (0 + (i : Int))) = fun j : Nat => (ax (l.getD j 0)).isNone := funext fun j => by
    show (ax (l.getD (0 + (j : Int)).toNat 0)).isNone = _
    rw [show (0 + (j : Int)).toNat = j by omega]
  rw [e]
  refine List.map_congr_left fun j _ => ?_
  rw [Int.zero_add]

def sp_law_octets (K : PySem.W.Frag) : Sp := fun vs H Q _ =>
  ∃ (z : Str) (l : List Nat), vs = [.str z, .str (strL l)] ∧ Sgs l ∧ (z = "h" ∧ LwK H Q (outH l) ∨ z = "s" ∧ LwK H Q (outS l))
theorem df_law_octets (T : Txt P K mg base) : Df P w K mg base 3 "_law_octets" s_law_octets ["way", "signs"] (sp_law_octets K) := by
  have sc := sc_law_octets
  obtain ⟨f, hm, fd, F⟩ := T.d_law_octets
  refine ⟨f, fd, hm, F, okG F sc (by fail "many") (fun cdv A outer s H vs Q E hr h => ?_)⟩
  · obtain ⟨z, l, rfl, sg, kk⟩ := h
    refine ⟨_, (pss_cons (ps_if (pt_cmpR (op_eqA hr) (pv 0) pe_str (nomark _)) (pss_one (ps_ret (pe_callG (sp := sp_law_forms K) (df_law_forms T) hr (by decide) b_law_forms_1_ b_law_forms_1__s (pa_cons (pv 1) pa_nil) pk_nil))) pss_nil)
 (pss_cons (ps_setLc (i := 2) (own := [("k", 7)]) (g := gName 7) rfl sc.nd rfl rfl (sw_true rfl rfl rfl (by decide +kernel)) (pi_range1 rfl T.b_range (pa_cons (pe_callB call_lenA (by rfl) T.b_len (by decide +kernel) (pa_cons (pv 1) pa_nil)) pa_nil)) (blkOk_by (N := ["way", "signs", "wrong", "bits", "many", "weights", "found", "k", "sign", "j"]) (sc := defScope s_law_octets) (by decide +kernel)) (fun _ _ _ _ _ => (pg_name (i := 7) sc.nd rfl (Or.inl rfl))) (fun _ _ _ _ _ => pts_one (pt_cmpR (opK (r := rNotInA) (K := K) rfl op_notInA) (pe_ix (ixK (r := rIx) (K := K) rfl ix_seq) (pv 1) (pv 7) (fun _ _ => rfl)) (pe_callG0 (sp := sp_law_letters K) (df_law_letters T) hr (by decide) b_law_letters_0_ b_law_letters_0__s pk_nil) rfl)) (fun _ _ _ _ _ => (pv 7)))
 (pss_cons (ps_if (pt_cmpR (op_neNil hr) (pv 2) (pe_lst pa_nil) (nomark _)) (pss_one (ps_ret (pe_ix ix_seq (pv 2) pe_int (fun _ _ => rfl)))) pss_nil)
 (pss_cons (ps_if (pt_cmpR (op_eqA hr) (pe_op op_modA (pe_callB call_lenA (by rfl) T.b_len (by decide +kernel) (pa_cons (pv 1) pa_nil)) pe_int) pe_int (nomark _)) (pss_one (ps_ret (pe_callB call_lenA (by rfl) T.b_len (by decide +kernel) (pa_cons (pv 1) pa_nil)))) pss_nil)
 (pss_cons (ps_set (i := 3) sc.nd rfl (Or.inr rfl) (pe_joinA pe_str (pe_lc (own := [("sign", 8)]) (g := gName 8) (tt := tYes) rfl sc.nd (pi_str (pv 1)) (blkOk_by (N := ["way", "signs", "wrong", "bits", "many", "weights", "found", "k", "sign", "j"]) (sc := defScope s_law_octets) (by decide +kernel)) (fun _ _ _ _ _ => (pg_name (i := 8) sc.nd rfl (Or.inl rfl))) (fun _ _ _ _ _ => pts_nil) (fun _ _ _ _ _ => (pe_callG (sp := sp_law_bits K) (df_law_bits T) hr (by decide) b_law_bits_2_ b_law_bits_2__s (pa_cons (bmK (K := K) rfl (pe_bm PySem.F.plainAttrs_str PySem.F.slot_str_index PySem.F.type_str_index mt_sindexN (pe_callG0 (sp := sp_law_letters K) (df_law_letters T) hr (by decide) b_law_letters_0_ b_law_letters_0__s pk_nil) (pa_cons (pv 8) pa_nil))) (pa_cons (pe_lst (pa_cons pe_int (pa_cons pe_int (pa_cons pe_int (pa_cons pe_int (pa_cons pe_int (pa_cons pe_int pa_nil))))))) pa_nil)) pk_nil)))))
 (pss_cons (ps_set (i := 4) sc.nd rfl (Or.inl rfl) (pe_op op_divA (pe_callB call_lenA (by rfl) T.b_len (by decide +kernel) (pa_cons (pv 3) pa_nil)) pe_int))
 (pss_cons (ps_if (pt_cmpR op_inA pe_str (pe_slice sl_str (pv 3) (po_some (pe_op op_mulA pe_int (pv 4))) po_none) rfl) (pss_one (ps_ret (pe_op op_subA (pe_callB call_lenA (by rfl) T.b_len (by decide +kernel) (pa_cons (pv 1) pa_nil)) pe_int))) pss_nil)
 (pss_cons (ps_asg (pe_tup (pa_cons (pe_lst (pa_cons pe_int (pa_cons pe_int (pa_cons pe_int (pa_cons pe_int (pa_cons pe_int (pa_cons pe_int (pa_cons pe_int (pa_cons pe_int pa_nil))))))))) (pa_cons (pe_lst pa_nil) pa_nil))) (pg_tup (by rfl) (pgs_cons (pg_name (i := 5) sc.nd rfl (Or.inr rfl)) (pgs_cons (pg_name (i := 6) sc.nd rfl (Or.inl rfl)) pgs_nil))))
 (pss_cons (ps_for PassesOwn.never rfl (pi_range1 rfl T.b_range (pa_cons (pv 4) pa_nil)) (pg_name (i := 7) sc.nd rfl (Or.inr rfl)) (pss_one (ps_expr (pe_bm PySem.F.plainAttrs_list PySem.F.slot_list_append PySem.F.type_list_append mt_append (pv 6) (pa_cons (pe_callB (cr_sum rfl) (by rfl) T.b_sum (by decide +kernel) (pa_cons (pe_lc (own := [("j", 9)]) (g := gName 9) rfl sc.nd (pi_range1 rfl T.b_range (pa_cons pe_int pa_nil)) (blkOk_by (N := ["way", "signs", "wrong", "bits", "many", "weights", "found", "k", "sign", "j"]) (sc := defScope s_law_octets) (by decide +kernel)) (fun _ _ _ _ _ => (pg_name (i := 9) sc.nd rfl (Or.inl rfl))) (fun _ _ _ _ _ => pts_one (pt_cmpR (opK (r := rEqA) (K := K) rfl (op_eqA hr)) (pe_ix (ixK (r := rIx) (K := K) rfl ix_seq) (pv 3) (pe_op (opK (r := rAddA) (K := K) rfl op_addA) (pe_op (opK (r := rMulA) (K := K) rfl op_mulA) pe_int (pv 7)) (pv 9)) (fun _ _ => rfl)) pe_str (nomark _))) (fun _ _ _ _ _ => (pe_ix (ixK (r := rIx) (K := K) rfl ix_seq) (pv 5) (pv 9) (fun _ _ => rfl)))) pa_nil)) pa_nil)))))
 (pss_one (ps_ret (pv 6)))))))))))), ?_⟩
    dsimp only [cxOf, Cx.wish, L2.start, List.map, List.length, List.replicate, List.append, List.cons_append, List.nil_append, Nat.reduceAdd, Nat.reduceSub, Nat.zero_add]
    obtain ⟨ll, lc⟩ := id sg
    have hz : l.length ≤ 100000 := by omega
    have hz2 : l.length ≤ 1000000 := by omega
    fail "go"
    · rename_i e
      rcases kk with ⟨_, k⟩ | ⟨e2, k⟩
      · exact k
      · exact absurd (e2.symm.trans ‹z = Str.ofString "h"›) (by decide +kernel)
    rcases kk with ⟨e2, k⟩ | ⟨_, kk⟩
    · exact absurd e2 (by assumption)
    refine ⟨by omega, by omega, lc_pure (xs := (List.range l.length).map fun i => V.int (0 + (i : Nat))) walk_rngY (fun _ _ => trivial) (badV l) (fun v => v) (by rw [List.length_map, List.length_range]; omega) (fun _ => rfl) ?_ ?_ ?_⟩
    · intro v hv H2 s2 R r
      obtain ⟨j, hj, rfl⟩ := List.mem_map.mp hv
      have hjl : j < l.length := List.mem_range.mp hj
      have hl : l[j]? = some (l.getD j 0) := by rw [List.getD_eq_getElem?_getD, List.getElem?_eq_getElem hjl]; rfl
      have cc : l.getD j 0 < 128 := lc _ (List.mem_of_getElem? hl)
      have e0 : badV l (V.int (0 + (j : Nat))) = !(ax (l.getD j 0)).isSome := by
        show (ax (l.getD (0 + (j : Int)).toNat 0)).isNone = _
        rw [show (0 + (j : Int)).toNat = j by omega]
        cases ax (l.getD j 0) <;> rfl
      rw [e0] at r
      fail "go"
      refine ix_L (n := j) (c := l.getD j 0) hz (by omega) hl ?_
      fail "go"
      exact r _ (by fail "same")
    · intro v hv _ H2 s2 R r
      fail "go"
      exact r _ (by fail "same")
    intro D H2 nD s2 hD
    rw [rng_bad] at hD
    cases hd : digS l with
    | inr k =>
      obtain ⟨r, er⟩ := filt_bad hd
      rw [er] at hD
      unfold outS at kk
      rw [hd] at kk
      have x : ∀ H', Same H H' → Q (.int (k : Nat)) H' := kk
      have hD2 : H2 D = some (.lst (V.int (k : Nat) :: r.map fun j => V.int ((j : Nat) : Int))) := hD
      clear hD
      fail "go"
      refine g_ixL (v := .int (k : Nat)) (SqL.of (xs := V.int (k : Nat) :: r.map fun j => V.int ((j : Nat) : Int)) (by fail "h")) (atI_nat (j := 0) rfl) ?_
      exact x _ (by fail "same")
    | inl ds =>
      rw [filt_ok hd] at hD
      have hD2 : H2 D = some (.lst []) := hD
      clear hD
      obtain ⟨el, dd⟩ := digS_ok hd
      have ll2 : l.length = ds.length := by rw [el, List.length_map]
      unfold outS at kk
      rw [hd] at kk
      simp only at kk
      by_cases m1 : l.length % 4 = 1
      · rw [if_pos m1] at kk
        have x : ∀ H', Same H H' → Q (.int (l.length : Nat)) H' := kk
        fail "go"
        exact x _ (by fail "same")
      · rw [if_neg m1] at kk
        fail "go"
        have dall : ∀ d, 0 ≤ d → d < 64 → dal (alpha d) = d := fun d h0 h1 => dal_al h0 h1
        have eB := flat_bits hd dal dall
        have lB := bits6_len ds
        refine g_lcS1 rfl (fun c => .str (strL (bits6 (dal c)))) (by rw [len_strL]; omega) (fun _ => rfl) ?_ ?_
        · intro c hc H3 s3 R r
          have hc : c ∈ l := hc
          rw [el] at hc
          obtain ⟨d, hdm, rfl⟩ := List.mem_map.mp hc
          obtain ⟨d0, d1⟩ := dd d hdm
          rw [dall d d0 d1] at r
          fail "go"
          exact r _ (by fail "same")
        intro D3 H3 nD3 s3 hD3
        fail "go"
        refine g_joinG (ss := l.map fun c => strL (bits6 (dal c))) (l := ds.flatMap bits6) (by rw [hD3, List.map_map]; rfl) (by rw [← eB, List.flatMap_map]; rfl) (by omega) ?_
        have e8 := eight_dS ds dd (by omega)
        have rl := rest_lo ds dd (by omega)
        generalize ds.flatMap bits6 = B at e8 rl lB eB
        rw [restD_drop _ B rfl] at rl
        have l8 := eightD_len _ B rfl
        have hB : B.length ≤ 100000 := by omega
        clear hD3 eB hD2
        fail "go"
        refine sl_from (i := 8 * (B.length / 8)) hB (by omega) ?_
        refine in_1 ?_
        by_cases lo : loS ds = true
        · rw [if_pos lo] at kk
          rw [decide_eq_true (rl.mpr lo)]
          have x : ∀ H', Same H H' → Q (.int ((l.length - 1 : Nat) : Int)) H' := kk
          have l1 : 1 ≤ l.length := by
            cases ds with
            | nil => cases lo
            | cons d ds => simp only [List.length_cons] at ll2; omega
          rw [show ((l.length - 1 : Nat) : Int) = (l.length : Int) - 1 by omega] at x
          fail "go"
          exact x _ (by fail "same")
        · rw [if_neg lo] at kk
          rw [decide_eq_false fun h => lo (rl.mp h)]
          have eN : ((B.length : Int) / 8).toNat = B.length / 8 := by omega
          have d8 := dS_oct ds dd
          fail "go"
          rename_i pw npw pf npf pt npt
          have neq : pf ≠ pw := fun e => by
            rw [e, upd_same] at npf
            cases npf
          refine ⟨by omega, by omega, for_range (fun i σ' H' => (∃ x, σ' = [some (.str z), some (.str (strL l)), some (.ref D), some (.str (strL B)), some (.int ((B.length : Int) / 8)), some (.ref pw), some (.ref pf), x, none, none]) ∧ Same H H' ∧ H' pw = some (.lst (W8.map V.int)) ∧ H' pf = some (.lst (((dS ds).take i).map V.int))) ⟨⟨_, rfl⟩, by fail "same", ?_, (show _ = some (HO.lst []) by fail "h")⟩ ?_ ?_⟩
          · show _ = some (HO.lst [V.int 128, V.int 64, V.int 32, V.int 16, V.int 8, V.int 4, V.int 2, V.int 1])
            fail "h"
          · rintro i σ' H' hi ⟨⟨x, rfl⟩, s1, hw1, hf1⟩
            rw [eN] at hi
            obtain ⟨a, b, c, d, e, f, g, h, at8, ed⟩ := eightD_at i B (by omega)
            rw [e8] at ed
            have tk : ((dS ds).take (i + 1)).map V.int = ((dS ds).take i).map V.int ++ [V.int (128 * bv a + 64 * bv b + 32 * bv c + 16 * bv d + 8 * bv e + 4 * bv f + 2 * bv g + bv h)] := by
              rw [List.take_succ, ed, List.map_append]
              rfl
            have lt : (((dS ds).take i).map V.int).length ≤ 10000 := by rw [List.length_map, List.length_take]; omega
            have gd : ∀ j, j < 8 → B.getD (8 * i + j) 0 = [a, b, c, d, e, f, g, h].getD j 0 := fun j hj => by
              rw [List.getD_eq_getElem?_getD, at8 j hj, List.getD_eq_getElem?_getD]
            fail "go"
            refine ⟨by decide, by decide, lc_pure (xs := (List.range 8).map fun i => V.int (0 + (i : Nat))) walk_rngY (fun _ _ => trivial) (is1 B (8 * i)) (wt W8) (by decide) (fun _ => rfl) ?_ ?_ ?_⟩
            · intro v hv H5 s5 R rr
              obtain ⟨j, hj, rfl⟩ := List.mem_map.mp hv
              have hj6 : j < 8 := List.mem_range.mp hj
              fail "go"
              refine ix_bit (n := 8 * i + j) (c := B.getD (8 * i + j) 0) hB (by omega) (by rw [List.getD_eq_getElem?_getD, at8 j hj6]; match j, hj6 with | 0, _ => rfl | 1, _ => rfl | 2, _ => rfl | 3, _ => rfl | 4, _ => rfl | 5, _ => rfl | 6, _ => rfl | 7, _ => rfl) ?_
              fail "go"
              have q := rr _ (by fail "same")
              have e0 : is1 B (8 * i) (V.int (0 + (j : Nat))) = decide (B.getD (8 * i + j) 0 = 49) := by
                show decide (B.getD (8 * i + (0 + (j : Int)).toNat) 0 = 49) = _
                rw [show (0 + (j : Int)).toNat = j by omega]
              rw [e0] at q
              exact q
            · intro v hv _ H5 s5 R rr
              obtain ⟨j, hj, rfl⟩ := List.mem_map.mp hv
              have hj6 : j < 8 := List.mem_range.mp hj
              fail "go"
              refine g_ixL (SqL.of (xs := W8.map V.int) (by fail "h")) (v := .int (W8.getD j 0)) ?_ ?_
              · rw [show (0 + (j : Int)) = ((j : Nat) : Int) by omega]
                refine atI_nat ?_
                match j, hj6 with | 0, _ => rfl | 1, _ => rfl | 2, _ => rfl | 3, _ => rfl | 4, _ => rfl | 5, _ => rfl | 6, _ => rfl | 7, _ => rfl
              have q := rr _ (by fail "same")
              have e0 : wt W8 (V.int (0 + (j : Nat))) = V.int (W8.getD j 0) := by
                show V.int (W8.getD (0 + (j : Int)).toNat 0) = _
                rw [show (0 + (j : Int)).toNat = j by omega]
              rw [e0] at q
              exact q
            · intro D5 H5 nD5 s5 hD5
              rw [rng_wt] at hD5
              fail "go"
              refine g_sum _ (SqL.of hD5) rfl ?_
              rw [sum8, gd 0 (by decide), gd 1 (by decide), gd 2 (by decide), gd 3 (by decide), gd 4 (by decide), gd 5 (by decide), gd 6 (by decide), gd 7 (by decide)]
              simp only [decide_eq_true_eq]
              fail "go"
              exact ⟨⟨_, rfl⟩, by fail "same", by fail "h", by rw [tk]; exact upd_same⟩
          · rintro σ' H' ⟨⟨x, rfl⟩, s1, hw1, hf1⟩
            rw [eN, List.take_of_length_le (by rw [← e8, l8]; exact Nat.le_refl _)] at hf1
            fail "go"
            exact kk _ _ (by fail "same") (Same.frees0 (H := H) (by fail "same") npf) (by fail "h")
local macro_rules | `(tactic| fail "call") => `(tactic| ((with_reducible show sp_law_octets _ _ _ _ _); refine ⟨_, _, rfl, by assumption, ?_⟩))
def TO9 : List (Str × Str × Str) := [("BadCoding", "given", "coding"), ("BadPayload", "place", "payload")]
def TE9 (K : PySem.W.Frag) (Q : VK) (E1 : XK) : Prop := ∀ cls d v n f w H1, (n, f, w) ∈ TO9 → XN K n cls → H1 d = some (.xd [(f, v)]) → (∀ H' p, Same H1 H' → H' p = some (.tup [.str w, v]) → Q (.ref p) H') → E1 cls (some d) H1
def TQ10 (Q : VK) (Q1 : VK) : Prop := ∀ p (os : List Int) H1, H1 p = some (.tup (os.map V.int)) → (∀ H' q, Same H1 H' → H1 q = none → H' q = some (.lst (os.map V.int)) → Q (.ref q) H') → Q1 (.ref p) H1
def To9 (K : PySem.W.Frag) (tl : XK → Hp → VK → Prop) (H : Hp) (Q : VK) : Prop := ∀ E1 Q1 H1, Same H H1 → TE9 K Q E1 → TQ10 Q Q1 → tl E1 H1 Q1

def spL_law_told (K : PySem.W.Frag) : (XK → Hp → VK → Prop) → Hp → VK → Prop := fun tl H Q =>
  To9 K tl H Q
theorem gv_law_told (T : Txt P K mg base) : Gv P w K mg base 4 "_law_told" s_law_told ["deed", "error", "found", "e"] "deed" (spL_law_told K) := by
  have sc := sc_law_told
  refine ⟨T.d_law_told.imp fun f h => ⟨h.2.choose, h.1, h.2.choose_spec⟩, sc, rfl, .inl rfl, by decide, by decide, fun g cdv A outer s H Q f c' q tl hr act hc h => ?_⟩
  · skip
    obtain ⟨C_BadCoding, xn_BadCoding, hm_BadCoding⟩ := T.x_BadCoding.nm
    obtain ⟨C_BadPayload, xn_BadPayload, hm_BadPayload⟩ := T.x_BadPayload.nm
    refine ⟨_, (pss_cons (ps_par (i := 1) (j := 2) rfl sc.nd rfl rfl (by decide) rfl rfl (pa_cons pe_non (pa_cons (pe_lst pa_nil) pa_nil)) (by rfl))
 (pss_cons (ps_try_tup2 (i := 3) rfl rfl rfl sc.nd rfl rfl ⟨rfl, by decide, .inl hm_BadCoding⟩ ⟨rfl, by decide, .inl hm_BadPayload⟩ (fun W pn xe tw pw => (pss_one (ps_set (i := 2) sc.nd rfl (Or.inl rfl) (pe_callTy (listK (K := K) rfl call_listOf) (by rfl) T.b_list (by decide +kernel) (pa_cons (act W pn xe _ _ tw) pa_nil)))))
 (fun a oe cls d pn hz hf => (pss_one (ps_set (i := 1) sc.nd rfl (Or.inl rfl) (pv 3)))))
 (pss_cons (ps_if (pt_cmpR op_isA (pv 1) pe_non (nomark _)) (pss_one (ps_ret (pv 2))) pss_nil)
 (pss_one (ps_ret (pe_ifExp (pt_val (pe_callB call_isX (by rfl) T.b_isinstance (by decide +kernel) (pa_cons (pv 1) (pa_cons (pe_globE (v := V.ref C_BadCoding) ⟨_, hm_BadCoding, rfl⟩) pa_nil)))) (pe_tup (pa_cons pe_str (pa_cons (pe_xv (pv 1)) pa_nil))) (pe_tup (pa_cons pe_str (pa_cons (pe_xv (pv 1)) pa_nil))))))))), ?_⟩
    dsimp only [cxOf, Cx.wish, LamX.lamCx, L2.start, List.map, List.length, List.replicate, List.append, List.cons_append, List.nil_append, Nat.reduceAdd, Nat.reduceSub, Nat.zero_add]
    fail "go"
    rename_i p np
    refine ⟨rfl, upd_new np hc, h _ _ _ (by fail "same") ?_ ?_⟩
    rotate_left
    · intro v os H1 hv q
      fail "go"
      exact q _ _ (by fail "same") ‹_› (by fail "h")
    intro cls d v n fl w H1 mem xn hd q
    have mem2 : (n = "BadCoding" ∧ fl = "given" ∧ w = "coding") ∨ (n = "BadPayload" ∧ fl = "place" ∧ w = "payload") := by
      simp only [TO9, List.mem_cons, Prod.mk.injEq, List.mem_nil_iff, or_false] at mem
      exact mem
    clear mem
    rcases mem2 with ⟨rfl, rfl, rfl⟩ | ⟨rfl, rfl, rfl⟩
    · obtain rfl := XN.inj xn xn_BadCoding
      have xi := T.x_BadCoding.is xn
      have xf := T.x_BadCoding.fld xn
      have k0 := T.i_BadCoding_BadCoding _ _ xn xn_BadCoding
      refine ⟨T.e_BadCoding _ _ _ xn xn_BadCoding xn_BadPayload, fun a0 na => ?_⟩
      fail "go"
      have nd0 : d ≠ a0 := fun e => by rw [← e, hd] at na; cases na
      refine ⟨na, ?_⟩
      have xa : XAt (upd H1 a0 (ExV (.ref C_BadCoding) (some d) a0)) a0 (.ref C_BadCoding) "given" v := ⟨d, upd_same, by rw [upd_ne nd0]; exact hd⟩
      fail "go"
      exact q _ _ (by fail "same") upd_same
    · obtain rfl := XN.inj xn xn_BadPayload
      have xi := T.x_BadPayload.is xn
      have xf := T.x_BadPayload.fld xn
      have k0 := T.i_BadPayload_BadCoding _ _ xn xn_BadCoding
      refine ⟨T.e_BadPayload _ _ _ xn xn_BadCoding xn_BadPayload, fun a0 na => ?_⟩
      fail "go"
      have nd0 : d ≠ a0 := fun e => by rw [← e, hd] at na; cases na
      refine ⟨na, ?_⟩
      have xa : XAt (upd H1 a0 (ExV (.ref C_BadPayload) (some d) a0)) a0 (.ref C_BadPayload) "place" v := ⟨d, upd_same, by rw [upd_ne nd0]; exact hd⟩
      fail "go"
      exact q _ _ (by fail "same") upd_same
local macro_rules | `(tactic| fail "call") => `(tactic| ((with_reducible show spL_law_told _ _ _ _); skip))
theorem tyx_ext {K : PySem.W.Frag} {H H1 : Hp} (e : LamX.ExtN H H1) {v : V} {t : Value} (h : TyX K H v t) : TyX K H1 v t := by
  cases h with
  | base b =>
    refine .base ?_
    cases b with
    | non => exact .non
    | bl x => exact .bl x
    | int i => exact .int i
    | str x => exact .str x
    | flt x => exact .flt x
    | lst h => exact .lst (ExtN.at_ e h)
    | frz h => exact .frz (e _ _ h (fun ps z => nomatch z))
    | tup h => exact .tup (ExtN.at_ e h)
    | dK h => exact .dK (ExtN.at_ e h)
    | dT h => exact .dT (ExtN.at_ e h)
    | ins h a b c d f => exact .ins (ExtN.at_ e h) a b c d f
  | byt b => exact .byt b
  | set h => exact .set (ExtN.at_ e h)
  | kList h c => exact .kList h c
  | kTuple h c => exact .kTuple h c
  | kDict h c => exact .kDict h c
  | fTuple h => exact .fTuple (e _ _ h (fun ps z => nomatch z))
  | fDict h => exact .fDict (e _ _ h (fun ps z => nomatch z))
section
variable [Tb] {K : PySem.W.Frag} {H Hc : Hp} {Q : VK} {σ : L2.St} {n : Nat} {TT : (XK → Hp → VK → Prop) → Hp → VK → Prop} {t1 t2 t : XK → TE} {D : Ends} {nm fl w : Str} {v : V}
/-- one telling, of a raising -/
theorem to_one {QQ : VK} (tb : Tbs Hc) (hT : TT = To9 K) (m : (nm, fl, w) ∈ TO9)
    (hb : ∀ E1 Q1 H1, LamX.ExtN Hc H1 → Tbs H1 → Rz K H1 E1 nm fl v → t E1 σ H1 Q1) (q : ∀ H3 p, LamX.ExtN Hc H3 → Tbs H3 → H3 p = some (.tup [.str w, v]) → QQ (.ref p) H3) : tLamG TT t σ Hc QQ := by
  subst hT
  refine g_lam tb fun H1 e1 t1 => ?_
  intro E1 Q1 H2 s2 hE hQ
  refine hb E1 Q1 H2 (ExtN.snoc e1 s2) (Tbs.same s2 t1) fun cls d H' xn s' nd => ?_
  refine hE cls d v nm fl w _ m xn upd_same fun H3 p s3 hp => ?_
  exact q H3 p (ExtN.snoc (ExtN.snoc (ExtN.snoc e1 s2) (Same.new nd s')) s3) (Tbs.same s3 (Tbs.same (Same.new nd s') (Tbs.same s2 t1))) hp
theorem to_pair (tb : Tbs Hc) (hT : TT = To9 K) (m : (nm, fl, w) ∈ TO9)
    (hb1 : ∀ E1 Q1 H1, LamX.ExtN Hc H1 → Tbs H1 → Rz K H1 E1 nm fl v → t1 E1 σ H1 Q1) (hb2 : ∀ E1 Q1 H1, LamX.ExtN Hc H1 → Tbs H1 → Rz K H1 E1 nm fl v → t2 E1 σ H1 Q1)
    (q : ∀ H3 l p1 p2, LamX.ExtN Hc H3 → Tbs H3 → H3 l = some (.lst [.ref p1, .ref p2]) → H3 p1 = some (.tup [.str w, v]) → H3 p2 = some (.tup [.str w, v]) → D.nx (σ.set n (some (.ref l))) H3) :
    tAsg (tLst (tCons (tLamG TT t1) (tCons (tLamG TT t2) tNil))) (gName n) D σ Hc := by
  refine g_asg (g_lst (g_cons (to_one tb hT m hb1 fun H3 p1 e3 tb3 hp1 => g_cons (to_one tb3 hT m (fun E1 Q1 H1 e1 tb1 r => hb2 E1 Q1 H1 (ExtN.tr e3 e1) tb1 r) fun H4 p2 e4 tb4 hp2 => ?_))))
  refine g_nil (g_sz (by show 2 ≤ 100000; decide) fun l hl => q _ l p1 p2 (ExtN.snoc (ExtN.tr e3 e4) (Same.new hl (Same.refl _))) (Tbs.new hl tb4) upd_same (upd_new hl (ExtN.at_ e4 hp1)) (upd_new hl hp2))
theorem sh_2 (i : Int) : SeqAt.shaped (.list [.tuple [.str (Str.ofString "octet"), .int i], .tuple [.str (Str.ofString "octet"), .int i]]) = true ∧ (PyData.list [.tuple [.str (Str.ofString "octet"), .int i], .tuple [.str (Str.ofString "octet"), .int i]]).canLay0 = true := by
  have e : PyData.strOk (Str.ofString "octet") = true := by decide +kernel
  simp [SeqAt.shaped, PyData.canLay0, PyData.canLayAll0, PyData.depth, PyData.depthAll, e]
abbrev dN5 : PyData := .list [.tuple [.str (Str.ofString "octet"), .none], .tuple [.str (Str.ofString "octet"), .none], .tuple [.str (Str.ofString "octet"), .none], .tuple [.str (Str.ofString "octet"), .none], .tuple [.str (Str.ofString "octet"), .none]]
theorem sh_5 : SeqAt.shaped dN5 = true ∧ dN5.canLay0 = true := by
  have e : PyData.strOk (Str.ofString "octet") = true := by decide +kernel
  simp [SeqAt.shaped, PyData.canLay0, PyData.canLayAll0, PyData.depth, PyData.depthAll, e]
theorem dps_told {o : PyData} (hv : Dp K H v o) : ∀ {ps : List Addr}, (∀ p ∈ ps, H p = some (.tup [.str w, v])) → DpAll K H (ps.map V.ref) (List.replicate ps.length (.tuple [.str w, o]))
  | [], _ => .nil
  | p :: ps, h => .cons (.tup (SqT.of (h p List.mem_cons_self)) (.cons (.str _) (.cons hv .nil))) (dps_told hv fun x hx => h x (List.mem_cons_of_mem _ hx))
/-- a comprehension over a tuple, each element told of a raising -/
theorem lc_told {a : Addr} {xs : List V} {te : TE} {vs : List Nat} {j : Nat} {Qd : Addr → Hp → Prop} (ha : SqT K H a xs) (tb : Tbs H) (hn : xs.length ≤ 1000000) (hw : ∀ v, wipe ((wipe σ vs).set j (some v)) vs = wipe σ vs)
    (he : ∀ x ∈ xs, ∀ H1, LamX.ExtN H H1 → Tbs H1 → ∀ QQ : VK, (∀ H3 p, LamX.ExtN H1 H3 → Tbs H3 → H3 p = some (.tup [.str w, v]) → QQ (.ref p) H3) → te ((wipe σ vs).set j (some x)) H1 QQ)
    (q : ∀ D H' (ps : List Addr), LamX.ExtN H H' → Tbs H' → ps.length = xs.length → H' D = some (.lst (ps.map V.ref)) → (∀ p ∈ ps, H' p = some (.tup [.str w, v])) → Qd D H') :
    ∀ D, H D = none → ∃ W : Nat → Nat → Hp → Prop, (∃ m, W 0 m (upd H D (.lst []))) ∧ ∀ i m H, W i m H → ((Itt K a).stop i H ∧ Qd D H) ∨ ((Itt K a).go i H ∧ ∃ Nx : Hp → Prop, (∀ H', Nx H' → ∃ m', m' < m ∧ W (i + 1) m' H') ∧
      ∀ x H', (Itt K a).yld i H x H' → gName j x (wipe σ vs) H' fun σ2 H2 => wipe σ2 vs = wipe σ vs ∧ tYes σ2 H2 fun b H3 => if b = true then te σ2 H3 fun y H4 => ∃ acc, H4 D = some (.lst acc) ∧ acc.length < sizeLine ∧ Nx (upd H4 D (.lst (acc ++ [y]))) else Nx H3) := by
  intro D hD
  refine lc_it walk_tup (fun i H' => LamX.ExtN H H' ∧ Tbs H' ∧ ∃ ps : List Addr, ps.length = i ∧ H' D = some (.lst (ps.map V.ref)) ∧ ∀ p ∈ ps, H' p = some (.tup [.str w, v])) ⟨ExtN.new hD (LamX.ExtN.refl H), Tbs.new hD tb, [], rfl, upd_same, fun p hp => nomatch hp⟩ (fun i H' _ h => ExtN.seqT h.1 ha) ?_ ?_
  · rintro i x H0 H' hi ⟨e, tb', ps, lp, hd, hp⟩ ⟨rfl, hx⟩
    refine ⟨hw _, ?_⟩
    dsimp only [tYes]
    rw [if_pos rfl]
    refine he x (List.mem_of_getElem? hx) _ e tb' _ fun H3 p e3 tb3 hp3 => ?_
    have hd3 := ExtN.at_ e3 hd
    refine ⟨_, hd3, ?_, ExtN.put (NoT.of0 hD) (ExtN.tr e e3), Tbs.put hd3 tb3, ps ++ [p], by rw [List.length_append, lp]; rfl, by rw [upd_same, List.map_append]; rfl, fun r hr => ?_⟩
    · rw [List.length_map, lp]
      exact Nat.lt_of_lt_of_le (Nat.lt_of_lt_of_le hi hn) (by decide)
    · rcases List.mem_append.mp hr with hr | hr
      · have h1 := ExtN.at_ e3 (hp r hr)
        exact upd_off (fun e => by rw [e, hd3] at h1; cases h1) h1
      · rw [List.mem_singleton.mp hr]
        exact upd_off (fun e => by rw [e, hd3] at hp3; cases hp3) hp3
  · rintro H' ⟨e, tb', ps, lp, hd, hp⟩
    exact q D H' ps e tb' lp hd hp
theorem g_neSh {x y : V} {d : PyData} (h1 : Dp K H x d) (h2 : Dp K H y d) (s : SeqAt.shaped d = true) (c : d.canLay0 = true) (q : Q (.bl false) H) : rNeA K x y H Q := g_neD h1 h2 s s (by rw [SeqAt.eqv_refl d c]; exact q)
theorem g_eqSh {x y : V} {d : PyData} (h1 : Dp K H x d) (h2 : Dp K H y d) (s : SeqAt.shaped d = true) (c : d.canLay0 = true) (q : Q (.bl true) H) : rEqA K x y H Q := g_eqD h1 h2 s s (by rw [SeqAt.eqv_refl d c]; exact q)
theorem kdx {v : V} (e : LamX.ExtN H Hc) (k : Kd K H v) : Kd K Hc v := by
  cases k with
  | str h => exact .str h
  | int i => exact .int i
  | non => exact .non
  | bl b => exact .bl b
  | tup h => exact .tup (tyx_ext e h)
  | lst h => exact .lst (tyx_ext e h)
  | dct h => exact .dct (tyx_ext e h)
theorem m9_c : (("BadCoding" : Str), ("given" : Str), ("coding" : Str)) ∈ TO9 := List.mem_cons_self
theorem m9_p : (("BadPayload" : Str), ("place" : Str), ("payload" : Str)) ∈ TO9 := List.mem_cons_of_mem _ List.mem_cons_self
/-- what was told of a reading -/
def TldP (H : Hp) (p : Addr) : List Int ⊕ Nat → Prop
  | .inl os => H p = some (.lst (os.map V.int))
  | .inr k => H p = some (.tup [.str "payload", .int (k : Nat)])
theorem to_rd {QQ : VK} {r : List Int ⊕ Nat} (tb : Tbs Hc) (hT : TT = To9 K)
    (hb : ∀ E1 Q1 H1, LamX.ExtN Hc H1 → Tbs H1 → RdK K H1 Q1 E1 r → t E1 σ H1 Q1) (q : ∀ H3 p, LamX.ExtN Hc H3 → Tbs H3 → TldP H3 p r → QQ (.ref p) H3) : tLamG TT t σ Hc QQ := by
  subst hT
  refine g_lam tb fun H1 e1 t1 => ?_
  intro E1 Q1 H2 s2 hE hQ
  refine hb E1 Q1 H2 (ExtN.snoc e1 s2) (Tbs.same s2 t1) ?_
  cases r with
  | inl os => exact fun H' p s' n hp => hQ p os H' hp fun H3 p3 s3 n3 h3 => q H3 p3 (ExtN.snoc (ExtN.snoc (ExtN.snoc e1 s2) s') s3) (Tbs.same s3 (Tbs.same s' (Tbs.same s2 t1))) h3
  | inr k =>
    intro cls d H' xn s' nd
    refine hE cls d (.int (k : Nat)) "BadPayload" "place" "payload" _ m9_p xn upd_same fun H3 p s3 hp => ?_
    exact q H3 p (ExtN.snoc (ExtN.snoc (ExtN.snoc e1 s2) (Same.new nd s')) s3) (Tbs.same s3 (Tbs.same (Same.new nd s') (Tbs.same s2 t1))) hp
theorem sh_p (i : Int) : SeqAt.shaped (.tuple [.str (Str.ofString "payload"), .int i]) = true ∧ (PyData.tuple [.str (Str.ofString "payload"), .int i]).canLay0 = true := by
  have e : PyData.strOk (Str.ofString "payload") = true := by decide +kernel
  simp [SeqAt.shaped, PyData.canLay0, PyData.canLayAll0, PyData.depth, PyData.depthAll, e]
theorem sh_ints (ns : List Int) : SeqAt.shaped (.list (ns.map PyData.int)) = true ∧ (PyData.list (ns.map PyData.int)).canLay0 = true := by
  have e : PyData.canLayAll0 (ns.map PyData.int) = true ∧ PyData.depthAll (ns.map PyData.int) = 0 := by
    induction ns with
    | nil => simp [PyData.canLayAll0, PyData.depthAll]
    | cons n ns ih => simp [PyData.canLayAll0, PyData.canLay0, PyData.depthAll, PyData.depth, ih.1, ih.2]
  simp [SeqAt.shaped, PyData.canLay0, PyData.depth, e.1, e.2]
end
local macro_rules | `(tactic| fail "go1") => `(tactic| ((with_reducible refine add_LL ?_ ?_); (simp only [List.length_append, List.length_take, List.length_drop]; omega)))

def sp_law_bent (K : PySem.W.Frag) : Sp := fun vs H Q _ =>
  ∃ (d : Addr) (l : List Nat) (n : Nat) (c : Addr), vs = [.ref d, .str (strL l)] ∧ l.length ≤ 150 ∧ (∀ c ∈ l, c < 128) ∧ DrawAt K n H d c ∧ n + 3 < 1000000000 ∧ ∀ H' l', Keep d H H' → DrawAt K (n + 3) H' d c → l'.length ≤ l.length + 3 → (∀ c ∈ l', c < 128) → Q (.str (strL l')) H'
theorem df_law_bent (T : Txt P K mg base) : Df P w K mg base 3 "_law_bent" s_law_bent ["draw", "signs"] (sp_law_bent K) := by
  have sc := sc_law_bent
  obtain ⟨f, hm, fd, F⟩ := T.d_law_bent
  refine ⟨f, fd, hm, F, okG F sc (by fail "many") (fun cdv A outer s H vs Q E hr h => ?_)⟩
  · obtain ⟨d, l, n, c, rfl, ll, lc, D, hn, k⟩ := h
    refine ⟨_, (pss_cons (ps_par (i := 2) (j := 3) rfl sc.nd rfl rfl (by decide) rfl rfl (pa_cons (pe_callG (sp := sp_law_next K) (df_law_next T) hr (by decide) b_law_next_2_ b_law_next_2__s (pa_cons (pv 0) (pa_cons (pe_op op_addA (pe_callB call_lenA (by rfl) T.b_len (by decide +kernel) (pa_cons (pv 1) pa_nil)) pe_int) pa_nil)) pk_nil) (pa_cons (pe_callG (sp := sp_law_next K) (df_law_next T) hr (by decide) b_law_next_2_ b_law_next_2__s (pa_cons (pv 0) (pa_cons pe_int pa_nil)) pk_nil) pa_nil)) (by rfl))
 (pss_cons (ps_set (i := 4) sc.nd rfl (Or.inl rfl) (pe_ix ix_seq (pe_lst (pa_cons pe_str (pa_cons pe_str (pa_cons pe_str (pa_cons pe_str (pa_cons pe_str (pa_cons pe_str (pa_cons pe_str (pa_cons pe_str (pa_cons pe_str (pa_cons pe_str (pa_cons pe_str (pa_cons pe_str (pa_cons pe_str (pa_cons pe_str (pa_cons pe_str (pa_cons pe_str pa_nil))))))))))))))))) (pe_callG (sp := sp_law_next K) (df_law_next T) hr (by decide) b_law_next_2_ b_law_next_2__s (pa_cons (pv 0) (pa_cons pe_int pa_nil)) pk_nil) (fun _ _ => rfl)))
 (pss_cons (ps_if (pt_cmpR (op_eqA hr) (pv 3) pe_int (nomark _)) (pss_one (ps_ret (pe_op op_addA (pe_op op_addA (pe_slice sl_str (pv 1) po_none (po_some (pv 2))) (pv 4)) (pe_slice sl_str (pv 1) (po_some (pv 2)) po_none)))) pss_nil)
 (pss_one (ps_ret (pe_ifExp (pt_cmpR (op_eqA hr) (pv 3) pe_int (nomark _)) (pe_op op_addA (pe_slice sl_str (pv 1) po_none (po_some (pv 2))) (pe_slice sl_str (pv 1) (po_some (pe_op op_addA (pv 2) pe_int)) po_none)) (pe_op op_addA (pe_op op_addA (pe_slice sl_str (pv 1) po_none (po_some (pv 2))) (pv 4)) (pe_slice sl_str (pv 1) (po_some (pe_op op_addA (pv 2) pe_int)) po_none)))))))), ?_⟩
    dsimp only [cxOf, Cx.wish, L2.start, List.map, List.length, List.replicate, List.append, List.cons_append, List.nil_append, Nat.reduceAdd, Nat.reduceSub, Nat.zero_add]
    have hz : l.length ≤ 100000 := by omega
    have ls : (strL l).length = l.length := len_strL l
    fail "go"
    rename_i H1 a' k1 D1 a0 a1 H2 way k2 D2 w0 w1 pl npl H3 r3 k3 D3 r30 r31
    obtain ⟨a', rfl⟩ : ∃ m : Nat, a' = (m : Int) := ⟨a'.toNat, by omega⟩
    refine g_ixA (fun v => ∃ m, v = .str (strL m) ∧ m.length ≤ 3 ∧ ∀ c ∈ m, c < 128) (by fail "sq") ?_ r30 (by show r3 < 16; exact r31) ?_
    · have q : ∀ {z : Str} {vs : List V}, ((cs z).length ≤ 3 ∧ ∀ c ∈ cs z, c < 128) → (∀ x ∈ vs, ∃ m, x = V.str (strL m) ∧ m.length ≤ 3 ∧ ∀ c ∈ m, c < 128) → ∀ x ∈ V.str z :: vs, ∃ m, x = V.str (strL m) ∧ m.length ≤ 3 ∧ ∀ c ∈ m, c < 128 := fun {z} {vs} a b => List.forall_mem_cons.mpr ⟨⟨cs z, by rw [strL_cs], a.1, a.2⟩, b⟩
      repeat (refine q (by decide +kernel) ?_)
      exact List.forall_mem_nil _
    rintro v ⟨m, rfl, lm, mc⟩
    have c1 : ∀ i j, ∀ c ∈ l.take i ++ m ++ l.drop j, c < 128 := fun i j c hc => by
      rcases List.mem_append.mp hc with hc | hc
      · rcases List.mem_append.mp hc with hc | hc
        · exact lc c (List.mem_of_mem_take hc)
        · exact mc c hc
      · exact lc c (List.mem_of_mem_drop hc)
    have c2 : ∀ i j, ∀ c ∈ l.take i ++ l.drop j, c < 128 := fun i j c hc => by
      rcases List.mem_append.mp hc with hc | hc
      · exact lc c (List.mem_of_mem_take hc)
      · exact lc c (List.mem_of_mem_drop hc)
    fail "go"
    · refine sl_to (j := a') hz rfl ?_
      fail "go"
      refine sl_from (i := a') hz rfl ?_
      fail "go"
      exact k _ _ (by fail "keep") (by fail "dru") (by simp only [List.length_append, List.length_take, List.length_drop]; omega) (c1 _ _)
    · refine sl_to (j := a') hz rfl ?_
      fail "go"
      refine sl_from (i := a' + 1) hz (by omega) ?_
      fail "go"
      exact k _ _ (by fail "keep") (by fail "dru") (by simp only [List.length_append, List.length_take, List.length_drop]; omega) (c2 _ _)
    · refine sl_to (j := a') hz rfl ?_
      fail "go"
      refine sl_from (i := a' + 1) hz (by omega) ?_
      fail "go"
      exact k _ _ (by fail "keep") (by fail "dru") (by simp only [List.length_append, List.length_take, List.length_drop]; omega) (c1 _ _)
local macro_rules | `(tactic| fail "call") => `(tactic| ((with_reducible show sp_law_bent _ _ _ _ _); refine ⟨_, _, _, _, rfl, by omega, by assumption, by with_reducible (fail "dr"), by omega, fun H' l' k' D' hl' hc' => ?_⟩))

def sp_law_right (K : PySem.W.Frag) : Sp := fun vs H Q _ =>
  ∃ (z : Str) (l : List Nat), vs = [.str z, .str (strL l)] ∧ Sgs l ∧ (z = "h" ∨ z = "s") ∧ Tbs H ∧ ∀ H', LamX.ExtN H H' → Tbs H' → Q (.bl true) H'
theorem df_law_right (T : Txt P K mg base) : Df P w K mg base 7 "_law_right" s_law_right ["way", "signs"] (sp_law_right K) := by
  have sc := sc_law_right
  obtain ⟨f, fd, c0, Pt, hm, F, TB, hmT, hu⟩ := T.t_law_right
  refine ⟨f, fd, hm, F.out, okC F sc (by fail "many") (fun A outer s H vs Q E hr h => ?_)⟩
  · obtain ⟨z, l, rfl, sg, hz, tb, k⟩ := h
    refine ⟨_, (pss_cons (ps_set (i := 2) sc.nd rfl (Or.inl rfl) (pe_callG (sp := sp_law_octets K) (df_law_octets T) hr (by decide) b_law_octets_2_ b_law_octets_2__s (pa_cons (pv 0) (pa_cons (pv 1) pa_nil)) pk_nil))
 (pss_cons (ps_set (i := 3) sc.nd rfl (Or.inl rfl) (pe_lam (TT := spL_law_told K) (gv_law_told T) TB rfl hmT hu hr (by decide) (show LamX.LamS (defScope s_law_right) _ from LamX.lamS_by (by decide +kernel)) b_law_told_1_ rfl (fun _ _ _ _ _ => rfl)
 (fun B out s2 H2 E f c' hr => (pe_callX (sp := sp_octets_of K) (df_octets_of T) (takes_of rfl rfl rfl rfl) hr (by decide) b_octets_of_2_ b_octets_of_2__s (pa_cons (pv 0) (pa_cons (pv 1) pa_nil)) pk_nil))))
 (pss_cons (ps_if (pt_cmpR (op_neA hr) (pv 3) (pe_ifExp (pt_val (pe_callB call_isi (by rfl) T.b_isinstance (by decide +kernel) (pa_cons (pv 2) (pa_cons (pe_bltn (v := V.ty "list") (u := .type "list") (by rfl) T.b_list (by decide +kernel) rfl) pa_nil)))) (pv 2) (pe_tup (pa_cons pe_str (pa_cons (pv 2) pa_nil)))) (nomark _)) (pss_one (ps_ret pe_bl)) pss_nil)
 (pss_one (ps_ret (pe_or (pe_not (pe_callB call_isi (by rfl) T.b_isinstance (by decide +kernel) (pa_cons (pv 2) (pa_cons (pe_bltn (v := V.ty "list") (u := .type "list") (by rfl) T.b_list (by decide +kernel) rfl) pa_nil)))) (pe_or (pe_cmpR (op_eqA hr) (pv 0) pe_str (nomark _)) (pe_one (pe_cmpR (op_eqA hr) (pe_callX (sp := sp_payload_of K) (df_payload_of T) takesN hr (by decide) b_payload_of_2_ b_payload_of_2__s (pa_cons pe_str (pa_cons (pe_tupleOf (by rfl) T.b_tuple (pv 2)) pa_nil)) pk_nil) (pv 1) (nomark _)))))))))), ?_⟩
    dsimp only [cxOf, Cx.wish, LamX.lamCx, L2.start, List.map, List.length, List.replicate, List.append, List.cons_append, List.nil_append, Nat.reduceAdd, Nat.reduceSub, Nat.zero_add]
    obtain ⟨r, hr1, hr2⟩ : ∃ r, (z = "h" → r = outH l) ∧ (z = "s" → r = outS l) := by
      rcases hz with rfl | rfl
      · exact ⟨outH l, fun _ => rfl, fun e => absurd e (by decide +kernel)⟩
      · exact ⟨outS l, fun e => absurd e (by decide +kernel), fun _ => rfl⟩
    have pick : ∀ {A : List Int ⊕ Nat → Prop}, A r → (z = "h" ∧ A (outH l) ∨ z = "s" ∧ A (outS l)) := fun {A} a => by
      rcases hz with e | e
      · exact .inl ⟨e, hr1 e ▸ a⟩
      · exact .inr ⟨e, hr2 e ▸ a⟩
    fail "go"
    refine pick (A := fun r => LwK H _ r) ?_
    cases r with
    | inl os =>
      have oc : Octs os := by
        obtain ⟨ll, _⟩ := id sg
        rcases hz with e | e
        · have o := outH_oct (hr1 e).symm
          exact ⟨by have := o.2; omega, o.1⟩
        · have o := outS_oct (hr2 e).symm
          exact ⟨by have := o.2.1; omega, o.1⟩
      intro H1 p s1 np hp
      have tb1 := Tbs.same s1 tb
      fail "go"
      refine to_rd (r := .inl os) tb1 rfl (fun E1 Q1 H2 e2 tb2 rd => ?_) fun H3 p3 e3 tb3 h3 => ?_
      · fail "go"
        exact .inr ⟨_, rfl, .inr ⟨l, rfl, sg, pick (A := fun r => RdK K _ _ _ r) rd⟩⟩
      have h3 : H3 p3 = some (.lst (os.map V.int)) := h3
      have hp3 : H3 p = some (.lst (os.map V.int)) := ExtN.at_ e3 hp
      have e03 : LamX.ExtN H H3 := ExtN.tr (ExtN.same s1) e3
      clear hp tb1 s1 tb e3
      fail "go"
      refine g_neSh (d := .list (os.map .int)) (.lst (SqL.of h3) (dps_ints os)) (.lst (SqL.of hp3) (dps_ints os)) (sh_ints os).1 (sh_ints os).2 ?_
      fail "go"
      · exact k _ e03 tb3
      · have eS : payS os = l := by
          rcases hz with e | e
          · exact absurd e (by assumption)
          · exact (outS_oct (hr2 e).symm).2.2
        refine .inl ⟨_, _, os, rfl, rfl, upd_same, oc, .inr ⟨rfl, fun H4 s4 => ?_⟩⟩
        rw [eS]
        fail "go"
        exact k _ (ExtN.snoc e03 (by fail "same")) (Tbs.same (by fail "same") tb3)
    | inr kk =>
      intro H1 s1
      have tb1 := Tbs.same s1 tb
      fail "go"
      refine to_rd (r := .inr kk) tb1 rfl (fun E1 Q1 H2 e2 tb2 rd => ?_) fun H3 p3 e3 tb3 h3 => ?_
      · fail "go"
        exact .inr ⟨_, rfl, .inr ⟨l, rfl, sg, pick (A := fun r => RdK K _ _ _ r) rd⟩⟩
      have h3 : H3 p3 = some (.tup [.str "payload", .int (kk : Nat)]) := h3
      have e03 : LamX.ExtN H H3 := ExtN.tr (ExtN.same s1) e3
      clear tb1 s1 tb e3
      fail "go"
      refine g_neSh (d := .tuple [.str (Str.ofString "payload"), .int (kk : Nat)]) (by fail "dp") (by fail "dp") (sh_p _).1 (sh_p _).2 ?_
      fail "go"
      exact k _ (ExtN.snoc e03 (by fail "same")) (Tbs.same (by fail "same") tb3)
local macro_rules | `(tactic| fail "call") => `(tactic| ((with_reducible show sp_law_right _ _ _ _ _); refine ⟨_, _, rfl, by first | assumption | exact ⟨by omega, by assumption⟩, by first | exact .inl rfl | exact .inr rfl, by fail "tbs", fun H' e' t' => ?_⟩))
theorem octs_of : ∀ {ys : List V}, (∀ y ∈ ys, ∃ i, y = V.int i ∧ isOct i) → ∃ os : List Int, ys = os.map V.int ∧ ∀ o ∈ os, isOct o
  | [], _ => ⟨[], rfl, fun c h => nomatch h⟩
  | x :: xs, h => by
    obtain ⟨os, rfl, ho⟩ := octs_of fun y hy => h y (List.mem_cons_of_mem _ hy)
    obtain ⟨i, rfl, hi⟩ := h x List.mem_cons_self
    exact ⟨i :: os, rfl, List.forall_mem_cons.mpr ⟨hi, ho⟩⟩
theorem pay_sgs {os : List Int} (h : ∀ o ∈ os, isOct o) (l : os.length ≤ 12) : Sgs (payH os) ∧ Sgs (payS os) ∧ (payH os).length ≤ 36 ∧ (payS os).length ≤ 36 := by
  obtain ⟨_, _, p3⟩ := payH_cnt h
  have ps := payS_len os
  have dg : ∀ d : Int, 0 ≤ d → d < 16 → dig d < 128 := fun d h0 h1 => by unfold dig; split <;> omega
  have fm : ∀ o, isOct o → ∀ c ∈ form o, c < 128 := fun o ho c hc => by
    unfold isOct at ho
    unfold form at hc
    split at hc
    · rw [List.mem_singleton.mp hc]; decide
    · split at hc
      · rename_i li
        unfold isLit at li
        rw [List.mem_singleton.mp hc]
        omega
      · simp only [List.mem_cons, List.mem_nil_iff, or_false] at hc
        rcases hc with rfl | rfl | rfl
        · decide
        · exact dg _ (by omega) (by omega)
        · exact dg _ (by omega) (by omega)
  refine ⟨⟨by omega, fun c hc => ?_⟩, ⟨by omega, fun c hc => ?_⟩, by omega, by omega⟩
  · obtain ⟨o, ho, hc⟩ := List.mem_flatMap.mp hc
    exact fm o (h o ho) c hc
  · obtain ⟨d, hd, rfl⟩ := List.mem_map.mp hc
    obtain ⟨d0, d1⟩ := b64_dig os h d hd
    unfold alpha
    split
    · omega
    · split
      · omega
      · split
        · omega
        · split <;> omega
abbrev dT0 : PyData := .tuple [.str (Str.ofString "payload"), .none]
abbrev dN12 : PyData := .list [dT0, dT0, dT0, dT0, dT0, dT0, dT0, dT0, dT0, dT0, dT0, dT0]
theorem sh_12 : SeqAt.shaped dN12 = true ∧ dN12.canLay0 = true := by
  have e : PyData.strOk (Str.ofString "payload") = true := by decide +kernel
  simp [SeqAt.shaped, PyData.canLay0, PyData.canLayAll0, PyData.depth, PyData.depthAll, e]
theorem sh_0 : SeqAt.shaped (.list []) = true ∧ (PyData.list []).canLay0 = true := by
  simp [SeqAt.shaped, PyData.canLay0, PyData.canLayAll0, PyData.depth, PyData.depthAll]
theorem nstx {K : PySem.W.Frag} {H Hc : Hp} {v : V} (e : LamX.ExtN H Hc) (k : Nst K H v) : Nst K Hc v := by
  cases k with
  | int i => exact .int i
  | non => exact .non
  | bl b => exact .bl b
  | tup h => exact .tup (tyx_ext e h)
  | lst h => exact .lst (tyx_ext e h)
  | dct h => exact .dct (tyx_ext e h)
local macro_rules | `(tactic| fail "go1") => `(tactic| with_reducible refine g_forTH ?_)

def sp_law (K : PySem.W.Frag) : Sp := fun vs H Q _ =>
  ∃ (a : Addr) (ns : List Int), vs = [.ref a] ∧ SqL K H a (ns.map V.int) ∧ ns.length ≤ 63 ∧ Tbs H ∧ ∀ H', Q (.bl true) H'
theorem df_law (T : Txt P K mg base) : Df P w K mg base 8 "law" s_law ["script"] (sp_law K) := by
  have sc := sc_law
  obtain ⟨f, fd, c0, Pt, hm, F, TB, hmT, hu⟩ := T.t_law
  refine ⟨f, fd, hm, F.out, okC F sc (by fail "many") (fun A outer s H vs Q E hr h => ?_)⟩
  · obtain ⟨a, ns, rfl, hs, hn, tb, k⟩ := h
    refine ⟨_, (pss_cons (ps_set (i := 1) sc.nd rfl (Or.inr rfl) (pe_callG (sp := sp_law_begin K) (df_law_begin T) hr (by decide) b_law_begin_1_ b_law_begin_1__s (pa_cons (pv 0) pa_nil) pk_nil))
 (pss_cons (ps_for PassesOwn.never rfl (pi_range1 rfl T.b_range (pa_cons pe_int pa_nil)) (pg_name (i := 2) sc.nd rfl (Or.inl rfl)) (pss_cons (ps_setLc (i := 3) (own := [("k", 10)]) (g := gName 10) (tt := tYes) rfl sc.nd rfl rfl (sw_true rfl rfl rfl (by decide +kernel)) (pi_range1 rfl T.b_range (pa_cons (pe_callG (sp := sp_law_next K) (df_law_next T) hr (by decide) b_law_next_2_ b_law_next_2__s (pa_cons (pv 1) (pa_cons pe_int pa_nil)) pk_nil) pa_nil)) (blkOk_by (N := ["script", "draw", "bout", "row", "way", "signs", "turn", "odd", "told", "other", "k"]) (sc := defScope s_law) (by decide +kernel)) (fun _ _ _ _ _ => (pg_name (i := 10) sc.nd rfl (Or.inl rfl))) (fun _ _ _ _ _ => pts_nil) (fun _ _ _ _ _ => (pe_ix (ixK (r := rIx) (K := K) rfl ix_seq) (pe_lst (pa_cons pe_int (pa_cons pe_int (pa_cons pe_int (pa_cons pe_int (pa_cons pe_int (pa_cons pe_int (pa_cons pe_int (pa_cons pe_int pa_nil))))))))) (pe_callG (sp := sp_law_next K) (df_law_next T) hr (by decide) b_law_next_2_ b_law_next_2__s (pa_cons (pv 1) (pa_cons pe_int pa_nil)) pk_nil) (fun _ _ => rfl))))
 (pss_one (ps_for PassesOwn.never rfl (pi_tup (pe_tup (pa_cons pe_str (pa_cons pe_str pa_nil)))) (pg_name (i := 4) sc.nd rfl (Or.inr rfl)) (pss_cons (ps_set (i := 5) sc.nd rfl (Or.inr rfl) (pe_callX (sp := sp_payload_of K) (df_payload_of T) takesN hr (by decide) b_payload_of_2_ b_payload_of_2__s (pa_cons (pv 4) (pa_cons (pe_tupleOf (by rfl) T.b_tuple (pv 3)) pa_nil)) pk_nil))
 (pss_cons (ps_if (pt_cmpR (op_neA hr) (pe_lam (TT := spL_law_told K) (gv_law_told T) TB rfl hmT hu hr (by decide) (show LamX.LamS (defScope s_law) _ from LamX.lamS_by (by decide +kernel)) b_law_told_1_ rfl (fun _ _ _ _ _ => rfl)
 (fun B out s2 H2 E f c' hr => (pe_callX0 (sp := sp_octets_of K) (df_octets_of T) (takes_of rfl rfl rfl rfl) hr (by decide) b_octets_of_0_payload_coding b_octets_of_0_payload_coding_s (pk_cons (pv 5) (pk_cons (pv 4) pk_nil))))) (pv 3) (nomark _)) (pss_one (ps_ret pe_bl)) pss_nil)
 (pss_one (ps_for PassesOwn.never rfl (pi_range1 rfl T.b_range (pa_cons pe_int pa_nil)) (pg_name (i := 6) sc.nd rfl (Or.inl rfl)) (pss_cons (ps_set (i := 5) sc.nd rfl (Or.inr rfl) (pe_callG (sp := sp_law_bent K) (df_law_bent T) hr (by decide) b_law_bent_2_ b_law_bent_2__s (pa_cons (pv 1) (pa_cons (pv 5) pa_nil)) pk_nil))
 (pss_one (ps_if (PW.pt (pw_or (pt_not (pt_val (pe_callG (sp := sp_law_right K) (df_law_right T) hr (by decide) b_law_right_2_ b_law_right_2__s (pa_cons pe_str (pa_cons (pv 5) pa_nil)) pk_nil))) (pw_or1 (pt_not (pt_val (pe_callG (sp := sp_law_right K) (df_law_right T) hr (by decide) b_law_right_2_ b_law_right_2__s (pa_cons pe_str (pa_cons (pv 5) pa_nil)) pk_nil)))))) (pss_one (ps_ret pe_bl)) pss_nil)))))))))))
 (pss_cons (ps_set (i := 7) sc.nd rfl (Or.inr rfl) (pe_ix ix_seq (pe_lst (pa_cons pe_str (pa_cons pe_str (pa_cons pe_non (pa_cons pe_int (pa_cons pe_bl (pa_cons (pe_lst (pa_cons pe_str pa_nil)) (pa_cons (pe_tup (pa_cons pe_str pa_nil)) (pa_cons pe_dnewK (pa_cons pe_str (pa_cons pe_str pa_nil))))))))))) (pe_callG (sp := sp_law_next K) (df_law_next T) hr (by decide) b_law_next_2_ b_law_next_2__s (pa_cons (pv 1) (pa_cons pe_int pa_nil)) pk_nil) (fun _ _ => rfl)))
 (pss_cons (ps_set (i := 8) sc.nd rfl (Or.inl rfl) (pe_lst (pa_cons (pe_lam (TT := spL_law_told K) (gv_law_told T) TB rfl hmT hu hr (by decide) (show LamX.LamS (defScope s_law) _ from LamX.lamS_by (by decide +kernel)) b_law_told_1_ rfl (fun _ _ _ _ _ => rfl)
 (fun B out s2 H2 E f c' hr => (pe_callX (sp := sp_octets_of K) (df_octets_of T) (takes_of rfl rfl rfl rfl) hr (by decide) b_octets_of_2_ b_octets_of_2__s (pa_cons (pv 7) (pa_cons pe_str pa_nil)) pk_nil))) (pa_cons (pe_lamD (TT := spL_law_told K) (x0 := "x") (gv_law_told T) TB rfl hmT hu hr (by decide) (show LamD ["script", "draw", "bout", "row", "way", "signs", "turn", "odd", "told", "other", "k"] (defScope s_law) _ from lamD_by (by decide +kernel)) rfl b_law_told_1_ rfl rfl (fun _ _ _ _ _ _ _ => ⟨_, rfl, fun _ => rfl⟩)
 (fun B out s2 H2 E f c' hr => (pe_callX (sp := sp_octets_of K) (df_octets_of T) (takes_of rfl rfl rfl rfl) hr (by decide) b_octets_of_2_ b_octets_of_2__s (pa_cons (pv 7) (pa_cons pe_non pa_nil)) pk_nil))) pa_nil))))
 (pss_cons (ps_if (pt_cmpR (op_neA hr) (pe_callB (call_reprQ hr) (by rfl) T.b_repr (by decide +kernel) (pa_cons (pv 8) pa_nil)) (pe_callB (call_reprQ hr) (by rfl) T.b_repr (by decide +kernel) (pa_cons (pe_op op_mulB (pe_lst (pa_cons (pe_tup (pa_cons pe_str (pa_cons (pv 7) pa_nil))) pa_nil)) pe_int) pa_nil)) (nomark _)) (pss_one (ps_ret pe_bl)) pss_nil)
 (pss_cons (ps_set (i := 8) sc.nd rfl (Or.inl rfl) (pe_lst pa_nil))
 (pss_cons (ps_for PassesOwn.never rfl (pi_tup (pe_tup (pa_cons pe_non (pa_cons pe_int (pa_cons pe_bl (pa_cons (pe_tup (pa_cons pe_str pa_nil)) (pa_cons (pe_lst (pa_cons pe_str pa_nil)) (pa_cons pe_dnewK pa_nil)))))))) (pg_name (i := 9) sc.nd rfl (Or.inr rfl)) (pss_cons (ps_expr (pe_bm PySem.F.plainAttrs_list PySem.F.slot_list_append PySem.F.type_list_append mt_append (pv 8) (pa_cons (pe_lam (TT := spL_law_told K) (gv_law_told T) TB rfl hmT hu hr (by decide) (show LamX.LamS (defScope s_law) _ from LamX.lamS_by (by decide +kernel)) b_law_told_1_ rfl (fun _ _ _ _ _ => rfl)
 (fun B out s2 H2 E f c' hr => (pe_callX (sp := sp_octets_of K) (df_octets_of T) (takes_of rfl rfl rfl rfl) hr (by decide) b_octets_of_2_ b_octets_of_2__s (pa_cons pe_str (pa_cons (pv 9) pa_nil)) pk_nil))) pa_nil)))
 (pss_one (ps_expr (pe_bm PySem.F.plainAttrs_list PySem.F.slot_list_append PySem.F.type_list_append mt_append (pv 8) (pa_cons (pe_lam (TT := spL_law_told K) (gv_law_told T) TB rfl hmT hu hr (by decide) (show LamX.LamS (defScope s_law) _ from LamX.lamS_by (by decide +kernel)) b_law_told_1_ rfl (fun _ _ _ _ _ => rfl)
 (fun B out s2 H2 E f c' hr => (pe_callX (sp := sp_octets_of K) (df_octets_of T) (takes_of rfl rfl rfl rfl) hr (by decide) b_octets_of_2_ b_octets_of_2__s (pa_cons pe_str (pa_cons (pv 9) pa_nil)) pk_nil))) pa_nil))))))
 (pss_one (ps_ret (pe_and (pe_cmpR (op_eqA hr) (pv 8) (pe_op op_mulB (pe_lst (pa_cons (pe_tup (pa_cons pe_str (pa_cons pe_non pa_nil))) pa_nil)) pe_int) (nomark _)) (pe_one (pe_cmpR (op_eqA hr) (pe_lam (TT := spL_law_told K) (gv_law_told T) TB rfl hmT hu hr (by decide) (show LamX.LamS (defScope s_law) _ from LamX.lamS_by (by decide +kernel)) b_law_told_1_ rfl (fun _ _ _ _ _ => rfl)
 (fun B out s2 H2 E f c' hr => (pe_callX (sp := sp_octets_of K) (df_octets_of T) (takes_of rfl rfl rfl rfl) hr (by decide) b_octets_of_2_ b_octets_of_2__s (pa_cons pe_str (pa_cons pe_str pa_nil)) pk_nil))) (pe_lst pa_nil) (nomark _))))))))))))), ?_⟩
    dsimp only [cxOf, Cx.wish, LamX.lamCx, L2.start, List.map, List.length, List.replicate, List.append, List.cons_append, List.nil_append, Nat.reduceAdd, Nat.reduceSub, Nat.zero_add]
    fail "go"
    rename_i H0 d c s0 nd D0
    have tb0 : Tbs H0 := Tbs.same s0 tb
    refine ⟨by decide, by decide, for_range (fun i σ' H' => (∃ t1 t2 t3 t4 t5, σ' = [some (.ref a), some (.ref d), t1, t2, t3, t4, t5, none, none, none, none]) ∧ DrawAt K (40 * i) H' d c ∧ Tbs H') ⟨⟨_, _, _, _, _, rfl⟩, by fail "dr", tb0⟩ ?_ ?_⟩
    · rintro i σ' H1 hi ⟨⟨t1, t2, t3, t4, t5, rfl⟩, D1, tb1⟩
      clear hs s0 nd D0 tb0 tb
      fail "go"
      rename_i H2 m2 k2 D2 m20 m21
      have tb2 : Tbs H2 := Tbs.keep k2 D1 tb1
      refine ⟨by omega, by omega, lc_draw (fun v => ∃ i, v = V.int i ∧ isOct i) (fun m => 40 * i + 1 + m) (by omega) (fun _ => rfl) (by fail "dr") ?_ ?_⟩
      · intro j hj H3 k3 D3 Q1 q1
        fail "go"
        refine g_ixA (fun v => ∃ i, v = V.int i ∧ isOct i) (by fail "sq") ?_ (by assumption) (by show _ < (8 : Int); assumption) ?_
        · repeat (first | exact List.forall_mem_nil _ | refine List.forall_mem_cons.mpr ⟨⟨_, rfl, by decide, by decide⟩, ?_⟩)
        intro v hv
        exact q1 _ _ (by fail "keep") (by fail "dru") hv
      intro Dd H3 ys nD k3 D3 hD hl hy
      obtain ⟨os, rfl, ho⟩ := octs_of hy
      rw [List.length_map] at hl
      have lo : os.length ≤ 12 := by omega
      have oc : Octs os := ⟨by omega, ho⟩
      have tb3 : Tbs H3 := Tbs.keep k3 D2 tb2
      obtain ⟨sgH, sgS, lH, lS⟩ := pay_sgs ho lo
      have D4 : DrawAt K (40 * i + 11) H3 d c := D3.up (by omega)
      clear D3 k3 D2 k2 tb2 tb1 D1 nD hy
      fail "go"
      rename_i pw npw
      have hDw : (upd H3 pw (HO.tup [V.str "h", V.str "s"])) Dd = some (.lst (os.map V.int)) := by fail "h"
      refine Hold.mk ⟨_, rfl, ⟨_, SqT.of upd_same⟩, for_it (walk_tup (xs := [V.str "h", V.str "s"])) (fun j σ' H' => (∃ u4 u5 u6, σ' = [some (.ref a), some (.ref d), some (.int (0 + (i : Nat))), some (.ref Dd), u4, u5, u6, none, none, none, none]) ∧ DrawAt K (40 * i + 11 + 12 * j) H' d c ∧ Tbs H' ∧ H' Dd = some (.lst (os.map V.int)) ∧ H' pw = some (.tup [V.str "h", V.str "s"])) ⟨⟨_, _, _, rfl⟩, by fail "dr", by fail "tbs", hDw, upd_same⟩ (fun j σ' H' _ p => SqT.of p.2.2.2.2) ?_ ?_⟩
      rotate_left
      · rintro σ' H5 ⟨⟨u4, u5, u6, rfl⟩, D5, tb5, hD5, hp5⟩
        exact ⟨⟨_, _, _, _, _, rfl⟩, D5.up (by show 40 * i + 11 + 12 * 2 ≤ _; omega), tb5⟩
      rintro j x σ' H5 H' hj ⟨⟨u4, u5, u6, rfl⟩, D5, tb5, hD5, hp5⟩ ⟨rfl, hx⟩
      have hj2 : j < 2 := hj
      have hi6 : i < 6 := hi
      clear hDw npw D4 tb3 hD hj
      have mem := List.mem_of_getElem? hx
      clear hx
      simp only [List.mem_cons, List.mem_nil_iff, or_false] at mem
      rcases mem with rfl | rfl
      · fail "go"
        refine .inl ⟨_, _, os, rfl, rfl, by fail "h", oc, .inl ⟨rfl, fun H6 s6 => ?_⟩⟩
        fail "go"
        refine to_rd (r := .inl os) (by fail "tbs") rfl (fun E1 Q1 H7 e7 tb7 rd => ?_) fun H8 p8 e8 tb8 h8 => ?_
        · fail "go"
          exact .inr ⟨_, rfl, .inr ⟨payH os, rfl, sgH, .inl ⟨rfl, by rw [outH_pay ho]; exact rd⟩⟩⟩
        have h8 : H8 p8 = some (.lst (os.map V.int)) := h8
        have hD8 : H8 Dd = some (.lst (os.map V.int)) := ExtN.at_ e8 (by fail "h")
        have hp8 : H8 pw = some (.tup [V.str "h", V.str "s"]) := ExtN.at_ e8 (by fail "h")
        have D8 : DrawAt K (40 * i + 11 + 12 * j) H8 d c := ExtN.draw e8 (by fail "dr")
        clear s6 e8 tb5 D5 hD5 hp5
        fail "go"
        refine g_neSh (d := .list (os.map .int)) (.lst (SqL.of h8) (dps_ints os)) (.lst (SqL.of hD8) (dps_ints os)) (sh_ints os).1 (sh_ints os).2 ?_
        fail "go"
        clear h8
        refine ⟨by decide, by decide, for_range (fun t σ' H' => (∃ l u6, σ' = [some (.ref a), some (.ref d), some (.int (0 + (i : Nat))), some (.ref Dd), some (.str "h"), some (.str (strL l)), u6, none, none, none, none] ∧ l.length ≤ 36 + 3 * t ∧ ∀ c ∈ l, c < 128) ∧ DrawAt K (40 * i + 11 + 12 * j + 3 * t) H' d c ∧ Tbs H' ∧ H' Dd = some (.lst (os.map V.int)) ∧ H' pw = some (.tup [V.str "h", V.str "s"])) ⟨⟨payH os, _, rfl, by omega, sgH.2⟩, D8, tb8, hD8, hp8⟩ ?_ ?_⟩
        · rintro t σ' H9 ht ⟨⟨l, u6, rfl, ll, lc⟩, D9, tb9, hD9, hp9⟩
          have ht4 : t < 4 := ht
          have hi6 : i < 6 := hi
          clear D8 tb8 hD8 hp8
          fail "go"
          exact ⟨⟨_, _, rfl, by omega, by assumption⟩, by fail "dru", by fail "tbs", by fail "h", by fail "h"⟩
        · rintro σ' H9 ⟨⟨l, u6, rfl, ll, lc⟩, D9, tb9, hD9, hp9⟩
          exact ⟨⟨_, _, _, rfl⟩, D9.up (by show 40 * i + 11 + 12 * j + 3 * 4 ≤ _; omega), tb9, hD9, hp9⟩
      · fail "go"
        refine .inl ⟨_, _, os, rfl, rfl, by fail "h", oc, .inr ⟨rfl, fun H6 s6 => ?_⟩⟩
        fail "go"
        refine to_rd (r := .inl os) (by fail "tbs") rfl (fun E1 Q1 H7 e7 tb7 rd => ?_) fun H8 p8 e8 tb8 h8 => ?_
        · fail "go"
          exact .inr ⟨_, rfl, .inr ⟨payS os, rfl, sgS, .inr ⟨rfl, by rw [outS_pay ho]; exact rd⟩⟩⟩
        have h8 : H8 p8 = some (.lst (os.map V.int)) := h8
        have hD8 : H8 Dd = some (.lst (os.map V.int)) := ExtN.at_ e8 (by fail "h")
        have hp8 : H8 pw = some (.tup [V.str "h", V.str "s"]) := ExtN.at_ e8 (by fail "h")
        have D8 : DrawAt K (40 * i + 11 + 12 * j) H8 d c := ExtN.draw e8 (by fail "dr")
        clear s6 e8 tb5 D5 hD5 hp5
        fail "go"
        refine g_neSh (d := .list (os.map .int)) (.lst (SqL.of h8) (dps_ints os)) (.lst (SqL.of hD8) (dps_ints os)) (sh_ints os).1 (sh_ints os).2 ?_
        fail "go"
        clear h8
        refine ⟨by decide, by decide, for_range (fun t σ' H' => (∃ l u6, σ' = [some (.ref a), some (.ref d), some (.int (0 + (i : Nat))), some (.ref Dd), some (.str "s"), some (.str (strL l)), u6, none, none, none, none] ∧ l.length ≤ 36 + 3 * t ∧ ∀ c ∈ l, c < 128) ∧ DrawAt K (40 * i + 11 + 12 * j + 3 * t) H' d c ∧ Tbs H' ∧ H' Dd = some (.lst (os.map V.int)) ∧ H' pw = some (.tup [V.str "h", V.str "s"])) ⟨⟨payS os, _, rfl, by omega, sgS.2⟩, D8, tb8, hD8, hp8⟩ ?_ ?_⟩
        · rintro t σ' H9 ht ⟨⟨l, u6, rfl, ll, lc⟩, D9, tb9, hD9, hp9⟩
          have ht4 : t < 4 := ht
          have hi6 : i < 6 := hi
          clear D8 tb8 hD8 hp8
          fail "go"
          exact ⟨⟨_, _, rfl, by omega, by assumption⟩, by fail "dru", by fail "tbs", by fail "h", by fail "h"⟩
        · rintro σ' H9 ⟨⟨l, u6, rfl, ll, lc⟩, D9, tb9, hD9, hp9⟩
          exact ⟨⟨_, _, _, rfl⟩, D9.up (by show 40 * i + 11 + 12 * j + 3 * 4 ≤ _; omega), tb9, hD9, hp9⟩
    · rintro σ' H1 ⟨⟨t1, t2, t3, t4, t5, rfl⟩, D1, tb1⟩
      clear hs s0 nd D0 tb0 tb
      fail "go"
      rename_i p10 m10 p11 m11 p12 m12 p13 m13 H6 i2 k6 D6 i20 i21
      obtain ⟨_, _, _, _, g5, _⟩ := id D1
      have n12 : p12 ≠ d := Ne.symm (ne_of_none (by fail "h") m12)
      have h10 : H6 p10 = some (.lst [.str "h"]) := by fail "h"
      have h11 : H6 p11 = some (.tup [.str "s"]) := by fail "h"
      have h12 : H6 p12 = some (.dK []) := k6 _ _ n12 (by fail "h")
      have tb6 : Tbs H6 := Tbs.keep k6 (by fail "dr") (by fail "tbs")
      refine g_ixA (fun v => Kd K H6 v ∧ badC v = true ∧ ∃ e, Dq K H6 v e ∧ Sz 300 1 e) (by fail "sq") ?_ i20 (by show i2 < 10; exact i21) ?_
      · have q : ∀ {v : V} {vs : List V}, (Kd K H6 v ∧ badC v = true ∧ ∃ e, Dq K H6 v e ∧ Sz 300 1 e) → (∀ x ∈ vs, Kd K H6 x ∧ badC x = true ∧ ∃ e, Dq K H6 x e ∧ Sz 300 1 e) → ∀ x ∈ v :: vs, Kd K H6 x ∧ badC x = true ∧ ∃ e, Dq K H6 x e ∧ Sz 300 1 e := fun a b => List.forall_mem_cons.mpr ⟨a, b⟩
        have st : ∀ {z : Str}, (z.length ≤ 10 ∧ ∀ c ∈ cs z, c < 128) → badC (.str z) = true → Kd K H6 (.str z) ∧ badC (.str z) = true ∧ ∃ e, Dq K H6 (.str z) e ∧ Sz 300 1 e := fun h b => ⟨.str (As.mono (As.of h.1 h.2) (by decide)), b, _, .str _, Sz.mono (.str h.1 h.2) (by omega) (by omega)⟩
        exact q (st (by decide +kernel) (by decide +kernel)) (q (st (by decide +kernel) (by decide +kernel)) (q ⟨.non, rfl, _, .non, Sz.mono .non (by omega) (by omega)⟩ (q ⟨.int _, rfl, _, .int _, Sz.mono (.int (by decide)) (by omega) (by omega)⟩ (q ⟨.bl _, rfl, _, .bl _, Sz.mono (.bl _) (by omega) (by omega)⟩
          (q ⟨.lst (.base (.lst h10)), rfl, _, .lst (SqL.of h10) (.cons (.str _) .nil), Sz.mono (.list (.cons (Sz.str (n := 10) (by decide +kernel) (by decide +kernel)) .nil)) (by omega) (by omega)⟩ (q ⟨.tup (.base (.tup h11)), rfl, _, .tup (SqT.of h11) (.cons (.str _) .nil), Sz.mono (.tup (.cons (Sz.str (n := 10) (by decide +kernel) (by decide +kernel)) .nil)) (by omega) (by omega)⟩
          (q ⟨.dct (.base (.dK h12)), rfl, _, .dct h12, Sz.mono .dct (by omega) (by omega)⟩ (q (st (by decide +kernel) (by decide +kernel)) (q (st (by decide +kernel) (by decide +kernel)) (List.forall_mem_nil _))))))))))
      rintro odd2 ⟨kd6, bc, e6, dq6, sz6⟩
      clear m10 m11 m12 m13 k6 g5 n12 h10 h11 h12 tb1 D1 D6
      fail "go"
      refine to_one tb6 rfl m9_c (v := odd2) (fun E1 Q1 H1 e1 tb1 rz => ?_) fun H7 pA e7 tb7 hA => ?_
      · fail "go"
        exact .inl ⟨kdx e1 kd6, bc, rz⟩
      fail "go"
      refine to_one tb7 rfl m9_c (v := odd2) (fun E1 Q1 H1 e1 tb1 rz => ?_) fun H8 pB e8 tb8 hB => ?_
      · fail "go"
        exact .inl ⟨kdx e1 (kdx e7 kd6), bc, rz⟩
      have hA8 := ExtN.at_ e8 hA
      have dq8 := dqx (ExtN.tr e7 e8) dq6
      clear hA e7 tb7 e8 tb6 kd6 dq6
      fail "go"
      rename_i q0 y0 q1 y1 q2 y2 q3 y3 pL nL pT1 nT1 pT2 nT2 pT3 nT3 pT nT
      have nL2 : pL ≠ pT2 := ne_of_none (by fail "h") nT2
      have tbB : Tbs (upd (upd (upd (upd (upd (upd (upd (upd (upd H8 q0 (HO.lst [V.ref pA, V.ref pB])) q1 (HO.tup [V.str "coding", odd2])) q2 (HO.lst [V.ref q1])) q3 (HO.lst [V.ref q1, V.ref q1])) pL (HO.lst [])) pT1 (HO.tup [V.str "A"])) pT2 (HO.lst [V.str "A"])) pT3 (HO.dK [])) pT (HO.tup [V.non, V.int 5, V.bl true, V.ref pT1, V.ref pT2, V.ref pT3])) := by fail "tbs"
      have bL : (upd (upd (upd (upd (upd (upd (upd (upd (upd H8 q0 (HO.lst [V.ref pA, V.ref pB])) q1 (HO.tup [V.str "coding", odd2])) q2 (HO.lst [V.ref q1])) q3 (HO.lst [V.ref q1, V.ref q1])) pL (HO.lst [])) pT1 (HO.tup [V.str "A"])) pT2 (HO.lst [V.str "A"])) pT3 (HO.dK [])) pT (HO.tup [V.non, V.int 5, V.bl true, V.ref pT1, V.ref pT2, V.ref pT3])) pL = some (.lst []) := by fail "h"
      have b1 : (upd (upd (upd (upd (upd (upd (upd (upd (upd H8 q0 (HO.lst [V.ref pA, V.ref pB])) q1 (HO.tup [V.str "coding", odd2])) q2 (HO.lst [V.ref q1])) q3 (HO.lst [V.ref q1, V.ref q1])) pL (HO.lst [])) pT1 (HO.tup [V.str "A"])) pT2 (HO.lst [V.str "A"])) pT3 (HO.dK [])) pT (HO.tup [V.non, V.int 5, V.bl true, V.ref pT1, V.ref pT2, V.ref pT3])) pT1 = some (.tup [.str "A"]) := by fail "h"
      have b2 : (upd (upd (upd (upd (upd (upd (upd (upd (upd H8 q0 (HO.lst [V.ref pA, V.ref pB])) q1 (HO.tup [V.str "coding", odd2])) q2 (HO.lst [V.ref q1])) q3 (HO.lst [V.ref q1, V.ref q1])) pL (HO.lst [])) pT1 (HO.tup [V.str "A"])) pT2 (HO.lst [V.str "A"])) pT3 (HO.dK [])) pT (HO.tup [V.non, V.int 5, V.bl true, V.ref pT1, V.ref pT2, V.ref pT3])) pT2 = some (.lst [.str "A"]) := by fail "h"
      have b3 : (upd (upd (upd (upd (upd (upd (upd (upd (upd H8 q0 (HO.lst [V.ref pA, V.ref pB])) q1 (HO.tup [V.str "coding", odd2])) q2 (HO.lst [V.ref q1])) q3 (HO.lst [V.ref q1, V.ref q1])) pL (HO.lst [])) pT1 (HO.tup [V.str "A"])) pT2 (HO.lst [V.str "A"])) pT3 (HO.dK [])) pT (HO.tup [V.non, V.int 5, V.bl true, V.ref pT1, V.ref pT2, V.ref pT3])) pT3 = some (.dK []) := by fail "h"
      have bT : (upd (upd (upd (upd (upd (upd (upd (upd (upd H8 q0 (HO.lst [V.ref pA, V.ref pB])) q1 (HO.tup [V.str "coding", odd2])) q2 (HO.lst [V.ref q1])) q3 (HO.lst [V.ref q1, V.ref q1])) pL (HO.lst [])) pT1 (HO.tup [V.str "A"])) pT2 (HO.lst [V.str "A"])) pT3 (HO.dK [])) pT (HO.tup [V.non, V.int 5, V.bl true, V.ref pT1, V.ref pT2, V.ref pT3])) pT = some (.tup [V.non, V.int 5, V.bl true, V.ref pT1, V.ref pT2, V.ref pT3]) := upd_same
      generalize (upd (upd (upd (upd (upd (upd (upd (upd (upd H8 q0 (HO.lst [V.ref pA, V.ref pB])) q1 (HO.tup [V.str "coding", odd2])) q2 (HO.lst [V.ref q1])) q3 (HO.lst [V.ref q1, V.ref q1])) pL (HO.lst [])) pT1 (HO.tup [V.str "A"])) pT2 (HO.lst [V.str "A"])) pT3 (HO.dK [])) pT (HO.tup [V.non, V.int 5, V.bl true, V.ref pT1, V.ref pT2, V.ref pT3])) = HB at tbB bL b1 b2 b3 bT ⊢
      clear y0 y1 y2 y3 nL nT1 nT2 nT3 nT hB tb8 hA8 dq8
      refine Hold.mk ⟨_, rfl, ⟨_, SqT.of bT⟩, for_it (walk_tup (xs := [V.non, V.int 5, V.bl true, V.ref pT1, V.ref pT2, V.ref pT3])) (fun j σ' H' => (∃ u9, σ' = [some (.ref a), some (.ref d), t1, t2, t3, t4, t5, some odd2, some (.ref pL), u9, none]) ∧ Tbs H' ∧ H' pT = some (.tup [V.non, V.int 5, V.bl true, V.ref pT1, V.ref pT2, V.ref pT3]) ∧ H' pT1 = some (.tup [.str "A"]) ∧ H' pT2 = some (.lst [.str "A"]) ∧ H' pT3 = some (.dK []) ∧ ∃ ps : List Addr, ps.length = 2 * j ∧ H' pL = some (.lst (ps.map V.ref)) ∧ ∀ p ∈ ps, H' p = some (.tup [.str "payload", .non])) ⟨⟨_, rfl⟩, tbB, bT, b1, b2, b3, [], rfl, bL, fun p hp => nomatch hp⟩ (fun j σ' H' _ p => SqT.of p.2.2.1) ?_ ?_⟩
      · rintro j x σ' H5 H' hj ⟨⟨u9, rfl⟩, tb5, cT, c1, c2, c3, ps, lps, cL, hps⟩ ⟨rfl, hx⟩
        have hj6 : j < 6 := hj
        clear tbB bL b1 b2 b3 bT hj
        have mem := List.mem_of_getElem? hx
        clear hx
        have nx : ∀ HX, HX pT1 = some (.tup [.str "A"]) → HX pT2 = some (.lst [.str "A"]) → HX pT3 = some (.dK []) → Nst K HX x := fun HX g1 g2 g3 => by
          simp only [List.mem_cons, List.mem_nil_iff, or_false] at mem
          rcases mem with rfl | rfl | rfl | rfl | rfl | rfl
          · exact .non
          · exact .int _
          · exact .bl _
          · exact .tup (.base (.tup g1))
          · exact .lst (.base (.lst g2))
          · exact .dct (.base (.dK g3))
        have lz : (ps.map V.ref).length ≤ 12 := by rw [List.length_map]; omega
        have offT : ∀ {HX : Hp} {p : Addr} {ys zs : List V} {o : HO}, HX pL = some (.lst ys) → HX p = some (.tup zs) → upd HX pL o p = some (.tup zs) := fun hl hp => upd_off (fun e => by rw [e, hl] at hp; cases hp) hp
        have offD : ∀ {HX : Hp} {p : Addr} {ys : List V} {o : HO}, HX pL = some (.lst ys) → HX p = some (.dK []) → upd HX pL o p = some (.dK []) := fun hl hp => upd_off (fun e => by rw [e, hl] at hp; cases hp) hp
        fail "go"
        refine to_one tb5 rfl m9_p (v := .non) (fun E1 Q1 H1 e1 tb1 rz => ?_) fun H7 pC e7 tb7 hC => ?_
        · fail "go"
          exact .inr ⟨_, rfl, .inl ⟨.inl rfl, nx _ (ExtN.at_ e1 c1) (ExtN.at_ e1 c2) (ExtN.at_ e1 c3), rz⟩⟩
        have cL7 := ExtN.at_ e7 cL
        have c17 := ExtN.at_ e7 c1
        have c27 := ExtN.at_ e7 c2
        have c37 := ExtN.at_ e7 c3
        have cT7 := ExtN.at_ e7 cT
        have hps7 : ∀ p ∈ ps, H7 p = some (.tup [.str "payload", .non]) := fun p hp => ExtN.at_ e7 (hps p hp)
        clear cL c1 c2 c3 cT hps tb5
        fail "go"
        refine to_one (Tbs.put cL7 tb7) rfl m9_p (v := .non) (fun E1 Q1 H1 e1 tb1 rz => ?_) fun H8 pD e8 tb8 hD => ?_
        · fail "go"
          exact .inr ⟨_, rfl, .inl ⟨.inr rfl, nx _ (ExtN.at_ e1 (offT cL7 c17)) (ExtN.at_ e1 (upd_off nL2.symm c27)) (ExtN.at_ e1 (offD cL7 c37)), rz⟩⟩
        have cL8 : H8 pL = some (.lst (ps.map V.ref ++ [V.ref pC])) := ExtN.at_ e8 upd_same
        have c18 := ExtN.at_ e8 (offT cL7 c17)
        have c28 := ExtN.at_ e8 (upd_off nL2.symm c27)
        have c38 := ExtN.at_ e8 (offD cL7 c37)
        have cT8 := ExtN.at_ e8 (offT cL7 cT7)
        have hC8 := ExtN.at_ e8 (offT cL7 hC)
        have hps8 : ∀ p ∈ ps, H8 p = some (.tup [.str "payload", .non]) := fun p hp => ExtN.at_ e8 (offT cL7 (hps7 p hp))
        fail "go"
        refine ⟨⟨_, rfl⟩, Tbs.put cL8 tb8, offT cL8 cT8, offT cL8 c18, upd_off nL2.symm c28, offD cL8 c38, ps ++ [pC, pD], by rw [List.length_append, lps]; simp only [List.length_cons, List.length_nil]; omega, by rw [List.map_append]; exact upd_same.trans (by rw [List.append_assoc]; rfl), fun p hp => ?_⟩
        rcases List.mem_append.mp hp with hp | hp
        · exact offT cL8 (hps8 p hp)
        · simp only [List.mem_cons, List.mem_nil_iff, or_false] at hp
          rcases hp with rfl | rfl
          · exact offT cL8 hC8
          · exact offT cL8 hD
      · rintro σ' H5 ⟨⟨u9, rfl⟩, tb5, cT, c1, c2, c3, ps, lps, cL, hps⟩
        clear tbB bL b1 b2 b3 bT
        match ps, lps with
        | [x1, x2, x3, x4, x5, x6, x7, x8, x9, x10, x11, x12], _ =>
          have dd := dps_told (K := K) (w := "payload") (v := V.non) Dp.non hps
          fail "go"
          refine g_eqSh (d := dN12) (.lst (SqL.of (by fail "h")) (dps_same (by fail "same") dd)) (by fail "dp") sh_12.1 sh_12.2 ?_
          fail "go"
          refine to_rd (r := .inl []) (by fail "tbs") rfl (fun E1 Q1 H7 e7 tb7 rd => ?_) fun H8 p8 e8 tb8 h8 => ?_
          · fail "go"
            exact .inr ⟨_, rfl, .inr ⟨[], congrArg V.str (by decide +kernel), ⟨by decide, fun c h => nomatch h⟩, .inr ⟨rfl, rd⟩⟩⟩
          have h8 : H8 p8 = some (.lst []) := h8
          fail "go"
          exact k _
omit [Tb] in
theorem fin_law {h : Heap} {fa : Addr} {p_law_right p_law : Addr × Addr} (X : K.In h) (G : h.Ns mainGlobals mg) (hmg : mg "law" = some (.ref fa)) (t_law_right : IsTab K mg h "_law_right" s_law_right p_law_right) (t_law : IsTab K mg h "law" s_law p_law) (ne : [p_law_right.2, p_law.2].Nodup) (T0 : Txt0 P K mg) :
    LawT P w K mg 8 63 "script" fa h := by
  letI tbi : Tb := ⟨[(p_law_right.2, ("_law_right" : Str) ++ ".<locals>." ++ "<lambda>"), (p_law.2, ("law" : Str) ++ ".<locals>." ++ "<lambda>")]⟩
  obtain ⟨f0, fd0, e0, F0⟩ := t_law_right.fn
  obtain ⟨f1, fd1, e1, F1⟩ := t_law.fn
  have TX : ∀ base : Heap, (∀ p ∈ [p_law_right, p_law], LamX.TabB base mg p.1 p.2) → Txt P K mg base := fun base B => { toTxt0 := T0, t_law_right := ⟨f0, fd0, _, _, e0, F0, B p_law_right (List.mem_cons_self), (List.mem_cons_self), tb_uniq ne (List.mem_cons_self)⟩, t_law := ⟨f1, fd1, _, _, e1, F1, B p_law (List.mem_cons_of_mem _ (List.mem_cons_self)), (List.mem_cons_of_mem _ (List.mem_cons_self)), tb_uniq ne (List.mem_cons_of_mem _ (List.mem_cons_self))⟩ }
  obtain ⟨fd, hb, hF⟩ := endT (sp := sp_law K) hmg ⟨f1, e1, fd1, F1.out⟩ (fun _ _ _ _ _ _ _ => rfl) (fun base B => df_law (TX base B))
  exact ⟨fd, [p_law_right, p_law], sp_law K, (List.forall_mem_cons.mpr ⟨⟨t_law_right.tb, t_law_right.nl, t_law_right.hd⟩, (List.forall_mem_cons.mpr ⟨⟨t_law.tb, t_law.nl, t_law.hd⟩, (List.forall_mem_nil _)⟩)⟩), hb, fun H a ns hl ht hS => ⟨a, ns, rfl, hS, hl, (List.forall_mem_cons.mpr ⟨LamX.TabS.nil (ht p_law_right (List.mem_cons_self)), (List.forall_mem_cons.mpr ⟨LamX.TabS.nil (ht p_law (List.mem_cons_of_mem _ (List.mem_cons_self))), (List.forall_mem_nil _)⟩)⟩), fun _ => rfl⟩, fun base k g B => hF base B⟩
end Law
open PySem PySem.W PySem.Calls PyProof.Rows in
set_option maxRecDepth 100000 in
set_option maxHeartbeats 0 in
theorem PySem.Challenge.cw_headerfold_k10_payloads_read_holds : PySem.Challenge.rw_headerfold_k10_payloads_read.Holds := by
  w_on; o_law
  refine HandSHeadRun.head_any (r := OpenLaw.row PySem.Challenge.rw_headerfold_k10_payloads_read) (q := Law.qv) (H := Law.hk) (ob := Law.ob) (M := 40000) (loose := Law.nms) (d := HandSHeadRun.topDef (OpenLaw.row PySem.Challenge.rw_headerfold_k10_payloads_read).prog 32) (kwd := []) Law.ob_eq
    (by kernel_rfl) (fun s => by kernel_rfl) Law.run (by kernel_rfl) (by kernel_rfl) (by kernel_rfl) (by rfl) (by first | assumption | decide +kernel) (by decide +kernel) ⟨rfl, rfl, rfl, rfl, rfl, by decide +kernel⟩ ?hw ?hc
  case hw => w_witness2
  case hc =>
    refine Hf.walkH (l := PySem.Challenge.rw_headerfold_k10_payloads_read) (n := 63) (k := 8) (x := "script") rfl (by decide) (by kernel_rfl) ⟨⟨rfl, by decide, by decide⟩, rfl⟩ ?F
    intro w mg fa h Y G hmg0
    obtain ⟨K, KX, c⟩ := Y
    have hmg : mg ("law" : PySem.Str) = some (.ref fa) := by
      have e : (HandSHeadRun.topDef (OpenLaw.row PySem.Challenge.rw_headerfold_k10_payloads_read).prog 32).name = ("law" : PySem.Str) := by kernel_rfl
      rw [← e]
      exact hmg0
    refine ⟨K, KX, ?_⟩
    have T0 : Law.Txt0 (PySem.Challenge.rw_headerfold_k10_payloads_read).prog K mg := {
      d_law_begin := Hf.fd_fun KX G (c.fc 0) (c.fd 0 (d := Law.D_law_begin)) (c.pl 0 (d := Law.D_law_begin)),
      d_law_mixed := Hf.fd_fun KX G (c.fc 1) (c.fd 1 (d := Law.D_law_mixed)) (c.pl 1 (d := Law.D_law_mixed)),
      d_law_next := Hf.fd_fun KX G (c.fc 2) (c.fd 2 (d := Law.D_law_next)) (c.pl 2 (d := Law.D_law_next)),
      d_is_integer := Hf.fd_fun KX G (c.fc 3) (c.fd 3 (d := Law.D_is_integer)) (c.pl 3 (d := Law.D_is_integer)),
      d_check_coding := Hf.fd_fun KX G (c.fc 4) (c.fd 4 (d := Law.D_check_coding)) (c.pl 4 (d := Law.D_check_coding)),
      d_check_octets := Hf.fd_fun KX G (c.fc 5) (c.fd 5 (d := Law.D_check_octets)) (c.pl 5 (d := Law.D_check_octets)),
      d_form_of := Hf.fd_fun KX G (c.fc 6) (c.fd 6 (d := Law.D_form_of)) (c.pl 6 (d := Law.D_form_of)),
      d_bits_written := Hf.fd_fun KX G (c.fc 7) (c.fd 7 (d := Law.D_bits_written)) (c.pl 7 (d := Law.D_bits_written)),
      d_payload_of := Hf.fd_fun KX G (c.fc 8) (c.fd 8 (d := Law.D_payload_of)) (c.pl 8 (d := Law.D_payload_of)),
      d_forms_read := Hf.fd_fun KX G (c.fc 9) (c.fd 9 (d := Law.D_forms_read)) (c.pl 9 (d := Law.D_forms_read)),
      d_bits_read := Hf.fd_fun KX G (c.fc 10) (c.fd 10 (d := Law.D_bits_read)) (c.pl 10 (d := Law.D_bits_read)),
      d_octets_of := Hf.fd_fun KX G (c.fc 11) (c.fd 11 (d := Law.D_octets_of)) (c.pl 11 (d := Law.D_octets_of)),
      d_law_letters := Hf.fd_fun KX G (c.fc 12) (c.fd 12 (d := Law.D_law_letters)) (c.pl 12 (d := Law.D_law_letters)),
      d_law_bits := Hf.fd_fun KX G (c.fc 13) (c.fd 13 (d := Law.D_law_bits)) (c.pl 13 (d := Law.D_law_bits)),
      d_law_forms := Hf.fd_fun KX G (c.fc 14) (c.fd 14 (d := Law.D_law_forms)) (c.pl 14 (d := Law.D_law_forms)),
      d_law_octets := Hf.fd_fun KX G (c.fc 15) (c.fd 15 (d := Law.D_law_octets)) (c.pl 15 (d := Law.D_law_octets)),
      d_law_told := Hf.fd_fun KX G (c.fc 16) (c.fd 16 (d := Law.D_law_told)) (c.pl 16 (d := Law.D_law_told)),
      d_law_bent := Hf.fd_fun KX G (c.fc 17) (c.fd 17 (d := Law.D_law_bent)) (c.pl 17 (d := Law.D_law_bent)),
      x_BadCoding := Hf.fc_x Hf.xb_VE KX G (c.fc 39) rfl (c.fd 20 (d := Law.X_BadCoding)) rfl rfl rfl rfl rfl rfl (by first | rfl | kernel_rfl) ⟨by decide, by decide, by decide, by decide, by decide⟩ (by decide) (fun _ => rfl) (fun _ _ _ _ _ _ _ _ _ => rfl) (fun _ _ _ _ _ _ _ _ _ => rfl),
      x_BadOctet := Hf.fc_x Hf.xb_VE KX G (c.fc 40) rfl (c.fd 21 (d := Law.X_BadOctet)) rfl rfl rfl rfl rfl rfl (by first | rfl | kernel_rfl) ⟨by decide, by decide, by decide, by decide, by decide⟩ (by decide) (fun _ => rfl) (fun _ _ _ _ _ _ _ _ _ => rfl) (fun _ _ _ _ _ _ _ _ _ => rfl),
      x_BadPayload := Hf.fc_x Hf.xb_VE KX G (c.fc 41) rfl (c.fd 22 (d := Law.X_BadPayload)) rfl rfl rfl rfl rfl rfl (by first | rfl | kernel_rfl) ⟨by decide, by decide, by decide, by decide, by decide⟩ (by decide) (fun _ => rfl) (fun _ _ _ _ _ _ _ _ _ => rfl) (fun _ _ _ _ _ _ _ _ _ => rfl),
      n_BadCoding := Hf.fc_nm KX G (c.fc 37),
      n_BadPayload := Hf.fc_nm KX G (c.fc 38),
      e_BadCoding := fun cls C1 C2 x h1 h2 => Hf.fc_exmG (c.fc 42) cls [.ref C1, .ref C2] x (.cons h1 (.cons h2 .nil)),
      e_BadPayload := fun cls C1 C2 x h1 h2 => Hf.fc_exmG (c.fc 43) cls [.ref C1, .ref C2] x (.cons h1 (.cons h2 .nil)),
      i_BadCoding_BadCoding := Hf.fc_kit (c.fc 44),
      i_BadPayload_BadCoding := Hf.fc_kit (c.fc 45),
      b_bool := Hf.fc_free KX G (c.fc 20),
      b_enumerate := Hf.fc_free KX G (c.fc 21),
      b_int := Hf.fc_free KX G (c.fc 22),
      b_isinstance := Hf.fc_free KX G (c.fc 23),
      b_len := Hf.fc_free KX G (c.fc 24),
      b_list := Hf.fc_free KX G (c.fc 25),
      b_ord := Hf.fc_free KX G (c.fc 26),
      b_range := Hf.fc_free KX G (c.fc 27),
      b_repr := Hf.fc_free KX G (c.fc 28),
      b_str := Hf.fc_free KX G (c.fc 29),
      b_sum := Hf.fc_free KX G (c.fc 30),
      b_tuple := Hf.fc_free KX G (c.fc 31),
      c_MARKS := Hf.fc_con KX G (c.fc 32),
      c_CODINGS := Hf.fc_tup KX G (c.fc 33),
      c_ALPHABET := Hf.fc_con KX G (c.fc 34),
      c_LITERALS := Hf.fc_con KX G (c.fc 35),
      c_DIGITS := Hf.fc_con KX G (c.fc 36) }
    exact Law.fin_law (p_law_right := He.cT K ("_law_right", none)) (p_law := He.cT K ("law", none)) KX G hmg (Hf.fd_tab KX G c (by simp [Law.tf]) (c.fc 18) (c.fd 18 (d := Law.D_law_right)) (c.pl 18 (d := Law.D_law_right))) (Hf.fd_tab KX G c (by simp [Law.tf]) (c.fc 19) (c.fd 19 (d := Law.D_law)) (c.pl 19 (d := Law.D_law))) c.nd T0
