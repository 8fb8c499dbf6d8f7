import PyProof.Rows.All
import Wide.All
import OpenK.AllK
import Wide.FinOn
import HandS.ForMost
import HandS.Flow
import HandS.IsInst
import HandS.TupAny
import HandS.TupMul
import HandS.Steps
import HandS.Conv
import HandS.Codes
import HandS.StrMore
import HandS.Style
import PySem.Challenge.RW_headerfold_k34_days_and_their_numbers
set_option Elab.async false
set_option linter.all false
set_option maxRecDepth 100000
set_option maxHeartbeats 4000000
namespace Hf
open PySem L2 PySem.Spec PyProof.Rows

/-! ### calls where nothing is being shown (repr's own guard list is known) -/
structure RG (k : Nat) (A : Around) : Prop where
  rm : Room k A
  gd : A.guards = some []
theorem RG.mono {j k : Nat} {A : Around} (r : RG k A) (h : j ≤ k) : RG j A := ⟨r.rm.mono h, r.gd⟩
theorem RG.deeper {k : Nat} {A : Around} (r : RG (k + 1) A) (env : Env) : RG k (A.deeper env) := ⟨r.rm.deeper env, r.gd⟩
structure FnG (P : Program) (w : World) (K : PySem.W.Frag) (mg : Str → Option Value) (base : Heap) (CX : CXT) (k : Nat) (f : Addr) (fd : FuncData) (ps : List Str) (sp : Sp) : Prop where
  many : ∀ xs H Q E, sp xs H Q E → xs.length = ps.length
  go : ∀ (A : Around) (outer : List Env) (s : Shared) (H : Hp) (args : Args) (us : List Value) (xs : List V) (Q : VK) (E : XK), RG k A → Env0 P w K mg base A outer s H → BindsTo s fd args (ps.zip us) →
    Vals xs us → sp xs H Q E → codeAny (model P w) A (.call (.ref f) args) (CR CX outer P w H s Q E) s
section
variable {P : Program} {w : World} {K : PySem.W.Frag} {mg : Str → Option Value} {base : Heap}
theorem FnG.mono {CX : CXT} {j k : Nat} {f : Addr} {fd : FuncData} {ps : List Str} {sp : Sp} (F : FnG P w K mg base CX j f fd ps sp) (h : j ≤ k) : FnG P w K mg base CX k f fd ps sp :=
  ⟨F.many, fun A outer s H args us xs Q E r => F.go A outer s H args us xs Q E (r.mono h)⟩
theorem FnG.imp {CX : CXT} {k : Nat} {f : Addr} {fd : FuncData} {ps : List Str} {sp sp' : Sp} (F : FnG P w K mg base CX k f fd ps sp) (h : ∀ xs H Q E, sp' xs H Q E → sp xs H Q E) : FnG P w K mg base CX k f fd ps sp' :=
  ⟨fun xs H Q E q => F.many xs H Q E (h _ _ _ _ q), fun A outer s H args us xs Q E r e0 b v q => F.go A outer s H args us xs Q E r e0 b v (h _ _ _ _ q)⟩
/-- a def of the text, by its body -/
theorem fnG_of {CX : CXT} {k : Nat} {f : Addr} {name qual : Str} {pa : Arguments} {bd : List Stmt} {sc : Scope} {dV kV doc pm cdv ct oc : Value} {an od : Option Addr} {osl : Array (Option Value)} {N ps : List Str} {sp : Sp}
    (lk : K.lookup f = some ⟨oc, od, .func (PySem.W.fnOf name qual pa bd sc dV kV doc pm an cdv ct), osl⟩) (hcd : PySem.W.codeIn K cdv qual = true) (S : FnScope N ps sc) (many : ∀ xs H Q E, sp xs H Q E → xs.length = ps.length)
    (hb : ∀ (A : Around) (outer : List Env) (s : Shared) (H : Hp) (xs : List V) (Q : VK) (E : XK), RG k (A.deeper (envOfC qual sc s.heap.objs.size f cdv)) → sp xs H Q E →
      ∃ t, PSs (cxOf CX P w K mg base N qual sc f cdv A outer s H E) bd t ∧ t { nx := fun _ H' => Q .non H', rt := Q } (start N xs) H) :
    FnG P w K mg base CX (k + 1) f (PySem.W.fnOf name qual pa bd sc dV kV doc pm an cdv ct) ps sp := by
  refine ⟨many, ?_⟩
  intro A outer s H args us xs Q E r e0 bt rv q
  have n1 := many _ _ _ _ q
  have kin : K.In s.heap := e0.mod.kin.keeps (fun b o z => (e0.bs b o z).1)
  have lim : s.heap.NoLimit := e0.mod.nolimit.keeps (fun b o z => (e0.bs b o z).1)
  have kinds : ∀ y ∈ ps.zip us, sc.names.lookup y.1 = some .local ∨ (sc.names.lookup y.1 = some .cell ∧ ((cellsFrom (s.heap.objs.size + 1) sc.names []).lookup y.1).isSome = true) := by
    rintro ⟨n, v⟩ hy
    rcases S.par n (List.of_mem_zip hy).1 with z | z
    · left; exact z
    · right; exact ⟨z, PySem.W.cellsFrom_some _ _ _ (.inl z)⟩
  refine codeAny_call_function r.rm.depth (kin _ _ lk) rfl S.co S.gen rfl (PySem.W.codeRec_of kin hcd) (bt _ _ _ _ ?_)
  refine wpAny_newFunctionEnv_cells S.kind kinds ?_
  intro env he s1 x
  subst he
  refine ⟨lim.keeps x.toInCall.keep, codeAny_func ?_⟩
  obtain ⟨t, ht, hq⟩ := hb A outer s H xs Q E (r.deeper _) q
  have I := inv_start (CX := CX) (E := E) (qual := qual) (f := f) (cd := cdv) S r.rm.hd e0 n1 rv x
  refine wpAny_mono (ht.run [] s1 (start N xs) H _ I hq) ?_ (fun e s' z => z)
  intro fl s' z
  match fl, z with
  | .ret u, ⟨v, σ', H', J, rv', q'⟩ => exact ⟨v, H', J.os, J.bare, J.base, J.hok, rv', q'⟩
  | .next, ⟨σ', H', J, q'⟩ => exact ⟨V.non, H', J.os, J.bare, J.base, J.hok, rfl, q'⟩
  | .brk, ⟨_, _, _, q'⟩ => exact q'.elim
  | .cont, ⟨_, _, _, q'⟩ => exact q'.elim
/-- .. that lets no exception out -/
theorem okG {x qual : Str} {st : Stmt} {f : Addr} {fd : FuncData} {N ps : List Str} {k : Nat} {sp : Sp} (F : Fun K x qual st f fd) (S : FnScope N ps (defScope st)) (many : ∀ xs H Q E, sp xs H Q E → xs.length = ps.length)
    (hb : ∀ (cdv : Value) (A : Around) (outer : List Env) (s : Shared) (H : Hp) (xs : List V) (Q : VK) (E : XK), RG k (A.deeper (envOfC qual (defScope st) s.heap.objs.size f cdv)) → sp xs H Q E →
      ∃ t, PSs (cxOf CX0 P w K mg base N qual (defScope st) f cdv A outer s H E).nox (defBody st) t ∧ t { nx := fun _ H' => Q .non H', rt := Q } (start N xs) H) : FnG P w K mg base CX0 (k + 1) f fd ps sp := by
  obtain ⟨oc, od, kV, doc, pm, an, cdv, ct, osl, rfl, lk, hcd⟩ := F.ex
  refine fnG_of lk hcd S many ?_
  intro A outer s H xs Q E r q
  obtain ⟨t, h, z⟩ := hb cdv A outer s H xs Q E r q
  exact ⟨t, h.nox, z⟩
end

/-! ### calls by name -/
/-- how n positional values and the keywords ks come to the parameters -/
def Bnd (st : Stmt) (x qual : Str) (ps : List Str) (n : Nat) (ks : List Str) (g : {α : Type} → List α → List α → List α) : Prop :=
  ∀ (kV doc pm : Value) (an : Option Addr) (cdv ct : Value) (us ws : List Value), us.length = n → ws.length = ks.length →
    bindArgs (PySem.W.fnOf x qual (defArgs st) (defBody st) (defScope st) .none kV doc pm an cdv ct) ⟨us, ks.zip ws⟩ = pure (ps.zip (g us ws)) ∧ (g us ws).length = ps.length
/-- g is a shuffle: it hands on what stands in pairs -/
def Shuf (n m : Nat) (g : {α : Type} → List α → List α → List α) : Prop :=
  ∀ (xs : List V) (us : List Value) (zs : List V) (ws : List Value), Vals xs us → Vals zs ws → us.length = n → ws.length = m → Vals (g xs zs) (g us ws)
def tCallG (n m : Nat) (sp : Sp) (g : List V → List V → List V) (t tk : TA) : TE := fun σ H Q => t σ H fun xs H1 => tk σ H1 fun zs H2 => xs.length = n ∧ zs.length = m ∧ sp (g xs zs) H2 Q E0
/-- a def of the module under its name, with its promise -/
structure Df (P : Program) (w : World) (K : PySem.W.Frag) (mg : Str → Option Value) (base : Heap) (k : Nat) (x : Str) (st : Stmt) (ps : List Str) (sp : Sp) : Prop where
  ex : ∃ (f : Addr) (fd : FuncData), mg x = some (.ref f) ∧ Fun K x x st f fd ∧ FnG P w K mg base CX0 k f fd ps sp
section
variable {X : Cx} {k j n m : Nat} {ps ks : List Str} {sp : Sp} {x : Str} {st : Stmt} {p pos : Pos} {e : Expr} {es : List Expr} {kws : List Keyword} {t tk : TA} {g : {α : Type} → List α → List α → List α}
theorem goG {qual : Str} {pins : List (Addr × Obj)} {σ : L2.St} {H : Hp} {s : Shared} {Q : VK} {f : Addr} {fd : FuncData} {us ws : List Value} {xs zs : List V} (F : FnG X.prog X.w X.K X.mg X.base CX0 k f fd ps sp) (U : Fun X.K x qual st f fd)
    (hr : RG k X.A) (hb : Bnd st x qual ps n ks g) (hs : Shuf n ks.length g) (I : Inv X pins σ H s) (r : Vals xs us) (rz : Vals zs ws) (hn : xs.length = n) (hm : zs.length = ks.length) (q : sp (g xs zs) H Q E0) :
    wpAny (model X.prog X.w) X.A (call (.ref f) us (ks.zip ws)) (EP X pins σ Q) X.xe s := by
  obtain ⟨oc, od, kV, doc, pm, an, cdv, ct, osl, rfl, lk, hcd⟩ := U.ex
  have l1 : us.length = n := r.length ▸ hn
  have l2 : ws.length = ks.length := rz.length ▸ hm
  refine wpAny_call (codeAny_mono (F.go X.A X.stack s H ⟨us, ks.zip ws⟩ (g us ws) (g xs zs) Q E0 hr I.env0 (.of_eq (hb kV doc pm an cdv ct us ws l1 l2).1) (hs _ _ _ _ r rz l1 l2) q) ?_)
  intro res s' z
  match res, z with
  | .error e, z => exact z.elim
  | .ok (.ret u), z => exact I.after z
  | .ok .next, z => exact z.elim
  | .ok .brk, z => exact z.elim
  | .ok .cont, z => exact z.elim
theorem pe_callG (D : Df X.prog X.w X.K X.mg X.base k x st ps sp) (hr : RG j X.A) (hj : k ≤ j) (hb : Bnd st x x ps n ks g) (hs : Shuf n ks.length g) (ha : PA X (e :: es) t) (hkw : PK X kws tk) (hg : Gl X x := by rfl)
    (hall : (backToKw pos (keywordEach kws X.env)).all (·.1.isSome) = true := by rfl) (hks : (backToKw pos (keywordEach kws X.env)).filterMap (·.1) = ks := by rfl) (hdb : (x == ("__debug__" : Str)) = false := by decide)
    (he : starEach (e :: es) X.env = (false, eval e X.env) :: starEach es X.env := by rfl) (hpl : ((backTo pos (starEach (e :: es) X.env)).any (·.1) || (backToKw pos (keywordEach kws X.env)).any (·.1.isNone)) = false := by rfl) :
    PE X (.Call (.Name x p) (e :: es) kws pos) (tCallG n ks.length sp (fun a b => g a b) t tk) := by
  obtain ⟨f, fd, hm, U, F⟩ := D.ex
  refine ⟨?_⟩
  intro pins s σ H Q I h
  refine wpAny_Call_Name_kw (ld_glob I hg hm ?_ hdb)
  refine PySem.W.callWith_KW (h₀ := X.base) I.ok.mod.kin U.kp hall ?_ hpl he
  refine thn (ha.run pos pins s σ H _ I h) ?_
  rintro us s1 ⟨xs, H1, I1, r, q⟩
  refine thn (hkw.run pos pins s1 σ H1 _ I1 q) ?_
  rintro ws s2 ⟨zs, H2, I2, rz, q1, q2, q3⟩
  refine ⟨I2.kIn, ?_⟩
  rw [hks]
  exact goG F U (hr.mono hj) hb hs I2 r rz q1 q2 q3
theorem pe_callG0 (D : Df X.prog X.w X.K X.mg X.base k x st ps sp) (hr : RG j X.A) (hj : k ≤ j) (hb : Bnd st x x ps 0 ks g) (hs : Shuf 0 ks.length g) (hkw : PK X kws tk) (hg : Gl X x := by rfl)
    (hall : (backToKw pos (keywordEach kws X.env)).all (·.1.isSome) = true := by rfl) (hks : (backToKw pos (keywordEach kws X.env)).filterMap (·.1) = ks := by rfl) (hdb : (x == ("__debug__" : Str)) = false := by decide)
    (hpl : ((backTo pos (starEach [] X.env)).any (·.1) || (backToKw pos (keywordEach kws X.env)).any (·.1.isNone)) = false := by rfl) :
    PE X (.Call (.Name x p) [] kws pos) (tCallG 0 ks.length sp (fun a b => g a b) tNil tk) := by
  obtain ⟨f, fd, hm, U, F⟩ := D.ex
  refine ⟨?_⟩
  intro pins s σ H Q I h
  refine wpAny_Call_Name_kw (ld_glob I hg hm ?_ hdb)
  refine PySem.W.callWith_KW0 (h₀ := X.base) I.ok.mod.kin U.kp hall ?_ hpl
  refine thn (hkw.run pos pins s σ H _ I h) ?_
  rintro ws s2 ⟨zs, H2, I2, rz, q1, q2, q3⟩
  refine ⟨I2.kIn, ?_⟩
  rw [hks]
  exact goG F U (hr.mono hj) hb hs I2 .nil rz q1 q2 q3
end
/-! ### how many values -/
theorem vals_0 {xs : List V} {us : List Value} (r : Vals xs us) (h : us.length = 0) : xs = [] ∧ us = [] := by
  cases r with
  | nil => exact ⟨rfl, rfl⟩
  | cons _ _ => exact nomatch h
theorem vals_S {n : Nat} {xs : List V} {us : List Value} (r : Vals xs us) (h : us.length = n + 1) : ∃ x u xs' us', xs = x :: xs' ∧ us = u :: us' ∧ RelV x u ∧ Vals xs' us' ∧ us'.length = n := by
  cases r with
  | nil => exact nomatch h
  | cons a b => exact ⟨_, _, _, _, rfl, rfl, a, b, Nat.succ.inj h⟩
end Hf

set_option Elab.async false
set_option linter.all false
set_option maxRecDepth 100000
set_option maxHeartbeats 4000000
namespace Hf
open PySem L2 PySem.Spec PyProof.Rows

/-! ### the end of a law -/
theorem lawG {P : Program} {w : World} {K : PySem.W.Frag} {mg mb : Str → Option Value} {k : Nat} {fa a : Addr} {fd : FuncData} {x : Str} {sp : Sp} {s₁ : Shared} {vs : List Value} {ns : List Int}
    (kin : K.In s₁.heap) (gl : s₁.heap.Ns mainGlobals mg) (bl : s₁.heap.Ns builtinsNs mb) (bb : ∀ x : Str, x ≠ "__name__" → mb x = bootBuiltins x) (lim : s₁.heap.NoLimit) (gn : s₁.gens = #[])
    (oa : s₁.heap.get? a = some { cls := .type "list", data := .seq vs.toArray }) (it : IntsAre vs ns) (sz : ns.length ≤ sizeLine) (rm : RG k callerA)
    (F : ∀ base : Heap, K.In base → base.Ns mainGlobals mg → FnG P w K mg base CX0 k fa fd [x] sp) (bd : ∀ (s : Shared) (u : Value), BindsTo s fd ⟨[u], []⟩ [(x, u)])
    (top : ∀ H : Hp, Only H → SqL K H a (ns.map V.int) → sp [.ref a] H (fun v _ => v = .bl true) E0) :
    codeAny (model P w) callerA (.call (.ref fa) ⟨[.ref a], []⟩) (fun r s' => r = .ok (.ret (.bool true)) ∧ OldK s₁.heap s'.heap ∧ s'.os = s₁.os ∧ AllBare s'.gens) s₁ := by
  have rv : Vals (ns.map V.int) vs := vals_ints it
  have n1 : vs.length = ns.length := it.length
  -- one abstract heap, in which at most the script is told
  have one : ∀ H : Hp, Only H → SqL K H a (ns.map V.int) → HOk P w H s₁.heap → (∀ b, H b ≠ none → b = a) → (H a ≠ none → K.lookup a = none) →
      codeAny (model P w) callerA (.call (.ref fa) ⟨[.ref a], []⟩) (fun r s' => r = .ok (.ret (.bool true)) ∧ OldK s₁.heap s'.heap ∧ s'.os = s₁.os ∧ AllBare s'.gens) s₁ := by
    intro H only seq hok at_a k_a
    have dictFree : ∀ b o es ep, s₁.heap.get? b = some o → o.data = .dict es ep → H b = none := by
      intro b o es ep ho hd
      refine Classical.byContradiction (fun hn => ?_)
      have eb := at_a b hn
      subst eb
      rw [oa] at ho
      have ho' := Option.some.inj ho
      subst ho'
      exact nomatch hd
    have nsOf : ∀ b m, s₁.heap.Ns b m → (hidT s₁.heap H).Ns b m := by
      rintro b m ⟨o, es, ep, h1, h2, h3⟩
      exact ⟨o, es, ep, hidT_get h1 (dictFree b o es ep h1 h2), h2, h3⟩
    have kinB : K.In (hidT s₁.heap H) := by
      intro b o hb
      refine hidT_get (kin b o hb) (Classical.byContradiction (fun hn => ?_))
      have eb := at_a b hn
      subst eb
      rw [k_a hn] at hb
      exact nomatch hb
    have md : Mod K mg (hidT s₁.heap H) := by
      obtain ⟨mc, c1, c2⟩ := lim
      exact ⟨kinB, nsOf _ _ gl, ⟨mb, nsOf _ _ bl, bb⟩, ⟨mc, nsOf _ _ c1, c2⟩⟩
    have e0 : Env0 P w K mg (hidT s₁.heap H) callerA [] s₁ H := ⟨rfl, md, fun b o z => of_hidT z, Nat.le_of_eq (hidT_size _ _), trivial, fun b hb => (List.not_mem_nil hb).elim, hok, .of_eq gn⟩
    refine codeAny_mono ((F _ kinB (nsOf _ _ gl)).go callerA [] s₁ H ⟨[.ref a], []⟩ [.ref a] [.ref a] _ _ rm e0 (bd s₁ (.ref a)) (.cons rfl .nil) (top H only seq)) ?_
    intro r s' z
    match r, z with
    | .error e, z => exact z.elim
    | .ok .next, z => exact z.elim
    | .ok .brk, z => exact z.elim
    | .ok .cont, z => exact z.elim
    | .ok (.ret u), ⟨v, H', os, bare, un, hok', rr, ev⟩ =>
      have ev' : v = .bl true := ev
      subst ev'
      have eu : u = Value.bool true := rr
      subst eu
      refine ⟨rfl, OldK.of_keep (fun b o hb => ?_), os, bare⟩
      cases q : H b with
      | none => exact un.keep b o hb q (fun z => (List.not_mem_nil z).elim) (fun z => (List.not_mem_nil z).elim)
      | some u =>
        rcases only b with z | ⟨ob, xs, z⟩
        · rw [q] at z; exact nomatch z
        · obtain ⟨e1, _⟩ := hok b _ z
          obtain ⟨e2, _⟩ := hok' b _ (un.frzs b ob _ z)
          rw [hb] at e1
          have e1' := Option.some.inj e1
          subst e1'
          exact e2
  by_cases hk : K.lookup a = none
  · refine one (fun b => if b = a then some (.frz { cls := .type "list", data := .seq vs.toArray } (.lst (ns.map V.int))) else none) ?_ ?_ ?_ ?_ (fun _ => hk)
    · intro b
      by_cases hb : b = a
      · right; exact ⟨_, _, if_pos hb⟩
      · left; exact if_neg hb
    · left; right; exact ⟨_, if_pos rfl⟩
    · intro b u z
      by_cases hb : b = a
      · subst hb
        have z' := Option.some.inj ((if_pos rfl).symm.trans z)
        subst z'
        exact ⟨oa, by rw [List.length_map]; exact sz, vs, _, rv, oa⟩
      · exact nomatch ((if_neg hb).symm.trans z)
    · intro b z
      exact Classical.byContradiction fun hb => z (if_neg hb)
  · obtain ⟨o, ho⟩ := Option.ne_none_iff_exists'.mp hk
    have eo := kin a o ho
    rw [oa] at eo
    have eo' := Option.some.inj eo
    subst eo'
    refine one (fun _ => none) (fun _ => .inl rfl) (.inr ⟨_, vs.toArray, _, ho, rfl, rfl, rfl, by rw [List.size_toArray, n1]; exact sz, by simpa using rv⟩) (fun _ _ z => nomatch z) (fun _ z => (z rfl).elim) (fun z => (z rfl).elim)
theorem walkG {l : PySem.W.OpenLaw} {n k : Nat} {q : Program} {loose : List Str} {XP : (Str → Option Value) → Heap → Prop} {YP : World → Heap → Prop} {d : DefRec} {K : Params → PySem.W.Frag} {sp : World → Sp} {x : Str}
    (hn : l.most = some n) (hn2 : n ≤ sizeLine) (hdf : d.params.defaults = []) (rm : RG k callerA) (hY : ∀ (w : World) (h : Heap), YP w h → (K w.params).In h)
    (F : ∀ (w : World) (mg : Str → Option Value) (fa : Addr) (h : Heap), (K w.params).In h → h.Ns mainGlobals mg → mg d.name = some (.ref fa) →
      ∃ fd : FuncData, (∀ (s : Shared) (u : Value), BindsTo s fd ⟨[u], []⟩ [(x, u)]) ∧ ∀ base : Heap, (K w.params).In base → base.Ns mainGlobals mg → FnG l.prog w (K w.params) mg base CX0 k fa fd [x] (sp w))
    (top : ∀ (w : World) (H : Hp) (a : Addr) (ns : List Int), ns.length ≤ n → Only H → SqL (K w.params) H a (ns.map V.int) → sp w [.ref a] H (fun v _ => v = .bl true) E0) :
    PySem.W.WalkO q loose XP YP l.row.toRowW d [] (fun f vs => PySem.call f vs) := by
  refine Att.attach_call hn hdf ?_
  intro w s₀ s₁ mg mb fa o pm cd doc a vs ns G Y ho hd hcd hmg hobj hints hlen hg
  have kin := hY w _ Y
  obtain ⟨fd, hb, hF⟩ := F w mg fa _ kin G.T.g hmg
  exact lawG kin G.T.g G.T.b G.T.builtins G.T.nolimit hg hobj hints (Nat.le_trans hlen hn2) rm hF hb (fun H hO hS => top w H a ns hlen hO hS)


/-! ### repr of data -/
mutual
theorem dp_plain {K : PySem.W.Frag} {H : Hp} : ∀ (d : PyData) (v : V), Dp K H v d → d.hasDict = false
  | .none, _, _ => by simp only [PyData.hasDict]
  | .bool _, _, _ => by simp only [PyData.hasDict]
  | .int _, _, _ => by simp only [PyData.hasDict]
  | .str _, _, _ => by simp only [PyData.hasDict]
  | .list ds, _, .lst _ ha => by
    simp only [PyData.hasDict]
    exact dps_plain ds _ ha
  | .tuple ds, _, .tup _ ha => by
    simp only [PyData.hasDict]
    exact dps_plain ds _ ha
theorem dps_plain {K : PySem.W.Frag} {H : Hp} : ∀ (ds : List PyData) (vs : List V), DpAll K H vs ds → PyData.hasDictAll ds = false
  | [], _, _ => by simp only [PyData.hasDictAll]
  | d :: ds, _, .cons h1 h2 => by
    simp only [PyData.hasDictAll, dp_plain d _ h1, dps_plain ds _ h2, Bool.or_self]
end
def Shows (d : PyData) : Prop := d.showable = true ∧ d.depth ≤ 40 ∧ d.shown.length ≤ sizeLine
def rRepr (K : PySem.W.Frag) : List V → Hp → VK → Prop := fun vs H Q => ∃ v d, vs = [v] ∧ Dp K H v d ∧ Shows d ∧ Q (.str d.shown) H
theorem call_repr {X : Cx} {k : Nat} (hr : RG k X.A) : CallR X (.builtin "repr") (rRepr X.K) := by
  intro pins s σ H xs us Q I r h
  obtain ⟨v, d, rfl, hd, ⟨h1, h2, h3⟩, q⟩ := h
  cases r with
  | cons rv rn =>
    rename_i u us'
    cases rn
    obtain ⟨as, rd⟩ := Dp.reads I d v u hd rv
    have hu : X.A.units + 64 < cLine := hr.rm.units
    have nd := PyData.noDict_hsm (as := as) (dp_plain d v hd)
    cases rd with
    | none =>
      simp only [PyData.shown] at q
      exact P.repr_of_none ⟨.str _, H, I.tok _, ⟨_, rfl⟩, q⟩
    | bool b =>
      simp only [PyData.shown] at q
      exact P.repr_of_bool ⟨.str _, H, I.tok _, ⟨_, rfl⟩, q⟩
    | int i t =>
      simp only [PyData.shown] at q
      exact P.repr_of_int (by simpa [PyData.showable] using h1) ⟨.str _, H, I.tok _, ⟨_, rfl⟩, q⟩
    | str x t =>
      simp only [PyData.shown] at q h3
      exact P.repr_of_str ⟨.str _, H, I.tok _, ⟨_, rfl⟩, q⟩ h3
    | list a b c e =>
      exact repr_of_reads' (.list a b c e) h1 nd hr.gd (by omega) (fun _ _ z => z) (fun h' u' tk kp => ⟨.str _, H, I.kept kp, ⟨_, rfl⟩, q⟩) h3
    | tuple a b c e =>
      exact repr_of_reads' (.tuple a b c e) h1 nd hr.gd (by omega) (fun _ _ z => z) (fun h' u' tk kp => ⟨.str _, H, I.kept kp, ⟨_, rfl⟩, q⟩) h3
    | dict a b c e f => cases hd
end Hf

set_option Elab.async false
set_option linter.all false
set_option maxRecDepth 100000
set_option maxHeartbeats 4000000
namespace Hf
open PySem L2 PySem.Spec PyProof.Rows

/-! ### one rule for each operator, whatever the operands are -/
theorem OpR.or {X : Cx} {f : Value → Value → Sem Value} {r1 r2 : R2} (a : OpR X f r1) (b : OpR X f r2) : OpR X f (fun x y H Q => r1 x y H Q ∨ r2 x y H Q) :=
  fun pins s σ H x y v u Q I rx ry h => h.elim (a pins s σ H x y v u Q I rx ry) (b pins s σ H x y v u Q I rx ry)
def rAddI : R2 := rI0 fun i j => .int (i + j)
def rAddT : R2 := fun x y H Q => ∃ i j, x = .str i ∧ y = .str j ∧ i.length + j.length ≤ sizeLine ∧ Q (.str (i ++ j)) H
def rAddL (K : PySem.W.Frag) : R2 := fun x y H Q => ∃ l b xs zs, x = .ref l ∧ y = .ref b ∧ SqL K H l xs ∧ SqL K H b zs ∧ xs.length + zs.length ≤ sizeLine ∧ ∀ p, H p = none → Q (.ref p) (upd H p (.lst (xs ++ zs)))
theorem op_addL {X : Cx} : OpR X (binaryOp .Add) (rAddL X.K) := by
  intro pins s σ H x y v u Q I rx ry h
  obtain ⟨l, b, xs, zs, rfl, rfl, h1, h2, sz, q⟩ := h
  have e1 : v = Value.ref l := rx
  have e2 : u = Value.ref b := ry
  subst e1
  subst e2
  obtain ⟨i1, r1, ⟨o1, n1, g1, c1, d1, t1⟩, _⟩ := I.list h1
  obtain ⟨i2, r2, ⟨o2, n2, g2, c2, d2, t2⟩, _⟩ := I.list h2
  have l1 := r1.length
  have l2 := r2.length
  obtain ⟨k1, e1, dt1, sl1⟩ := o1
  obtain ⟨k2, e2, dt2, sl2⟩ := o2
  simp only at c1 d1 t1 c2 d2 t2
  subst c1 d1 t1 c2 d2 t2
  refine concat_meets ⟨_, g1, rfl⟩ ⟨_, g2, rfl⟩ noFill_list_add seq_list_add PySem.F.slot_list_add PySem.F.entry_list_add (PySem.F.args_list_add_2 _ _)
    (list_addW l b i1.toArray i2.toArray n1 n2 _ _ sl1 sl2 (by rw [List.size_toArray, List.size_toArray]; omega)) ⟨g1, g2, ?_⟩
  rw [show i1.toArray ++ i2.toArray = (i1 ++ i2).toArray by simp]
  exact ⟨.ref _, _, I.lnew (t' := s.toks) (r1.append r2) (by rw [List.length_append]; omega), rfl, q _ I.fresh⟩
def rAddA (K : PySem.W.Frag) : R2 := fun x y H Q => rAddI x y H Q ∨ (rAddT x y H Q ∨ (rAddL K x y H Q ∨ rCatA K x y H Q))
theorem op_addA {X : Cx} : OpR X (binaryOp .Add) (rAddA X.K) := op_add.or (op_add_str.or (op_addL.or op_catA))
def rSubA : R2 := rI0 fun i j => .int (i - j)
def rMulI : R2 := rI CMul fun i j => .int (i * j)
def rMulA (K : PySem.W.Frag) : R2 := fun x y H Q => rMulI x y H Q ∨ rRep x y H Q
theorem op_mulA {X : Cx} : OpR X (binaryOp .Mult) (rMulA X.K) := op_mul.or op_rep
def rDivA : R2 := rI CDiv fun i j => .int (i / j)
def rModA : R2 := rI (fun _ j => 0 < j) fun i j => .int (i % j)
def rPowA : R2 := rI CPow fun i j => .int (i ^ j.toNat)
theorem op_subA {X : Cx} : OpR X (binaryOp .Sub) rSubA := op_sub
theorem op_divA {X : Cx} : OpR X (binaryOp .FloorDiv) rDivA := op_fdiv
theorem op_modA {X : Cx} : OpR X (binaryOp .Mod) rModA := op_mod
theorem op_powA {X : Cx} : OpR X (binaryOp .Pow) rPowA := op_pow
def rEqA (K : PySem.W.Frag) : R2 := fun x y H Q => rEq x y H Q ∨ rEqD K x y H Q
def rNeA (K : PySem.W.Frag) : R2 := fun x y H Q => rNe x y H Q ∨ rNeD K x y H Q
theorem op_eqA {X : Cx} {k : Nat} (hr : RG k X.A) : OpR X (compareOp .Eq) (rEqA X.K) := op_eq.or (op_eqD hr.rm.units)
theorem op_neA {X : Cx} {k : Nat} (hr : RG k X.A) : OpR X (compareOp .NotEq) (rNeA X.K) := op_ne.or (op_neD hr.rm.units)
def rLtA : R2 := fun x y H Q => (∃ i j, x = .int i ∧ y = .int j ∧ Q (.bl (decide (i < j))) H) ∨ (∃ i j, x = .str i ∧ y = .str j ∧ Q (.bl (decide (i.cps.toList < j.cps.toList))) H)
def rLeA : R2 := fun x y H Q => (∃ i j, x = .int i ∧ y = .int j ∧ Q (.bl (decide (i ≤ j))) H) ∨ (∃ i j, x = .str i ∧ y = .str j ∧ Q (.bl (!decide (j.cps.toList < i.cps.toList))) H)
def rGtA : R2 := fun x y H Q => (∃ i j, x = .int i ∧ y = .int j ∧ Q (.bl (decide (j < i))) H) ∨ (∃ i j, x = .str i ∧ y = .str j ∧ Q (.bl (decide (j.cps.toList < i.cps.toList))) H)
def rGeA : R2 := fun x y H Q => (∃ i j, x = .int i ∧ y = .int j ∧ Q (.bl (decide (j ≤ i))) H) ∨ (∃ i j, x = .str i ∧ y = .str j ∧ Q (.bl (!decide (i.cps.toList < j.cps.toList))) H)
theorem op_ltA {X : Cx} : OpR X (compareOp .Lt) rLtA := OpR.or (r1 := rI0 fun i j => .bl (decide (i < j))) op_lt op_lt_str
theorem op_leA {X : Cx} : OpR X (compareOp .LtE) rLeA := OpR.or (r1 := rI0 fun i j => .bl (decide (i ≤ j))) op_le op_le_str
theorem op_gtA {X : Cx} : OpR X (compareOp .Gt) rGtA := OpR.or (r1 := rI0 fun i j => .bl (decide (j < i))) op_gt op_gt_str
theorem op_geA {X : Cx} : OpR X (compareOp .GtE) rGeA := OpR.or (r1 := rI0 fun i j => .bl (decide (j ≤ i))) op_ge op_ge_str
def rInA (K : PySem.W.Frag) : R2 := fun x y H Q => rIn K false x y H Q ∨ rInS x y H Q
def rNotInA (K : PySem.W.Frag) : R2 := fun x y H Q => rIn K true x y H Q ∨ rNotInS x y H Q
theorem op_inA {X : Cx} : OpR X (compareOp .In) (rInA X.K) := op_in_seq.or op_inS
theorem op_notInA {X : Cx} : OpR X (compareOp .NotIn) (rNotInA X.K) := op_notIn_seq.or op_notInS
def rIsA : R2 := rIsN
def rIsNotA : R2 := rNotN
theorem op_isA {X : Cx} : OpR X (compareOp .Is) rIsA := op_isN1
theorem op_isNotA {X : Cx} : OpR X (compareOp .IsNot) rIsNotA := op_notN1
def ipAddA : TIp := fun x y H Q => (∃ i j, x = .int i ∧ y = .int j ∧ Q (.int (i + j)) H) ∨ (∃ i j, x = .str i ∧ y = .str j ∧ i.length + j.length ≤ sizeLine ∧ Q (.str (i ++ j)) H)
theorem ip_addA {X : Cx} : PIp X .Add ipAddA := fun pins s σ H x y v u Q I rx ry h => h.elim (fun h => ip_add pins s σ H x y v u Q I rx ry h) (fun h => iop_add_str pins s σ H x y v u Q I rx ry h)
def ipSubA : TIp := ipI fun i j => i - j
theorem ip_subA {X : Cx} : PIp X .Sub ipSubA := ip_sub
def rLenA (K : PySem.W.Frag) : List V → Hp → VK → Prop := fun xs H Q => ∃ x n, xs = [x] ∧ LenV K x H n ∧ Q (.int n) H
theorem call_lenA {X : Cx} : CallR X (.builtin "len") (rLenA X.K) := call_len

/-! ### readings, one step at a time -/
section
variable {σ : L2.St} {H : Hp} {Q : VK} {K : PySem.W.Frag} {ta tb tc : TE} {v x y : V} {D : Ends} {t u : TS} {tt tu : TT} {i j : Int}
theorem g_var {n : Nat} (h : σ[n]? = some (some v)) (q : Q v H) : tVar n σ H Q := ⟨v, h, q⟩
theorem g_c (q : Q v H) : tC v σ H Q := q
theorem g_op {r : R2} (q : ta σ H fun x H1 => tb σ H1 fun y H2 => r x y H2 Q) : tOp r ta tb σ H Q := q
theorem g_chain {r r' : R2} (q : ta σ H fun x H1 => tb σ H1 fun y H2 => r x y H2 fun z H3 => ∃ k, z = .bl k ∧ if k = true then tc σ H3 fun w H4 => r' y w H4 Q else Q (.bl false) H3) : tChain r r' ta tb tc σ H Q := q
theorem g_test {Q : Bool → Hp → Prop} (q : ta σ H fun x H1 => ∃ k, x = .bl k ∧ Q k H1) : tTest ta σ H Q := q
theorem g_tB {Q : Bool → Hp → Prop} (q : ta σ H fun x H1 => ∃ k, x = .bl k ∧ Q k H1) : tB ta σ H Q := q
theorem g_bl {b : Bool} {P : Bool → Prop} (q : P b) : ∃ k, V.bl b = V.bl k ∧ P k := ⟨b, rfl, q⟩
theorem g_and {Q : Bool → Hp → Prop} (q : tt σ H fun c H1 => if c = true then tu σ H1 Q else Q false H1) : tAnd tt tu σ H Q := q
theorem g_or {Q : Bool → Hp → Prop} (q : tt σ H fun c H1 => if c = true then Q true H1 else tu σ H1 Q) : tOr tt tu σ H Q := q
theorem g_not {Q : Bool → Hp → Prop} (q : tt σ H fun c H1 => Q (!c) H1) : tNot tt σ H Q := q
theorem g_andV (q : ta σ H fun x H1 => ∃ c, x = .bl c ∧ if c = true then tb σ H1 Q else Q (.bl false) H1) : tAndV ta tb σ H Q := q
theorem g_orV (q : ta σ H fun x H1 => ∃ c, x = .bl c ∧ if c = true then Q (.bl true) H1 else tb σ H1 Q) : tOrV ta tb σ H Q := q
theorem g_notV (q : ta σ H fun x H1 => ∃ c, x = .bl c ∧ Q (.bl (!c)) H1) : tNotV ta σ H Q := q
theorem g_ifE (q : tt σ H fun c H1 => if c = true then ta σ H1 Q else tb σ H1 Q) : tIf tt ta tb σ H Q := q
theorem g_seq (q : t { nx := u D, rt := D.rt, bk := D.bk, ct := D.ct } σ H) : tSeq t u D σ H := q
theorem g_asg {n : Nat} (q : ta σ H fun x H1 => D.nx (σ.set n (some x)) H1) : tAsg ta (gName n) D σ H := q
theorem g_ret (q : ta σ H D.rt) : tRet ta D σ H := q
theorem g_ifS (q : tt σ H fun c H1 => if c = true then t D σ H1 else u D σ H1) : tIfS tt t u D σ H := q
theorem g_next (q : D.nx σ H) : tNext D σ H := q
theorem g_drop (q : ta σ H fun _ H1 => D.nx σ H1) : tDrop ta D σ H := q
theorem g_nil {Q : List V → Hp → Prop} (q : Q [] H) : tNil σ H Q := q
theorem g_cons {tr : TA} {Q : List V → Hp → Prop} (q : ta σ H fun x H1 => tr σ H1 fun xs H2 => Q (x :: xs) H2) : tCons ta tr σ H Q := q
theorem g_tup {t : TA} (q : t σ H fun xs H1 => xs.length ≤ sizeLine ∧ ∀ p, H1 p = none → Q (.ref p) (upd H1 p (.tup xs))) : tTup t σ H Q := q
theorem g_lst {t : TA} (q : t σ H fun xs H1 => xs.length ≤ sizeLine ∧ ∀ p, H1 p = none → Q (.ref p) (upd H1 p (.lst xs))) : tLst t σ H Q := q
theorem g_sz {xs : List V} {P : Prop} (h : xs.length ≤ 100000) (q : P) : xs.length ≤ sizeLine ∧ P := ⟨Nat.le_trans h (by decide), q⟩
theorem g_cb {r : List V → Hp → VK → Prop} {t : TA} (q : t σ H fun xs H1 => r xs H1 Q) : tCB r t σ H Q := q
theorem g_callG {n m : Nat} {sp : Sp} {g : List V → List V → List V} {t tk : TA} (q : t σ H fun xs H1 => tk σ H1 fun zs H2 => xs.length = n ∧ zs.length = m ∧ sp (g xs zs) H2 Q E0) : tCallG n m sp g t tk σ H Q := q
theorem g_args {n m : Nat} {xs zs : List V} {P : Prop} (h1 : xs.length = n) (h2 : zs.length = m) (q : P) : xs.length = n ∧ zs.length = m ∧ P := ⟨h1, h2, q⟩
theorem g_sp {sp : Sp} {xs : List V} (q : sp xs H Q E0) : sp xs H Q E0 := q
theorem g_addI (q : Q (.int (i + j)) H) : rAddA K (.int i) (.int j) H Q := .inl ⟨i, j, rfl, rfl, q⟩
theorem g_addT {a b : Str} (h : a.length + b.length ≤ sizeLine) (q : Q (.str (a ++ b)) H) : rAddA K (.str a) (.str b) H Q := .inr (.inl ⟨a, b, rfl, rfl, h, q⟩)
theorem g_addL {a b : Addr} {xs ys : List V} (h1 : SqL K H a xs) (h2 : SqL K H b ys) (h : xs.length + ys.length ≤ sizeLine) (q : ∀ p, H p = none → Q (.ref p) (upd H p (.lst (xs ++ ys)))) : rAddA K (.ref a) (.ref b) H Q := .inr (.inr (.inl ⟨a, b, xs, ys, rfl, rfl, h1, h2, h, q⟩))
theorem g_sub (q : Q (.int (i - j)) H) : rSubA (.int i) (.int j) H Q := ⟨i, j, rfl, rfl, q⟩
theorem g_mulI (c : CMul i j) (q : Q (.int (i * j)) H) : rMulA K (.int i) (.int j) H Q := .inl ⟨i, j, rfl, rfl, c, q⟩
theorem g_rep {a : Addr} {xs : List V} (h : H a = some (.lst xs)) (h1 : -(2 ^ 63) ≤ j) (h2 : j < 2 ^ 63) (h3 : xs.length * j.toNat ≤ sizeLine) (q : ∀ p, H p = none → Q (.ref p) (upd H p (.lst (List.replicate j.toNat xs).flatten))) : rMulA K (.ref a) (.int j) H Q := .inr ⟨a, j, xs, rfl, rfl, h, h1, h2, h3, q⟩
theorem flat1 {α : Type} (x : α) : ∀ n : Nat, (List.replicate n [x]).flatten = List.replicate n x
  | 0 => rfl
  | n + 1 => by rw [List.replicate_succ, List.flatten_cons, flat1 x n, List.replicate_succ]; rfl
theorem g_rep1 {a : Addr} (h : H a = some (.lst [x])) (h1 : -(2 ^ 63) ≤ j) (h2 : j < 2 ^ 63) (h3 : j.toNat ≤ 1000) (q : ∀ p, H p = none → Q (.ref p) (upd H p (.lst (List.replicate j.toNat x)))) : rMulA K (.ref a) (.int j) H Q :=
  g_rep h h1 h2 (by show 1 * j.toNat ≤ sizeLine; rw [Nat.one_mul]; exact Nat.le_trans h3 (by decide)) (by rw [flat1]; exact q)
theorem g_div (c : CDiv i j) (q : Q (.int (i / j)) H) : rDivA (.int i) (.int j) H Q := ⟨i, j, rfl, rfl, c, q⟩
theorem g_mod (c : 0 < j) (q : Q (.int (i % j)) H) : rModA (.int i) (.int j) H Q := ⟨i, j, rfl, rfl, c, q⟩
theorem g_pow (c : CPow i j) (q : Q (.int (i ^ j.toNat)) H) : rPowA (.int i) (.int j) H Q := ⟨i, j, rfl, rfl, c, q⟩
theorem v_int : decide (V.int i = V.int j) = decide (i = j) := by by_cases h : i = j <;> simp [h]
theorem v_bl {a b : Bool} : decide (V.bl a = V.bl b) = decide (a = b) := by by_cases h : a = b <;> simp [h]
theorem v_str {a b : Str} : decide (V.str a = V.str b) = decide (a = b) := by by_cases h : a = b <;> simp [h]
theorem g_eqI (q : Q (.bl (decide (i = j))) H) : rEqA K (.int i) (.int j) H Q := .inl ⟨rfl, by rw [v_int]; exact q⟩
theorem g_eqB {a b : Bool} (q : Q (.bl (decide (a = b))) H) : rEqA K (.bl a) (.bl b) H Q := .inl ⟨rfl, by rw [v_bl]; exact q⟩
theorem g_eqT {a b : Str} (q : Q (.bl (decide (a = b))) H) : rEqA K (.str a) (.str b) H Q := .inl ⟨rfl, by rw [v_str]; exact q⟩
theorem g_neI (q : Q (.bl (!decide (i = j))) H) : rNeA K (.int i) (.int j) H Q := .inl ⟨rfl, by rw [v_int]; exact q⟩
theorem g_neB {a b : Bool} (q : Q (.bl (!decide (a = b))) H) : rNeA K (.bl a) (.bl b) H Q := .inl ⟨rfl, by rw [v_bl]; exact q⟩
theorem g_neT {a b : Str} (q : Q (.bl (!decide (a = b))) H) : rNeA K (.str a) (.str b) H Q := .inl ⟨rfl, by rw [v_str]; exact q⟩
theorem g_eqD {d e : PyData} (h1 : Dp K H x d) (h2 : Dp K H y e) (s1 : SeqAt.shaped d = true) (s2 : SeqAt.shaped e = true) (q : Q (.bl (PyData.eqv d e)) H) : rEqA K x y H Q := .inr ⟨d, e, h1, h2, s1, s2, q⟩
theorem g_neD {d e : PyData} (h1 : Dp K H x d) (h2 : Dp K H y e) (s1 : SeqAt.shaped d = true) (s2 : SeqAt.shaped e = true) (q : Q (.bl (!PyData.eqv d e)) H) : rNeA K x y H Q := .inr ⟨d, e, h1, h2, s1, s2, q⟩
theorem g_ltI (q : Q (.bl (decide (i < j))) H) : rLtA (.int i) (.int j) H Q := .inl ⟨i, j, rfl, rfl, q⟩
theorem g_leI (q : Q (.bl (decide (i ≤ j))) H) : rLeA (.int i) (.int j) H Q := .inl ⟨i, j, rfl, rfl, q⟩
theorem g_gtI (q : Q (.bl (decide (j < i))) H) : rGtA (.int i) (.int j) H Q := .inl ⟨i, j, rfl, rfl, q⟩
theorem g_geI (q : Q (.bl (decide (j ≤ i))) H) : rGeA (.int i) (.int j) H Q := .inl ⟨i, j, rfl, rfl, q⟩
theorem g_inS {c : Nat} {z : Str} (q : Q (.bl (decide (c ∈ z.cps.toList))) H) : rInA K (.str ⟨#[c]⟩) (.str z) H Q := .inr ⟨c, z, rfl, rfl, q⟩
theorem g_niS {c : Nat} {z : Str} (q : Q (.bl (!decide (c ∈ z.cps.toList))) H) : rNotInA K (.str ⟨#[c]⟩) (.str z) H Q := .inr ⟨c, z, rfl, rfl, q⟩
theorem g_inT {a : Addr} {xs : List V} (h : SqT K H a xs) (h1 : flatV x = true) (h2 : xs.all flatV = true) (q : Q (.bl (inV x xs)) H) : rInA K x (.ref a) H Q := .inl ⟨a, xs, rfl, .inr h, h1, h2, q⟩
theorem g_inL {a : Addr} {xs : List V} (h : SqL K H a xs) (h1 : flatV x = true) (h2 : xs.all flatV = true) (q : Q (.bl (inV x xs)) H) : rInA K x (.ref a) H Q := .inl ⟨a, xs, rfl, .inl h, h1, h2, q⟩
theorem g_ixL {a : Addr} {xs : List V} (h : SqL K H a xs) (h1 : atI xs i = some v) (q : Q v H) : rIx K (.ref a) (.int i) H Q := .inl ⟨a, xs, i, v, rfl, rfl, h, h1, q⟩
theorem g_ixT {a : Addr} {xs : List V} (h : SqT K H a xs) (h1 : atI xs i = some v) (q : Q v H) : rIx K (.ref a) (.int i) H Q := .inr (.inl ⟨a, xs, i, v, rfl, rfl, h, h1, q⟩)
theorem g_ixS {z : Str} {c : Nat} (h : z.length ≤ sizeLine) (h1 : atI z.cps.toList i = some c) (q : Q (.str ⟨#[c]⟩) H) : rIx K (.str z) (.int i) H Q := .inr (.inr ⟨z, i, c, rfl, rfl, h, h1, q⟩)
theorem g_lenT {z : Str} (h : z.length ≤ sizeLine) (q : Q (.int z.length) H) : rLenA K [.str z] H Q := ⟨_, _, rfl, ⟨h, rfl⟩, q⟩
theorem g_lenL {a : Addr} {xs : List V} (h : SqL K H a xs) (q : Q (.int xs.length) H) : rLenA K [.ref a] H Q := ⟨_, _, rfl, .inl ⟨xs, h, rfl⟩, q⟩
theorem g_lenU {a : Addr} {xs : List V} (h : SqT K H a xs) (q : Q (.int xs.length) H) : rLenA K [.ref a] H Q := ⟨_, _, rfl, .inr ⟨xs, h, rfl⟩, q⟩
theorem g_isi {T tn : String} {b : Bool} (ty : TyX K H x (.type tn)) (h : kitB tn T = some b) (q : Q (.bl b) H) : rIsi K [x, .ty T] H Q := ⟨x, .ty T, _, _, b, rfl, .ty T, ty, kit_ty h, q⟩
theorem g_repr {d : PyData} (h : Dp K H v d) (h2 : Shows d) (q : Q (.str d.shown) H) : rRepr K [v] H Q := ⟨v, d, rfl, h, h2, q⟩
theorem g_ite {p A B : Prop} [Decidable p] (h1 : p → A) (h2 : ¬ p → B) : if decide p = true then A else B := by
  by_cases h : p
  · rw [if_pos (decide_eq_true h)]; exact h1 h
  · rw [if_neg (by rw [decide_eq_false h]; exact Bool.false_ne_true)]; exact h2 h
theorem g_iteN {p A B : Prop} [Decidable p] (h1 : p → B) (h2 : ¬ p → A) : if (!decide p) = true then A else B := by
  by_cases h : p
  · rw [if_neg (by rw [decide_eq_true h]; decide)]; exact h1 h
  · rw [if_pos (by rw [decide_eq_false h]; rfl)]; exact h2 h
theorem g_iteT {p A B : Prop} [Decidable p] (h : p) (q : A) : if decide p = true then A else B := by rw [if_pos (decide_eq_true h)]; exact q
theorem g_iteF {p A B : Prop} [Decidable p] (h : ¬ p) (q : B) : if decide p = true then A else B := by rw [if_neg (by rw [decide_eq_false h]; exact Bool.false_ne_true)]; exact q
theorem g_iteNT {p A B : Prop} [Decidable p] (h : ¬ p) (q : A) : if (!decide p) = true then A else B := by rw [if_pos (by rw [decide_eq_false h]; rfl)]; exact q
theorem g_iteNF {p A B : Prop} [Decidable p] (h : p) (q : B) : if (!decide p) = true then A else B := by rw [if_neg (by rw [decide_eq_true h]; decide)]; exact q
theorem g_iteNtt {A B : Prop} (q : B) : if (!true) = true then A else B := q
theorem g_iteNff {A B : Prop} (q : A) : if (!false) = true then A else B := q
theorem g_iteb {b : Bool} {A B : Prop} (h1 : b = true → A) (h2 : b = false → B) : if b = true then A else B := by
  cases b with
  | true => exact h1 rfl
  | false => exact h2 rfl
theorem g_iteNb {b : Bool} {A B : Prop} (h1 : b = false → A) (h2 : b = true → B) : if (!b) = true then A else B := by
  cases b with
  | true => exact h2 rfl
  | false => exact h1 rfl
end
end Hf
namespace Hf
open PySem L2 PySem.Spec PyProof.Rows
/-! ### heaps -/
section
variable {H H1 H2 : Hp} {a p : Addr} {o : HO} {K : PySem.W.Frag} {xs : List V}
theorem Same.at_ (e : Same H H1) (h : H a = some o) : H1 a = some o := e a o h
theorem Same.seqT (e : Same H H1) (h : SqT K H a xs) : SqT K H1 a xs := by
  rcases h with (h | ⟨o, h⟩) | h
  · exact .inl (.inl (e _ _ h))
  · exact .inl (.inr ⟨o, e _ _ h⟩)
  · exact .inr h
theorem Same.upd (hp : H p = none) (e : Same H H1) : Same H (upd H1 p o) := fun b u z => by
  rw [upd_ne (ne_of_none z hp)]
  exact e b u z
theorem seq_new (hp : H p = none) (h : SqL K H a xs) : SqL K (upd H p o) a xs := (Same.upd hp (Same.refl H)).seq h
theorem seqT_new (hp : H p = none) (h : SqT K H a xs) : SqT K (upd H p o) a xs := Same.seqT (Same.upd hp (Same.refl H)) h
theorem free_upd (h : upd H p o a = none) : H a = none := by
  by_cases e : a = p
  · subst e; rw [upd_same] at h; exact nomatch h
  · rw [upd_ne e] at h; exact h
mutual
theorem Same.dp (e : Same H H1) : ∀ (d : PyData) (v : V), Dp K H v d → Dp K H1 v d
  | .none, _, .non => .non
  | .bool _, _, .bl _ => .bl _
  | .int _, _, .int _ => .int _
  | .str _, _, .str _ => .str _
  | .list ds, _, .lst h1 h2 => .lst (e.seq h1) (Same.dps e ds _ h2)
  | .tuple ds, _, .tup h1 h2 => .tup (Same.seqT e h1) (Same.dps e ds _ h2)
theorem Same.dps (e : Same H H1) : ∀ (ds : List PyData) (vs : List V), DpAll K H vs ds → DpAll K H1 vs ds
  | [], _, .nil => .nil
  | d :: ds, _, .cons h1 h2 => .cons (Same.dp e d _ h1) (Same.dps e ds _ h2)
end
end
section
variable {H H1 : Hp} {Q : VK} {v w : V}
/-- the end of a def that leaves all as it was -/
theorem fin {P : Hp → Prop} (k : ∀ H', Same H H' → Q v H') (e : w = v) (s : Same H H1) : Q w H1 := e ▸ k H1 s
theorem finI {i j : Int} (k : ∀ H', Same H H' → Q (.int i) H') (e : j = i) (s : Same H H1) : Q (.int j) H1 := e ▸ k H1 s
theorem finB {b c : Bool} (k : ∀ H', Same H H' → Q (.bl b) H') (e : c = b) (s : Same H H1) : Q (.bl c) H1 := e ▸ k H1 s
theorem finT {b c : Str} (k : ∀ H', Same H H' → Q (.str b) H') (e : c = b) (s : Same H H1) : Q (.str c) H1 := e ▸ k H1 s
end
/-! ### names of the module -/
theorem pe_globE {X : Cx} {x : Str} {v : V} {pos : Pos} (h : ∃ u, X.mg x = some u ∧ RelV v u) (hg : Gl X x := by rfl) (hd : (x == ("__debug__" : Str)) = false := by decide) : PE X (.Name x pos) (tC v) := by
  obtain ⟨u, h1, h2⟩ := h
  exact pe_glob hg h1 h2 hd
/-! ### isinstance against built-in types -/
theorem k_int_int : kitB "int" "int" = some true := by decide +kernel
theorem k_int_bool : kitB "int" "bool" = some false := by decide +kernel
theorem k_bool_bool : kitB "bool" "bool" = some true := by decide +kernel
theorem k_bool_int : kitB "bool" "int" = some true := by decide +kernel
theorem k_str_str : kitB "str" "str" = some true := by decide +kernel
theorem k_str_int : kitB "str" "int" = some false := by decide +kernel
theorem k_int_str : kitB "int" "str" = some false := by decide +kernel
section
variable {H : Hp} {K : PySem.W.Frag} {Q : VK} {i : Int} {b : Bool} {z : Str}
theorem g_isiII (q : Q (.bl true) H) : rIsi K [.int i, .ty "int"] H Q := g_isi (.base (.int _)) k_int_int q
theorem g_isiIB (q : Q (.bl false) H) : rIsi K [.int i, .ty "bool"] H Q := g_isi (.base (.int _)) k_int_bool q
theorem g_isiBB (q : Q (.bl true) H) : rIsi K [.bl b, .ty "bool"] H Q := g_isi (.base (.bl _)) k_bool_bool q
theorem g_isiBI (q : Q (.bl true) H) : rIsi K [.bl b, .ty "int"] H Q := g_isi (.base (.bl _)) k_bool_int q
theorem g_isiSS (q : Q (.bl true) H) : rIsi K [.str z, .ty "str"] H Q := g_isi (.base (.str _)) k_str_str q
theorem g_isiSI (q : Q (.bl false) H) : rIsi K [.str z, .ty "int"] H Q := g_isi (.base (.str _)) k_str_int q
theorem g_isiIS (q : Q (.bl false) H) : rIsi K [.int i, .ty "str"] H Q := g_isi (.base (.int _)) k_int_str q
end
end Hf

set_option Elab.async false
set_option linter.all false
set_option maxRecDepth 100000
set_option maxHeartbeats 4000000
namespace Hf
open PySem L2 PySem.Spec PyProof.Rows
/-! ### loops -/
section
variable {σ : L2.St} {H : Hp} {Q : VK} {K : PySem.W.Frag} {D : Ends} {c : TT} {tb : TS} {wi : TI} {g : TG} {te : TE} {ta : TA} {v : V}
theorem g_name {n : Nat} {Q : L2.St → Hp → Prop} (q : Q (σ.set n (some v)) H) : gName n v σ H Q := q
theorem g_while (W : Nat → L2.St → Hp → Prop) (m : Nat) (h0 : W m σ H)
    (hs : ∀ m σ H, W m σ H → c σ H fun b H1 => if b = true then ∃ N : L2.St → Hp → Prop, (∀ σ' H', N σ' H' → ∃ m', m' < m ∧ W m' σ' H') ∧ tb { D with nx := N, ct := N, bk := D.nx } σ H1 else D.nx σ H1) : tWhile c tb D σ H :=
  ⟨W, ⟨m, h0⟩, hs⟩
theorem g_turn {W : Nat → L2.St → Hp → Prop} {m : Nat} (q : tb { D with nx := fun σ' H' => ∃ m', m' < m ∧ W m' σ' H', ct := fun σ' H' => ∃ m', m' < m ∧ W m' σ' H', bk := D.nx } σ H) :
    ∃ N : L2.St → Hp → Prop, (∀ σ' H', N σ' H' → ∃ m', m' < m ∧ W m' σ' H') ∧ tb { D with nx := N, ct := N, bk := D.nx } σ H := ⟨_, fun _ _ n => n, q⟩
theorem g_for1 (q : ta σ H fun vs H1 => ∃ j : Int, vs = [.int j] ∧ -(2 ^ 62) ≤ j ∧ j < 2 ^ 62 ∧ ∃ W : Nat → Nat → L2.St → Hp → Prop, (∃ m, W 0 m σ H1) ∧ ∀ i m σ H, W i m σ H →
  ((Itr 0 j.toNat).stop i H ∧ D.nx σ H) ∨ ((Itr 0 j.toNat).go i H ∧ ∃ N : L2.St → Hp → Prop, (∀ σ' H', N σ' H' → ∃ m', m' < m ∧ W (i + 1) m' σ' H') ∧ ∀ x H', (Itr 0 j.toNat).yld i H x H' → g x σ H' fun σ2 H2 => tb { D with nx := N, ct := N, bk := D.nx } σ2 H2)) : tFor (iRng1 ta) g tb D σ H := q
theorem g_for2 (q : ta σ H fun vs H1 => ∃ i j : Int, vs = [.int i, .int j] ∧ (-(2 ^ 62) ≤ i ∧ i < 2 ^ 62 ∧ -(2 ^ 62) ≤ j ∧ j < 2 ^ 62) ∧ ∃ W : Nat → Nat → L2.St → Hp → Prop, (∃ m, W 0 m σ H1) ∧ ∀ k m σ H, W k m σ H →
  ((Itr i (j - i).toNat).stop k H ∧ D.nx σ H) ∨ ((Itr i (j - i).toNat).go k H ∧ ∃ N : L2.St → Hp → Prop, (∀ σ' H', N σ' H' → ∃ m', m' < m ∧ W (k + 1) m' σ' H') ∧ ∀ x H', (Itr i (j - i).toNat).yld k H x H' → g x σ H' fun σ2 H2 => tb { D with nx := N, ct := N, bk := D.nx } σ2 H2)) : tFor (iRng2 ta) g tb D σ H := q
end
/-! ### comprehensions whose element is a plain value -/
/-- te gives v, whatever was laid meanwhile -/
def Evs (te : TE) (σ : L2.St) (H : Hp) (v : V) : Prop := ∀ Q : VK, (∀ H', Same H H' → Q v H') → te σ H Q
section
variable {σ : L2.St} {H : Hp} {Q : VK} {K : PySem.W.Frag} {te : TE} {ta : TA} {vs : List Nat} {j : Nat}
theorem range_snoc {α : Type} (n : Nat) (f : Nat → α) : (List.range (n + 1)).map f = (List.range n).map f ++ [f n] := by rw [List.range_succ, List.map_append]; rfl
theorem lc_map {lo : Int} {n : Nat} {Qd : Addr → Hp → Prop} (f : Nat → V) (hn : n ≤ 1000000) (hw : ∀ v, wipe ((wipe σ vs).set j (some v)) vs = wipe σ vs)
    (he : ∀ i : Nat, i < n → ∀ H', Same H H' → Evs te ((wipe σ vs).set j (some (.int (lo + i)))) H' (f i))
    (q : ∀ D H', H D = none → Same H H' → H' D = some (.lst ((List.range n).map f)) → Qd D H') :
    ∀ D, H D = none → ∃ W : Nat → Nat → Hp → Prop, (∃ m, W 0 m (upd H D (.lst []))) ∧ ∀ i m H, W i m H → ((Itr lo n).stop i H ∧ Qd D H) ∨ ((Itr lo n).go i H ∧ ∃ Nx : Hp → Prop, (∀ H', Nx H' → ∃ m', m' < m ∧ W (i + 1) m' H') ∧
      ∀ x H', (Itr lo n).yld i H x H' → gName j x (wipe σ vs) H' fun σ2 H2 => wipe σ2 vs = wipe σ vs ∧ tYes σ2 H2 fun b H3 => if b = true then te σ2 H3 fun y H4 => ∃ acc, H4 D = some (.lst acc) ∧ acc.length < sizeLine ∧ Nx (upd H4 D (.lst (acc ++ [y]))) else Nx H3) := by
  intro D hD
  refine lc_range (lo := lo) (n := n) (fun i H' => Same H H' ∧ H' D = some (.lst ((List.range i).map f))) ⟨Same.upd hD (Same.refl H), upd_same⟩ ?_ (fun H' p => q D H' hD p.1 p.2)
  rintro i H' hi ⟨s, hd⟩
  refine ⟨hw _, ?_⟩
  dsimp only [tYes]
  rw [if_pos rfl]
  refine he i hi H' s _ (fun H2 s2 => ⟨_, s2 D _ hd, ?_, Same.upd hD (Same.trans s s2), ?_⟩)
  · rw [List.length_map, List.length_range]
    exact Nat.lt_of_le_of_lt (Nat.le_trans (Nat.le_of_lt hi) hn) (by decide)
  · rw [range_snoc]
    exact upd_same
theorem g_lc1 {g : TG} {tt : TT} (q : ta σ H fun ws H1 => ∃ j : Int, ws = [.int j] ∧ -(2 ^ 62) ≤ j ∧ j < 2 ^ 62 ∧ ∀ D, H1 D = none → ∃ W : Nat → Nat → Hp → Prop, (∃ m, W 0 m (upd H1 D (.lst []))) ∧ ∀ i m H, W i m H → ((Itr 0 j.toNat).stop i H ∧ Q (.ref D) H) ∨
      ((Itr 0 j.toNat).go i H ∧ ∃ Nx : Hp → Prop, (∀ H', Nx H' → ∃ m', m' < m ∧ W (i + 1) m' H') ∧ ∀ x H', (Itr 0 j.toNat).yld i H x H' → g x (wipe σ vs) H' fun σ2 H2 => wipe σ2 vs = wipe σ vs ∧ tt σ2 H2 fun b H3 =>
        if b = true then te σ2 H3 fun y H4 => ∃ acc, H4 D = some (.lst acc) ∧ acc.length < sizeLine ∧ Nx (upd H4 D (.lst (acc ++ [y]))) else Nx H3)) : tLc (iRng1 ta) g tt te vs σ H Q := q
theorem g_lc2 {g : TG} {tt : TT} (q : ta σ H fun ws H1 => ∃ i j : Int, ws = [.int i, .int j] ∧ (-(2 ^ 62) ≤ i ∧ i < 2 ^ 62 ∧ -(2 ^ 62) ≤ j ∧ j < 2 ^ 62) ∧ ∀ D, H1 D = none → ∃ W : Nat → Nat → Hp → Prop, (∃ m, W 0 m (upd H1 D (.lst []))) ∧ ∀ k m H, W k m H → ((Itr i (j - i).toNat).stop k H ∧ Q (.ref D) H) ∨
      ((Itr i (j - i).toNat).go k H ∧ ∃ Nx : Hp → Prop, (∀ H', Nx H' → ∃ m', m' < m ∧ W (k + 1) m' H') ∧ ∀ x H', (Itr i (j - i).toNat).yld k H x H' → g x (wipe σ vs) H' fun σ2 H2 => wipe σ2 vs = wipe σ vs ∧ tt σ2 H2 fun b H3 =>
        if b = true then te σ2 H3 fun y H4 => ∃ acc, H4 D = some (.lst acc) ∧ acc.length < sizeLine ∧ Nx (upd H4 D (.lst (acc ++ [y]))) else Nx H3)) : tLc (iRng2 ta) g tt te vs σ H Q := q
theorem g_sum {a : Addr} {xs : List V} (ns : List Int) (h : SqL K H a xs) (e : xs = ns.map V.int) (q : Q (.int ns.sum) H) : rSum K [.ref a] H Q := ⟨a, ns, rfl, e ▸ h, q⟩
theorem g_par {i j : Nat} {D : Ends} (q : ta σ H fun vs H1 => ∃ v w, vs = [v, w] ∧ D.nx ((σ.set i (some v)).set j (some w)) H1) : tPar i j ta D σ H := q
theorem g_par3 {i j l : Nat} {D : Ends} (q : ta σ H fun vs H1 => ∃ u v w, vs = [u, v, w] ∧ D.nx (((σ.set i (some u)).set j (some v)).set l (some w)) H1) : tPar3 i j l ta D σ H := q
theorem g_two {v w : V} {P : V → V → Prop} (q : P v w) : ∃ a b, [v, w] = [a, b] ∧ P a b := ⟨v, w, rfl, q⟩
theorem g_three {u v w : V} {P : V → V → V → Prop} (q : P u v w) : ∃ a b c, [u, v, w] = [a, b, c] ∧ P a b c := ⟨u, v, w, rfl, q⟩
end
/-! ### draws -/
def drawK (c : Addr) (a l u : Int) : List (Key × V) := [(.inr "cells", .ref c), (.inr "at", .int a), (.inr "left", .int l), (.inr "used", .int u)]
/-- the state of the draws at d, behind at most n draws -/
def DrawAt (K : PySem.W.Frag) (n : Nat) (H : Hp) (d : Addr) : Prop :=
  ∃ (c : Addr) (ns : List Int) (a l u : Int), H d = some (.dK (drawK c a l u)) ∧ SqL K H c (ns.map V.int) ∧ 0 < ns.length ∧ ns.length ≤ 64 ∧ 0 ≤ a ∧ a ≤ n ∧ 0 ≤ u ∧ u ≤ n
/-- all but d is as it was -/
def Keep (d : Addr) (H H' : Hp) : Prop := ∀ b o, b ≠ d → H b = some o → H' b = some o
theorem Keep.refl (d : Addr) (H : Hp) : Keep d H H := fun _ _ _ h => h
theorem Keep.of {d : Addr} {H H' : Hp} (s : Same H H') : Keep d H H' := fun b o _ h => s b o h
theorem Keep.trans {d : Addr} {H H1 H2 : Hp} (a : Keep d H H1) (b : Keep d H1 H2) : Keep d H H2 := fun c o n h => b c o n (a c o n h)
theorem Keep.same {d : Addr} {H H1 H2 : Hp} (a : Keep d H H1) (b : Same H1 H2) : Keep d H H2 := fun c o n h => b c o (a c o n h)
theorem Keep.set {d : Addr} {H H1 : Hp} {o : HO} (a : Keep d H H1) : Keep d H (upd H1 d o) := fun c u n h => by rw [upd_ne n]; exact a c u n h
theorem Keep.new {d p : Addr} {H H1 : Hp} {o : HO} (hp : H p = none) (a : Keep d H H1) : Keep d H (upd H1 p o) := fun c u n h => by rw [upd_ne (ne_of_none h hp)]; exact a c u n h
def notD : HO → Bool
  | .dK _ => false
  | .frz _ u => notD u
  | _ => true
section
variable {K : PySem.W.Frag} {n m : Nat} {H H1 : Hp} {d a p : Addr} {o : HO} {xs : List V}
theorem DrawAt.ne (D : DrawAt K n H d) (h : H a = some o) (no : notD o = true) : a ≠ d := fun e => by
  obtain ⟨c, ns, x, l, u, hd, _⟩ := D
  rw [e, hd] at h
  have h' := Option.some.inj h
  subst h'
  exact Bool.false_ne_true no
theorem Keep.at_ (k : Keep d H H1) (D : DrawAt K n H d) (h : H a = some o) (no : notD o = true := by rfl) : H1 a = some o := k a o (D.ne h no) h
theorem Keep.seq (k : Keep d H H1) (D : DrawAt K n H d) (h : SqL K H a xs) : SqL K H1 a xs := by
  rcases h with (h | ⟨o, h⟩) | h
  · exact .inl (.inl (k.at_ D h))
  · exact .inl (.inr ⟨o, k.at_ D h⟩)
  · exact .inr h
theorem Keep.seqT (k : Keep d H H1) (D : DrawAt K n H d) (h : SqT K H a xs) : SqT K H1 a xs := by
  rcases h with (h | ⟨o, h⟩) | h
  · exact .inl (.inl (k.at_ D h))
  · exact .inl (.inr ⟨o, k.at_ D h⟩)
  · exact .inr h
theorem Keep.free (k : Keep d H H1) (D : DrawAt K n H d) (h : H1 a = none) (D1 : DrawAt K m H1 d) : H a = none := by
  cases e : H a with
  | none => rfl
  | some o =>
    by_cases q : a = d
    · obtain ⟨c, ns, x, l, u, hd, _⟩ := D1
      rw [q, hd] at h
      exact nomatch h
    · rw [k a o q e] at h
      exact nomatch h
theorem DrawAt.same (s : Same H H1) (D : DrawAt K n H d) : DrawAt K n H1 d := by
  obtain ⟨c, ns, x, l, u, hd, hs, r⟩ := D
  exact ⟨c, ns, x, l, u, s _ _ hd, s.seq hs, r⟩
theorem DrawAt.new (hp : H p = none) (D : DrawAt K n H d) : DrawAt K n (upd H p o) d := DrawAt.same (Same.upd hp (Same.refl H)) D
theorem DrawAt.mono (h : n ≤ m) (D : DrawAt K n H d) : DrawAt K m H d := by
  obtain ⟨c, ns, x, l, u, hd, hs, h1, h2, h3, h4, h5, h6⟩ := D
  exact ⟨c, ns, x, l, u, hd, hs, h1, h2, h3, by omega, h5, by omega⟩
end
theorem DrawAt.up {K : PySem.W.Frag} {n m : Nat} {H : Hp} {d : Addr} (D : DrawAt K n H d) (h : n ≤ m) : DrawAt K m H d := D.mono h
section
variable {H H1 : Hp} {a p d : Addr} {o u : HO}
theorem Same.new (hp : H1 p = none) (s : Same H H1) : Same H (L2.upd H1 p o) := Same.trans s (Same.upd hp (Same.refl H1))
theorem Keep.fresh (hp : H1 p = none) (s : Keep d H H1) : Keep d H (upd H1 p o) := s.same (Same.upd hp (Same.refl H1))
theorem upd_new (hp : H p = none) (h : H a = some u) : upd H p o a = some u := by rw [upd_ne (ne_of_none h hp)]; exact h
theorem upd_off (n : a ≠ p) (h : H a = some u) : upd H p o a = some u := by rw [upd_ne n]; exact h
end
theorem dk_cells {c : Addr} {a l u : Int} : valV (drawK c a l u) (Sum.inr "cells") = some (.ref c) := rfl
theorem dk_at {c : Addr} {a l u : Int} : valV (drawK c a l u) (Sum.inr "at") = some (.int a) := rfl
theorem dk_left {c : Addr} {a l u : Int} : valV (drawK c a l u) (Sum.inr "left") = some (.int l) := rfl
theorem dk_used {c : Addr} {a l u : Int} : valV (drawK c a l u) (Sum.inr "used") = some (.int u) := rfl
theorem pk_at {c : Addr} {a l u b : Int} : putK (drawK c a l u) (Sum.inr "at") (.int b) = drawK c b l u := rfl
theorem pk_left {c : Addr} {a l u b : Int} : putK (drawK c a l u) (Sum.inr "left") (.int b) = drawK c a b u := rfl
theorem pk_used {c : Addr} {a l u b : Int} : putK (drawK c a l u) (Sum.inr "used") (.int b) = drawK c a l b := rfl
/-- what d[s] = v asks, d in the slot n -/
def DPutAt (σ : L2.St) (n : Nat) (s : Str) (v : V) (H : Hp) (P : Hp → Prop) : Prop := tVar n σ H fun x H2 => tC (.str s) σ H2 fun y H3 => ∃ a H4, x = .ref a ∧ DPut H3 a y v H4 ∧ P H4
section
variable {σ : L2.St} {H : Hp} {Q : VK} {d c : Addr} {a l u b : Int} {td ty tv : TE} {D : Ends}
theorem g_dcells {n : Nat} (hv : σ[n]? = some (some (.ref d))) (h : H d = some (.dK (drawK c a l u))) (q : Q (.ref c) H) : tDGet (tVar n) (tC (.str "cells")) σ H Q := ⟨_, hv, d, _, rfl, dk_cells ▸ DGet.k (k := Sum.inr "cells") h, q⟩
theorem g_dat {n : Nat} (hv : σ[n]? = some (some (.ref d))) (h : H d = some (.dK (drawK c a l u))) (q : Q (.int a) H) : tDGet (tVar n) (tC (.str "at")) σ H Q := ⟨_, hv, d, _, rfl, dk_at ▸ DGet.k (k := Sum.inr "at") h, q⟩
theorem g_dleft {n : Nat} (hv : σ[n]? = some (some (.ref d))) (h : H d = some (.dK (drawK c a l u))) (q : Q (.int l) H) : tDGet (tVar n) (tC (.str "left")) σ H Q := ⟨_, hv, d, _, rfl, dk_left ▸ DGet.k (k := Sum.inr "left") h, q⟩
theorem g_dused {n : Nat} (hv : σ[n]? = some (some (.ref d))) (h : H d = some (.dK (drawK c a l u))) (q : Q (.int u) H) : tDGet (tVar n) (tC (.str "used")) σ H Q := ⟨_, hv, d, _, rfl, dk_used ▸ DGet.k (k := Sum.inr "used") h, q⟩
theorem g_dput {n : Nat} {s : Str} (q : tv σ H fun v H1 => DPutAt σ n s v H1 (D.nx σ)) : sDPut (tVar n) (tC (.str s)) tv D σ H := q
theorem g_pat {n : Nat} {P : Hp → Prop} (hv : σ[n]? = some (some (.ref d))) (h : H d = some (.dK (drawK c a l u))) (q : P (upd H d (.dK (drawK c b l u)))) : DPutAt σ n "at" (.int b) H P := ⟨_, hv, d, _, rfl, DPut.k (k := Sum.inr "at") h (by show 4 < sizeLine; decide), q⟩
theorem g_pleft {n : Nat} {P : Hp → Prop} (hv : σ[n]? = some (some (.ref d))) (h : H d = some (.dK (drawK c a l u))) (q : P (upd H d (.dK (drawK c a b u)))) : DPutAt σ n "left" (.int b) H P := ⟨_, hv, d, _, rfl, DPut.k (k := Sum.inr "left") h (by show 4 < sizeLine; decide), q⟩
theorem g_pused {n : Nat} {P : Hp → Prop} (hv : σ[n]? = some (some (.ref d))) (h : H d = some (.dK (drawK c a l u))) (q : P (upd H d (.dK (drawK c a l b)))) : DPutAt σ n "used" (.int b) H P := ⟨_, hv, d, _, rfl, DPut.k (k := Sum.inr "used") h (by show 4 < sizeLine; decide), q⟩
end
theorem at_ints {ns : List Int} {i : Int} (h0 : 0 ≤ i) (h1 : i < ns.length) : ∃ x, atI (ns.map V.int) i = some (.int x) ∧ ns[i.toNat]? = some x := by
  have hl : i.toNat < ns.length := by omega
  refine ⟨ns[i.toNat], ?_, List.getElem?_eq_getElem hl⟩
  obtain ⟨m, rfl⟩ : ∃ m : Nat, i = (m : Int) := ⟨i.toNat, by omega⟩
  refine atI_nat ?_
  have h2 : m < ns.length := by omega
  rw [List.getElem?_map, List.getElem?_eq_getElem h2]
  rfl
theorem g_pc {tk tv : TE} {r : List (TE × TE)} {σ : L2.St} {H : Hp} {Q : List (V × V) → Hp → Prop} (q : tk σ H fun k H1 => tv σ H1 fun v H2 => tPairs r σ H2 fun ps H3 => Q ((k, v) :: ps) H3) : tPairs ((tk, tv) :: r) σ H Q := q
theorem g_pn {σ : L2.St} {H : Hp} {Q : List (V × V) → Hp → Prop} (q : Q [] H) : tPairs [] σ H Q := q
end Hf

set_option Elab.async false
set_option linter.all false
set_option maxRecDepth 100000
set_option maxHeartbeats 4000000
namespace Hf
open PySem L2 PySem.Spec PyProof.Rows
/-! ### how long a shown datum is, at most -/
structure Sh (n k : Nat) (d : PyData) : Prop where
  s : d.showable = true
  k : d.depth ≤ k
  n : d.shown.length ≤ n
  c : d.canLay0 = true
structure Shs (n k : Nat) (ds : List PyData) : Prop where
  s : PyData.showableAll ds = true
  k : PyData.depthAll ds ≤ k
  n : ((PyData.shownAll ds).map (·.length)).sum + 2 * (PyData.shownAll ds).length ≤ n
  c : PyData.canLayAll0 ds = true
theorem Sh.non : Sh 4 0 .none := ⟨by simp only [PyData.showable], by simp only [PyData.depth]; omega, by simp only [PyData.shown]; decide, by simp only [PyData.canLay0]⟩
theorem Sh.bl (b : Bool) : Sh 5 0 (.bool b) := ⟨by simp only [PyData.showable], by simp only [PyData.depth]; omega, by simp only [PyData.shown]; cases b <;> decide, by simp only [PyData.canLay0]⟩
theorem Sh.int {i : Int} (h : i.natAbs < 10 ^ 40) : Sh 41 0 (.int i) := by
  have h2 : i.natAbs.log2 < 1920 := by
    by_cases z : i.natAbs = 0
    · rw [z]; decide
    · exact (Nat.log2_lt z).mpr (Nat.lt_of_lt_of_le h (Nat.le_trans (show 10 ^ 40 ≤ 2 ^ 140 by decide) (Nat.pow_le_pow_right (by decide) (by decide))))
  refine ⟨by simp only [PyData.showable]; exact decide_eq_true h2, by simp only [PyData.depth]; omega, ?_, ?_⟩
  · simp only [PyData.shown]
    have q := int_text_length_le10 (a := i) (k := 40) (by omega) h
    show (Str.ofString (toString i)).length ≤ 41
    have e : (Str.ofString (toString i)).length = (toString i).length := PySem.ofString_length _
    omega
  · simp only [PyData.canLay0]
theorem Sh.list {n k : Nat} {ds : List PyData} (h : Shs n k ds) : Sh (n + 3) (k + 1) (.list ds) :=
  ⟨by simp only [PyData.showable]; exact h.s, by simp only [PyData.depth]; have := h.k; omega, by simp only [PyData.shown]; have := h.n; have := listText_len_le (PyData.shownAll ds); omega, by simp only [PyData.canLay0]; exact h.c⟩
theorem Sh.tup {n k : Nat} {ds : List PyData} (h : Shs n k ds) : Sh (n + 3) (k + 1) (.tuple ds) :=
  ⟨by simp only [PyData.showable]; exact h.s, by simp only [PyData.depth]; have := h.k; omega, by simp only [PyData.shown]; have := h.n; have := tupleText_len_le (PyData.shownAll ds); omega, by simp only [PyData.canLay0]; exact h.c⟩
theorem Shs.nil : Shs 0 0 [] := ⟨by simp only [PyData.showableAll], by simp only [PyData.depthAll]; omega, by simp only [PyData.shownAll]; decide, by simp only [PyData.canLayAll0]⟩
theorem Shs.cons {n m k l : Nat} {d : PyData} {ds : List PyData} (a : Sh n k d) (b : Shs m l ds) : Shs (n + m + 2) (k + l) (d :: ds) := by
  refine ⟨by simp only [PyData.showableAll, a.s, b.s, Bool.and_self], ?_, ?_, by simp only [PyData.canLayAll0, a.c, b.c, Bool.and_self]⟩
  · simp only [PyData.depthAll]
    have := a.k
    have := b.k
    omega
  · simp only [PyData.shownAll, List.map_cons, List.sum_cons, List.length_cons]
    have := a.n
    have := b.n
    omega
theorem Sh.shows {n k : Nat} {d : PyData} (h : Sh n k d) (hn : n ≤ 1000000) (hk : k ≤ 40) : Shows d := ⟨h.s, Nat.le_trans h.k hk, Nat.le_trans h.n (Nat.le_trans hn (by decide))⟩
theorem Sh.shaped {n k : Nat} {d : PyData} (h : Sh n k d) (hk : k ≤ 60) : SeqAt.shaped d = true := by
  unfold SeqAt.shaped
  rw [h.c, decide_eq_true (Nat.le_trans h.k (by omega : k ≤ 64))]
  rfl
/-- two values that are the same datum -/
theorem g_eqS {H : Hp} {K : PySem.W.Frag} {Q : VK} {x y : V} {d : PyData} {n k : Nat} (h1 : Dp K H x d) (h2 : Dp K H y d) (s : Sh n k d) (hk : k ≤ 60) (q : Q (.bl true) H) : rEqA K x y H Q :=
  g_eqD h1 h2 (s.shaped hk) (s.shaped hk) (by rw [SeqAt.eqv_refl d s.c]; exact q)
theorem g_neS {H : Hp} {K : PySem.W.Frag} {Q : VK} {x y : V} {d : PyData} {n k : Nat} (h1 : Dp K H x d) (h2 : Dp K H y d) (s : Sh n k d) (hk : k ≤ 60) (q : Q (.bl false) H) : rNeA K x y H Q :=
  g_neD h1 h2 (s.shaped hk) (s.shaped hk) (by rw [SeqAt.eqv_refl d s.c]; exact q)
theorem g_reprS {H : Hp} {K : PySem.W.Frag} {Q : VK} {v : V} {d : PyData} {n k : Nat} (h : Dp K H v d) (s : Sh n k d) (hn : n ≤ 1000000) (hk : k ≤ 40) (q : Q (.str d.shown) H) : rRepr K [v] H Q := g_repr h (s.shows hn hk) q
theorem at_all {xs : List V} {i : Int} (P : V → Prop) (all : ∀ v ∈ xs, P v) (h0 : 0 ≤ i) (h1 : i < xs.length) : ∃ v, atI xs i = some v ∧ P v := by
  obtain ⟨m, rfl⟩ : ∃ m : Nat, i = (m : Int) := ⟨i.toNat, by omega⟩
  have h2 : m < xs.length := by omega
  exact ⟨xs[m], atI_nat (List.getElem?_eq_getElem h2), all _ (List.getElem_mem h2)⟩
theorem g_ixA {K : PySem.W.Frag} {H : Hp} {Q : VK} {a : Addr} {i : Int} {xs : List V} (P : V → Prop) (h : SqL K H a xs) (all : ∀ v ∈ xs, P v) (h0 : 0 ≤ i) (h1 : i < xs.length) (q : ∀ v, P v → Q v H) : rIx K (.ref a) (.int i) H Q := by
  obtain ⟨v, hv, pv⟩ := at_all P all h0 h1
  exact g_ixL h hv (q v pv)
section
variable {K : PySem.W.Frag} {σ : L2.St} {H : Hp} {Q : L2.St → Hp → Prop} {a : Addr} {xs : List V} {te : TE} {g : TG} {D : Ends} {v : V} {n : Nat} {t : TGs}
theorem g_asgG (q : te σ H fun x H1 => g x σ H1 D.nx) : tAsg te g D σ H := q
theorem g_gtup (h : SqT K H a xs) (hl : xs.length = n) (q : t xs σ H Q) : gTup K n t (.ref a) σ H Q := ⟨a, xs, rfl, h, hl, q⟩
theorem g_gnil (q : Q σ H) : gNil [] σ H Q := ⟨rfl, q⟩
theorem g_gcons (q : g v σ H fun σ' H' => t xs σ' H' Q) : gCons g t (v :: xs) σ H Q := ⟨v, xs, rfl, q⟩
theorem g_retN (q : D.rt .non H) : tRet (tC .non) D σ H := q
end
theorem dps_ints {K : PySem.W.Frag} {H : Hp} : ∀ xs : List Int, DpAll K H (xs.map V.int) (xs.map PyData.int)
  | [] => .nil
  | x :: xs => .cons (.int x) (dps_ints xs)
theorem shs_ints : ∀ xs : List Int, (∀ x ∈ xs, x.natAbs < 10 ^ 40) → Shs (43 * xs.length) 0 (xs.map PyData.int)
  | [], _ => Shs.nil
  | x :: xs, h => by
    have a := Shs.cons (Sh.int (h x List.mem_cons_self)) (shs_ints xs fun y hy => h y (List.mem_cons_of_mem _ hy))
    rw [List.length_cons, show 43 * (xs.length + 1) = 41 + 43 * xs.length + 2 by omega]
    exact a
theorem g_i1 {i : Int} {P : Int → Prop} (q : P i) : ∃ j : Int, [V.int i] = [V.int j] ∧ P j := ⟨i, rfl, q⟩
theorem g_i2 {i j : Int} {P : Int → Int → Prop} (q : P i j) : ∃ a b : Int, [V.int i, V.int j] = [V.int a, V.int b] ∧ P a b := ⟨i, j, rfl, q⟩
theorem g_neMap {K : PySem.W.Frag} {H : Hp} {Q : VK} {a b : Addr} (g : Nat → Int) (n : Nat) (h1 : SqL K H a ((List.range n).map fun i => V.int (g i))) (h2 : SqL K H b ((List.range n).map fun i => V.int (g i))) (hb : ∀ i, i < n → (g i).natAbs < 10 ^ 40)
    (q : Q (.bl false) H) : rNeA K (.ref a) (.ref b) H Q := by
  have e : (List.range n).map (fun i => V.int (g i)) = ((List.range n).map g).map V.int := by rw [List.map_map]; rfl
  rw [e] at h1 h2
  refine g_neS (Dp.lst h1 (dps_ints _)) (Dp.lst h2 (dps_ints _)) (Sh.list (shs_ints _ ?_)) (by omega) q
  intro x hx
  obtain ⟨i, hi, rfl⟩ := List.mem_map.mp hx
  exact hb i (List.mem_range.mp hi)
end Hf

set_option Elab.async false
set_option linter.all false
set_option maxRecDepth 100000
set_option maxHeartbeats 4000000
namespace Hf
open PySem L2 PySem.Spec PyProof.Rows
/-! ### the end: what the program's top has left -/
theorem endG {P : Program} {w : World} {K : PySem.W.Frag} {mg : Str → Option Value} {fa : Addr} {k : Nat} {x y : Str} {st : Stmt} {sp : Sp} (hmg : mg x = some (.ref fa)) (d : ∃ f, mg x = some (.ref f) ∧ ∃ fd, Fun K x x st f fd)
    (hb : ∀ (kV doc pm : Value) (an : Option Addr) (cdv ct u : Value), bindArgs (PySem.W.fnOf x x (defArgs st) (defBody st) (defScope st) .none kV doc pm an cdv ct) ⟨[u], []⟩ = pure [(y, u)])
    (F : ∀ base : Heap, Df P w K mg base k x st [y] sp) :
    ∃ fd : FuncData, (∀ (s : Shared) (u : Value), BindsTo s fd ⟨[u], []⟩ [(y, u)]) ∧ ∀ base : Heap, K.In base → base.Ns mainGlobals mg → FnG P w K mg base CX0 k fa fd [y] sp := by
  obtain ⟨f, hm, fd, U⟩ := d
  have e := hmg.symm.trans hm
  cases e
  refine ⟨fd, fun s u => ?_, fun base _ _ => ?_⟩
  · obtain ⟨oc, od, kV, doc, pm, an, cdv, ct, osl, rfl, lk, hcd⟩ := U.ex
    exact .of_eq (hb kV doc pm an cdv ct u)
  · obtain ⟨f', fd', hm', U', F'⟩ := (F base).ex
    have e' := hmg.symm.trans hm'
    cases e'
    obtain ⟨oc, od, kV, doc, pm, an, cdv, ct, osl, e1, lk, hcd⟩ := U.ex
    obtain ⟨oc', od', kV', doc', pm', an', cdv', ct', osl', e1', lk', hcd'⟩ := U'.ex
    have e2 := lk.symm.trans lk'
    simp only [Option.some.injEq, Obj.mk.injEq, Data.func.injEq] at e2
    rw [e2.2.2.1]
    exact F'
section
variable {K : PySem.W.Frag} {h : Heap} {mg : Str → Option Value}
theorem mkD {x : Str} {st : Stmt} {f : Addr} {oc : Value} {od an : Option Addr} {osl : Array (Option Value)} {kV doc pm cdv ct : Value} (X : K.In h) (G : h.Ns mainGlobals mg) (a : PySem.W.nsIn K mainGlobals x = some (some (.ref f)))
    (l : K.lookup f = some ⟨oc, od, .func (PySem.W.fnOf x x (defArgs st) (defBody st) (defScope st) .none kV doc pm an cdv ct), osl⟩) (c : PySem.W.codeIn K cdv x = true) (k : PySem.W.keepIn K (.ref f) = true) :
    ∃ f, mg x = some (.ref f) ∧ ∃ fd, Fun K x x st f fd := ⟨f, PySem.W.mg_of X G a, _, fun_mk l c k⟩
theorem mkC {x : Str} {v : V} {u : Value} (X : K.In h) (G : h.Ns mainGlobals mg) (a : PySem.W.nsIn K mainGlobals x = some (some u)) (r : RelV v u) : ∃ u, mg x = some u ∧ RelV v u := ⟨_, PySem.W.mg_of X G a, r⟩
theorem mkT {x : Str} {xs : List V} {a : Addr} {od : Option Addr} {its : Array Value} {n : Nat} {sl : Array (Option Value)} (X : K.In h) (G : h.Ns mainGlobals mg) (e : PySem.W.nsIn K mainGlobals x = some (some (.ref a)))
    (l : K.lookup a = some ⟨.type "tuple", od, .seq its n, sl⟩) (z : its.size ≤ sizeLine) (r : Vals xs its.toList) : ∃ a, mg x = some (.ref a) ∧ ∀ H : Hp, SqT K H a xs :=
  ⟨a, PySem.W.mg_of X G e, fun _ => .inr ⟨_, its, n, l, rfl, rfl, z, r⟩⟩
end
end Hf

set_option Elab.async false
set_option linter.all false
set_option maxRecDepth 100000
set_option maxHeartbeats 4000000
set_option linter.unusedVariables false
namespace Law
open PySem L2 Hf
def leap (y : Int) : Bool := decide (y % 4 = 0 ∧ (y % 100 ≠ 0 ∨ y % 400 = 0))
def mlen (y m : Int) : Int := if m = 2 then (if leap y then 29 else 28) else if m = 4 ∨ m = 6 ∨ m = 9 ∨ m = 11 then 30 else 31
def fday (y : Int) : Int := 365 * (y - 1) + (y - 1) / 4 - (y - 1) / 100 + (y - 1) / 400 + 1
def cumN (y : Int) : Nat → Int
  | 0 => 0
  | k + 1 => cumN y k + mlen y (k + 1)
def dnum (y m d : Int) : Int := fday y + cumN y (m - 1).toNat + d - 1
def ylen (y : Int) : Int := if leap y then 366 else 365
def valid (y m d : Int) : Prop := 1 ≤ y ∧ y ≤ 9999 ∧ 1 ≤ m ∧ m ≤ 12 ∧ 1 ≤ d ∧ d ≤ mlen y m
theorem mlen_lo (y m : Int) : 28 ≤ mlen y m := by unfold mlen; split <;> split <;> omega
theorem mlen_hi (y m : Int) : mlen y m ≤ 31 := by unfold mlen; split <;> split <;> omega
theorem fday_one : fday 1 = 1 := by decide
theorem fday_succ (y : Int) : fday (y + 1) = fday y + ylen y := by
  unfold fday ylen leap
  by_cases h : y % 4 = 0 ∧ (y % 100 ≠ 0 ∨ y % 400 = 0)
  · rw [if_pos (decide_eq_true h)]; omega
  · rw [if_neg (by rw [decide_eq_false h]; decide)]; omega
theorem ylen_lo (y : Int) : 365 ≤ ylen y := by unfold ylen; split <;> omega
theorem ylen_hi (y : Int) : ylen y ≤ 366 := by unfold ylen; split <;> omega
theorem cum_12 (y : Int) : cumN y 12 = ylen y := by
  unfold ylen
  by_cases h : leap y <;> simp [cumN, mlen, h]
theorem cum_le (y : Int) : ∀ {i j : Nat}, i ≤ j → cumN y i + 28 * ((j : Int) - i) ≤ cumN y j
  | i, 0, h => by have : i = 0 := by omega
                  subst this; omega
  | i, j + 1, h => by
    by_cases e : i = j + 1
    · subst e; omega
    · have := cum_le y (i := i) (j := j) (by omega)
      have := mlen_lo y ((j : Int) + 1)
      show _ ≤ cumN y j + mlen y ((j : Int) + 1)
      omega
theorem fday_lt : ∀ (k : Nat) (y : Int), fday y + 365 * k ≤ fday (y + k)
  | 0, y => by simp
  | k + 1, y => by
    have h1 := fday_lt k y
    have h2 := fday_succ (y + k)
    have h3 := ylen_lo (y + k)
    have e : y + ((k + 1 : Nat) : Int) = y + k + 1 := by omega
    rw [e, h2]
    omega
theorem fday_mono {y z : Int} (h : y ≤ z) : fday y + 365 * (z - y) ≤ fday z := by
  have := fday_lt (z - y).toNat y
  rw [show y + ((z - y).toNat : Int) = z by omega] at this
  omega
theorem fday_last : fday 10000 = 3652060 := by decide
theorem cum_step (y m : Int) (h : 1 ≤ m) : cumN y ((m + 1) - 1).toNat = cumN y (m - 1).toNat + mlen y m := by
  obtain ⟨k, rfl⟩ : ∃ k : Nat, m = (k : Int) + 1 := ⟨(m - 1).toNat, by omega⟩
  rw [show ((k : Int) + 1 + 1 - 1).toNat = k + 1 by omega, show ((k : Int) + 1 - 1).toNat = k by omega]
  rfl
/-- a day within its year -/
theorem cum_in {y m d : Int} (h : valid y m d) : cumN y (m - 1).toNat + d ≤ ylen y := by
  obtain ⟨_, _, h1, h2, h3, h4⟩ := h
  have a := cum_step y m h1
  have b := cum_le y (i := ((m + 1) - 1).toNat) (j := 12) (by omega)
  rw [cum_12] at b
  omega
theorem cum_0 (y : Int) (m : Int) (h : 1 ≤ m) : 0 ≤ cumN y (m - 1).toNat := by
  have := cum_le y (i := 0) (j := (m - 1).toNat) (by omega)
  have e : cumN y 0 = 0 := rfl
  omega
theorem dnum_in {y m d : Int} (h : valid y m d) : fday y ≤ dnum y m d ∧ dnum y m d < fday (y + 1) := by
  have a := cum_in h
  have b := cum_0 y m h.2.2.1
  have c := fday_succ y
  obtain ⟨_, _, h1, h2, h3, h4⟩ := h
  unfold dnum
  omega
theorem dnum_bound {y m d : Int} (h : valid y m d) : 1 ≤ dnum y m d ∧ dnum y m d ≤ 3652059 := by
  have a := dnum_in h
  have b := fday_mono h.1
  have c := fday_mono (y := y + 1) (z := 10000) (by have := h.2.1; omega)
  have := h.2.1
  have := h.1
  rw [fday_one] at b
  rw [fday_last] at c
  omega
theorem dnum_inj {y m d y' m' d' : Int} (h : valid y m d) (h' : valid y' m' d') (e : dnum y m d = dnum y' m' d') : y = y' ∧ m = m' ∧ d = d' := by
  have a := dnum_in h
  have a' := dnum_in h'
  have ey : y = y' := by
    rcases Int.lt_trichotomy y y' with z | z | z
    · have := fday_mono (y := y + 1) (z := y') (by omega); omega
    · exact z
    · have := fday_mono (y := y' + 1) (z := y) (by omega); omega
  subst ey
  have em : m = m' := by
    obtain ⟨_, _, h1, h2, h3, h4⟩ := h
    obtain ⟨_, _, h1', h2', h3', h4'⟩ := h'
    unfold dnum at e
    rcases Int.lt_trichotomy m m' with z | z | z
    · have b := cum_le y (i := ((m + 1) - 1).toNat) (j := (m' - 1).toNat) (by omega)
      rw [cum_step y m h1] at b; omega
    · exact z
    · have b := cum_le y (i := ((m' + 1) - 1).toNat) (j := (m - 1).toNat) (by omega)
      rw [cum_step y m' h1'] at b; omega
  subst em
  refine ⟨rfl, rfl, ?_⟩
  unfold dnum at e
  omega
def nextY (y m d : Int) : Int := if d < mlen y m then y else if m < 12 then y else y + 1
def nextM (y m d : Int) : Int := if d < mlen y m then m else if m < 12 then m + 1 else 1
def nextD (y m d : Int) : Int := if d < mlen y m then d + 1 else 1
theorem dnum_next {y m d : Int} (h : valid y m d) : dnum (nextY y m d) (nextM y m d) (nextD y m d) = dnum y m d + 1 := by
  obtain ⟨_, _, h1, h2, h3, h4⟩ := h
  unfold nextY nextM nextD
  by_cases a : d < mlen y m
  · simp only [if_pos a]; unfold dnum; omega
  · simp only [if_neg a]
    by_cases b : m < 12
    · simp only [if_pos b]
      unfold dnum
      rw [cum_step y m h1]
      omega
    · simp only [if_neg b]
      have em : m = 12 := by omega
      subst em
      unfold dnum
      have c := cum_step y 12 (by omega)
      have d12 := cum_12 y
      have f := fday_succ y
      rw [show ((12 : Int) + 1 - 1).toNat = 12 by rfl, d12] at c
      have z : cumN (y + 1) ((1 : Int) - 1).toNat = 0 := rfl
      rw [z]
      omega
theorem valid_next {y m d : Int} (h : valid y m d) (hy : nextY y m d ≠ 10000) : valid (nextY y m d) (nextM y m d) (nextD y m d) := by
  obtain ⟨a1, a2, h1, h2, h3, h4⟩ := h
  unfold nextY nextM nextD at *
  by_cases a : d < mlen y m
  · simp only [if_pos a] at *; exact ⟨a1, a2, h1, h2, by omega, by omega⟩
  · simp only [if_neg a] at *
    by_cases b : m < 12
    · simp only [if_pos b] at *
      have := mlen_lo y (m + 1)
      exact ⟨a1, a2, by omega, by omega, by omega, by omega⟩
    · simp only [if_neg b] at *
      have := mlen_lo (y + 1) 1
      exact ⟨by omega, by omega, by omega, by omega, by omega, by omega⟩
theorem next_last {y m d : Int} (h : valid y m d) (hy : nextY y m d = 10000) : dnum y m d = 3652059 := by
  have a := dnum_next h
  have b := fday_last
  obtain ⟨a1, a2, h1, h2, h3, h4⟩ := h
  have e : nextM y m d = 1 ∧ nextD y m d = 1 := by
    unfold nextY at hy
    unfold nextM nextD
    by_cases c : d < mlen y m
    · rw [if_pos c] at hy; omega
    · rw [if_neg c] at hy
      by_cases g : m < 12
      · rw [if_pos g] at hy; omega
      · simp only [if_neg c, if_neg g, and_self]
  rw [hy, e.1, e.2] at a
  unfold dnum at a
  have z : cumN 10000 ((1 : Int) - 1).toNat = 0 := rfl
  rw [z, b] at a
  unfold dnum
  omega
end Law
namespace Law
open PySem L2 Hf PySem.Spec PyProof.Rows
local macro_rules
  | `(tactic| fail "many") => `(tactic| (intro xs H Q E h; first | (obtain ⟨e, _⟩ := h; exact congrArg List.length e) | (obtain ⟨_, e, _⟩ := h; exact congrArg List.length e) | (obtain ⟨_, _, e, _⟩ := h; exact congrArg List.length e) | (obtain ⟨_, _, _, e, _⟩ := h; exact congrArg List.length e) | (obtain ⟨_, _, _, _, e, _⟩ := h; exact congrArg List.length e) | (obtain ⟨_, _, _, _, _, e, _⟩ := h; exact congrArg List.length e) | (obtain ⟨_, _, _, _, _, _, e, _⟩ := h; exact congrArg List.length e) | (obtain ⟨_, _, _, _, _, _, _, e, _⟩ := h; exact congrArg List.length e)))
  | `(tactic| fail "drstep") => `(tactic| with_reducible first | apply DrawAt.same (by assumption) | apply DrawAt.new (by assumption))
  | `(tactic| fail "dr") => `(tactic| with_reducible first | assumption | ((fail "drstep"); fail "dr"))
  | `(tactic| fail "dru") => `(tactic| exact DrawAt.up (by with_reducible (fail "dr")) (by omega))
  | `(tactic| fail "ne") => `(tactic| with_reducible first | assumption | (apply Ne.symm; assumption) | (apply Ne.symm; apply ne_of_none ?_ (by assumption); fail "h") | (apply ne_of_none ?_ (by assumption); fail "h"))
  | `(tactic| fail "hstep") => `(tactic| with_reducible first | apply Same.at_ (by assumption) | apply Keep.at_ (by assumption) (by fail "dr") | apply upd_new (by assumption) | apply upd_off (by fail "ne"))
  | `(tactic| fail "h") => `(tactic| with_reducible first | assumption | exact upd_same | ((fail "hstep"); fail "h"))
  | `(tactic| fail "sqstep") => `(tactic| with_reducible first | apply Same.seq (by assumption) | apply Same.seqT (by assumption) | apply Keep.seq (by assumption) (by fail "dr") | apply Keep.seqT (by assumption) (by fail "dr") | apply seq_new (by assumption) | apply seqT_new (by assumption))
  | `(tactic| fail "sq") => `(tactic| with_reducible first | assumption | (apply SqL.of; first | assumption | exact upd_same) | (apply SqT.of; first | assumption | exact upd_same) | ((fail "sqstep"); fail "sq") | (apply SqL.of; fail "h") | (apply SqT.of; fail "h"))
  | `(tactic| fail "free") => `(tactic| with_reducible first | assumption | ((refine Same.free (H' := ?_) ?_ (by assumption)); fail "same"))
  | `(tactic| fail "samestep") => `(tactic| with_reducible first | apply Same.trans ?_ (by assumption) | apply Same.new (by assumption) | apply Same.upd (by fail "free"))
  | `(tactic| fail "same") => `(tactic| with_reducible first | assumption | exact Same.refl _ | ((fail "samestep"); fail "same"))
  | `(tactic| fail "keepstep") => `(tactic| with_reducible first | apply Keep.trans ?_ (by assumption) | apply Keep.same ?_ (by assumption) | apply Keep.fresh (by assumption) | apply Keep.set)
  | `(tactic| fail "keep") => `(tactic| with_reducible first | assumption | exact Keep.refl _ _ | ((fail "keepstep"); fail "keep"))
  | `(tactic| fail "dp") => `(tactic| with_reducible first | assumption | exact Dp.non | exact Dp.bl _ | exact Dp.int _ | exact Dp.str _ | (apply Dp.lst; (fail "sq"); fail "dp") | (apply Dp.tup; (fail "sq"); fail "dp") | exact DpAll.nil | (apply DpAll.cons; (fail "dp"); fail "dp"))
  | `(tactic| fail "sz") => `(tactic| first | assumption | (simp only [List.length_cons, List.length_nil, List.length_append]; omega) | omega)
  | `(tactic| fail "cmul") => `(tactic| first | exact Or.inl ⟨by omega, by omega⟩ | exact Or.inr ⟨by omega, by omega⟩)
  | `(tactic| fail "sh") => `(tactic| first | exact Sh.non | exact Sh.bl _ | (refine Sh.int ?_; omega) | (apply Sh.list; fail "sh") | (apply Sh.tup; fail "sh") | exact Shs.nil | (apply Shs.cons; (fail "sh"); fail "sh"))
  | `(tactic| fail "all") => `(tactic| repeat (first | exact List.forall_mem_nil _ | refine List.forall_mem_cons.mpr ⟨⟨_, rfl, by omega, by omega⟩, ?_⟩))
local macro_rules | `(tactic| fail "go1") => `(tactic| first
  | ((with_reducible apply g_var); (exact rfl))
  | with_reducible refine g_c ?_
  | with_reducible refine g_op ?_
  | with_reducible refine g_test ?_
  | with_reducible refine g_tB ?_
  | with_reducible refine g_bl ?_
  | with_reducible refine g_and ?_
  | with_reducible refine g_or ?_
  | with_reducible refine g_not ?_
  | with_reducible refine g_andV ?_
  | with_reducible refine g_orV ?_
  | with_reducible refine g_notV ?_
  | with_reducible refine g_ifE ?_
  | with_reducible refine g_chain ?_
  | with_reducible refine g_nil ?_
  | with_reducible refine g_cons ?_
  | with_reducible refine g_cb ?_
  | with_reducible refine g_callG ?_
  | with_reducible refine g_tup ?_
  | with_reducible refine g_lst ?_
  | ((with_reducible refine g_sz ?_ ?_); (fail "sz"))
  | with_reducible refine g_addI ?_
  | ((with_reducible apply g_addL); ((fail "sq")); ((fail "sq")))
  | with_reducible refine g_sub ?_
  | ((with_reducible refine g_mulI ?_ ?_); (fail "cmul"))
  | (((with_reducible apply g_rep1); (fail "h"); (decide); (decide); (decide)); dsimp only [Int.reduceToNat, List.replicate])
  | ((with_reducible refine g_div ?_ ?_); exact ⟨by omega, by omega⟩)
  | ((with_reducible refine g_mod ?_ ?_); first | omega | (simp only [List.length_map]; omega))
  | ((with_reducible refine g_pow ?_ ?_); exact ⟨by decide, by decide, by decide⟩)
  | with_reducible refine g_eqI ?_
  | with_reducible refine g_eqB ?_
  | ((with_reducible apply g_eqS); (fail "dp"); (fail "dp"); (fail "sh"); (omega))
  | ((with_reducible apply g_neS); (fail "dp"); (fail "dp"); (fail "sh"); (omega))
  | ((with_reducible apply g_reprS); (fail "dp"); (fail "sh"); (omega); (omega))
  | with_reducible refine g_eqT ?_
  | with_reducible refine g_neI ?_
  | with_reducible refine g_neB ?_
  | with_reducible refine g_neT ?_
  | with_reducible refine g_ltI ?_
  | with_reducible refine g_leI ?_
  | with_reducible refine g_gtI ?_
  | with_reducible refine g_geI ?_
  | with_reducible refine g_inS ?_
  | with_reducible refine g_niS ?_
  | ((with_reducible refine g_iteT ?_ ?_); omega)
  | ((with_reducible refine g_iteF ?_ ?_); omega)
  | ((with_reducible refine g_iteNT ?_ ?_); omega)
  | ((with_reducible refine g_iteNF ?_ ?_); omega)
  | ((with_reducible refine g_iteNF ?_ ?_); with_reducible rfl)
  | ((with_reducible refine g_iteT ?_ ?_); with_reducible rfl)
  | with_reducible refine g_ite (fun _ => ?_) (fun _ => ?_)
  | with_reducible refine g_iteN (fun _ => ?_) (fun _ => ?_)
  | with_reducible refine iteT ?_
  | with_reducible refine iteF ?_
  | ((with_reducible apply g_lenL); ((fail "sq")))
  | ((with_reducible apply g_lenU); ((fail "sq")))
  | with_reducible refine g_isiII ?_
  | with_reducible refine g_isiIB ?_
  | with_reducible refine g_isiBB ?_
  | with_reducible refine g_isiBI ?_
  | with_reducible refine g_isiSS ?_
  | with_reducible refine g_isiSI ?_
  | with_reducible refine g_isiIS ?_
  | with_reducible refine g_name ?_
  | with_reducible refine g_pc ?_
  | with_reducible refine g_asgG ?_
  | ((with_reducible apply g_gtup); (fail "sq"); exact rfl)
  | with_reducible refine g_gcons ?_
  | with_reducible refine g_gnil ?_
  | with_reducible refine g_pn ?_
  | with_reducible refine g_for1 ?_
  | with_reducible refine g_for2 ?_
  | with_reducible refine g_lc1 ?_
  | with_reducible refine g_lc2 ?_
  | with_reducible refine g_par ?_
  | with_reducible refine g_par3 ?_
  | with_reducible refine g_two ?_
  | with_reducible refine g_i1 ?_
  | with_reducible refine g_i2 ?_
  | with_reducible refine g_three ?_
  | (with_reducible refine ⟨_, fun _ _ n => n, ?_⟩)
  | with_reducible refine g_dput ?_
  | ((with_reducible apply g_dcells); (exact rfl); ((fail "h")))
  | ((with_reducible apply g_dat); (exact rfl); ((fail "h")))
  | ((with_reducible apply g_dleft); (exact rfl); ((fail "h")))
  | ((with_reducible apply g_dused); (exact rfl); ((fail "h")))
  | ((with_reducible apply g_pat); (exact rfl); ((fail "h")))
  | ((with_reducible apply g_pleft); (exact rfl); ((fail "h")))
  | ((with_reducible apply g_pused); (exact rfl); ((fail "h")))
  | ((with_reducible apply g_ixT); (fail "sq"); (exact rfl))
  | ((with_reducible apply g_ixL); (fail "sq"); (exact rfl))
  | ((with_reducible apply g_args); (exact rfl); (exact rfl))
  | ((with_reducible refine g_sp ?_); nofun)
  | with_reducible refine g_iteNtt ?_
  | with_reducible refine g_iteNff ?_
  | with_reducible refine g_iteb (fun _ => ?_) (fun _ => ?_)
  | with_reducible refine g_iteNb (fun _ => ?_) (fun _ => ?_)
  | with_reducible refine g_seq ?_
  | with_reducible refine g_asg ?_
  | with_reducible refine g_ret ?_
  | with_reducible refine g_ifS ?_
  | with_reducible refine g_next ?_
  | with_reducible refine g_drop ?_
  | intro p np)
local macro_rules | `(tactic| fail "go") => `(tactic| repeat' fail "go1")
def topS (i : Nat) : Stmt := PySem.Challenge.pw_headerfold_k34_days_and_their_numbers.main.body.getD i (.Pass ⟨0, 0, 0, 0⟩)
abbrev s_law_begin : Stmt := topS 24
theorem sc_law_begin : FnScope ["script"] ["script"] (defScope s_law_begin) := ⟨rfl, rfl, rfl, by decide +kernel, rfl, by decide +kernel, by decide +kernel⟩
abbrev s_law_mixed : Stmt := topS 25
theorem sc_law_mixed : FnScope ["cell", "k", "mixed"] ["cell", "k"] (defScope s_law_mixed) := ⟨rfl, rfl, rfl, by decide +kernel, rfl, by decide +kernel, by decide +kernel⟩
abbrev s_law_next : Stmt := topS 26
theorem sc_law_next : FnScope ["draw", "bound", "found", "cells", "cell"] ["draw", "bound"] (defScope s_law_next) := ⟨rfl, rfl, rfl, by decide +kernel, rfl, by decide +kernel, by decide +kernel⟩
abbrev s_is_whole : Stmt := topS 10
theorem sc_is_whole : FnScope ["thing", "least", "most"] ["thing", "least", "most"] (defScope s_is_whole) := ⟨rfl, rfl, rfl, by decide +kernel, rfl, by decide +kernel, by decide +kernel⟩
abbrev s_has_leap_day : Stmt := topS 11
theorem sc_has_leap_day : FnScope ["year"] ["year"] (defScope s_has_leap_day) := ⟨rfl, rfl, rfl, by decide +kernel, rfl, by decide +kernel, by decide +kernel⟩
abbrev s_month_length : Stmt := topS 12
theorem sc_month_length : FnScope ["year", "month"] ["year", "month"] (defScope s_month_length) := ⟨rfl, rfl, rfl, by decide +kernel, rfl, by decide +kernel, by decide +kernel⟩
abbrev s_first_day : Stmt := topS 13
theorem sc_first_day : FnScope ["year", "before"] ["year"] (defScope s_first_day) := ⟨rfl, rfl, rfl, by decide +kernel, rfl, by decide +kernel, by decide +kernel⟩
abbrev s_check_year : Stmt := topS 14
theorem sc_check_year : FnScope ["year"] ["year"] (defScope s_check_year) := ⟨rfl, rfl, rfl, by decide +kernel, rfl, by decide +kernel, by decide +kernel⟩
abbrev s_check_month : Stmt := topS 15
theorem sc_check_month : FnScope ["year", "month"] ["year", "month"] (defScope s_check_month) := ⟨rfl, rfl, rfl, by decide +kernel, rfl, by decide +kernel, by decide +kernel⟩
abbrev s_check_day : Stmt := topS 16
theorem sc_check_day : FnScope ["year", "month", "day"] ["year", "month", "day"] (defScope s_check_day) := ⟨rfl, rfl, rfl, by decide +kernel, rfl, by decide +kernel, by decide +kernel⟩
abbrev s_check_number : Stmt := topS 17
theorem sc_check_number : FnScope ["number"] ["number"] (defScope s_check_number) := ⟨rfl, rfl, rfl, by decide +kernel, rfl, by decide +kernel, by decide +kernel⟩
abbrev s_is_leap : Stmt := topS 18
theorem sc_is_leap : FnScope ["year"] ["year"] (defScope s_is_leap) := ⟨rfl, rfl, rfl, by decide +kernel, rfl, by decide +kernel, by decide +kernel⟩
abbrev s_days_in : Stmt := topS 19
theorem sc_days_in : FnScope ["year", "month"] ["year", "month"] (defScope s_days_in) := ⟨rfl, rfl, rfl, by decide +kernel, rfl, by decide +kernel, by decide +kernel⟩
abbrev s_day_number : Stmt := topS 20
theorem sc_day_number : FnScope ["year", "month", "day", "earlier"] ["year", "month", "day"] (defScope s_day_number) := ⟨rfl, rfl, rfl, by decide +kernel, rfl, by decide +kernel, by decide +kernel⟩
abbrev s_date_of : Stmt := topS 21
theorem sc_date_of : FnScope ["number", "year", "rest", "month"] ["number"] (defScope s_date_of) := ⟨rfl, rfl, rfl, by decide +kernel, rfl, by decide +kernel, by decide +kernel⟩
abbrev s_weekday_of : Stmt := topS 22
theorem sc_weekday_of : FnScope ["number"] ["number"] (defScope s_weekday_of) := ⟨rfl, rfl, rfl, by decide +kernel, rfl, by decide +kernel, by decide +kernel⟩
abbrev s_law_length : Stmt := topS 27
theorem sc_law_length : FnScope ["y", "mo"] ["y", "mo"] (defScope s_law_length) := ⟨rfl, rfl, rfl, by decide +kernel, rfl, by decide +kernel, by decide +kernel⟩
abbrev s_law_number : Stmt := topS 28
theorem sc_law_number : FnScope ["y", "mo", "d", "found", "earlier"] ["y", "mo", "d"] (defScope s_law_number) := ⟨rfl, rfl, rfl, by decide +kernel, rfl, by decide +kernel, by decide +kernel⟩
abbrev s_law_next_day : Stmt := topS 29
theorem sc_law_next_day : FnScope ["y", "mo", "d"] ["y", "mo", "d"] (defScope s_law_next_day) := ⟨rfl, rfl, rfl, by decide +kernel, rfl, by decide +kernel, by decide +kernel⟩
abbrev s_law_year : Stmt := topS 30
theorem sc_law_year : FnScope ["draw", "some"] ["draw"] (defScope s_law_year) := ⟨rfl, rfl, rfl, by decide +kernel, rfl, by decide +kernel, by decide +kernel⟩
abbrev s_law_date : Stmt := topS 31
theorem sc_law_date : FnScope ["draw", "y", "mo", "way", "most"] ["draw"] (defScope s_law_date) := ⟨rfl, rfl, rfl, by decide +kernel, rfl, by decide +kernel, by decide +kernel⟩
abbrev s_law_day_right : Stmt := topS 32
theorem sc_law_day_right : FnScope ["seen", "y", "mo", "d", "due", "told", "later"] ["seen"] (defScope s_law_day_right) := ⟨rfl, rfl, rfl, by decide +kernel, rfl, by decide +kernel, by decide +kernel⟩
abbrev s_law : Stmt := topS 33
theorem sc_law : FnScope ["script", "draw", "turn", "y", "told", "mo"] ["script"] (defScope s_law) := ⟨rfl, rfl, rfl, by decide +kernel, rfl, by decide +kernel, by decide +kernel⟩
@[reducible] def g_check_day_3_ {α : Type} (us _ws : List α) : List α := us
theorem b_check_day_3_ : Bnd s_check_day "check_day" "check_day" ["year", "month", "day"] 3 ([] : List Str) @g_check_day_3_ := fun _ _ _ _ _ _ us ws h1 h2 => match us, ws, h1, h2 with | [_, _, _], [], _, _ => ⟨rfl, rfl⟩
theorem b_check_day_3__s : Shuf 3 0 @g_check_day_3_ := fun _ _ _ _ r _ _ _ => r
@[reducible] def g_check_month_2_ {α : Type} (us _ws : List α) : List α := us
theorem b_check_month_2_ : Bnd s_check_month "check_month" "check_month" ["year", "month"] 2 ([] : List Str) @g_check_month_2_ := fun _ _ _ _ _ _ us ws h1 h2 => match us, ws, h1, h2 with | [_, _], [], _, _ => ⟨rfl, rfl⟩
theorem b_check_month_2__s : Shuf 2 0 @g_check_month_2_ := fun _ _ _ _ r _ _ _ => r
@[reducible] def g_check_number_1_ {α : Type} (us _ws : List α) : List α := us
theorem b_check_number_1_ : Bnd s_check_number "check_number" "check_number" ["number"] 1 ([] : List Str) @g_check_number_1_ := fun _ _ _ _ _ _ us ws h1 h2 => match us, ws, h1, h2 with | [_], [], _, _ => ⟨rfl, rfl⟩
theorem b_check_number_1__s : Shuf 1 0 @g_check_number_1_ := fun _ _ _ _ r _ _ _ => r
@[reducible] def g_check_year_1_ {α : Type} (us _ws : List α) : List α := us
theorem b_check_year_1_ : Bnd s_check_year "check_year" "check_year" ["year"] 1 ([] : List Str) @g_check_year_1_ := fun _ _ _ _ _ _ us ws h1 h2 => match us, ws, h1, h2 with | [_], [], _, _ => ⟨rfl, rfl⟩
theorem b_check_year_1__s : Shuf 1 0 @g_check_year_1_ := fun _ _ _ _ r _ _ _ => r
def g_date_of_0_number {α : Type} : List α → List α → List α
  | [], [w0] => [w0]
  | _, _ => []
theorem b_date_of_0_number : Bnd s_date_of "date_of" "date_of" ["number"] 0 (["number"] : List Str) @g_date_of_0_number := fun _ _ _ _ _ _ us ws h1 h2 => match us, ws, h1, h2 with | [], [_], _, _ => ⟨rfl, rfl⟩
theorem b_date_of_0_number_s : Shuf 0 1 @g_date_of_0_number := by
  intro xs us zs ws r q h1 h2
  obtain ⟨rfl, rfl⟩ := vals_0 r h1
  obtain ⟨z0, w0, _, _, rfl, rfl, c0, q, h2⟩ := vals_S q h2
  obtain ⟨rfl, rfl⟩ := vals_0 q h2
  exact .cons c0 (.nil)
@[reducible] def g_date_of_1_ {α : Type} (us _ws : List α) : List α := us
theorem b_date_of_1_ : Bnd s_date_of "date_of" "date_of" ["number"] 1 ([] : List Str) @g_date_of_1_ := fun _ _ _ _ _ _ us ws h1 h2 => match us, ws, h1, h2 with | [_], [], _, _ => ⟨rfl, rfl⟩
theorem b_date_of_1__s : Shuf 1 0 @g_date_of_1_ := fun _ _ _ _ r _ _ _ => r
def g_day_number_0_day_month_year {α : Type} : List α → List α → List α
  | [], [w0, w1, w2] => [w2, w1, w0]
  | _, _ => []
theorem b_day_number_0_day_month_year : Bnd s_day_number "day_number" "day_number" ["year", "month", "day"] 0 (["day", "month", "year"] : List Str) @g_day_number_0_day_month_year := fun _ _ _ _ _ _ us ws h1 h2 => match us, ws, h1, h2 with | [], [_, _, _], _, _ => ⟨rfl, rfl⟩
theorem b_day_number_0_day_month_year_s : Shuf 0 3 @g_day_number_0_day_month_year := by
  intro xs us zs ws r q h1 h2
  obtain ⟨rfl, rfl⟩ := vals_0 r h1
  obtain ⟨z0, w0, _, _, rfl, rfl, c0, q, h2⟩ := vals_S q h2
  obtain ⟨z1, w1, _, _, rfl, rfl, c1, q, h2⟩ := vals_S q h2
  obtain ⟨z2, w2, _, _, rfl, rfl, c2, q, h2⟩ := vals_S q h2
  obtain ⟨rfl, rfl⟩ := vals_0 q h2
  exact .cons c2 (.cons c1 (.cons c0 (.nil)))
@[reducible] def g_day_number_3_ {α : Type} (us _ws : List α) : List α := us
theorem b_day_number_3_ : Bnd s_day_number "day_number" "day_number" ["year", "month", "day"] 3 ([] : List Str) @g_day_number_3_ := fun _ _ _ _ _ _ us ws h1 h2 => match us, ws, h1, h2 with | [_, _, _], [], _, _ => ⟨rfl, rfl⟩
theorem b_day_number_3__s : Shuf 3 0 @g_day_number_3_ := fun _ _ _ _ r _ _ _ => r
def g_days_in_0_month_year {α : Type} : List α → List α → List α
  | [], [w0, w1] => [w1, w0]
  | _, _ => []
theorem b_days_in_0_month_year : Bnd s_days_in "days_in" "days_in" ["year", "month"] 0 (["month", "year"] : List Str) @g_days_in_0_month_year := fun _ _ _ _ _ _ us ws h1 h2 => match us, ws, h1, h2 with | [], [_, _], _, _ => ⟨rfl, rfl⟩
theorem b_days_in_0_month_year_s : Shuf 0 2 @g_days_in_0_month_year := by
  intro xs us zs ws r q h1 h2
  obtain ⟨rfl, rfl⟩ := vals_0 r h1
  obtain ⟨z0, w0, _, _, rfl, rfl, c0, q, h2⟩ := vals_S q h2
  obtain ⟨z1, w1, _, _, rfl, rfl, c1, q, h2⟩ := vals_S q h2
  obtain ⟨rfl, rfl⟩ := vals_0 q h2
  exact .cons c1 (.cons c0 (.nil))
@[reducible] def g_days_in_2_ {α : Type} (us _ws : List α) : List α := us
theorem b_days_in_2_ : Bnd s_days_in "days_in" "days_in" ["year", "month"] 2 ([] : List Str) @g_days_in_2_ := fun _ _ _ _ _ _ us ws h1 h2 => match us, ws, h1, h2 with | [_, _], [], _, _ => ⟨rfl, rfl⟩
theorem b_days_in_2__s : Shuf 2 0 @g_days_in_2_ := fun _ _ _ _ r _ _ _ => r
@[reducible] def g_first_day_1_ {α : Type} (us _ws : List α) : List α := us
theorem b_first_day_1_ : Bnd s_first_day "first_day" "first_day" ["year"] 1 ([] : List Str) @g_first_day_1_ := fun _ _ _ _ _ _ us ws h1 h2 => match us, ws, h1, h2 with | [_], [], _, _ => ⟨rfl, rfl⟩
theorem b_first_day_1__s : Shuf 1 0 @g_first_day_1_ := fun _ _ _ _ r _ _ _ => r
@[reducible] def g_has_leap_day_1_ {α : Type} (us _ws : List α) : List α := us
theorem b_has_leap_day_1_ : Bnd s_has_leap_day "has_leap_day" "has_leap_day" ["year"] 1 ([] : List Str) @g_has_leap_day_1_ := fun _ _ _ _ _ _ us ws h1 h2 => match us, ws, h1, h2 with | [_], [], _, _ => ⟨rfl, rfl⟩
theorem b_has_leap_day_1__s : Shuf 1 0 @g_has_leap_day_1_ := fun _ _ _ _ r _ _ _ => r
def g_is_leap_0_year {α : Type} : List α → List α → List α
  | [], [w0] => [w0]
  | _, _ => []
theorem b_is_leap_0_year : Bnd s_is_leap "is_leap" "is_leap" ["year"] 0 (["year"] : List Str) @g_is_leap_0_year := fun _ _ _ _ _ _ us ws h1 h2 => match us, ws, h1, h2 with | [], [_], _, _ => ⟨rfl, rfl⟩
theorem b_is_leap_0_year_s : Shuf 0 1 @g_is_leap_0_year := by
  intro xs us zs ws r q h1 h2
  obtain ⟨rfl, rfl⟩ := vals_0 r h1
  obtain ⟨z0, w0, _, _, rfl, rfl, c0, q, h2⟩ := vals_S q h2
  obtain ⟨rfl, rfl⟩ := vals_0 q h2
  exact .cons c0 (.nil)
@[reducible] def g_is_leap_1_ {α : Type} (us _ws : List α) : List α := us
theorem b_is_leap_1_ : Bnd s_is_leap "is_leap" "is_leap" ["year"] 1 ([] : List Str) @g_is_leap_1_ := fun _ _ _ _ _ _ us ws h1 h2 => match us, ws, h1, h2 with | [_], [], _, _ => ⟨rfl, rfl⟩
theorem b_is_leap_1__s : Shuf 1 0 @g_is_leap_1_ := fun _ _ _ _ r _ _ _ => r
@[reducible] def g_is_whole_3_ {α : Type} (us _ws : List α) : List α := us
theorem b_is_whole_3_ : Bnd s_is_whole "is_whole" "is_whole" ["thing", "least", "most"] 3 ([] : List Str) @g_is_whole_3_ := fun _ _ _ _ _ _ us ws h1 h2 => match us, ws, h1, h2 with | [_, _, _], [], _, _ => ⟨rfl, rfl⟩
theorem b_is_whole_3__s : Shuf 3 0 @g_is_whole_3_ := fun _ _ _ _ r _ _ _ => r
@[reducible] def g_law_begin_1_ {α : Type} (us _ws : List α) : List α := us
theorem b_law_begin_1_ : Bnd s_law_begin "_law_begin" "_law_begin" ["script"] 1 ([] : List Str) @g_law_begin_1_ := fun _ _ _ _ _ _ us ws h1 h2 => match us, ws, h1, h2 with | [_], [], _, _ => ⟨rfl, rfl⟩
theorem b_law_begin_1__s : Shuf 1 0 @g_law_begin_1_ := fun _ _ _ _ r _ _ _ => r
@[reducible] def g_law_date_1_ {α : Type} (us _ws : List α) : List α := us
theorem b_law_date_1_ : Bnd s_law_date "_law_date" "_law_date" ["draw"] 1 ([] : List Str) @g_law_date_1_ := fun _ _ _ _ _ _ us ws h1 h2 => match us, ws, h1, h2 with | [_], [], _, _ => ⟨rfl, rfl⟩
theorem b_law_date_1__s : Shuf 1 0 @g_law_date_1_ := fun _ _ _ _ r _ _ _ => r
@[reducible] def g_law_day_right_1_ {α : Type} (us _ws : List α) : List α := us
theorem b_law_day_right_1_ : Bnd s_law_day_right "_law_day_right" "_law_day_right" ["seen"] 1 ([] : List Str) @g_law_day_right_1_ := fun _ _ _ _ _ _ us ws h1 h2 => match us, ws, h1, h2 with | [_], [], _, _ => ⟨rfl, rfl⟩
theorem b_law_day_right_1__s : Shuf 1 0 @g_law_day_right_1_ := fun _ _ _ _ r _ _ _ => r
@[reducible] def g_law_length_2_ {α : Type} (us _ws : List α) : List α := us
theorem b_law_length_2_ : Bnd s_law_length "_law_length" "_law_length" ["y", "mo"] 2 ([] : List Str) @g_law_length_2_ := fun _ _ _ _ _ _ us ws h1 h2 => match us, ws, h1, h2 with | [_, _], [], _, _ => ⟨rfl, rfl⟩
theorem b_law_length_2__s : Shuf 2 0 @g_law_length_2_ := fun _ _ _ _ r _ _ _ => r
@[reducible] def g_law_mixed_2_ {α : Type} (us _ws : List α) : List α := us
theorem b_law_mixed_2_ : Bnd s_law_mixed "_law_mixed" "_law_mixed" ["cell", "k"] 2 ([] : List Str) @g_law_mixed_2_ := fun _ _ _ _ _ _ us ws h1 h2 => match us, ws, h1, h2 with | [_, _], [], _, _ => ⟨rfl, rfl⟩
theorem b_law_mixed_2__s : Shuf 2 0 @g_law_mixed_2_ := fun _ _ _ _ r _ _ _ => r
@[reducible] def g_law_next_2_ {α : Type} (us _ws : List α) : List α := us
theorem b_law_next_2_ : Bnd s_law_next "_law_next" "_law_next" ["draw", "bound"] 2 ([] : List Str) @g_law_next_2_ := fun _ _ _ _ _ _ us ws h1 h2 => match us, ws, h1, h2 with | [_, _], [], _, _ => ⟨rfl, rfl⟩
theorem b_law_next_2__s : Shuf 2 0 @g_law_next_2_ := fun _ _ _ _ r _ _ _ => r
@[reducible] def g_law_next_day_3_ {α : Type} (us _ws : List α) : List α := us
theorem b_law_next_day_3_ : Bnd s_law_next_day "_law_next_day" "_law_next_day" ["y", "mo", "d"] 3 ([] : List Str) @g_law_next_day_3_ := fun _ _ _ _ _ _ us ws h1 h2 => match us, ws, h1, h2 with | [_, _, _], [], _, _ => ⟨rfl, rfl⟩
theorem b_law_next_day_3__s : Shuf 3 0 @g_law_next_day_3_ := fun _ _ _ _ r _ _ _ => r
@[reducible] def g_law_number_3_ {α : Type} (us _ws : List α) : List α := us
theorem b_law_number_3_ : Bnd s_law_number "_law_number" "_law_number" ["y", "mo", "d"] 3 ([] : List Str) @g_law_number_3_ := fun _ _ _ _ _ _ us ws h1 h2 => match us, ws, h1, h2 with | [_, _, _], [], _, _ => ⟨rfl, rfl⟩
theorem b_law_number_3__s : Shuf 3 0 @g_law_number_3_ := fun _ _ _ _ r _ _ _ => r
@[reducible] def g_law_year_1_ {α : Type} (us _ws : List α) : List α := us
theorem b_law_year_1_ : Bnd s_law_year "_law_year" "_law_year" ["draw"] 1 ([] : List Str) @g_law_year_1_ := fun _ _ _ _ _ _ us ws h1 h2 => match us, ws, h1, h2 with | [_], [], _, _ => ⟨rfl, rfl⟩
theorem b_law_year_1__s : Shuf 1 0 @g_law_year_1_ := fun _ _ _ _ r _ _ _ => r
@[reducible] def g_month_length_2_ {α : Type} (us _ws : List α) : List α := us
theorem b_month_length_2_ : Bnd s_month_length "month_length" "month_length" ["year", "month"] 2 ([] : List Str) @g_month_length_2_ := fun _ _ _ _ _ _ us ws h1 h2 => match us, ws, h1, h2 with | [_, _], [], _, _ => ⟨rfl, rfl⟩
theorem b_month_length_2__s : Shuf 2 0 @g_month_length_2_ := fun _ _ _ _ r _ _ _ => r
def g_weekday_of_0_number {α : Type} : List α → List α → List α
  | [], [w0] => [w0]
  | _, _ => []
theorem b_weekday_of_0_number : Bnd s_weekday_of "weekday_of" "weekday_of" ["number"] 0 (["number"] : List Str) @g_weekday_of_0_number := fun _ _ _ _ _ _ us ws h1 h2 => match us, ws, h1, h2 with | [], [_], _, _ => ⟨rfl, rfl⟩
theorem b_weekday_of_0_number_s : Shuf 0 1 @g_weekday_of_0_number := by
  intro xs us zs ws r q h1 h2
  obtain ⟨rfl, rfl⟩ := vals_0 r h1
  obtain ⟨z0, w0, _, _, rfl, rfl, c0, q, h2⟩ := vals_S q h2
  obtain ⟨rfl, rfl⟩ := vals_0 q h2
  exact .cons c0 (.nil)
@[reducible] def g_weekday_of_1_ {α : Type} (us _ws : List α) : List α := us
theorem b_weekday_of_1_ : Bnd s_weekday_of "weekday_of" "weekday_of" ["number"] 1 ([] : List Str) @g_weekday_of_1_ := fun _ _ _ _ _ _ us ws h1 h2 => match us, ws, h1, h2 with | [_], [], _, _ => ⟨rfl, rfl⟩
theorem b_weekday_of_1__s : Shuf 1 0 @g_weekday_of_1_ := fun _ _ _ _ r _ _ _ => r
structure Txt (K : PySem.W.Frag) (mg : Str → Option Value) : Prop where
  d_law_begin : ∃ f, mg "_law_begin" = some (.ref f) ∧ ∃ fd, Fun K "_law_begin" "_law_begin" s_law_begin f fd
  d_law_mixed : ∃ f, mg "_law_mixed" = some (.ref f) ∧ ∃ fd, Fun K "_law_mixed" "_law_mixed" s_law_mixed f fd
  d_law_next : ∃ f, mg "_law_next" = some (.ref f) ∧ ∃ fd, Fun K "_law_next" "_law_next" s_law_next f fd
  d_is_whole : ∃ f, mg "is_whole" = some (.ref f) ∧ ∃ fd, Fun K "is_whole" "is_whole" s_is_whole f fd
  d_has_leap_day : ∃ f, mg "has_leap_day" = some (.ref f) ∧ ∃ fd, Fun K "has_leap_day" "has_leap_day" s_has_leap_day f fd
  d_month_length : ∃ f, mg "month_length" = some (.ref f) ∧ ∃ fd, Fun K "month_length" "month_length" s_month_length f fd
  d_first_day : ∃ f, mg "first_day" = some (.ref f) ∧ ∃ fd, Fun K "first_day" "first_day" s_first_day f fd
  d_check_year : ∃ f, mg "check_year" = some (.ref f) ∧ ∃ fd, Fun K "check_year" "check_year" s_check_year f fd
  d_check_month : ∃ f, mg "check_month" = some (.ref f) ∧ ∃ fd, Fun K "check_month" "check_month" s_check_month f fd
  d_check_day : ∃ f, mg "check_day" = some (.ref f) ∧ ∃ fd, Fun K "check_day" "check_day" s_check_day f fd
  d_check_number : ∃ f, mg "check_number" = some (.ref f) ∧ ∃ fd, Fun K "check_number" "check_number" s_check_number f fd
  d_is_leap : ∃ f, mg "is_leap" = some (.ref f) ∧ ∃ fd, Fun K "is_leap" "is_leap" s_is_leap f fd
  d_days_in : ∃ f, mg "days_in" = some (.ref f) ∧ ∃ fd, Fun K "days_in" "days_in" s_days_in f fd
  d_day_number : ∃ f, mg "day_number" = some (.ref f) ∧ ∃ fd, Fun K "day_number" "day_number" s_day_number f fd
  d_date_of : ∃ f, mg "date_of" = some (.ref f) ∧ ∃ fd, Fun K "date_of" "date_of" s_date_of f fd
  d_weekday_of : ∃ f, mg "weekday_of" = some (.ref f) ∧ ∃ fd, Fun K "weekday_of" "weekday_of" s_weekday_of f fd
  d_law_length : ∃ f, mg "_law_length" = some (.ref f) ∧ ∃ fd, Fun K "_law_length" "_law_length" s_law_length f fd
  d_law_number : ∃ f, mg "_law_number" = some (.ref f) ∧ ∃ fd, Fun K "_law_number" "_law_number" s_law_number f fd
  d_law_next_day : ∃ f, mg "_law_next_day" = some (.ref f) ∧ ∃ fd, Fun K "_law_next_day" "_law_next_day" s_law_next_day f fd
  d_law_year : ∃ f, mg "_law_year" = some (.ref f) ∧ ∃ fd, Fun K "_law_year" "_law_year" s_law_year f fd
  d_law_date : ∃ f, mg "_law_date" = some (.ref f) ∧ ∃ fd, Fun K "_law_date" "_law_date" s_law_date f fd
  d_law_day_right : ∃ f, mg "_law_day_right" = some (.ref f) ∧ ∃ fd, Fun K "_law_day_right" "_law_day_right" s_law_day_right f fd
  d_law : ∃ f, mg "law" = some (.ref f) ∧ ∃ fd, Fun K "law" "law" s_law f fd
  b_bool : mg "bool" = none
  b_int : mg "int" = none
  b_isinstance : mg "isinstance" = none
  b_len : mg "len" = none
  b_min : mg "min" = none
  b_range : mg "range" = none
  b_repr : mg "repr" = none
  b_sum : mg "sum" = none
  c_LAST_YEAR : ∃ u, mg "LAST_YEAR" = some u ∧ RelV (V.int 9999) u
  c_LENGTHS : ∃ a, mg "LENGTHS" = some (.ref a) ∧ ∀ H : Hp, SqT K H a [V.int 31, V.int 28, V.int 31, V.int 30, V.int 31, V.int 30, V.int 31, V.int 31, V.int 30, V.int 31, V.int 30, V.int 31]
  c_CYCLE_YEARS : ∃ u, mg "CYCLE_YEARS" = some u ∧ RelV (V.int 400) u
  c_CYCLE_DAYS : ∃ u, mg "CYCLE_DAYS" = some u ∧ RelV (V.int 146097) u
  c_LAST_DAY : ∃ u, mg "LAST_DAY" = some u ∧ RelV (V.int 3652059) u
variable {P : Program} {w : World} {K : PySem.W.Frag} {mg : Str → Option Value} {base : Heap}

def sp_law_begin (K : PySem.W.Frag) : Sp := fun vs H Q _ =>
  ∃ (a : Addr) (ns : List Int), vs = [.ref a] ∧ SqL K H a (ns.map V.int) ∧ ns.length ≤ 63 ∧ ∀ H' d, Same H H' → H d = none → DrawAt K 0 H' d → Q (.ref d) H'
theorem df_law_begin (T : Txt K mg) : Df P w K mg base 1 "_law_begin" s_law_begin ["script"] (sp_law_begin K) := by
  have sc := sc_law_begin
  obtain ⟨f, hm, fd, F⟩ := T.d_law_begin
  refine ⟨f, fd, hm, F, okG F sc (by fail "many") (fun cdv A outer s H vs Q E hr h => ?_)⟩
  · obtain ⟨a, ns, rfl, hs, hn, k⟩ := h
    refine ⟨_, (pss_one (ps_ret (pe_disp (pps_cons pe_str (pe_op op_addA (pv 0) (pe_lst (pa_cons pe_int pa_nil))) (pps_cons pe_str pe_int (pps_cons pe_str pe_int (pps_cons pe_str pe_int pps_nil)))) (by rfl) (by rfl) (fun z => by cases z) (by decide)))), ?_⟩
    dsimp only [cxOf, Cx.wish, L2.start, List.map, List.length, List.replicate, List.append, List.cons_append, List.nil_append, Nat.reduceAdd, Nat.reduceSub, Nat.zero_add]
    refine g_ret ?_
    intro p np
    have hs1 := seq_new (o := HO.dK []) np hs
    fail "go"
    · simp only [List.length_map, List.length_cons, List.length_nil]
      exact Nat.le_trans (by omega : _ ≤ 100) (by decide)
    rename_i p1 np1 p2 np2
    refine ⟨by fail "h", drawK p2 0 0 0, rfl, (by show 4 ≤ 15; decide), ?_⟩
    refine k _ p (by fail "same") np ⟨p2, ns ++ [0], 0, 0, 0, upd_same, ?_, by simp, by simp; omega, by omega, by omega, by omega, by omega⟩
    rw [List.map_append]
    exact SqL.of (upd_off (Ne.symm (ne_of_none (upd_new np1 upd_same) np2)) upd_same)
local macro_rules | `(tactic| nofun) => `(tactic| ((with_reducible show sp_law_begin _ _ _ _ _); refine ⟨_, _, rfl, by with_reducible (fail "sq"), by assumption, fun H' d s' nd D => ?_⟩))

def sp_law_mixed (K : PySem.W.Frag) : Sp := fun vs H Q _ =>
  ∃ x k : Int, vs = [.int x, .int k] ∧ 0 ≤ k ∧ k ≤ 1000000000 ∧ ∀ H' r, Same H H' → 0 ≤ r → Q (.int r) H'
theorem df_law_mixed (T : Txt K mg) : Df P w K mg base 1 "_law_mixed" s_law_mixed ["cell", "k"] (sp_law_mixed K) := by
  have sc := sc_law_mixed
  obtain ⟨f, hm, fd, F⟩ := T.d_law_mixed
  refine ⟨f, fd, hm, F, okG F sc (by fail "many") (fun cdv A outer s H vs Q E hr h => ?_)⟩
  · obtain ⟨x, k, rfl, h1, h2, q⟩ := h
    refine ⟨_, (pss_cons (ps_set (i := 2) sc.nd rfl (Or.inl rfl) (pe_op op_modA (pe_op op_addA (pe_op op_addA (pe_op op_addA (pe_op op_modA (pv 0) pe_int) (pe_op op_mulA (pe_op op_mulA pe_int (pv 1)) (pv 1))) (pe_op op_mulA pe_int (pv 1))) pe_int) pe_int))
 (pss_cons (ps_set (i := 2) sc.nd rfl (Or.inl rfl) (pe_op op_modA (pe_op op_mulA (pe_op op_modA (pe_op op_mulA (pv 2) (pv 2)) pe_int) (pv 2)) pe_int))
 (pss_one (ps_ret (pe_op op_divA (pe_op op_modA (pe_op op_mulA (pv 2) (pe_op op_addA pe_int (pe_op op_mulA pe_int (pe_op op_modA (pv 1) pe_int)))) pe_int) pe_int))))), ?_⟩
    dsimp only [cxOf, Cx.wish, L2.start, List.map, List.length, List.replicate, List.append, List.cons_append, List.nil_append, Nat.reduceAdd, Nat.reduceSub, Nat.zero_add]
    fail "go"
    exact q _ _ (Same.refl _) (by omega)
local macro_rules | `(tactic| nofun) => `(tactic| ((with_reducible show sp_law_mixed _ _ _ _ _); refine ⟨_, _, rfl, by omega, by omega, fun H' r s' hr0 => ?_⟩))

def sp_law_next (K : PySem.W.Frag) : Sp := fun vs H Q _ =>
  ∃ (d : Addr) (b : Int) (n : Nat), vs = [.ref d, .int b] ∧ 0 < b ∧ b < 1000000000 ∧ DrawAt K n H d ∧ n < 1000000000 ∧ ∀ H' r, Keep d H H' → DrawAt K (n + 1) H' d → 0 ≤ r → r < b → Q (.int r) H'
theorem df_law_next (T : Txt K mg) : Df P w K mg base 2 "_law_next" s_law_next ["draw", "bound"] (sp_law_next K) := by
  have sc := sc_law_next
  obtain ⟨f, hm, fd, F⟩ := T.d_law_next
  refine ⟨f, fd, hm, F, okG F sc (by fail "many") (fun cdv A outer s H vs Q E hr h => ?_)⟩
  · obtain ⟨d, b, n, rfl, h1, h2, D, h3, k⟩ := h
    refine ⟨_, (pss_cons (ps_if (pt_cmpR op_gtA (pe_dget (hu_of hr.rm) (pv 0) pe_str (fun _ _ => rfl)) pe_int (nomark _)) (pss_cons (ps_set (i := 2) sc.nd rfl (Or.inl rfl) (pe_op op_modA (pe_dget (hu_of hr.rm) (pv 0) pe_str (fun _ _ => rfl)) (pv 1)))
 (pss_cons (ps_dput (hu_of hr.rm) (pv 0) pe_str (pe_op op_divA (pe_dget (hu_of hr.rm) (pv 0) pe_str (fun _ _ => rfl)) (pv 1)) rfl)
 (pss_one (ps_ret (pv 2))))) pss_nil)
 (pss_cons (ps_set (i := 3) sc.nd rfl (Or.inl rfl) (pe_dget (hu_of hr.rm) (pv 0) pe_str (fun _ _ => rfl)))
 (pss_cons (ps_set (i := 4) sc.nd rfl (Or.inl rfl) (pe_ix ix_seq (pv 3) (pe_op op_modA (pe_dget (hu_of hr.rm) (pv 0) pe_str (fun _ _ => rfl)) (pe_callB call_lenA (by rfl) T.b_len (by decide +kernel) (pa_cons (pv 3) pa_nil))) (fun _ _ => rfl)))
 (pss_cons (ps_dput (hu_of hr.rm) (pv 0) pe_str (pe_op op_addA (pe_dget (hu_of hr.rm) (pv 0) pe_str (fun _ _ => rfl)) pe_int) rfl)
 (pss_cons (ps_if (PW.pt (pw_and (pt_cmpR op_geA (pv 4) (pe_op op_powA pe_int pe_int) (nomark _)) (pw_and1 (pt_cmpR op_leA (pe_dget (hu_of hr.rm) (pv 0) pe_str (fun _ _ => rfl)) (pe_callB call_lenA (by rfl) T.b_len (by decide +kernel) (pa_cons (pv 3) pa_nil)) (nomark _))))) (pss_cons (ps_dput (hu_of hr.rm) (pv 0) pe_str (pe_op op_divA (pv 4) (pv 1)) rfl)
 (pss_one (ps_ret (pe_op op_modA (pv 4) (pv 1))))) pss_nil)
 (pss_cons (ps_dput (hu_of hr.rm) (pv 0) pe_str (pe_op op_addA (pe_dget (hu_of hr.rm) (pv 0) pe_str (fun _ _ => rfl)) pe_int) rfl)
 (pss_one (ps_ret (pe_op op_modA (pe_callG (sp := sp_law_mixed K) (df_law_mixed T) hr (by decide) b_law_mixed_2_ b_law_mixed_2__s (pa_cons (pe_callG (sp := sp_law_mixed K) (df_law_mixed T) hr (by decide) b_law_mixed_2_ b_law_mixed_2__s (pa_cons (pv 4) (pa_cons (pe_dget (hu_of hr.rm) (pv 0) pe_str (fun _ _ => rfl)) pa_nil)) pk_nil) (pa_cons (pe_dget (hu_of hr.rm) (pv 0) pe_str (fun _ _ => rfl)) pa_nil)) pk_nil) (pv 1)))))))))), ?_⟩
    dsimp only [cxOf, Cx.wish, L2.start, List.map, List.length, List.replicate, List.append, List.cons_append, List.nil_append, Nat.reduceAdd, Nat.reduceSub, Nat.zero_add]
    obtain ⟨c, ns, a, l, u, hd, hs, g1, g2, g3, g4, g5, g6⟩ := id D
    fail "go"
    · exact k _ _ (Keep.set (Keep.refl _ _)) ⟨c, ns, a, _, u, upd_same, Keep.seq (Keep.set (Keep.refl _ _)) D hs, by omega, by omega, by omega, by omega, by omega, by omega⟩ (Int.emod_nonneg _ (by omega)) (Int.emod_lt_of_pos _ h1)
    obtain ⟨x, hx, _⟩ := at_ints (ns := ns) (i := a % (ns.length : Int)) (Int.emod_nonneg _ (by omega)) (Int.emod_lt_of_pos _ (by omega))
    have hx' : atI (ns.map V.int) (a % ((ns.map V.int).length : Int)) = some (.int x) := by rw [List.length_map]; exact hx
    refine g_ixL hs hx' ?_
    have S0 : ∀ o, SqL K (upd H d o) c (ns.map V.int) := fun o => Keep.seq (Keep.set (Keep.refl _ _)) D hs
    have S1 := S0 (HO.dK (drawK c (a + 1) l u))
    have S2 : ∀ o', SqL K (upd (upd H d (HO.dK (drawK c (a + 1) l u))) d o') c (ns.map V.int) := fun o' => Keep.seq (Keep.set (Keep.set (Keep.refl _ _))) D hs
    have D2 : DrawAt K (n + 1) (upd (upd H d (HO.dK (drawK c (a + 1) l u))) d (HO.dK (drawK c (a + 1) l (u + 1)))) d := ⟨c, ns, a + 1, l, u + 1, upd_same, S2 _, g1, g2, by omega, by omega, by omega, by omega⟩
    fail "go"
    · exact k _ _ (by fail "keep") ⟨c, ns, a + 1, _, u, upd_same, S2 _, g1, g2, by omega, by omega, by omega, by omega⟩ (Int.emod_nonneg _ (by omega)) (Int.emod_lt_of_pos _ h1)
    all_goals exact k _ _ (by fail "keep") (by fail "dr") (Int.emod_nonneg _ (by omega)) (Int.emod_lt_of_pos _ h1)
local macro_rules | `(tactic| nofun) => `(tactic| ((with_reducible show sp_law_next _ _ _ _ _); refine ⟨_, _, _, rfl, by omega, by omega, by with_reducible (fail "dr"), by omega, fun H' r k' D' hr0 hr1 => ?_⟩))

def sp_is_whole (K : PySem.W.Frag) : Sp := fun vs H Q _ =>
  ∃ i a b : Int, vs = [.int i, .int a, .int b] ∧ ∀ H', Same H H' → Q (.bl (decide (a ≤ i ∧ i ≤ b))) H'
theorem df_is_whole (T : Txt K mg) : Df P w K mg base 1 "is_whole" s_is_whole ["thing", "least", "most"] (sp_is_whole K) := by
  have sc := sc_is_whole
  obtain ⟨f, hm, fd, F⟩ := T.d_is_whole
  refine ⟨f, fd, hm, F, okG F sc (by fail "many") (fun cdv A outer s H vs Q E hr h => ?_)⟩
  · obtain ⟨i, a, b, rfl, k⟩ := h
    refine ⟨_, (pss_one (ps_ret (pe_and (pe_callB call_isi (by rfl) T.b_isinstance (by decide +kernel) (pa_cons (pv 0) (pa_cons (pe_bltn (v := V.ty "int") (u := .type "int") (by rfl) T.b_int (by decide +kernel) rfl) pa_nil))) (pe_and (pe_not (pe_callB call_isi (by rfl) T.b_isinstance (by decide +kernel) (pa_cons (pv 0) (pa_cons (pe_bltn (v := V.ty "bool") (u := .type "bool") (by rfl) T.b_bool (by decide +kernel) rfl) pa_nil)))) (pe_one (pe_chain op_leA op_leA (pv 1) (pv 0) (pv 2))))))), ?_⟩
    dsimp only [cxOf, Cx.wish, L2.start, List.map, List.length, List.replicate, List.append, List.cons_append, List.nil_append, Nat.reduceAdd, Nat.reduceSub, Nat.zero_add]
    fail "go"
    · exact finB k (by simp [*]) (Same.refl _)
    · exact finB k (by simp [*]) (Same.refl _)
local macro_rules | `(tactic| nofun) => `(tactic| ((with_reducible show sp_is_whole _ _ _ _ _); refine ⟨_, _, _, rfl, fun H' s' => ?_⟩))

def sp_has_leap_day (K : PySem.W.Frag) : Sp := fun vs H Q _ =>
  ∃ y : Int, vs = [.int y] ∧ ∀ H', Same H H' → Q (.bl (leap y)) H'
theorem df_has_leap_day (T : Txt K mg) : Df P w K mg base 1 "has_leap_day" s_has_leap_day ["year"] (sp_has_leap_day K) := by
  have sc := sc_has_leap_day
  obtain ⟨f, hm, fd, F⟩ := T.d_has_leap_day
  refine ⟨f, fd, hm, F, okG F sc (by fail "many") (fun cdv A outer s H vs Q E hr h => ?_)⟩
  · obtain ⟨y, rfl, k⟩ := h
    refine ⟨_, (pss_one (ps_ret (pe_and (pe_cmpR (op_eqA hr) (pe_op op_modA (pv 0) pe_int) pe_int (nomark _)) (pe_one (pe_or (pe_cmpR (op_neA hr) (pe_op op_modA (pv 0) pe_int) pe_int (nomark _)) (pe_one (pe_cmpR (op_eqA hr) (pe_op op_modA (pv 0) pe_int) pe_int (nomark _)))))))), ?_⟩
    dsimp only [cxOf, Cx.wish, L2.start, List.map, List.length, List.replicate, List.append, List.cons_append, List.nil_append, Nat.reduceAdd, Nat.reduceSub, Nat.zero_add]
    fail "go"
    · exact finB k (by simp [leap, *]) (Same.refl _)
    · exact finB k (by simp [leap, *]) (Same.refl _)
    · exact finB k (by simp [leap, *]) (Same.refl _)
local macro_rules | `(tactic| nofun) => `(tactic| ((with_reducible show sp_has_leap_day _ _ _ _ _); refine ⟨_, rfl, fun H' s' => ?_⟩))

def sp_month_length (K : PySem.W.Frag) : Sp := fun vs H Q _ =>
  ∃ y m : Int, vs = [.int y, .int m] ∧ 1 ≤ m ∧ m ≤ 12 ∧ ∀ H', Same H H' → Q (.int (mlen y m)) H'
theorem df_month_length (T : Txt K mg) : Df P w K mg base 2 "month_length" s_month_length ["year", "month"] (sp_month_length K) := by
  have sc := sc_month_length
  obtain ⟨f, hm, fd, F⟩ := T.d_month_length
  refine ⟨f, fd, hm, F, okG F sc (by fail "many") (fun cdv A outer s H vs Q E hr h => ?_)⟩
  · obtain ⟨y, m, rfl, h1, h2, k⟩ := h
    obtain ⟨a_LENGTHS, hm_LENGTHS, sq_LENGTHS⟩ := T.c_LENGTHS
    refine ⟨_, (pss_one (ps_ret (pe_ifExp (PW.pt (pw_and (pt_cmpR (op_eqA hr) (pv 1) pe_int (nomark _)) (pw_and1 (pt_val (pe_callG (sp := sp_has_leap_day K) (df_has_leap_day T) hr (by decide) b_has_leap_day_1_ b_has_leap_day_1__s (pa_cons (pv 0) pa_nil) pk_nil))))) pe_int (pe_ix ix_seq (pe_globE (v := V.ref a_LENGTHS) ⟨_, hm_LENGTHS, rfl⟩) (pe_op op_subA (pv 1) pe_int) (fun _ _ => rfl))))), ?_⟩
    dsimp only [cxOf, Cx.wish, L2.start, List.map, List.length, List.replicate, List.append, List.cons_append, List.nil_append, Nat.reduceAdd, Nat.reduceSub, Nat.zero_add]
    have k2 : ∀ H', Same H H' → Q (.int (mlen y m)) H' := k
    fail "go"
    · rename_i e1 H1 s1 e2
      exact finI k (by simp [mlen, e1, e2]) s1
    · rename_i e1 H1 s1 e2
      subst e1
      refine g_ixT (v := .int 28) (sq_LENGTHS _) rfl ?_
      exact finI k (by simp [mlen, e2]) s1
    · rename_i e1
      have e3 : m = 1 ∨ m = 3 ∨ m = 4 ∨ m = 5 ∨ m = 6 ∨ m = 7 ∨ m = 8 ∨ m = 9 ∨ m = 10 ∨ m = 11 ∨ m = 12 := by omega
      rcases e3 with rfl | rfl | rfl | rfl | rfl | rfl | rfl | rfl | rfl | rfl | rfl <;> (refine g_ixT (sq_LENGTHS _) rfl ?_; exact finI k (by simp [mlen]) (Same.refl _))
local macro_rules | `(tactic| nofun) => `(tactic| ((with_reducible show sp_month_length _ _ _ _ _); refine ⟨_, _, rfl, by omega, by omega, fun H' s' => ?_⟩))

def sp_first_day (K : PySem.W.Frag) : Sp := fun vs H Q _ =>
  ∃ y : Int, vs = [.int y] ∧ ∀ H', Same H H' → Q (.int (fday y)) H'
theorem df_first_day (T : Txt K mg) : Df P w K mg base 1 "first_day" s_first_day ["year"] (sp_first_day K) := by
  have sc := sc_first_day
  obtain ⟨f, hm, fd, F⟩ := T.d_first_day
  refine ⟨f, fd, hm, F, okG F sc (by fail "many") (fun cdv A outer s H vs Q E hr h => ?_)⟩
  · obtain ⟨y, rfl, k⟩ := h
    refine ⟨_, (pss_cons (ps_set (i := 1) sc.nd rfl (Or.inl rfl) (pe_op op_subA (pv 0) pe_int))
 (pss_one (ps_ret (pe_op op_addA (pe_op op_addA (pe_op op_subA (pe_op op_addA (pe_op op_mulA pe_int (pv 1)) (pe_op op_divA (pv 1) pe_int)) (pe_op op_divA (pv 1) pe_int)) (pe_op op_divA (pv 1) pe_int)) pe_int)))), ?_⟩
    dsimp only [cxOf, Cx.wish, L2.start, List.map, List.length, List.replicate, List.append, List.cons_append, List.nil_append, Nat.reduceAdd, Nat.reduceSub, Nat.zero_add]
    fail "go"
    exact finI k rfl (Same.refl _)
local macro_rules | `(tactic| nofun) => `(tactic| ((with_reducible show sp_first_day _ _ _ _ _); refine ⟨_, rfl, fun H' s' => ?_⟩))

def sp_check_year (K : PySem.W.Frag) : Sp := fun vs H Q _ =>
  ∃ y : Int, vs = [.int y] ∧ 1 ≤ y ∧ y ≤ 9999 ∧ ∀ H', Same H H' → Q .non H'
theorem df_check_year (T : Txt K mg) : Df P w K mg base 2 "check_year" s_check_year ["year"] (sp_check_year K) := by
  have sc := sc_check_year
  obtain ⟨f, hm, fd, F⟩ := T.d_check_year
  refine ⟨f, fd, hm, F, okG F sc (by fail "many") (fun cdv A outer s H vs Q E hr h => ?_)⟩
  · obtain ⟨y, rfl, h1, h2, k⟩ := h
    refine ⟨_, (pss_one (ps_if (pt_not (pt_val (pe_callG (sp := sp_is_whole K) (df_is_whole T) hr (by decide) b_is_whole_3_ b_is_whole_3__s (pa_cons (pv 0) (pa_cons pe_int (pa_cons (pe_globE T.c_LAST_YEAR) pa_nil))) pk_nil))) (pss_one ps_never) pss_nil)), ?_⟩
    dsimp only [cxOf, Cx.wish, L2.start, List.map, List.length, List.replicate, List.append, List.cons_append, List.nil_append, Nat.reduceAdd, Nat.reduceSub, Nat.zero_add]
    fail "go"
    exact k _ (by fail "same")
local macro_rules | `(tactic| nofun) => `(tactic| ((with_reducible show sp_check_year _ _ _ _ _); refine ⟨_, rfl, by omega, by omega, fun H' s' => ?_⟩))

def sp_check_month (K : PySem.W.Frag) : Sp := fun vs H Q _ =>
  ∃ y m : Int, vs = [.int y, .int m] ∧ 1 ≤ y ∧ y ≤ 9999 ∧ 1 ≤ m ∧ m ≤ 12 ∧ ∀ H', Same H H' → Q .non H'
theorem df_check_month (T : Txt K mg) : Df P w K mg base 3 "check_month" s_check_month ["year", "month"] (sp_check_month K) := by
  have sc := sc_check_month
  obtain ⟨f, hm, fd, F⟩ := T.d_check_month
  refine ⟨f, fd, hm, F, okG F sc (by fail "many") (fun cdv A outer s H vs Q E hr h => ?_)⟩
  · obtain ⟨y, m, rfl, h1, h2, h3, h4, k⟩ := h
    refine ⟨_, (pss_cons (ps_expr (pe_callG (sp := sp_check_year K) (df_check_year T) hr (by decide) b_check_year_1_ b_check_year_1__s (pa_cons (pv 0) pa_nil) pk_nil))
 (pss_one (ps_if (pt_not (pt_val (pe_callG (sp := sp_is_whole K) (df_is_whole T) hr (by decide) b_is_whole_3_ b_is_whole_3__s (pa_cons (pv 1) (pa_cons pe_int (pa_cons pe_int pa_nil))) pk_nil))) (pss_one ps_never) pss_nil))), ?_⟩
    dsimp only [cxOf, Cx.wish, L2.start, List.map, List.length, List.replicate, List.append, List.cons_append, List.nil_append, Nat.reduceAdd, Nat.reduceSub, Nat.zero_add]
    fail "go"
    exact k _ (by fail "same")
local macro_rules | `(tactic| nofun) => `(tactic| ((with_reducible show sp_check_month _ _ _ _ _); refine ⟨_, _, rfl, by omega, by omega, by omega, by omega, fun H' s' => ?_⟩))

def sp_check_day (K : PySem.W.Frag) : Sp := fun vs H Q _ =>
  ∃ y m d : Int, vs = [.int y, .int m, .int d] ∧ valid y m d ∧ ∀ H', Same H H' → Q .non H'
theorem df_check_day (T : Txt K mg) : Df P w K mg base 4 "check_day" s_check_day ["year", "month", "day"] (sp_check_day K) := by
  have sc := sc_check_day
  obtain ⟨f, hm, fd, F⟩ := T.d_check_day
  refine ⟨f, fd, hm, F, okG F sc (by fail "many") (fun cdv A outer s H vs Q E hr h => ?_)⟩
  · obtain ⟨y, m, d, rfl, v, k⟩ := h
    refine ⟨_, (pss_cons (ps_expr (pe_callG (sp := sp_check_month K) (df_check_month T) hr (by decide) b_check_month_2_ b_check_month_2__s (pa_cons (pv 0) (pa_cons (pv 1) pa_nil)) pk_nil))
 (pss_one (ps_if (pt_not (pt_val (pe_callG (sp := sp_is_whole K) (df_is_whole T) hr (by decide) b_is_whole_3_ b_is_whole_3__s (pa_cons (pv 2) (pa_cons pe_int (pa_cons (pe_callG (sp := sp_month_length K) (df_month_length T) hr (by decide) b_month_length_2_ b_month_length_2__s (pa_cons (pv 0) (pa_cons (pv 1) pa_nil)) pk_nil) pa_nil))) pk_nil))) (pss_one ps_never) pss_nil))), ?_⟩
    dsimp only [cxOf, Cx.wish, L2.start, List.map, List.length, List.replicate, List.append, List.cons_append, List.nil_append, Nat.reduceAdd, Nat.reduceSub, Nat.zero_add]
    obtain ⟨h1, h2, h3, h4, h5, h6⟩ := v
    fail "go"
    exact k _ (by fail "same")
local macro_rules | `(tactic| nofun) => `(tactic| ((with_reducible show sp_check_day _ _ _ _ _); refine ⟨_, _, _, rfl, by assumption, fun H' s' => ?_⟩))

def sp_check_number (K : PySem.W.Frag) : Sp := fun vs H Q _ =>
  ∃ n : Int, vs = [.int n] ∧ 1 ≤ n ∧ n ≤ 3652059 ∧ ∀ H', Same H H' → Q .non H'
theorem df_check_number (T : Txt K mg) : Df P w K mg base 2 "check_number" s_check_number ["number"] (sp_check_number K) := by
  have sc := sc_check_number
  obtain ⟨f, hm, fd, F⟩ := T.d_check_number
  refine ⟨f, fd, hm, F, okG F sc (by fail "many") (fun cdv A outer s H vs Q E hr h => ?_)⟩
  · obtain ⟨n, rfl, h1, h2, k⟩ := h
    refine ⟨_, (pss_one (ps_if (pt_not (pt_val (pe_callG (sp := sp_is_whole K) (df_is_whole T) hr (by decide) b_is_whole_3_ b_is_whole_3__s (pa_cons (pv 0) (pa_cons pe_int (pa_cons (pe_globE T.c_LAST_DAY) pa_nil))) pk_nil))) (pss_one ps_never) pss_nil)), ?_⟩
    dsimp only [cxOf, Cx.wish, L2.start, List.map, List.length, List.replicate, List.append, List.cons_append, List.nil_append, Nat.reduceAdd, Nat.reduceSub, Nat.zero_add]
    fail "go"
    exact k _ (by fail "same")
local macro_rules | `(tactic| nofun) => `(tactic| ((with_reducible show sp_check_number _ _ _ _ _); refine ⟨_, rfl, by omega, by omega, fun H' s' => ?_⟩))
theorem leap_mlen (y : Int) : leap y = decide (mlen y 2 = 29) := by
  unfold mlen
  rw [if_pos rfl]
  cases leap y <;> rfl

def sp_is_leap (K : PySem.W.Frag) : Sp := fun vs H Q _ =>
  ∃ y : Int, vs = [.int y] ∧ 1 ≤ y ∧ y ≤ 9999 ∧ ∀ H', Same H H' → Q (.bl (decide (mlen y 2 = 29))) H'
theorem df_is_leap (T : Txt K mg) : Df P w K mg base 3 "is_leap" s_is_leap ["year"] (sp_is_leap K) := by
  have sc := sc_is_leap
  obtain ⟨f, hm, fd, F⟩ := T.d_is_leap
  refine ⟨f, fd, hm, F, okG F sc (by fail "many") (fun cdv A outer s H vs Q E hr h => ?_)⟩
  · obtain ⟨y, rfl, h1, h2, k⟩ := h
    refine ⟨_, (pss_cons (ps_expr (pe_callG (sp := sp_check_year K) (df_check_year T) hr (by decide) b_check_year_1_ b_check_year_1__s (pa_cons (pv 0) pa_nil) pk_nil))
 (pss_one (ps_ret (pe_callG (sp := sp_has_leap_day K) (df_has_leap_day T) hr (by decide) b_has_leap_day_1_ b_has_leap_day_1__s (pa_cons (pv 0) pa_nil) pk_nil)))), ?_⟩
    dsimp only [cxOf, Cx.wish, L2.start, List.map, List.length, List.replicate, List.append, List.cons_append, List.nil_append, Nat.reduceAdd, Nat.reduceSub, Nat.zero_add]
    fail "go"
    exact finB k (leap_mlen y) (by fail "same")
local macro_rules | `(tactic| nofun) => `(tactic| ((with_reducible show sp_is_leap _ _ _ _ _); refine ⟨_, rfl, by omega, by omega, fun H' s' => ?_⟩))

def sp_days_in (K : PySem.W.Frag) : Sp := fun vs H Q _ =>
  ∃ y m : Int, vs = [.int y, .int m] ∧ 1 ≤ y ∧ y ≤ 9999 ∧ 1 ≤ m ∧ m ≤ 12 ∧ ∀ H', Same H H' → Q (.int (mlen y m)) H'
theorem df_days_in (T : Txt K mg) : Df P w K mg base 4 "days_in" s_days_in ["year", "month"] (sp_days_in K) := by
  have sc := sc_days_in
  obtain ⟨f, hm, fd, F⟩ := T.d_days_in
  refine ⟨f, fd, hm, F, okG F sc (by fail "many") (fun cdv A outer s H vs Q E hr h => ?_)⟩
  · obtain ⟨y, m, rfl, h1, h2, h3, h4, k⟩ := h
    refine ⟨_, (pss_cons (ps_expr (pe_callG (sp := sp_check_month K) (df_check_month T) hr (by decide) b_check_month_2_ b_check_month_2__s (pa_cons (pv 0) (pa_cons (pv 1) pa_nil)) pk_nil))
 (pss_one (ps_ret (pe_callG (sp := sp_month_length K) (df_month_length T) hr (by decide) b_month_length_2_ b_month_length_2__s (pa_cons (pv 0) (pa_cons (pv 1) pa_nil)) pk_nil)))), ?_⟩
    dsimp only [cxOf, Cx.wish, L2.start, List.map, List.length, List.replicate, List.append, List.cons_append, List.nil_append, Nat.reduceAdd, Nat.reduceSub, Nat.zero_add]
    fail "go"
    exact k _ (by fail "same")
local macro_rules | `(tactic| nofun) => `(tactic| ((with_reducible show sp_days_in _ _ _ _ _); refine ⟨_, _, rfl, by omega, by omega, by omega, by omega, fun H' s' => ?_⟩))
theorem sum_cum (y : Int) : ∀ k : Nat, ((List.range k).map fun i : Nat => mlen y (1 + (i : Int))).sum = cumN y k
  | 0 => rfl
  | k + 1 => by
    rw [List.range_succ, List.map_append, List.sum_append, sum_cum y k]
    show cumN y k + (mlen y (1 + (k : Int)) + 0) = cumN y k + mlen y ((k : Int) + 1)
    rw [Int.add_comm 1 (k : Int)]
    omega

def sp_day_number (K : PySem.W.Frag) : Sp := fun vs H Q _ =>
  ∃ y m d : Int, vs = [.int y, .int m, .int d] ∧ valid y m d ∧ ∀ H', Same H H' → Q (.int (dnum y m d)) H'
theorem df_day_number (T : Txt K mg) : Df P w K mg base 5 "day_number" s_day_number ["year", "month", "day"] (sp_day_number K) := by
  have sc := sc_day_number
  obtain ⟨f, hm, fd, F⟩ := T.d_day_number
  refine ⟨f, fd, hm, F, okG F sc (by fail "many") (fun cdv A outer s H vs Q E hr h => ?_)⟩
  · obtain ⟨y, m, d, rfl, v, k⟩ := h
    refine ⟨_, (pss_cons (ps_expr (pe_callG (sp := sp_check_day K) (df_check_day T) hr (by decide) b_check_day_3_ b_check_day_3__s (pa_cons (pv 0) (pa_cons (pv 1) (pa_cons (pv 2) pa_nil))) pk_nil))
 (pss_one (ps_ret (pe_op op_subA (pe_op op_addA (pe_op op_addA (pe_callG (sp := sp_first_day K) (df_first_day T) hr (by decide) b_first_day_1_ b_first_day_1__s (pa_cons (pv 0) pa_nil) pk_nil) (pe_callB (cr_sum rfl) (by rfl) T.b_sum (by decide +kernel) (pa_cons (pe_lc (own := [("earlier", 3)]) (g := gName 3) (tt := tYes) rfl sc.nd (pi_range2 rfl T.b_range (pa_cons pe_int (pa_cons (pv 1) pa_nil))) (blkOk_by (N := ["year", "month", "day", "earlier"]) (sc := defScope s_day_number) (by decide +kernel)) (fun _ _ _ _ _ => (pg_name (i := 3) sc.nd rfl (Or.inl rfl))) (fun _ _ _ _ _ => pts_nil) (fun _ _ _ _ _ => (pe_callG (sp := sp_month_length K) (df_month_length T) hr (by decide) b_month_length_2_ b_month_length_2__s (pa_cons (pv 0) (pa_cons (pv 3) pa_nil)) pk_nil))) pa_nil))) (pv 2)) pe_int)))), ?_⟩
    dsimp only [cxOf, Cx.wish, L2.start, List.map, List.length, List.replicate, List.append, List.cons_append, List.nil_append, Nat.reduceAdd, Nat.reduceSub, Nat.zero_add]
    obtain ⟨h1, h2, h3, h4, h5, h6⟩ := id v
    fail "go"
    refine ⟨⟨by omega, by omega, by omega, by omega⟩, lc_map (n := (m - 1).toNat) (fun i => .int (mlen y (1 + (i : Int)))) (by omega) (fun _ => rfl) ?_ ?_⟩
    · intro i hi H1 s1 Q1 k1
      fail "go"
      exact k1 _ (by fail "same")
    · intro D H1 nD s1 hD
      fail "go"
      refine g_sum ((List.range (m - 1).toNat).map fun i : Nat => mlen y (1 + (i : Int))) (by with_reducible (fail "sq")) (by rw [List.map_map]; rfl) ?_
      rw [sum_cum]
      fail "go"
      exact finI k rfl (by fail "same")
local macro_rules | `(tactic| nofun) => `(tactic| ((with_reducible show sp_day_number _ _ _ _ _); refine ⟨_, _, _, rfl, by assumption, fun H' s' => ?_⟩))

def sp_date_of (K : PySem.W.Frag) : Sp := fun vs H Q _ =>
  ∃ n : Int, vs = [.int n] ∧ 1 ≤ n ∧ n ≤ 3652059 ∧ ∀ H' p y m d, Same H H' → H' p = some (.tup [.int y, .int m, .int d]) → valid y m d → dnum y m d = n → Q (.ref p) H'
theorem df_date_of (T : Txt K mg) : Df P w K mg base 3 "date_of" s_date_of ["number"] (sp_date_of K) := by
  have sc := sc_date_of
  obtain ⟨f, hm, fd, F⟩ := T.d_date_of
  refine ⟨f, fd, hm, F, okG F sc (by fail "many") (fun cdv A outer s H vs Q E hr h => ?_)⟩
  · obtain ⟨n, rfl, h1, h2, k⟩ := h
    refine ⟨_, (pss_cons (ps_expr (pe_callG (sp := sp_check_number K) (df_check_number T) hr (by decide) b_check_number_1_ b_check_number_1__s (pa_cons (pv 0) pa_nil) pk_nil))
 (pss_cons (ps_set (i := 1) sc.nd rfl (Or.inl rfl) (pe_op op_addA (pe_op op_divA (pe_op op_mulA (pe_op op_subA (pv 0) pe_int) (pe_globE T.c_CYCLE_YEARS)) (pe_globE T.c_CYCLE_DAYS)) pe_int))
 (pss_cons (ps_while PassesOwn.never (pt_cmpR op_gtA (pe_callG (sp := sp_first_day K) (df_first_day T) hr (by decide) b_first_day_1_ b_first_day_1__s (pa_cons (pv 1) pa_nil) pk_nil) (pv 0) (nomark _)) (pss_one (ps_set (i := 1) sc.nd rfl (Or.inl rfl) (pe_op op_subA (pv 1) pe_int))))
 (pss_cons (ps_while PassesOwn.never (pt_cmpR op_leA (pe_callG (sp := sp_first_day K) (df_first_day T) hr (by decide) b_first_day_1_ b_first_day_1__s (pa_cons (pe_op op_addA (pv 1) pe_int) pa_nil) pk_nil) (pv 0) (nomark _)) (pss_one (ps_set (i := 1) sc.nd rfl (Or.inl rfl) (pe_op op_addA (pv 1) pe_int))))
 (pss_cons (ps_par (i := 2) (j := 3) rfl sc.nd rfl rfl (by decide) rfl rfl (pa_cons (pe_op op_subA (pv 0) (pe_callG (sp := sp_first_day K) (df_first_day T) hr (by decide) b_first_day_1_ b_first_day_1__s (pa_cons (pv 1) pa_nil) pk_nil)) (pa_cons pe_int pa_nil)) (by rfl))
 (pss_cons (ps_while PassesOwn.never (pt_cmpR op_geA (pv 2) (pe_callG (sp := sp_month_length K) (df_month_length T) hr (by decide) b_month_length_2_ b_month_length_2__s (pa_cons (pv 1) (pa_cons (pv 3) pa_nil)) pk_nil) (nomark _)) (pss_cons (ps_set (i := 2) sc.nd rfl (Or.inl rfl) (pe_op op_subA (pv 2) (pe_callG (sp := sp_month_length K) (df_month_length T) hr (by decide) b_month_length_2_ b_month_length_2__s (pa_cons (pv 1) (pa_cons (pv 3) pa_nil)) pk_nil)))
 (pss_one (ps_set (i := 3) sc.nd rfl (Or.inl rfl) (pe_op op_addA (pv 3) pe_int)))))
 (pss_one (ps_ret (pe_tup (pa_cons (pv 1) (pa_cons (pv 3) (pa_cons (pe_op op_addA (pv 2) pe_int) pa_nil)))))))))))), ?_⟩
    dsimp only [cxOf, Cx.wish, L2.start, List.map, List.length, List.replicate, List.append, List.cons_append, List.nil_append, Nat.reduceAdd, Nat.reduceSub, Nat.zero_add]
    fail "go"
    refine g_while (fun m σ H' => ∃ y : Int, σ = [some (.int n), some (.int y), none, none] ∧ Same H H' ∧ 1 ≤ y ∧ m = y.toNat) _ ⟨_, rfl, by fail "same", by omega, rfl⟩ ?_
    rintro m σ H1 ⟨y, rfl, s1, hy, rfl⟩
    fail "go"
    · have ny : y ≠ 1 := by
        rintro rfl
        have := fday_one
        omega
      exact ⟨_, (by omega : (y - 1).toNat < y.toNat), y - 1, rfl, by fail "same", by omega, rfl⟩
    refine g_while (fun m σ H' => ∃ y : Int, σ = [some (.int n), some (.int y), none, none] ∧ Same H H' ∧ 1 ≤ y ∧ fday y ≤ n ∧ m = (n - fday y).toNat) _ ⟨_, rfl, by fail "same", by omega, by omega, rfl⟩ ?_
    clear hy s1
    rintro m σ H2 ⟨y, rfl, s2, hy, hf, rfl⟩
    fail "go"
    · have e1 := fday_succ y
      have e2 := ylen_lo y
      exact ⟨(n - fday (y + 1)).toNat, by omega, y + 1, rfl, by fail "same", by omega, by omega, rfl⟩
    refine g_while (fun m σ H' => ∃ r mo : Int, σ = [some (.int n), some (.int y), some (.int r), some (.int mo)] ∧ Same H H' ∧ 1 ≤ mo ∧ mo ≤ 12 ∧ 0 ≤ r ∧ r = n - fday y - cumN y (mo - 1).toNat ∧ m = (12 - mo).toNat) _ ⟨_, _, rfl, by fail "same", by omega, by omega, by omega, (by show n - fday y = n - fday y - 0; omega), rfl⟩ ?_
    have nx : n < fday (y + 1) := by omega
    clear s2
    rintro m σ H3 ⟨r, mo, rfl, s3, m1, m2, hr0, er, rfl⟩
    fail "go"
    · have c := cum_step y mo m1
      have n12 : mo ≠ 12 := by
        rintro rfl
        have d12 := cum_12 y
        rw [show ((12 : Int) + 1 - 1).toNat = 12 by rfl, d12] at c
        have := fday_succ y
        omega
      exact ⟨(12 - (mo + 1)).toNat, by omega, _, _, rfl, by fail "same", by omega, by omega, by omega, by omega, rfl⟩
    have y9 : y ≤ 9999 := by
      have a := fday_last
      by_cases z : y ≤ 9999
      · exact z
      · have := fday_mono (y := 10000) (z := y) (by omega)
        omega
    exact k _ _ y mo (r + 1) (by fail "same") (by fail "h") ⟨hy, y9, m1, m2, by omega, by omega⟩ (by unfold dnum; omega)
local macro_rules | `(tactic| nofun) => `(tactic| ((with_reducible show sp_date_of _ _ _ _ _); refine ⟨_, rfl, by omega, by omega, fun H' p y m d s' hp hv he => ?_⟩))

def sp_weekday_of (K : PySem.W.Frag) : Sp := fun vs H Q _ =>
  ∃ n : Int, vs = [.int n] ∧ 1 ≤ n ∧ n ≤ 3652059 ∧ ∀ H', Same H H' → Q (.int ((n - 1) % 7)) H'
theorem df_weekday_of (T : Txt K mg) : Df P w K mg base 3 "weekday_of" s_weekday_of ["number"] (sp_weekday_of K) := by
  have sc := sc_weekday_of
  obtain ⟨f, hm, fd, F⟩ := T.d_weekday_of
  refine ⟨f, fd, hm, F, okG F sc (by fail "many") (fun cdv A outer s H vs Q E hr h => ?_)⟩
  · obtain ⟨n, rfl, h1, h2, k⟩ := h
    refine ⟨_, (pss_cons (ps_expr (pe_callG (sp := sp_check_number K) (df_check_number T) hr (by decide) b_check_number_1_ b_check_number_1__s (pa_cons (pv 0) pa_nil) pk_nil))
 (pss_one (ps_ret (pe_op op_modA (pe_op op_subA (pv 0) pe_int) pe_int)))), ?_⟩
    dsimp only [cxOf, Cx.wish, L2.start, List.map, List.length, List.replicate, List.append, List.cons_append, List.nil_append, Nat.reduceAdd, Nat.reduceSub, Nat.zero_add]
    fail "go"
    exact k _ (by fail "same")
local macro_rules | `(tactic| nofun) => `(tactic| ((with_reducible show sp_weekday_of _ _ _ _ _); refine ⟨_, rfl, by omega, by omega, fun H' s' => ?_⟩))
theorem mlen2 (y : Int) : mlen y 2 = if y % 400 = 0 ∨ (y % 4 = 0 ∧ 0 < y % 100) then 29 else 28 := by
  unfold mlen leap
  rw [if_pos rfl]
  by_cases h : y % 400 = 0 ∨ (y % 4 = 0 ∧ 0 < y % 100)
  · rw [if_pos h, if_pos (decide_eq_true (by omega))]
  · rw [if_neg h, if_neg (by rw [decide_eq_false (by omega)]; decide)]
theorem in30 (m : Int) : inV (.int m) [.int 4, .int 6, .int 9, .int 11] = decide (m = 4 ∨ m = 6 ∨ m = 9 ∨ m = 11) := by
  simp only [inV, List.any_cons, List.any_nil, eqV, Bool.or_false]
  by_cases h : m = 4 ∨ m = 6 ∨ m = 9 ∨ m = 11
  · rw [decide_eq_true h]
    rcases h with rfl | rfl | rfl | rfl <;> rfl
  · rw [decide_eq_false h]
    simp only [Bool.or_eq_false_iff, beq_eq_false_iff_ne]
    omega

def sp_law_length (K : PySem.W.Frag) : Sp := fun vs H Q _ =>
  ∃ y m : Int, vs = [.int y, .int m] ∧ ∀ H', Same H H' → Q (.int (mlen y m)) H'
theorem df_law_length (T : Txt K mg) : Df P w K mg base 1 "_law_length" s_law_length ["y", "mo"] (sp_law_length K) := by
  have sc := sc_law_length
  obtain ⟨f, hm, fd, F⟩ := T.d_law_length
  refine ⟨f, fd, hm, F, okG F sc (by fail "many") (fun cdv A outer s H vs Q E hr h => ?_)⟩
  · obtain ⟨y, m, rfl, k⟩ := h
    refine ⟨_, (pss_cons (ps_if (pt_cmpR (op_eqA hr) (pv 1) pe_int (nomark _)) (pss_one (ps_ret (pe_ifExp (PW.pt (pw_or (pt_cmpR (op_eqA hr) (pe_op op_modA (pv 0) pe_int) pe_int (nomark _)) (pw_or1 (PW.pt (pw_and (pt_cmpR (op_eqA hr) (pe_op op_modA (pv 0) pe_int) pe_int (nomark _)) (pw_and1 (pt_cmpR op_gtA (pe_op op_modA (pv 0) pe_int) pe_int (nomark _)))))))) pe_int pe_int))) pss_nil)
 (pss_one (ps_ret (pe_ifExp (pt_cmpR op_inA (pv 1) (pe_tup (pa_cons pe_int (pa_cons pe_int (pa_cons pe_int (pa_cons pe_int pa_nil))))) rfl) pe_int pe_int)))), ?_⟩
    dsimp only [cxOf, Cx.wish, L2.start, List.map, List.length, List.replicate, List.append, List.cons_append, List.nil_append, Nat.reduceAdd, Nat.reduceSub, Nat.zero_add]
    fail "go"
    · rename_i e _
      subst e
      exact finI k (by rw [mlen2, if_pos (by omega)]) (Same.refl _)
    · rename_i e _ _ _
      subst e
      exact finI k (by rw [mlen2, if_pos (by omega)]) (Same.refl _)
    · rename_i e _ _ _
      subst e
      exact finI k (by rw [mlen2, if_neg (by omega)]) (Same.refl _)
    · rename_i e _ _
      subst e
      exact finI k (by rw [mlen2, if_neg (by omega)]) (Same.refl _)
    · rename_i e p np
      refine g_inT (by with_reducible (fail "sq")) rfl rfl ?_
      rw [in30]
      fail "go"
      · rename_i e2
        exact finI k (by unfold mlen; rw [if_neg e, if_pos e2]) (by fail "same")
      · rename_i e2
        exact finI k (by unfold mlen; rw [if_neg e, if_neg e2]) (by fail "same")
local macro_rules | `(tactic| nofun) => `(tactic| ((with_reducible show sp_law_length _ _ _ _ _); refine ⟨_, _, rfl, fun H' s' => ?_⟩))

def sp_law_number (K : PySem.W.Frag) : Sp := fun vs H Q _ =>
  ∃ y m d : Int, vs = [.int y, .int m, .int d] ∧ valid y m d ∧ ∀ H', Same H H' → Q (.int (dnum y m d)) H'
theorem df_law_number (T : Txt K mg) : Df P w K mg base 2 "_law_number" s_law_number ["y", "mo", "d"] (sp_law_number K) := by
  have sc := sc_law_number
  obtain ⟨f, hm, fd, F⟩ := T.d_law_number
  refine ⟨f, fd, hm, F, okG F sc (by fail "many") (fun cdv A outer s H vs Q E hr h => ?_)⟩
  · obtain ⟨y, m, d, rfl, v, k⟩ := h
    refine ⟨_, (pss_cons (ps_set (i := 3) sc.nd rfl (Or.inl rfl) (pv 2))
 (pss_cons (ps_for PassesOwn.never rfl (pi_range2 rfl T.b_range (pa_cons pe_int (pa_cons (pv 0) pa_nil))) (pg_name (i := 4) sc.nd rfl (Or.inl rfl)) (pss_one (ps_set (i := 3) sc.nd rfl (Or.inl rfl) (pe_op op_addA (pv 3) (pe_ifExp (PW.pt (pw_and (pt_cmpR (op_eqA hr) (pe_op op_modA (pv 4) pe_int) pe_int (nomark _)) (pw_and1 (pt_cmpR (op_eqA hr) (pe_callG (sp := sp_law_length K) (df_law_length T) hr (by decide) b_law_length_2_ b_law_length_2__s (pa_cons (pv 4) (pa_cons pe_int pa_nil)) pk_nil) pe_int (nomark _))))) pe_int pe_int)))))
 (pss_one (ps_ret (pe_op op_addA (pv 3) (pe_callB (cr_sum rfl) (by rfl) T.b_sum (by decide +kernel) (pa_cons (pe_lc (own := [("earlier", 4)]) (g := gName 4) (tt := tYes) rfl sc.nd (pi_range2 rfl T.b_range (pa_cons pe_int (pa_cons (pv 1) pa_nil))) (blkOk_by (N := ["y", "mo", "d", "found", "earlier"]) (sc := defScope s_law_number) (by decide +kernel)) (fun _ _ _ _ _ => (pg_name (i := 4) sc.nd rfl (Or.inl rfl))) (fun _ _ _ _ _ => pts_nil) (fun _ _ _ _ _ => (pe_callG (sp := sp_law_length K) (df_law_length T) hr (by decide) b_law_length_2_ b_law_length_2__s (pa_cons (pv 0) (pa_cons (pv 4) pa_nil)) pk_nil))) pa_nil))))))), ?_⟩
    dsimp only [cxOf, Cx.wish, L2.start, List.map, List.length, List.replicate, List.append, List.cons_append, List.nil_append, Nat.reduceAdd, Nat.reduceSub, Nat.zero_add]
    obtain ⟨h1, h2, h3, h4, h5, h6⟩ := id v
    fail "go"
    refine ⟨⟨by omega, by omega, by omega, by omega⟩, for_range (fun i σ H' => ∃ w : Option V, σ = [some (.int y), some (.int m), some (.int d), some (.int (d + fday (1 + (i : Int)) - 1)), w] ∧ Same H H') ⟨none, (by rw [show (1 : Int) + ((0 : Nat) : Int) = 1 by rfl, fday_one, Int.add_sub_cancel]; rfl), Same.refl _⟩ ?_ ?_⟩
    · rintro i σ H1 hi ⟨w, rfl, s1⟩
      have st := fday_succ (1 + (i : Int))
      have e1 : (1 : Int) + ((i + 1 : Nat) : Int) = 1 + (i : Int) + 1 := by omega
      have yl : ylen (1 + (i : Int)) = if (1 + (i : Int)) % 400 = 0 ∨ ((1 + (i : Int)) % 4 = 0 ∧ 0 < (1 + (i : Int)) % 100) then 366 else 365 := by
        unfold ylen leap
        by_cases h : (1 + (i : Int)) % 400 = 0 ∨ ((1 + (i : Int)) % 4 = 0 ∧ 0 < (1 + (i : Int)) % 100)
        · rw [if_pos h, if_pos (decide_eq_true (by omega))]
        · rw [if_neg h, if_neg (by rw [decide_eq_false (by omega)]; decide)]
      have m2 := mlen2 (1 + (i : Int))
      have ya : (1 + (i : Int)) % 4 = 0 → mlen (1 + (i : Int)) 2 = 29 → ylen (1 + (i : Int)) = 366 := by
        intro _ h
        rw [m2] at h
        split at h
        · rename_i c; rw [yl, if_pos c]
        · omega
      have yb : ¬ ((1 + (i : Int)) % 4 = 0 ∧ mlen (1 + (i : Int)) 2 = 29) → ylen (1 + (i : Int)) = 365 := by
        intro h
        rw [m2] at h
        split at h
        · omega
        · rename_i c; rw [yl, if_neg c]
      fail "go"
      all_goals refine ⟨some (.int (1 + (i : Int))), ?_, by fail "same"⟩
      all_goals first
        | (rw [show d + fday (1 + ((i + 1 : Nat) : Int)) - 1 = d + fday (1 + (i : Int)) - 1 + 366 by rw [e1]; omega]; rfl)
        | (rw [show d + fday (1 + ((i + 1 : Nat) : Int)) - 1 = d + fday (1 + (i : Int)) - 1 + 365 by rw [e1]; omega]; rfl)
    · rintro σ H1 ⟨w, rfl, s1⟩
      rw [show (1 : Int) + (((y - 1).toNat : Nat) : Int) = y by omega]
      fail "go"
      refine ⟨⟨by omega, by omega, by omega, by omega⟩, lc_map (n := (m - 1).toNat) (fun i => .int (mlen y (1 + (i : Int)))) (by omega) (fun _ => rfl) ?_ ?_⟩
      · intro i hi H2 s2 Q1 k1
        fail "go"
        exact k1 _ (by fail "same")
      · intro D H2 nD s2 hD
        fail "go"
        refine g_sum ((List.range (m - 1).toNat).map fun i : Nat => mlen y (1 + (i : Int))) (by with_reducible (fail "sq")) (by rw [List.map_map]; rfl) ?_
        rw [sum_cum]
        fail "go"
        exact finI k (by unfold dnum; omega) (by fail "same")
local macro_rules | `(tactic| nofun) => `(tactic| ((with_reducible show sp_law_number _ _ _ _ _); refine ⟨_, _, _, rfl, by assumption, fun H' s' => ?_⟩))

def sp_law_next_day (K : PySem.W.Frag) : Sp := fun vs H Q _ =>
  ∃ y m d : Int, vs = [.int y, .int m, .int d] ∧ ∀ H' p, Same H H' → H' p = some (.tup [.int (nextY y m d), .int (nextM y m d), .int (nextD y m d)]) → Q (.ref p) H'
theorem df_law_next_day (T : Txt K mg) : Df P w K mg base 2 "_law_next_day" s_law_next_day ["y", "mo", "d"] (sp_law_next_day K) := by
  have sc := sc_law_next_day
  obtain ⟨f, hm, fd, F⟩ := T.d_law_next_day
  refine ⟨f, fd, hm, F, okG F sc (by fail "many") (fun cdv A outer s H vs Q E hr h => ?_)⟩
  · obtain ⟨y, m, d, rfl, k⟩ := h
    refine ⟨_, (pss_cons (ps_if (pt_cmpR op_ltA (pv 2) (pe_callG (sp := sp_law_length K) (df_law_length T) hr (by decide) b_law_length_2_ b_law_length_2__s (pa_cons (pv 0) (pa_cons (pv 1) pa_nil)) pk_nil) (nomark _)) (pss_one (ps_ret (pe_tup (pa_cons (pv 0) (pa_cons (pv 1) (pa_cons (pe_op op_addA (pv 2) pe_int) pa_nil)))))) pss_nil)
 (pss_one (ps_ret (pe_ifExp (pt_cmpR op_ltA (pv 1) pe_int (nomark _)) (pe_tup (pa_cons (pv 0) (pa_cons (pe_op op_addA (pv 1) pe_int) (pa_cons pe_int pa_nil)))) (pe_tup (pa_cons (pe_op op_addA (pv 0) pe_int) (pa_cons pe_int (pa_cons pe_int pa_nil)))))))), ?_⟩
    dsimp only [cxOf, Cx.wish, L2.start, List.map, List.length, List.replicate, List.append, List.cons_append, List.nil_append, Nat.reduceAdd, Nat.reduceSub, Nat.zero_add]
    fail "go"
    · rename_i H1 s1 c p np
      exact k _ _ (by fail "same") (by simp only [nextY, nextM, nextD, if_pos c]; fail "h")
    · rename_i H1 s1 c c2 p np
      exact k _ _ (by fail "same") (by simp only [nextY, nextM, nextD, if_neg c, if_pos c2]; fail "h")
    · rename_i H1 s1 c c2 p np
      exact k _ _ (by fail "same") (by simp only [nextY, nextM, nextD, if_neg c, if_neg c2]; fail "h")
local macro_rules | `(tactic| nofun) => `(tactic| ((with_reducible show sp_law_next_day _ _ _ _ _); refine ⟨_, _, _, rfl, fun H' p s' hp => ?_⟩))

def sp_law_year (K : PySem.W.Frag) : Sp := fun vs H Q _ =>
  ∃ (d : Addr) (n : Nat), vs = [.ref d] ∧ DrawAt K n H d ∧ n + 2 < 1000000000 ∧ ∀ H' y, Keep d H H' → DrawAt K (n + 2) H' d → 1 ≤ y → y ≤ 9999 → Q (.int y) H'
theorem df_law_year (T : Txt K mg) : Df P w K mg base 3 "_law_year" s_law_year ["draw"] (sp_law_year K) := by
  have sc := sc_law_year
  obtain ⟨f, hm, fd, F⟩ := T.d_law_year
  refine ⟨f, fd, hm, F, okG F sc (by fail "many") (fun cdv A outer s H vs Q E hr h => ?_)⟩
  · obtain ⟨d, n, rfl, D, hn, k⟩ := h
    refine ⟨_, (pss_cons (ps_set (i := 1) sc.nd rfl (Or.inl rfl) (pe_lst (pa_cons pe_int (pa_cons pe_int (pa_cons pe_int (pa_cons pe_int (pa_cons pe_int (pa_cons pe_int (pa_cons pe_int (pa_cons pe_int (pa_cons pe_int (pa_cons pe_int (pa_cons pe_int (pa_cons pe_int (pa_cons pe_int (pa_cons pe_int (pa_cons pe_int (pa_cons pe_int (pa_cons pe_int (pa_cons pe_int (pa_cons pe_int pa_nil)))))))))))))))))))))
 (pss_one (ps_ret (pe_ifExp (pt_cmpR (op_eqA hr) (pe_callG (sp := sp_law_next K) (df_law_next T) hr (by decide) b_law_next_2_ b_law_next_2__s (pa_cons (pv 0) (pa_cons pe_int pa_nil)) pk_nil) pe_int (nomark _)) (pe_ix ix_seq (pv 1) (pe_callG (sp := sp_law_next K) (df_law_next T) hr (by decide) b_law_next_2_ b_law_next_2__s (pa_cons (pv 0) (pa_cons pe_int pa_nil)) pk_nil) (fun _ _ => rfl)) (pe_op op_addA pe_int (pe_callG (sp := sp_law_next K) (df_law_next T) hr (by decide) b_law_next_2_ b_law_next_2__s (pa_cons (pv 0) (pa_cons pe_int pa_nil)) pk_nil)))))), ?_⟩
    dsimp only [cxOf, Cx.wish, L2.start, List.map, List.length, List.replicate, List.append, List.cons_append, List.nil_append, Nat.reduceAdd, Nat.reduceSub, Nat.zero_add]
    fail "go"
    · refine g_ixA (fun v => ∃ j, v = .int j ∧ 1 ≤ j ∧ j ≤ 9999) (by with_reducible (fail "sq")) (by fail "all") (by assumption) (by assumption) ?_
      rintro v ⟨j, rfl, j1, j2⟩
      exact k _ _ (by fail "keep") (by fail "dr") j1 j2
    · exact k _ _ (by fail "keep") (by fail "dr") (by omega) (by omega)
local macro_rules | `(tactic| nofun) => `(tactic| ((with_reducible show sp_law_year _ _ _ _ _); refine ⟨_, _, rfl, by with_reducible (fail "dr"), by omega, fun H' y k' D' hy1 hy2 => ?_⟩))

def sp_law_date (K : PySem.W.Frag) : Sp := fun vs H Q _ =>
  ∃ (d : Addr) (n : Nat), vs = [.ref d] ∧ DrawAt K n H d ∧ n + 6 < 1000000000 ∧ ∀ H' p y mo dd, Keep d H H' → DrawAt K (n + 6) H' d → H' p = some (.tup [.int y, .int mo, .int dd]) → valid y mo dd → Q (.ref p) H'
theorem df_law_date (T : Txt K mg) : Df P w K mg base 4 "_law_date" s_law_date ["draw"] (sp_law_date K) := by
  have sc := sc_law_date
  obtain ⟨f, hm, fd, F⟩ := T.d_law_date
  refine ⟨f, fd, hm, F, okG F sc (by fail "many") (fun cdv A outer s H vs Q E hr h => ?_)⟩
  · obtain ⟨d, n, rfl, D, hn, k⟩ := h
    refine ⟨_, (pss_cons (ps_par3 (i := 1) (j := 2) (l := 3) rfl sc.nd rfl rfl rfl (by decide) (by decide) (by decide) rfl rfl rfl (pa_cons (pe_callG (sp := sp_law_year K) (df_law_year T) hr (by decide) b_law_year_1_ b_law_year_1__s (pa_cons (pv 0) pa_nil) pk_nil) (pa_cons (pe_ix ix_seq (pe_lst (pa_cons pe_int (pa_cons pe_int (pa_cons pe_int (pa_cons pe_int (pa_cons pe_int (pa_cons (pe_op op_addA pe_int (pe_callG (sp := sp_law_next K) (df_law_next T) hr (by decide) b_law_next_2_ b_law_next_2__s (pa_cons (pv 0) (pa_cons pe_int pa_nil)) pk_nil)) pa_nil))))))) (pe_callG (sp := sp_law_next K) (df_law_next T) hr (by decide) b_law_next_2_ b_law_next_2__s (pa_cons (pv 0) (pa_cons pe_int pa_nil)) pk_nil) (fun _ _ => rfl)) (pa_cons (pe_callG (sp := sp_law_next K) (df_law_next T) hr (by decide) b_law_next_2_ b_law_next_2__s (pa_cons (pv 0) (pa_cons pe_int pa_nil)) pk_nil) pa_nil))) (by rfl))
 (pss_cons (ps_set (i := 4) sc.nd rfl (Or.inl rfl) (pe_callG (sp := sp_law_length K) (df_law_length T) hr (by decide) b_law_length_2_ b_law_length_2__s (pa_cons (pv 1) (pa_cons (pv 2) pa_nil)) pk_nil))
 (pss_one (ps_ret (pe_tup (pa_cons (pv 1) (pa_cons (pv 2) (pa_cons (pe_ifExp (pt_cmpR (op_eqA hr) (pv 3) pe_int (nomark _)) pe_int (pe_ifExp (pt_cmpR (op_eqA hr) (pv 3) pe_int (nomark _)) (pv 4) (pe_op op_addA pe_int (pe_callG (sp := sp_law_next K) (df_law_next T) hr (by decide) b_law_next_2_ b_law_next_2__s (pa_cons (pv 0) (pa_cons (pv 4) pa_nil)) pk_nil)))) pa_nil)))))))), ?_⟩
    dsimp only [cxOf, Cx.wish, L2.start, List.map, List.length, List.replicate, List.append, List.cons_append, List.nil_append, Nat.reduceAdd, Nat.reduceSub, Nat.zero_add]
    fail "go"
    refine g_ixA (fun v => ∃ j, v = .int j ∧ 1 ≤ j ∧ j ≤ 12) (by with_reducible (fail "sq")) (by fail "all") (by assumption) (by assumption) ?_
    rintro v ⟨mo, rfl, m1, m2⟩
    rename_i H1 y k1 D1 y1 y2 _ _ _ _ _ _ _ _ _ _ _ _ _ _
    have lo := mlen_lo y mo
    have hi := mlen_hi y mo
    fail "go"
    all_goals exact k _ _ y mo _ (by fail "keep") (by fail "dru") (by fail "h") ⟨y1, y2, m1, m2, by omega, by omega⟩
local macro_rules | `(tactic| nofun) => `(tactic| ((with_reducible show sp_law_date _ _ _ _ _); refine ⟨_, _, rfl, by with_reducible (fail "dr"), by omega, fun H' p y mo dd k' D' hp hv => ?_⟩))

def sp_law_day_right (K : PySem.W.Frag) : Sp := fun vs H Q _ =>
  ∃ (a : Addr) (y m d : Int), vs = [.ref a] ∧ SqT K H a [.int y, .int m, .int d] ∧ valid y m d ∧ ∀ H', Same H H' → Q (.bl true) H'
theorem df_law_day_right (T : Txt K mg) : Df P w K mg base 6 "_law_day_right" s_law_day_right ["seen"] (sp_law_day_right K) := by
  have sc := sc_law_day_right
  obtain ⟨f, hm, fd, F⟩ := T.d_law_day_right
  refine ⟨f, fd, hm, F, okG F sc (by fail "many") (fun cdv A outer s H vs Q E hr h => ?_)⟩
  · obtain ⟨a, y, m, d, rfl, hs, v, k⟩ := h
    refine ⟨_, (pss_cons (ps_asg (pv 0) (pg_tup (by rfl) (pgs_cons (pg_name (i := 1) sc.nd rfl (Or.inl rfl)) (pgs_cons (pg_name (i := 2) sc.nd rfl (Or.inl rfl)) (pgs_cons (pg_name (i := 3) sc.nd rfl (Or.inl rfl)) pgs_nil)))))
 (pss_cons (ps_set (i := 4) sc.nd rfl (Or.inl rfl) (pe_callG (sp := sp_law_number K) (df_law_number T) hr (by decide) b_law_number_3_ b_law_number_3__s (pa_cons (pv 1) (pa_cons (pv 2) (pa_cons (pv 3) pa_nil))) pk_nil))
 (pss_cons (ps_set (i := 5) sc.nd rfl (Or.inl rfl) (pe_lst (pa_cons (pe_callG (sp := sp_day_number K) (df_day_number T) hr (by decide) b_day_number_3_ b_day_number_3__s (pa_cons (pv 1) (pa_cons (pv 2) (pa_cons (pv 3) pa_nil))) pk_nil) (pa_cons (pe_callG0 (sp := sp_day_number K) (df_day_number T) hr (by decide) b_day_number_0_day_month_year b_day_number_0_day_month_year_s (pk_cons (pv 3) (pk_cons (pv 2) (pk_cons (pv 1) pk_nil)))) pa_nil))))
 (pss_cons (ps_if (PW.pt (pw_or (pt_cmpR (op_neA hr) (pe_callB (call_repr hr) (by rfl) T.b_repr (by decide +kernel) (pa_cons (pv 5) pa_nil)) (pe_callB (call_repr hr) (by rfl) T.b_repr (by decide +kernel) (pa_cons (pe_lst (pa_cons (pv 4) (pa_cons (pv 4) pa_nil))) pa_nil)) (nomark _)) (pw_or (pt_cmpR (op_neA hr) (pe_callB (call_repr hr) (by rfl) T.b_repr (by decide +kernel) (pa_cons (pe_callG (sp := sp_date_of K) (df_date_of T) hr (by decide) b_date_of_1_ b_date_of_1__s (pa_cons (pv 4) pa_nil) pk_nil) pa_nil)) (pe_callB (call_repr hr) (by rfl) T.b_repr (by decide +kernel) (pa_cons (pv 0) pa_nil)) (nomark _)) (pw_or1 (pt_cmpR (op_neA hr) (pe_callG0 (sp := sp_date_of K) (df_date_of T) hr (by decide) b_date_of_0_number b_date_of_0_number_s (pk_cons (pv 4) pk_nil)) (pv 0) (nomark _)))))) (pss_one (ps_ret pe_bl)) pss_nil)
 (pss_cons (ps_if (pt_cmpR (op_neA hr) (pe_lst (pa_cons (pe_callG (sp := sp_weekday_of K) (df_weekday_of T) hr (by decide) b_weekday_of_1_ b_weekday_of_1__s (pa_cons (pv 4) pa_nil) pk_nil) (pa_cons (pe_callG0 (sp := sp_weekday_of K) (df_weekday_of T) hr (by decide) b_weekday_of_0_number b_weekday_of_0_number_s (pk_cons (pv 4) pk_nil)) pa_nil))) (pe_op op_mulA (pe_lst (pa_cons (pe_op op_modA (pe_op op_subA (pv 4) pe_int) pe_int) pa_nil)) pe_int) (nomark _)) (pss_one (ps_ret pe_bl)) pss_nil)
 (pss_cons (ps_if (PW.pt (pw_or (pt_cmpR (op_neA hr) (pe_callB (call_repr hr) (by rfl) T.b_repr (by decide +kernel) (pa_cons (pe_callG (sp := sp_is_leap K) (df_is_leap T) hr (by decide) b_is_leap_1_ b_is_leap_1__s (pa_cons (pv 1) pa_nil) pk_nil) pa_nil)) (pe_callB (call_repr hr) (by rfl) T.b_repr (by decide +kernel) (pa_cons (pe_cmpR (op_eqA hr) (pe_callG (sp := sp_law_length K) (df_law_length T) hr (by decide) b_law_length_2_ b_law_length_2__s (pa_cons (pv 1) (pa_cons pe_int pa_nil)) pk_nil) pe_int (nomark _)) pa_nil)) (nomark _)) (pw_or1 (pt_cmpR (op_neA hr) (pe_callG (sp := sp_days_in K) (df_days_in T) hr (by decide) b_days_in_2_ b_days_in_2__s (pa_cons (pv 1) (pa_cons (pv 2) pa_nil)) pk_nil) (pe_callG (sp := sp_law_length K) (df_law_length T) hr (by decide) b_law_length_2_ b_law_length_2__s (pa_cons (pv 1) (pa_cons (pv 2) pa_nil)) pk_nil) (nomark _))))) (pss_one (ps_ret pe_bl)) pss_nil)
 (pss_cons (ps_set (i := 6) sc.nd rfl (Or.inl rfl) (pe_callG (sp := sp_law_next_day K) (df_law_next_day T) hr (by decide) b_law_next_day_3_ b_law_next_day_3__s (pa_cons (pv 1) (pa_cons (pv 2) (pa_cons (pv 3) pa_nil))) pk_nil))
 (pss_cons (ps_if (pt_cmpR (op_eqA hr) (pe_ix ix_seq (pv 6) pe_int (fun _ _ => rfl)) pe_int (nomark _)) (pss_one (ps_ret (pe_cmpR (op_eqA hr) (pv 4) pe_int (nomark _)))) pss_nil)
 (pss_one (ps_ret (pe_and (pe_cmpR (op_eqA hr) (pe_callG (sp := sp_date_of K) (df_date_of T) hr (by decide) b_date_of_1_ b_date_of_1__s (pa_cons (pe_op op_addA (pv 4) pe_int) pa_nil) pk_nil) (pv 6) (nomark _)) (pe_one (pe_cmpR (op_eqA hr) (pe_callG (sp := sp_day_number K) (df_day_number T) hr (by decide) b_day_number_3_ b_day_number_3__s (pa_cons (pe_ix ix_seq (pv 6) pe_int (fun _ _ => rfl)) (pa_cons (pe_ix ix_seq (pv 6) pe_int (fun _ _ => rfl)) (pa_cons (pe_ix ix_seq (pv 6) pe_int (fun _ _ => rfl)) pa_nil))) pk_nil) (pe_op op_addA (pv 4) pe_int) (nomark _)))))))))))))), ?_⟩
    dsimp only [cxOf, Cx.wish, L2.start, List.map, List.length, List.replicate, List.append, List.cons_append, List.nil_append, Nat.reduceAdd, Nat.reduceSub, Nat.zero_add]
    obtain ⟨b1, b2⟩ := dnum_bound v
    obtain ⟨h1, h2, h3, h4, h5, h6⟩ := id v
    have hi := mlen_hi y m
    fail "go"
    rename_i y1 m1 d1 s1 hp1 hv1 he1
    obtain ⟨rfl, rfl, rfl⟩ := dnum_inj v hv1 he1.symm
    fail "go"
    rename_i y1 m1 d1 s2 hp2 hv2 he2
    obtain ⟨rfl, rfl, rfl⟩ := dnum_inj v hv2 he2.symm
    have sn := dnum_next v
    by_cases hn : nextY y m d = 10000
    · have hl := next_last v hn
      fail "go"
      exact finB k (decide_eq_true hl) (by fail "same")
    · have vn := valid_next v hn
      obtain ⟨n1, n2⟩ := dnum_bound vn
      obtain ⟨g1, g2, g3, g4, g5, g6⟩ := id vn
      have hi2 := mlen_hi (nextY y m d) (nextM y m d)
      fail "go"
      rename_i y1 m1 d1 s3 hp3 hv3 he3
      obtain ⟨rfl, rfl, rfl⟩ := dnum_inj vn hv3 (by omega)
      fail "go"
      exact finB k (decide_eq_true sn) (by fail "same")
local macro_rules | `(tactic| nofun) => `(tactic| ((with_reducible show sp_law_day_right _ _ _ _ _); refine ⟨_, _, _, _, rfl, by fail "sq", by assumption, fun H' s' => ?_⟩))

def sp_law (K : PySem.W.Frag) : Sp := fun vs H Q _ =>
  ∃ (a : Addr) (ns : List Int), vs = [.ref a] ∧ SqL K H a (ns.map V.int) ∧ ns.length ≤ 63 ∧ ∀ H', Q (.bl true) H'
theorem df_law (T : Txt K mg) : Df P w K mg base 7 "law" s_law ["script"] (sp_law K) := by
  have sc := sc_law
  obtain ⟨f, hm, fd, F⟩ := T.d_law
  refine ⟨f, fd, hm, F, okG F sc (by fail "many") (fun cdv A outer s H vs Q E hr h => ?_)⟩
  · obtain ⟨a, ns, rfl, hs, hn, k⟩ := h
    refine ⟨_, (pss_cons (ps_set (i := 1) sc.nd rfl (Or.inl rfl) (pe_callG (sp := sp_law_begin K) (df_law_begin T) hr (by decide) b_law_begin_1_ b_law_begin_1__s (pa_cons (pv 0) pa_nil) pk_nil))
 (pss_cons (ps_for PassesOwn.never rfl (pi_range1 rfl T.b_range (pa_cons (pe_op op_addA pe_int (pe_callB (call_min2 rfl) (by rfl) T.b_min (by decide +kernel) (pa_cons pe_int (pa_cons (pe_callB call_lenA (by rfl) T.b_len (by decide +kernel) (pa_cons (pv 0) pa_nil)) pa_nil)))) pa_nil)) (pg_name (i := 2) sc.nd rfl (Or.inl rfl)) (pss_one (ps_if (pt_not (pt_val (pe_callG (sp := sp_law_day_right K) (df_law_day_right T) hr (by decide) b_law_day_right_1_ b_law_day_right_1__s (pa_cons (pe_callG (sp := sp_law_date K) (df_law_date T) hr (by decide) b_law_date_1_ b_law_date_1__s (pa_cons (pv 1) pa_nil) pk_nil) pa_nil) pk_nil))) (pss_one (ps_ret pe_bl)) pss_nil)))
 (pss_cons (ps_set (i := 3) sc.nd rfl (Or.inr rfl) (pe_callG (sp := sp_law_year K) (df_law_year T) hr (by decide) b_law_year_1_ b_law_year_1__s (pa_cons (pv 1) pa_nil) pk_nil))
 (pss_cons (ps_setLc (i := 4) (own := [("mo", 5)]) (g := gName 5) (tt := tYes) rfl sc.nd rfl rfl (sw_true rfl rfl rfl (by decide +kernel)) (pi_range2 rfl T.b_range (pa_cons pe_int (pa_cons pe_int pa_nil))) (blkOk_by (N := ["script", "draw", "turn", "y", "told", "mo"]) (sc := defScope s_law) (by decide +kernel)) (fun _ _ _ _ _ => (pg_name (i := 5) sc.nd rfl (Or.inl rfl))) (fun _ _ _ _ _ => pts_nil) (fun _ _ _ _ _ => (pe_callG (sp := sp_days_in K) (df_days_in T) hr (by decide) b_days_in_2_ b_days_in_2__s (pa_cons (pv 3) (pa_cons (pv 5) pa_nil)) pk_nil)))
 (pss_cons (ps_if (PW.pt (pw_or (pt_cmpR (op_neA hr) (pv 4) (pe_lc (own := [("mo", 5)]) (g := gName 5) (tt := tYes) rfl sc.nd (pi_range2 rfl T.b_range (pa_cons pe_int (pa_cons pe_int pa_nil))) (blkOk_by (N := ["script", "draw", "turn", "y", "told", "mo"]) (sc := defScope s_law) (by decide +kernel)) (fun _ _ _ _ _ => (pg_name (i := 5) sc.nd rfl (Or.inl rfl))) (fun _ _ _ _ _ => pts_nil) (fun _ _ _ _ _ => (pe_callG (sp := sp_law_length K) (df_law_length T) hr (by decide) b_law_length_2_ b_law_length_2__s (pa_cons (pv 3) (pa_cons (pv 5) pa_nil)) pk_nil))) (nomark _)) (pw_or1 (pt_cmpR (op_neA hr) (pe_callG0 (sp := sp_days_in K) (df_days_in T) hr (by decide) b_days_in_0_month_year b_days_in_0_month_year_s (pk_cons pe_int (pk_cons (pv 3) pk_nil))) (pe_callG (sp := sp_law_length K) (df_law_length T) hr (by decide) b_law_length_2_ b_law_length_2__s (pa_cons (pv 3) (pa_cons pe_int pa_nil)) pk_nil) (nomark _))))) (pss_one (ps_ret pe_bl)) pss_nil)
 (pss_cons (ps_if (pt_cmpR (op_neA hr) (pe_callB (call_repr hr) (by rfl) T.b_repr (by decide +kernel) (pa_cons (pe_lst (pa_cons (pe_callG (sp := sp_is_leap K) (df_is_leap T) hr (by decide) b_is_leap_1_ b_is_leap_1__s (pa_cons (pv 3) pa_nil) pk_nil) (pa_cons (pe_callG0 (sp := sp_is_leap K) (df_is_leap T) hr (by decide) b_is_leap_0_year b_is_leap_0_year_s (pk_cons (pv 3) pk_nil)) pa_nil))) pa_nil)) (pe_callB (call_repr hr) (by rfl) T.b_repr (by decide +kernel) (pa_cons (pe_op op_mulA (pe_lst (pa_cons (pe_cmpR (op_eqA hr) (pe_callG (sp := sp_law_length K) (df_law_length T) hr (by decide) b_law_length_2_ b_law_length_2__s (pa_cons (pv 3) (pa_cons pe_int pa_nil)) pk_nil) pe_int (nomark _)) pa_nil)) pe_int) pa_nil)) (nomark _)) (pss_one (ps_ret pe_bl)) pss_nil)
 (pss_cons (ps_set (i := 4) sc.nd rfl (Or.inl rfl) (pe_lst (pa_cons (pe_callG (sp := sp_day_number K) (df_day_number T) hr (by decide) b_day_number_3_ b_day_number_3__s (pa_cons pe_int (pa_cons pe_int (pa_cons pe_int pa_nil))) pk_nil) (pa_cons (pe_callG (sp := sp_date_of K) (df_date_of T) hr (by decide) b_date_of_1_ b_date_of_1__s (pa_cons pe_int pa_nil) pk_nil) (pa_cons (pe_callG (sp := sp_weekday_of K) (df_weekday_of T) hr (by decide) b_weekday_of_1_ b_weekday_of_1__s (pa_cons pe_int pa_nil) pk_nil) (pa_cons (pe_callG (sp := sp_date_of K) (df_date_of T) hr (by decide) b_date_of_1_ b_date_of_1__s (pa_cons pe_int pa_nil) pk_nil) (pa_cons (pe_op op_modA (pe_callG (sp := sp_day_number K) (df_day_number T) hr (by decide) b_day_number_3_ b_day_number_3__s (pa_cons pe_int (pa_cons pe_int (pa_cons pe_int pa_nil))) pk_nil) pe_int) pa_nil)))))))
 (pss_one (ps_ret (pe_cmpR (op_eqA hr) (pv 4) (pe_lst (pa_cons pe_int (pa_cons (pe_tup (pa_cons pe_int (pa_cons pe_int (pa_cons pe_int pa_nil)))) (pa_cons pe_int (pa_cons (pe_tup (pa_cons pe_int (pa_cons pe_int (pa_cons pe_int pa_nil)))) (pa_cons pe_int pa_nil)))))) (nomark _))))))))))), ?_⟩
    dsimp only [cxOf, Cx.wish, L2.start, List.map, List.length, List.replicate, List.append, List.cons_append, List.nil_append, Nat.reduceAdd, Nat.reduceSub, Nat.zero_add]
    have v1 : valid 1 1 1 := ⟨by decide, by decide, by decide, by decide, by decide, by decide⟩
    have v2 : valid 9999 12 31 := ⟨by decide, by decide, by decide, by decide, by decide, by decide⟩
    have v3 : valid 2022 3 7 := ⟨by decide, by decide, by decide, by decide, by decide, by decide⟩
    have e1 : dnum 1 1 1 = 1 := by decide
    have e2 : dnum 9999 12 31 = 3652059 := by decide
    have e3 : dnum 2022 3 7 % 7 = 1 := by decide
    fail "go"
    rename_i d s0 nd D0
    have hj : (8 + if (ns.map V.int).length < (8 : Int) then ((ns.map V.int).length : Int) else 8) ≤ 16 := by split <;> omega
    have hj0 : 0 ≤ (8 + if (ns.map V.int).length < (8 : Int) then ((ns.map V.int).length : Int) else 8) := by split <;> omega
    refine ⟨by omega, by omega, for_range (fun i σ H' => ∃ w, σ = [some (.ref a), some (.ref d), w, none, none, none] ∧ DrawAt K (6 * i) H' d) ⟨none, rfl, by fail "dr"⟩ ?_ ?_⟩
    · rintro i σ H1 hi ⟨w, rfl, D1⟩
      fail "go"
      exact ⟨_, rfl, by fail "dru"⟩
    · rintro σ H1 ⟨w, rfl, D1⟩
      have D2 : DrawAt K 96 H1 d := D1.up (by omega)
      clear D1
      fail "go"
      rename_i H2 y k2 D3 y1 y2
      refine ⟨⟨by decide, by decide, by decide, by decide⟩, lc_map (n := ((13 : Int) - 1).toNat) (fun i => .int (mlen y (1 + (i : Int)))) (by decide) (fun _ => rfl) ?_ ?_⟩
      · intro i hi H3 s3 Q1 k1
        have hi2 : i < 12 := hi
        fail "go"
        exact k1 _ (by fail "same")
      intro D4 H3 nD s3 hD
      fail "go"
      refine ⟨⟨by decide, by decide, by decide, by decide⟩, lc_map (n := ((13 : Int) - 1).toNat) (fun i => .int (mlen y (1 + (i : Int)))) (by decide) (fun _ => rfl) ?_ ?_⟩
      · intro i hi H4 s4 Q1 k1
        have hi2 : i < 12 := hi
        fail "go"
        exact k1 _ (by fail "same")
      intro D5 H4 nD5 s4 hD5
      fail "go"
      refine g_neMap (fun i => mlen y (1 + (i : Int))) _ (by fail "sq") (by fail "sq") ?_ ?_
      · intro i hi
        have := mlen_hi y (1 + (i : Int))
        have := mlen_lo y (1 + (i : Int))
        omega
      fail "go"
      have f2 := ‹dnum _ _ _ = 3652059›
      obtain ⟨rfl, rfl, rfl⟩ := dnum_inj v2 ‹valid _ _ _› (e2.trans f2.symm)
      have f1 := ‹dnum _ _ _ = 1›
      obtain ⟨rfl, rfl, rfl⟩ := dnum_inj v1 ‹valid _ _ _› (e1.trans f1.symm)
      refine g_eqS (d := .list [.int 1, .tuple [.int 1, .int 1, .int 1], .int 0, .tuple [.int 9999, .int 12, .int 31], .int 1]) (Dp.lst (by fail "sq") (.cons (by rw [e1]; exact .int _) (.cons (by fail "dp") (.cons (by exact Dp.int 0) (.cons (by fail "dp") (.cons (by rw [e3]; exact .int _) .nil)))))) (by fail "dp") (by fail "sh") (by omega) ?_
      exact k _
theorem fin_law {h : Heap} {fa : Addr} (X : K.In h) (G : h.Ns mainGlobals mg) (hmg : mg "law" = some (.ref fa)) (T : Txt K mg) :
    ∃ fd : FuncData, (∀ (s : Shared) (u : Value), BindsTo s fd ⟨[u], []⟩ [("script", u)]) ∧ ∀ base : Heap, K.In base → base.Ns mainGlobals mg → FnG P w K mg base CX0 7 fa fd ["script"] (sp_law K) :=
  endG hmg T.d_law (fun _ _ _ _ _ _ _ => rfl) (fun base => df_law T)
end Law
open PySem PySem.W PyProof.Rows in
set_option maxRecDepth 100000 in
set_option maxHeartbeats 0 in
theorem PySem.Challenge.cw_headerfold_k34_days_and_their_numbers_holds : PySem.Challenge.rw_headerfold_k34_days_and_their_numbers.Holds := by
  w_on; o_law; k_head; (case hw => w_witness2)
  k_fill
  refine Hf.walkG (l := PySem.Challenge.rw_headerfold_k34_days_and_their_numbers) (n := 63) (k := 7) (x := "script") (sp := fun w => Law.sp_law _) rfl (by decide) rfl ⟨⟨rfl, by decide, by decide⟩, rfl⟩ (fun w h Y => PySem.W.kIn_of Y) ?F (fun w H a ns hl _ hS => ⟨a, ns, rfl, hS, hl, fun _ => rfl⟩)
  case F =>
    intro w mg fa h KX G hmg
    refine Law.fin_law (mg := mg) KX G hmg ⟨?d_law_begin, ?d_law_mixed, ?d_law_next, ?d_is_whole, ?d_has_leap_day, ?d_month_length, ?d_first_day, ?d_check_year, ?d_check_month, ?d_check_day, ?d_check_number, ?d_is_leap, ?d_days_in, ?d_day_number, ?d_date_of, ?d_weekday_of, ?d_law_length, ?d_law_number, ?d_law_next_day, ?d_law_year, ?d_law_date, ?d_law_day_right, ?d_law, ?b_bool, ?b_int, ?b_isinstance, ?b_len, ?b_min, ?b_range, ?b_repr, ?b_sum, ?c_LAST_YEAR, ?c_LENGTHS, ?c_CYCLE_YEARS, ?c_CYCLE_DAYS, ?c_LAST_DAY⟩
    (case d_law_begin => refine' Hf.mkD KX G ?a ?l ?c ?k; (case a => k_is); (case l => k_is); (case c => k_is); (case k => k_is))
    (case d_law_mixed => refine' Hf.mkD KX G ?a ?l ?c ?k; (case a => k_is); (case l => k_is); (case c => k_is); (case k => k_is))
    (case d_law_next => refine' Hf.mkD KX G ?a ?l ?c ?k; (case a => k_is); (case l => k_is); (case c => k_is); (case k => k_is))
    (case d_is_whole => refine' Hf.mkD KX G ?a ?l ?c ?k; (case a => k_is); (case l => k_is); (case c => k_is); (case k => k_is))
    (case d_has_leap_day => refine' Hf.mkD KX G ?a ?l ?c ?k; (case a => k_is); (case l => k_is); (case c => k_is); (case k => k_is))
    (case d_month_length => refine' Hf.mkD KX G ?a ?l ?c ?k; (case a => k_is); (case l => k_is); (case c => k_is); (case k => k_is))
    (case d_first_day => refine' Hf.mkD KX G ?a ?l ?c ?k; (case a => k_is); (case l => k_is); (case c => k_is); (case k => k_is))
    (case d_check_year => refine' Hf.mkD KX G ?a ?l ?c ?k; (case a => k_is); (case l => k_is); (case c => k_is); (case k => k_is))
    (case d_check_month => refine' Hf.mkD KX G ?a ?l ?c ?k; (case a => k_is); (case l => k_is); (case c => k_is); (case k => k_is))
    (case d_check_day => refine' Hf.mkD KX G ?a ?l ?c ?k; (case a => k_is); (case l => k_is); (case c => k_is); (case k => k_is))
    (case d_check_number => refine' Hf.mkD KX G ?a ?l ?c ?k; (case a => k_is); (case l => k_is); (case c => k_is); (case k => k_is))
    (case d_is_leap => refine' Hf.mkD KX G ?a ?l ?c ?k; (case a => k_is); (case l => k_is); (case c => k_is); (case k => k_is))
    (case d_days_in => refine' Hf.mkD KX G ?a ?l ?c ?k; (case a => k_is); (case l => k_is); (case c => k_is); (case k => k_is))
    (case d_day_number => refine' Hf.mkD KX G ?a ?l ?c ?k; (case a => k_is); (case l => k_is); (case c => k_is); (case k => k_is))
    (case d_date_of => refine' Hf.mkD KX G ?a ?l ?c ?k; (case a => k_is); (case l => k_is); (case c => k_is); (case k => k_is))
    (case d_weekday_of => refine' Hf.mkD KX G ?a ?l ?c ?k; (case a => k_is); (case l => k_is); (case c => k_is); (case k => k_is))
    (case d_law_length => refine' Hf.mkD KX G ?a ?l ?c ?k; (case a => k_is); (case l => k_is); (case c => k_is); (case k => k_is))
    (case d_law_number => refine' Hf.mkD KX G ?a ?l ?c ?k; (case a => k_is); (case l => k_is); (case c => k_is); (case k => k_is))
    (case d_law_next_day => refine' Hf.mkD KX G ?a ?l ?c ?k; (case a => k_is); (case l => k_is); (case c => k_is); (case k => k_is))
    (case d_law_year => refine' Hf.mkD KX G ?a ?l ?c ?k; (case a => k_is); (case l => k_is); (case c => k_is); (case k => k_is))
    (case d_law_date => refine' Hf.mkD KX G ?a ?l ?c ?k; (case a => k_is); (case l => k_is); (case c => k_is); (case k => k_is))
    (case d_law_day_right => refine' Hf.mkD KX G ?a ?l ?c ?k; (case a => k_is); (case l => k_is); (case c => k_is); (case k => k_is))
    (case d_law => refine' Hf.mkD KX G ?a ?l ?c ?k; (case a => k_is); (case l => k_is); (case c => k_is); (case k => k_is))
    (case b_bool => refine' PySem.W.mg_none_of KX G ?a; (case a => k_is))
    (case b_int => refine' PySem.W.mg_none_of KX G ?a; (case a => k_is))
    (case b_isinstance => refine' PySem.W.mg_none_of KX G ?a; (case a => k_is))
    (case b_len => refine' PySem.W.mg_none_of KX G ?a; (case a => k_is))
    (case b_min => refine' PySem.W.mg_none_of KX G ?a; (case a => k_is))
    (case b_range => refine' PySem.W.mg_none_of KX G ?a; (case a => k_is))
    (case b_repr => refine' PySem.W.mg_none_of KX G ?a; (case a => k_is))
    (case b_sum => refine' PySem.W.mg_none_of KX G ?a; (case a => k_is))
    (case c_LAST_YEAR => refine' Hf.mkC KX G ?a ?r; (case a => k_is); (case r => first | exact rfl | exact ⟨_, rfl⟩))
    (case c_LENGTHS => refine' Hf.mkT KX G ?a ?l ?z ?r; (case a => k_is); (case l => k_is); (case z => decide); (case r => repeat (first | exact .nil | refine .cons ?_ ?_ | exact rfl | exact ⟨_, rfl⟩)))
    (case c_CYCLE_YEARS => refine' Hf.mkC KX G ?a ?r; (case a => k_is); (case r => first | exact rfl | exact ⟨_, rfl⟩))
    (case c_CYCLE_DAYS => refine' Hf.mkC KX G ?a ?r; (case a => k_is); (case r => first | exact rfl | exact ⟨_, rfl⟩))
    (case c_LAST_DAY => refine' Hf.mkC KX G ?a ?r; (case a => k_is); (case r => first | exact rfl | exact ⟨_, rfl⟩))
