import PyProof.Rows.All
import Wide.All
import OpenK.AllK
import Wide.FinOn
import HandS.ForMost
import HandS.Flow
import HandS.IsInst
import HandS.TupAny
import HandS.TupMul
import HandS.Steps
import HandS.Conv
import HandS.Codes
import HandS.StrMore
import HandS.Style
import HandS.Walk
import PySem.Challenge.RW_headerfold_k02_marks_names_and_atoms
set_option Elab.async false
set_option linter.all false
set_option maxRecDepth 100000
set_option maxHeartbeats 4000000
namespace Hf
open PySem L2 PySem.Spec PyProof.Rows

/-! ### calls where nothing is being shown (repr's own guard list is known) -/
structure RG (k : Nat) (A : Around) : Prop where
  rm : Room k A
  gd : A.guards = some []
theorem RG.mono {j k : Nat} {A : Around} (r : RG k A) (h : j ≤ k) : RG j A := ⟨r.rm.mono h, r.gd⟩
theorem RG.deeper {k : Nat} {A : Around} (r : RG (k + 1) A) (env : Env) : RG k (A.deeper env) := ⟨r.rm.deeper env, r.gd⟩
structure FnG (P : Program) (w : World) (K : PySem.W.Frag) (mg : Str → Option Value) (base : Heap) (CX : CXT) (k : Nat) (f : Addr) (fd : FuncData) (ps : List Str) (sp : Sp) : Prop where
  many : ∀ xs H Q E, sp xs H Q E → xs.length = ps.length
  go : ∀ (A : Around) (outer : List Env) (s : Shared) (H : Hp) (args : Args) (us : List Value) (xs : List V) (Q : VK) (E : XK), RG k A → Env0 P w K mg base A outer s H → BindsTo s fd args (ps.zip us) →
    Vals xs us → sp xs H Q E → codeAny (model P w) A (.call (.ref f) args) (CR CX outer P w H s Q E) s
section
variable {P : Program} {w : World} {K : PySem.W.Frag} {mg : Str → Option Value} {base : Heap}
theorem FnG.mono {CX : CXT} {j k : Nat} {f : Addr} {fd : FuncData} {ps : List Str} {sp : Sp} (F : FnG P w K mg base CX j f fd ps sp) (h : j ≤ k) : FnG P w K mg base CX k f fd ps sp :=
  ⟨F.many, fun A outer s H args us xs Q E r => F.go A outer s H args us xs Q E (r.mono h)⟩
theorem FnG.imp {CX : CXT} {k : Nat} {f : Addr} {fd : FuncData} {ps : List Str} {sp sp' : Sp} (F : FnG P w K mg base CX k f fd ps sp) (h : ∀ xs H Q E, sp' xs H Q E → sp xs H Q E) : FnG P w K mg base CX k f fd ps sp' :=
  ⟨fun xs H Q E q => F.many xs H Q E (h _ _ _ _ q), fun A outer s H args us xs Q E r e0 b v q => F.go A outer s H args us xs Q E r e0 b v (h _ _ _ _ q)⟩
/-- a def of the text, by its body -/
theorem fnG_of {CX : CXT} {k : Nat} {f : Addr} {name qual : Str} {pa : Arguments} {bd : List Stmt} {sc : Scope} {dV kV doc pm cdv ct oc : Value} {an od : Option Addr} {osl : Array (Option Value)} {N ps : List Str} {sp : Sp}
    (lk : K.lookup f = some ⟨oc, od, .func (PySem.W.fnOf name qual pa bd sc dV kV doc pm an cdv ct), osl⟩) (hcd : PySem.W.codeIn K cdv qual = true) (S : FnScope N ps sc) (many : ∀ xs H Q E, sp xs H Q E → xs.length = ps.length)
    (hb : ∀ (A : Around) (outer : List Env) (s : Shared) (H : Hp) (xs : List V) (Q : VK) (E : XK), RG k (A.deeper (envOfC qual sc s.heap.objs.size f cdv)) → sp xs H Q E →
      ∃ t, PSs (cxOf CX P w K mg base N qual sc f cdv A outer s H E) bd t ∧ t { nx := fun _ H' => Q .non H', rt := Q } (start N xs) H) :
    FnG P w K mg base CX (k + 1) f (PySem.W.fnOf name qual pa bd sc dV kV doc pm an cdv ct) ps sp := by
  refine ⟨many, ?_⟩
  intro A outer s H args us xs Q E r e0 bt rv q
  have n1 := many _ _ _ _ q
  have kin : K.In s.heap := e0.mod.kin.keeps (fun b o z => (e0.bs b o z).1)
  have lim : s.heap.NoLimit := e0.mod.nolimit.keeps (fun b o z => (e0.bs b o z).1)
  have kinds : ∀ y ∈ ps.zip us, sc.names.lookup y.1 = some .local ∨ (sc.names.lookup y.1 = some .cell ∧ ((cellsFrom (s.heap.objs.size + 1) sc.names []).lookup y.1).isSome = true) := by
    rintro ⟨n, v⟩ hy
    rcases S.par n (List.of_mem_zip hy).1 with z | z
    · left; exact z
    · right; exact ⟨z, PySem.W.cellsFrom_some _ _ _ (.inl z)⟩
  refine codeAny_call_function r.rm.depth (kin _ _ lk) rfl S.co S.gen rfl (PySem.W.codeRec_of kin hcd) (bt _ _ _ _ ?_)
  refine wpAny_newFunctionEnv_cells S.kind kinds ?_
  intro env he s1 x
  subst he
  refine ⟨lim.keeps x.toInCall.keep, codeAny_func ?_⟩
  obtain ⟨t, ht, hq⟩ := hb A outer s H xs Q E (r.deeper _) q
  have I := inv_start (CX := CX) (E := E) (qual := qual) (f := f) (cd := cdv) S r.rm.hd e0 n1 rv x
  refine wpAny_mono (ht.run [] s1 (start N xs) H _ I hq) ?_ (fun e s' z => z)
  intro fl s' z
  match fl, z with
  | .ret u, ⟨v, σ', H', J, rv', q'⟩ => exact ⟨v, H', J.os, J.bare, J.base, J.hok, rv', q'⟩
  | .next, ⟨σ', H', J, q'⟩ => exact ⟨V.non, H', J.os, J.bare, J.base, J.hok, rfl, q'⟩
  | .brk, ⟨_, _, _, q'⟩ => exact q'.elim
  | .cont, ⟨_, _, _, q'⟩ => exact q'.elim
/-- .. that lets no exception out -/
theorem okG {x qual : Str} {st : Stmt} {f : Addr} {fd : FuncData} {N ps : List Str} {k : Nat} {sp : Sp} (F : Fun K x qual st f fd) (S : FnScope N ps (defScope st)) (many : ∀ xs H Q E, sp xs H Q E → xs.length = ps.length)
    (hb : ∀ (cdv : Value) (A : Around) (outer : List Env) (s : Shared) (H : Hp) (xs : List V) (Q : VK) (E : XK), RG k (A.deeper (envOfC qual (defScope st) s.heap.objs.size f cdv)) → sp xs H Q E →
      ∃ t, PSs (cxOf CX0 P w K mg base N qual (defScope st) f cdv A outer s H E).nox (defBody st) t ∧ t { nx := fun _ H' => Q .non H', rt := Q } (start N xs) H) : FnG P w K mg base CX0 (k + 1) f fd ps sp := by
  obtain ⟨oc, od, kV, doc, pm, an, cdv, ct, osl, rfl, lk, hcd⟩ := F.ex
  refine fnG_of lk hcd S many ?_
  intro A outer s H xs Q E r q
  obtain ⟨t, h, z⟩ := hb cdv A outer s H xs Q E r q
  exact ⟨t, h.nox, z⟩
end

/-! ### calls by name -/
/-- how n positional values and the keywords ks come to the parameters -/
def Bnd (st : Stmt) (x qual : Str) (ps : List Str) (n : Nat) (ks : List Str) (g : {α : Type} → List α → List α → List α) : Prop :=
  ∀ (kV doc pm : Value) (an : Option Addr) (cdv ct : Value) (us ws : List Value), us.length = n → ws.length = ks.length →
    bindArgs (PySem.W.fnOf x qual (defArgs st) (defBody st) (defScope st) .none kV doc pm an cdv ct) ⟨us, ks.zip ws⟩ = pure (ps.zip (g us ws)) ∧ (g us ws).length = ps.length
/-- g is a shuffle: it hands on what stands in pairs -/
def Shuf (n m : Nat) (g : {α : Type} → List α → List α → List α) : Prop :=
  ∀ (xs : List V) (us : List Value) (zs : List V) (ws : List Value), Vals xs us → Vals zs ws → us.length = n → ws.length = m → Vals (g xs zs) (g us ws)
def tCallG (n m : Nat) (sp : Sp) (g : List V → List V → List V) (t tk : TA) : TE := fun σ H Q => t σ H fun xs H1 => tk σ H1 fun zs H2 => xs.length = n ∧ zs.length = m ∧ sp (g xs zs) H2 Q E0
/-- a def of the module under its name, with its promise -/
structure Df (P : Program) (w : World) (K : PySem.W.Frag) (mg : Str → Option Value) (base : Heap) (k : Nat) (x : Str) (st : Stmt) (ps : List Str) (sp : Sp) : Prop where
  ex : ∃ (f : Addr) (fd : FuncData), mg x = some (.ref f) ∧ Fun K x x st f fd ∧ FnG P w K mg base CX0 k f fd ps sp
section
variable {X : Cx} {k j n m : Nat} {ps ks : List Str} {sp : Sp} {x : Str} {st : Stmt} {p pos : Pos} {e : Expr} {es : List Expr} {kws : List Keyword} {t tk : TA} {g : {α : Type} → List α → List α → List α}
theorem goG {qual : Str} {pins : List (Addr × Obj)} {σ : L2.St} {H : Hp} {s : Shared} {Q : VK} {f : Addr} {fd : FuncData} {us ws : List Value} {xs zs : List V} (F : FnG X.prog X.w X.K X.mg X.base CX0 k f fd ps sp) (U : Fun X.K x qual st f fd)
    (hr : RG k X.A) (hb : Bnd st x qual ps n ks g) (hs : Shuf n ks.length g) (I : Inv X pins σ H s) (r : Vals xs us) (rz : Vals zs ws) (hn : xs.length = n) (hm : zs.length = ks.length) (q : sp (g xs zs) H Q E0) :
    wpAny (model X.prog X.w) X.A (call (.ref f) us (ks.zip ws)) (EP X pins σ Q) X.xe s := by
  obtain ⟨oc, od, kV, doc, pm, an, cdv, ct, osl, rfl, lk, hcd⟩ := U.ex
  have l1 : us.length = n := r.length ▸ hn
  have l2 : ws.length = ks.length := rz.length ▸ hm
  refine wpAny_call (codeAny_mono (F.go X.A X.stack s H ⟨us, ks.zip ws⟩ (g us ws) (g xs zs) Q E0 hr I.env0 (.of_eq (hb kV doc pm an cdv ct us ws l1 l2).1) (hs _ _ _ _ r rz l1 l2) q) ?_)
  intro res s' z
  match res, z with
  | .error e, z => exact z.elim
  | .ok (.ret u), z => exact I.after z
  | .ok .next, z => exact z.elim
  | .ok .brk, z => exact z.elim
  | .ok .cont, z => exact z.elim
theorem pe_callG (D : Df X.prog X.w X.K X.mg X.base k x st ps sp) (hr : RG j X.A) (hj : k ≤ j) (hb : Bnd st x x ps n ks g) (hs : Shuf n ks.length g) (ha : PA X (e :: es) t) (hkw : PK X kws tk) (hg : Gl X x := by rfl)
    (hall : (backToKw pos (keywordEach kws X.env)).all (·.1.isSome) = true := by rfl) (hks : (backToKw pos (keywordEach kws X.env)).filterMap (·.1) = ks := by rfl) (hdb : (x == ("__debug__" : Str)) = false := by decide)
    (he : starEach (e :: es) X.env = (false, eval e X.env) :: starEach es X.env := by rfl) (hpl : ((backTo pos (starEach (e :: es) X.env)).any (·.1) || (backToKw pos (keywordEach kws X.env)).any (·.1.isNone)) = false := by rfl) :
    PE X (.Call (.Name x p) (e :: es) kws pos) (tCallG n ks.length sp (fun a b => g a b) t tk) := by
  obtain ⟨f, fd, hm, U, F⟩ := D.ex
  refine ⟨?_⟩
  intro pins s σ H Q I h
  refine wpAny_Call_Name_kw (ld_glob I hg hm ?_ hdb)
  refine PySem.W.callWith_KW (h₀ := X.base) I.ok.mod.kin U.kp hall ?_ hpl he
  refine thn (ha.run pos pins s σ H _ I h) ?_
  rintro us s1 ⟨xs, H1, I1, r, q⟩
  refine thn (hkw.run pos pins s1 σ H1 _ I1 q) ?_
  rintro ws s2 ⟨zs, H2, I2, rz, q1, q2, q3⟩
  refine ⟨I2.kIn, ?_⟩
  rw [hks]
  exact goG F U (hr.mono hj) hb hs I2 r rz q1 q2 q3
theorem pe_callG0 (D : Df X.prog X.w X.K X.mg X.base k x st ps sp) (hr : RG j X.A) (hj : k ≤ j) (hb : Bnd st x x ps 0 ks g) (hs : Shuf 0 ks.length g) (hkw : PK X kws tk) (hg : Gl X x := by rfl)
    (hall : (backToKw pos (keywordEach kws X.env)).all (·.1.isSome) = true := by rfl) (hks : (backToKw pos (keywordEach kws X.env)).filterMap (·.1) = ks := by rfl) (hdb : (x == ("__debug__" : Str)) = false := by decide)
    (hpl : ((backTo pos (starEach [] X.env)).any (·.1) || (backToKw pos (keywordEach kws X.env)).any (·.1.isNone)) = false := by rfl) :
    PE X (.Call (.Name x p) [] kws pos) (tCallG 0 ks.length sp (fun a b => g a b) tNil tk) := by
  obtain ⟨f, fd, hm, U, F⟩ := D.ex
  refine ⟨?_⟩
  intro pins s σ H Q I h
  refine wpAny_Call_Name_kw (ld_glob I hg hm ?_ hdb)
  refine PySem.W.callWith_KW0 (h₀ := X.base) I.ok.mod.kin U.kp hall ?_ hpl
  refine thn (hkw.run pos pins s σ H _ I h) ?_
  rintro ws s2 ⟨zs, H2, I2, rz, q1, q2, q3⟩
  refine ⟨I2.kIn, ?_⟩
  rw [hks]
  exact goG F U (hr.mono hj) hb hs I2 .nil rz q1 q2 q3
end
/-! ### how many values -/
theorem vals_0 {xs : List V} {us : List Value} (r : Vals xs us) (h : us.length = 0) : xs = [] ∧ us = [] := by
  cases r with
  | nil => exact ⟨rfl, rfl⟩
  | cons _ _ => exact nomatch h
theorem vals_S {n : Nat} {xs : List V} {us : List Value} (r : Vals xs us) (h : us.length = n + 1) : ∃ x u xs' us', xs = x :: xs' ∧ us = u :: us' ∧ RelV x u ∧ Vals xs' us' ∧ us'.length = n := by
  cases r with
  | nil => exact nomatch h
  | cons a b => exact ⟨_, _, _, _, rfl, rfl, a, b, Nat.succ.inj h⟩
end Hf

set_option Elab.async false
set_option linter.all false
set_option maxRecDepth 100000
set_option maxHeartbeats 4000000
namespace Hf
open PySem L2 PySem.Spec PyProof.Rows

/-! ### the end of a law -/
theorem lawG {P : Program} {w : World} {K : PySem.W.Frag} {mg mb : Str → Option Value} {k : Nat} {fa a : Addr} {fd : FuncData} {x : Str} {sp : Sp} {s₁ : Shared} {vs : List Value} {ns : List Int}
    (kin : K.In s₁.heap) (gl : s₁.heap.Ns mainGlobals mg) (bl : s₁.heap.Ns builtinsNs mb) (bb : ∀ x : Str, x ≠ "__name__" → mb x = bootBuiltins x) (lim : s₁.heap.NoLimit) (gn : s₁.gens = #[])
    (oa : s₁.heap.get? a = some { cls := .type "list", data := .seq vs.toArray }) (it : IntsAre vs ns) (sz : ns.length ≤ sizeLine) (rm : RG k callerA)
    (F : ∀ base : Heap, K.In base → base.Ns mainGlobals mg → FnG P w K mg base CX0 k fa fd [x] sp) (bd : ∀ (s : Shared) (u : Value), BindsTo s fd ⟨[u], []⟩ [(x, u)])
    (top : ∀ H : Hp, Only H → SqL K H a (ns.map V.int) → sp [.ref a] H (fun v _ => v = .bl true) E0) :
    codeAny (model P w) callerA (.call (.ref fa) ⟨[.ref a], []⟩) (fun r s' => r = .ok (.ret (.bool true)) ∧ OldK s₁.heap s'.heap ∧ s'.os = s₁.os ∧ AllBare s'.gens) s₁ := by
  have rv : Vals (ns.map V.int) vs := vals_ints it
  have n1 : vs.length = ns.length := it.length
  -- one abstract heap, in which at most the script is told
  have one : ∀ H : Hp, Only H → SqL K H a (ns.map V.int) → HOk P w H s₁.heap → (∀ b, H b ≠ none → b = a) → (H a ≠ none → K.lookup a = none) →
      codeAny (model P w) callerA (.call (.ref fa) ⟨[.ref a], []⟩) (fun r s' => r = .ok (.ret (.bool true)) ∧ OldK s₁.heap s'.heap ∧ s'.os = s₁.os ∧ AllBare s'.gens) s₁ := by
    intro H only seq hok at_a k_a
    have dictFree : ∀ b o es ep, s₁.heap.get? b = some o → o.data = .dict es ep → H b = none := by
      intro b o es ep ho hd
      refine Classical.byContradiction (fun hn => ?_)
      have eb := at_a b hn
      subst eb
      rw [oa] at ho
      have ho' := Option.some.inj ho
      subst ho'
      exact nomatch hd
    have nsOf : ∀ b m, s₁.heap.Ns b m → (hidT s₁.heap H).Ns b m := by
      rintro b m ⟨o, es, ep, h1, h2, h3⟩
      exact ⟨o, es, ep, hidT_get h1 (dictFree b o es ep h1 h2), h2, h3⟩
    have kinB : K.In (hidT s₁.heap H) := by
      intro b o hb
      refine hidT_get (kin b o hb) (Classical.byContradiction (fun hn => ?_))
      have eb := at_a b hn
      subst eb
      rw [k_a hn] at hb
      exact nomatch hb
    have md : Mod K mg (hidT s₁.heap H) := by
      obtain ⟨mc, c1, c2⟩ := lim
      exact ⟨kinB, nsOf _ _ gl, ⟨mb, nsOf _ _ bl, bb⟩, ⟨mc, nsOf _ _ c1, c2⟩⟩
    have e0 : Env0 P w K mg (hidT s₁.heap H) callerA [] s₁ H := ⟨rfl, md, fun b o z => of_hidT z, Nat.le_of_eq (hidT_size _ _), trivial, fun b hb => (List.not_mem_nil hb).elim, hok, .of_eq gn⟩
    refine codeAny_mono ((F _ kinB (nsOf _ _ gl)).go callerA [] s₁ H ⟨[.ref a], []⟩ [.ref a] [.ref a] _ _ rm e0 (bd s₁ (.ref a)) (.cons rfl .nil) (top H only seq)) ?_
    intro r s' z
    match r, z with
    | .error e, z => exact z.elim
    | .ok .next, z => exact z.elim
    | .ok .brk, z => exact z.elim
    | .ok .cont, z => exact z.elim
    | .ok (.ret u), ⟨v, H', os, bare, un, hok', rr, ev⟩ =>
      have ev' : v = .bl true := ev
      subst ev'
      have eu : u = Value.bool true := rr
      subst eu
      refine ⟨rfl, OldK.of_keep (fun b o hb => ?_), os, bare⟩
      cases q : H b with
      | none => exact un.keep b o hb q (fun z => (List.not_mem_nil z).elim) (fun z => (List.not_mem_nil z).elim)
      | some u =>
        rcases only b with z | ⟨ob, xs, z⟩
        · rw [q] at z; exact nomatch z
        · obtain ⟨e1, _⟩ := hok b _ z
          obtain ⟨e2, _⟩ := hok' b _ (un.frzs b ob _ z)
          rw [hb] at e1
          have e1' := Option.some.inj e1
          subst e1'
          exact e2
  by_cases hk : K.lookup a = none
  · refine one (fun b => if b = a then some (.frz { cls := .type "list", data := .seq vs.toArray } (.lst (ns.map V.int))) else none) ?_ ?_ ?_ ?_ (fun _ => hk)
    · intro b
      by_cases hb : b = a
      · right; exact ⟨_, _, if_pos hb⟩
      · left; exact if_neg hb
    · left; right; exact ⟨_, if_pos rfl⟩
    · intro b u z
      by_cases hb : b = a
      · subst hb
        have z' := Option.some.inj ((if_pos rfl).symm.trans z)
        subst z'
        exact ⟨oa, by rw [List.length_map]; exact sz, vs, _, rv, oa⟩
      · exact nomatch ((if_neg hb).symm.trans z)
    · intro b z
      exact Classical.byContradiction fun hb => z (if_neg hb)
  · obtain ⟨o, ho⟩ := Option.ne_none_iff_exists'.mp hk
    have eo := kin a o ho
    rw [oa] at eo
    have eo' := Option.some.inj eo
    subst eo'
    refine one (fun _ => none) (fun _ => .inl rfl) (.inr ⟨_, vs.toArray, _, ho, rfl, rfl, rfl, by rw [List.size_toArray, n1]; exact sz, by simpa using rv⟩) (fun _ _ z => nomatch z) (fun _ z => (z rfl).elim) (fun z => (z rfl).elim)
theorem walkG {l : PySem.W.OpenLaw} {n k : Nat} {q : Program} {loose : List Str} {XP : (Str → Option Value) → Heap → Prop} {YP : World → Heap → Prop} {d : DefRec} {K : Params → PySem.W.Frag} {sp : World → Sp} {x : Str}
    (hn : l.most = some n) (hn2 : n ≤ sizeLine) (hdf : d.params.defaults = []) (rm : RG k callerA) (hY : ∀ (w : World) (h : Heap), YP w h → (K w.params).In h)
    (F : ∀ (w : World) (mg : Str → Option Value) (fa : Addr) (h : Heap), (K w.params).In h → h.Ns mainGlobals mg → mg d.name = some (.ref fa) →
      ∃ fd : FuncData, (∀ (s : Shared) (u : Value), BindsTo s fd ⟨[u], []⟩ [(x, u)]) ∧ ∀ base : Heap, (K w.params).In base → base.Ns mainGlobals mg → FnG l.prog w (K w.params) mg base CX0 k fa fd [x] (sp w))
    (top : ∀ (w : World) (H : Hp) (a : Addr) (ns : List Int), ns.length ≤ n → Only H → SqL (K w.params) H a (ns.map V.int) → sp w [.ref a] H (fun v _ => v = .bl true) E0) :
    PySem.W.WalkO q loose XP YP l.row.toRowW d [] (fun f vs => PySem.call f vs) := by
  refine Att.attach_call hn hdf ?_
  intro w s₀ s₁ mg mb fa o pm cd doc a vs ns G Y ho hd hcd hmg hobj hints hlen hg
  have kin := hY w _ Y
  obtain ⟨fd, hb, hF⟩ := F w mg fa _ kin G.T.g hmg
  exact lawG kin G.T.g G.T.b G.T.builtins G.T.nolimit hg hobj hints (Nat.le_trans hlen hn2) rm hF hb (fun H hO hS => top w H a ns hlen hO hS)


/-! ### repr of data -/
mutual
theorem dp_plain {K : PySem.W.Frag} {H : Hp} : ∀ (d : PyData) (v : V), Dp K H v d → d.hasDict = false
  | .none, _, _ => by simp only [PyData.hasDict]
  | .bool _, _, _ => by simp only [PyData.hasDict]
  | .int _, _, _ => by simp only [PyData.hasDict]
  | .str _, _, _ => by simp only [PyData.hasDict]
  | .list ds, _, .lst _ ha => by
    simp only [PyData.hasDict]
    exact dps_plain ds _ ha
  | .tuple ds, _, .tup _ ha => by
    simp only [PyData.hasDict]
    exact dps_plain ds _ ha
theorem dps_plain {K : PySem.W.Frag} {H : Hp} : ∀ (ds : List PyData) (vs : List V), DpAll K H vs ds → PyData.hasDictAll ds = false
  | [], _, _ => by simp only [PyData.hasDictAll]
  | d :: ds, _, .cons h1 h2 => by
    simp only [PyData.hasDictAll, dp_plain d _ h1, dps_plain ds _ h2, Bool.or_self]
end
def Shows (d : PyData) : Prop := d.showable = true ∧ d.depth ≤ 40 ∧ d.shown.length ≤ sizeLine
def rRepr (K : PySem.W.Frag) : List V → Hp → VK → Prop := fun vs H Q => ∃ v d, vs = [v] ∧ Dp K H v d ∧ Shows d ∧ Q (.str d.shown) H
theorem call_repr {X : Cx} {k : Nat} (hr : RG k X.A) : CallR X (.builtin "repr") (rRepr X.K) := by
  intro pins s σ H xs us Q I r h
  obtain ⟨v, d, rfl, hd, ⟨h1, h2, h3⟩, q⟩ := h
  cases r with
  | cons rv rn =>
    rename_i u us'
    cases rn
    obtain ⟨as, rd⟩ := Dp.reads I d v u hd rv
    have hu : X.A.units + 64 < cLine := hr.rm.units
    have nd := PyData.noDict_hsm (as := as) (dp_plain d v hd)
    cases rd with
    | none =>
      simp only [PyData.shown] at q
      exact P.repr_of_none ⟨.str _, H, I.tok _, ⟨_, rfl⟩, q⟩
    | bool b =>
      simp only [PyData.shown] at q
      exact P.repr_of_bool ⟨.str _, H, I.tok _, ⟨_, rfl⟩, q⟩
    | int i t =>
      simp only [PyData.shown] at q
      exact P.repr_of_int (by simpa [PyData.showable] using h1) ⟨.str _, H, I.tok _, ⟨_, rfl⟩, q⟩
    | str x t =>
      simp only [PyData.shown] at q h3
      exact P.repr_of_str ⟨.str _, H, I.tok _, ⟨_, rfl⟩, q⟩ h3
    | list a b c e =>
      exact repr_of_reads' (.list a b c e) h1 nd hr.gd (by omega) (fun _ _ z => z) (fun h' u' tk kp => ⟨.str _, H, I.kept kp, ⟨_, rfl⟩, q⟩) h3
    | tuple a b c e =>
      exact repr_of_reads' (.tuple a b c e) h1 nd hr.gd (by omega) (fun _ _ z => z) (fun h' u' tk kp => ⟨.str _, H, I.kept kp, ⟨_, rfl⟩, q⟩) h3
    | dict a b c e f => cases hd
end Hf

set_option Elab.async false
set_option linter.all false
set_option maxRecDepth 100000
set_option maxHeartbeats 4000000
namespace Hf
open PySem L2 PySem.Spec PyProof.Rows

/-! ### one rule for each operator, whatever the operands are -/
theorem OpR.or {X : Cx} {f : Value → Value → Sem Value} {r1 r2 : R2} (a : OpR X f r1) (b : OpR X f r2) : OpR X f (fun x y H Q => r1 x y H Q ∨ r2 x y H Q) :=
  fun pins s σ H x y v u Q I rx ry h => h.elim (a pins s σ H x y v u Q I rx ry) (b pins s σ H x y v u Q I rx ry)
def rAddI : R2 := rI0 fun i j => .int (i + j)
def rAddT : R2 := fun x y H Q => ∃ i j, x = .str i ∧ y = .str j ∧ i.length + j.length ≤ sizeLine ∧ Q (.str (i ++ j)) H
def rAddL (K : PySem.W.Frag) : R2 := fun x y H Q => ∃ l b xs zs, x = .ref l ∧ y = .ref b ∧ SqL K H l xs ∧ SqL K H b zs ∧ xs.length + zs.length ≤ sizeLine ∧ ∀ p, H p = none → Q (.ref p) (upd H p (.lst (xs ++ zs)))
theorem op_addL {X : Cx} : OpR X (binaryOp .Add) (rAddL X.K) := by
  intro pins s σ H x y v u Q I rx ry h
  obtain ⟨l, b, xs, zs, rfl, rfl, h1, h2, sz, q⟩ := h
  have e1 : v = Value.ref l := rx
  have e2 : u = Value.ref b := ry
  subst e1
  subst e2
  obtain ⟨i1, r1, ⟨o1, n1, g1, c1, d1, t1⟩, _⟩ := I.list h1
  obtain ⟨i2, r2, ⟨o2, n2, g2, c2, d2, t2⟩, _⟩ := I.list h2
  have l1 := r1.length
  have l2 := r2.length
  obtain ⟨k1, e1, dt1, sl1⟩ := o1
  obtain ⟨k2, e2, dt2, sl2⟩ := o2
  simp only at c1 d1 t1 c2 d2 t2
  subst c1 d1 t1 c2 d2 t2
  refine concat_meets ⟨_, g1, rfl⟩ ⟨_, g2, rfl⟩ noFill_list_add seq_list_add PySem.F.slot_list_add PySem.F.entry_list_add (PySem.F.args_list_add_2 _ _)
    (list_addW l b i1.toArray i2.toArray n1 n2 _ _ sl1 sl2 (by rw [List.size_toArray, List.size_toArray]; omega)) ⟨g1, g2, ?_⟩
  rw [show i1.toArray ++ i2.toArray = (i1 ++ i2).toArray by simp]
  exact ⟨.ref _, _, I.lnew (t' := s.toks) (r1.append r2) (by rw [List.length_append]; omega), rfl, q _ I.fresh⟩
def rAddA (K : PySem.W.Frag) : R2 := fun x y H Q => rAddI x y H Q ∨ (rAddT x y H Q ∨ (rAddL K x y H Q ∨ rCatA K x y H Q))
theorem op_addA {X : Cx} : OpR X (binaryOp .Add) (rAddA X.K) := op_add.or (op_add_str.or (op_addL.or op_catA))
def rSubA : R2 := rI0 fun i j => .int (i - j)
def rMulI : R2 := rI CMul fun i j => .int (i * j)
def rMulA (K : PySem.W.Frag) : R2 := fun x y H Q => rMulI x y H Q ∨ rRep x y H Q
theorem op_mulA {X : Cx} : OpR X (binaryOp .Mult) (rMulA X.K) := op_mul.or op_rep
def rDivA : R2 := rI CDiv fun i j => .int (i / j)
def rModA : R2 := rI (fun _ j => 0 < j) fun i j => .int (i % j)
def rPowA : R2 := rI CPow fun i j => .int (i ^ j.toNat)
theorem op_subA {X : Cx} : OpR X (binaryOp .Sub) rSubA := op_sub
theorem op_divA {X : Cx} : OpR X (binaryOp .FloorDiv) rDivA := op_fdiv
theorem op_modA {X : Cx} : OpR X (binaryOp .Mod) rModA := op_mod
theorem op_powA {X : Cx} : OpR X (binaryOp .Pow) rPowA := op_pow
def rEqA (K : PySem.W.Frag) : R2 := fun x y H Q => rEq x y H Q ∨ rEqD K x y H Q
def rNeA (K : PySem.W.Frag) : R2 := fun x y H Q => rNe x y H Q ∨ rNeD K x y H Q
theorem op_eqA {X : Cx} {k : Nat} (hr : RG k X.A) : OpR X (compareOp .Eq) (rEqA X.K) := op_eq.or (op_eqD hr.rm.units)
theorem op_neA {X : Cx} {k : Nat} (hr : RG k X.A) : OpR X (compareOp .NotEq) (rNeA X.K) := op_ne.or (op_neD hr.rm.units)
def rLtA : R2 := fun x y H Q => (∃ i j, x = .int i ∧ y = .int j ∧ Q (.bl (decide (i < j))) H) ∨ (∃ i j, x = .str i ∧ y = .str j ∧ Q (.bl (decide (i.cps.toList < j.cps.toList))) H)
def rLeA : R2 := fun x y H Q => (∃ i j, x = .int i ∧ y = .int j ∧ Q (.bl (decide (i ≤ j))) H) ∨ (∃ i j, x = .str i ∧ y = .str j ∧ Q (.bl (!decide (j.cps.toList < i.cps.toList))) H)
def rGtA : R2 := fun x y H Q => (∃ i j, x = .int i ∧ y = .int j ∧ Q (.bl (decide (j < i))) H) ∨ (∃ i j, x = .str i ∧ y = .str j ∧ Q (.bl (decide (j.cps.toList < i.cps.toList))) H)
def rGeA : R2 := fun x y H Q => (∃ i j, x = .int i ∧ y = .int j ∧ Q (.bl (decide (j ≤ i))) H) ∨ (∃ i j, x = .str i ∧ y = .str j ∧ Q (.bl (!decide (i.cps.toList < j.cps.toList))) H)
theorem op_ltA {X : Cx} : OpR X (compareOp .Lt) rLtA := OpR.or (r1 := rI0 fun i j => .bl (decide (i < j))) op_lt op_lt_str
theorem op_leA {X : Cx} : OpR X (compareOp .LtE) rLeA := OpR.or (r1 := rI0 fun i j => .bl (decide (i ≤ j))) op_le op_le_str
theorem op_gtA {X : Cx} : OpR X (compareOp .Gt) rGtA := OpR.or (r1 := rI0 fun i j => .bl (decide (j < i))) op_gt op_gt_str
theorem op_geA {X : Cx} : OpR X (compareOp .GtE) rGeA := OpR.or (r1 := rI0 fun i j => .bl (decide (j ≤ i))) op_ge op_ge_str
def rInA (K : PySem.W.Frag) : R2 := fun x y H Q => rIn K false x y H Q ∨ rInS x y H Q
def rNotInA (K : PySem.W.Frag) : R2 := fun x y H Q => rIn K true x y H Q ∨ rNotInS x y H Q
theorem op_inA {X : Cx} : OpR X (compareOp .In) (rInA X.K) := op_in_seq.or op_inS
theorem op_notInA {X : Cx} : OpR X (compareOp .NotIn) (rNotInA X.K) := op_notIn_seq.or op_notInS
def rIsA : R2 := rIsN
def rIsNotA : R2 := rNotN
theorem op_isA {X : Cx} : OpR X (compareOp .Is) rIsA := op_isN1
theorem op_isNotA {X : Cx} : OpR X (compareOp .IsNot) rIsNotA := op_notN1
def ipAddA : TIp := fun x y H Q => (∃ i j, x = .int i ∧ y = .int j ∧ Q (.int (i + j)) H) ∨ (∃ i j, x = .str i ∧ y = .str j ∧ i.length + j.length ≤ sizeLine ∧ Q (.str (i ++ j)) H)
theorem ip_addA {X : Cx} : PIp X .Add ipAddA := fun pins s σ H x y v u Q I rx ry h => h.elim (fun h => ip_add pins s σ H x y v u Q I rx ry h) (fun h => iop_add_str pins s σ H x y v u Q I rx ry h)
def ipSubA : TIp := ipI fun i j => i - j
theorem ip_subA {X : Cx} : PIp X .Sub ipSubA := ip_sub
def rLenA (K : PySem.W.Frag) : List V → Hp → VK → Prop := fun xs H Q => ∃ x n, xs = [x] ∧ LenV K x H n ∧ Q (.int n) H
theorem call_lenA {X : Cx} : CallR X (.builtin "len") (rLenA X.K) := call_len

/-! ### readings, one step at a time -/
section
variable {σ : L2.St} {H : Hp} {Q : VK} {K : PySem.W.Frag} {ta tb tc : TE} {v x y : V} {D : Ends} {t u : TS} {tt tu : TT} {i j : Int}
theorem g_var {n : Nat} (h : σ[n]? = some (some v)) (q : Q v H) : tVar n σ H Q := ⟨v, h, q⟩
theorem g_c (q : Q v H) : tC v σ H Q := q
theorem g_op {r : R2} (q : ta σ H fun x H1 => tb σ H1 fun y H2 => r x y H2 Q) : tOp r ta tb σ H Q := q
theorem g_chain {r r' : R2} (q : ta σ H fun x H1 => tb σ H1 fun y H2 => r x y H2 fun z H3 => ∃ k, z = .bl k ∧ if k = true then tc σ H3 fun w H4 => r' y w H4 Q else Q (.bl false) H3) : tChain r r' ta tb tc σ H Q := q
theorem g_test {Q : Bool → Hp → Prop} (q : ta σ H fun x H1 => ∃ k, x = .bl k ∧ Q k H1) : tTest ta σ H Q := q
theorem g_tB {Q : Bool → Hp → Prop} (q : ta σ H fun x H1 => ∃ k, x = .bl k ∧ Q k H1) : tB ta σ H Q := q
theorem g_bl {b : Bool} {P : Bool → Prop} (q : P b) : ∃ k, V.bl b = V.bl k ∧ P k := ⟨b, rfl, q⟩
theorem g_and {Q : Bool → Hp → Prop} (q : tt σ H fun c H1 => if c = true then tu σ H1 Q else Q false H1) : tAnd tt tu σ H Q := q
theorem g_or {Q : Bool → Hp → Prop} (q : tt σ H fun c H1 => if c = true then Q true H1 else tu σ H1 Q) : tOr tt tu σ H Q := q
theorem g_not {Q : Bool → Hp → Prop} (q : tt σ H fun c H1 => Q (!c) H1) : tNot tt σ H Q := q
theorem g_andV (q : ta σ H fun x H1 => ∃ c, x = .bl c ∧ if c = true then tb σ H1 Q else Q (.bl false) H1) : tAndV ta tb σ H Q := q
theorem g_orV (q : ta σ H fun x H1 => ∃ c, x = .bl c ∧ if c = true then Q (.bl true) H1 else tb σ H1 Q) : tOrV ta tb σ H Q := q
theorem g_notV (q : ta σ H fun x H1 => ∃ c, x = .bl c ∧ Q (.bl (!c)) H1) : tNotV ta σ H Q := q
theorem g_ifE (q : tt σ H fun c H1 => if c = true then ta σ H1 Q else tb σ H1 Q) : tIf tt ta tb σ H Q := q
theorem g_seq (q : t { nx := u D, rt := D.rt, bk := D.bk, ct := D.ct } σ H) : tSeq t u D σ H := q
theorem g_asg {n : Nat} (q : ta σ H fun x H1 => D.nx (σ.set n (some x)) H1) : tAsg ta (gName n) D σ H := q
theorem g_ret (q : ta σ H D.rt) : tRet ta D σ H := q
theorem g_ifS (q : tt σ H fun c H1 => if c = true then t D σ H1 else u D σ H1) : tIfS tt t u D σ H := q
theorem g_next (q : D.nx σ H) : tNext D σ H := q
theorem g_drop (q : ta σ H fun _ H1 => D.nx σ H1) : tDrop ta D σ H := q
theorem g_nil {Q : List V → Hp → Prop} (q : Q [] H) : tNil σ H Q := q
theorem g_cons {tr : TA} {Q : List V → Hp → Prop} (q : ta σ H fun x H1 => tr σ H1 fun xs H2 => Q (x :: xs) H2) : tCons ta tr σ H Q := q
theorem g_tup {t : TA} (q : t σ H fun xs H1 => xs.length ≤ sizeLine ∧ ∀ p, H1 p = none → Q (.ref p) (upd H1 p (.tup xs))) : tTup t σ H Q := q
theorem g_lst {t : TA} (q : t σ H fun xs H1 => xs.length ≤ sizeLine ∧ ∀ p, H1 p = none → Q (.ref p) (upd H1 p (.lst xs))) : tLst t σ H Q := q
theorem g_sz {xs : List V} {P : Prop} (h : xs.length ≤ 100000) (q : P) : xs.length ≤ sizeLine ∧ P := ⟨Nat.le_trans h (by decide), q⟩
theorem g_cb {r : List V → Hp → VK → Prop} {t : TA} (q : t σ H fun xs H1 => r xs H1 Q) : tCB r t σ H Q := q
theorem g_callG {n m : Nat} {sp : Sp} {g : List V → List V → List V} {t tk : TA} (q : t σ H fun xs H1 => tk σ H1 fun zs H2 => xs.length = n ∧ zs.length = m ∧ sp (g xs zs) H2 Q E0) : tCallG n m sp g t tk σ H Q := q
theorem g_args {n m : Nat} {xs zs : List V} {P : Prop} (h1 : xs.length = n) (h2 : zs.length = m) (q : P) : xs.length = n ∧ zs.length = m ∧ P := ⟨h1, h2, q⟩
theorem g_sp {sp : Sp} {xs : List V} (q : sp xs H Q E0) : sp xs H Q E0 := q
theorem g_addI (q : Q (.int (i + j)) H) : rAddA K (.int i) (.int j) H Q := .inl ⟨i, j, rfl, rfl, q⟩
theorem g_addT {a b : Str} (h : a.length + b.length ≤ sizeLine) (q : Q (.str (a ++ b)) H) : rAddA K (.str a) (.str b) H Q := .inr (.inl ⟨a, b, rfl, rfl, h, q⟩)
theorem g_addL {a b : Addr} {xs ys : List V} (h1 : SqL K H a xs) (h2 : SqL K H b ys) (h : xs.length + ys.length ≤ sizeLine) (q : ∀ p, H p = none → Q (.ref p) (upd H p (.lst (xs ++ ys)))) : rAddA K (.ref a) (.ref b) H Q := .inr (.inr (.inl ⟨a, b, xs, ys, rfl, rfl, h1, h2, h, q⟩))
theorem g_sub (q : Q (.int (i - j)) H) : rSubA (.int i) (.int j) H Q := ⟨i, j, rfl, rfl, q⟩
theorem g_mulI (c : CMul i j) (q : Q (.int (i * j)) H) : rMulA K (.int i) (.int j) H Q := .inl ⟨i, j, rfl, rfl, c, q⟩
theorem g_rep {a : Addr} {xs : List V} (h : H a = some (.lst xs)) (h1 : -(2 ^ 63) ≤ j) (h2 : j < 2 ^ 63) (h3 : xs.length * j.toNat ≤ sizeLine) (q : ∀ p, H p = none → Q (.ref p) (upd H p (.lst (List.replicate j.toNat xs).flatten))) : rMulA K (.ref a) (.int j) H Q := .inr ⟨a, j, xs, rfl, rfl, h, h1, h2, h3, q⟩
theorem flat1 {α : Type} (x : α) : ∀ n : Nat, (List.replicate n [x]).flatten = List.replicate n x
  | 0 => rfl
  | n + 1 => by rw [List.replicate_succ, List.flatten_cons, flat1 x n, List.replicate_succ]; rfl
theorem g_rep1 {a : Addr} (h : H a = some (.lst [x])) (h1 : -(2 ^ 63) ≤ j) (h2 : j < 2 ^ 63) (h3 : j.toNat ≤ 1000) (q : ∀ p, H p = none → Q (.ref p) (upd H p (.lst (List.replicate j.toNat x)))) : rMulA K (.ref a) (.int j) H Q :=
  g_rep h h1 h2 (by show 1 * j.toNat ≤ sizeLine; rw [Nat.one_mul]; exact Nat.le_trans h3 (by decide)) (by rw [flat1]; exact q)
theorem g_div (c : CDiv i j) (q : Q (.int (i / j)) H) : rDivA (.int i) (.int j) H Q := ⟨i, j, rfl, rfl, c, q⟩
theorem g_mod (c : 0 < j) (q : Q (.int (i % j)) H) : rModA (.int i) (.int j) H Q := ⟨i, j, rfl, rfl, c, q⟩
theorem g_pow (c : CPow i j) (q : Q (.int (i ^ j.toNat)) H) : rPowA (.int i) (.int j) H Q := ⟨i, j, rfl, rfl, c, q⟩
theorem v_int : decide (V.int i = V.int j) = decide (i = j) := by by_cases h : i = j <;> simp [h]
theorem v_bl {a b : Bool} : decide (V.bl a = V.bl b) = decide (a = b) := by by_cases h : a = b <;> simp [h]
theorem v_str {a b : Str} : decide (V.str a = V.str b) = decide (a = b) := by by_cases h : a = b <;> simp [h]
theorem g_eqI (q : Q (.bl (decide (i = j))) H) : rEqA K (.int i) (.int j) H Q := .inl ⟨rfl, by rw [v_int]; exact q⟩
theorem g_eqB {a b : Bool} (q : Q (.bl (decide (a = b))) H) : rEqA K (.bl a) (.bl b) H Q := .inl ⟨rfl, by rw [v_bl]; exact q⟩
theorem g_eqT {a b : Str} (q : Q (.bl (decide (a = b))) H) : rEqA K (.str a) (.str b) H Q := .inl ⟨rfl, by rw [v_str]; exact q⟩
theorem g_neI (q : Q (.bl (!decide (i = j))) H) : rNeA K (.int i) (.int j) H Q := .inl ⟨rfl, by rw [v_int]; exact q⟩
theorem g_neB {a b : Bool} (q : Q (.bl (!decide (a = b))) H) : rNeA K (.bl a) (.bl b) H Q := .inl ⟨rfl, by rw [v_bl]; exact q⟩
theorem g_neT {a b : Str} (q : Q (.bl (!decide (a = b))) H) : rNeA K (.str a) (.str b) H Q := .inl ⟨rfl, by rw [v_str]; exact q⟩
theorem g_eqD {d e : PyData} (h1 : Dp K H x d) (h2 : Dp K H y e) (s1 : SeqAt.shaped d = true) (s2 : SeqAt.shaped e = true) (q : Q (.bl (PyData.eqv d e)) H) : rEqA K x y H Q := .inr ⟨d, e, h1, h2, s1, s2, q⟩
theorem g_neD {d e : PyData} (h1 : Dp K H x d) (h2 : Dp K H y e) (s1 : SeqAt.shaped d = true) (s2 : SeqAt.shaped e = true) (q : Q (.bl (!PyData.eqv d e)) H) : rNeA K x y H Q := .inr ⟨d, e, h1, h2, s1, s2, q⟩
theorem g_ltI (q : Q (.bl (decide (i < j))) H) : rLtA (.int i) (.int j) H Q := .inl ⟨i, j, rfl, rfl, q⟩
theorem g_leI (q : Q (.bl (decide (i ≤ j))) H) : rLeA (.int i) (.int j) H Q := .inl ⟨i, j, rfl, rfl, q⟩
theorem g_gtI (q : Q (.bl (decide (j < i))) H) : rGtA (.int i) (.int j) H Q := .inl ⟨i, j, rfl, rfl, q⟩
theorem g_geI (q : Q (.bl (decide (j ≤ i))) H) : rGeA (.int i) (.int j) H Q := .inl ⟨i, j, rfl, rfl, q⟩
theorem g_inS {c : Nat} {z : Str} (q : Q (.bl (decide (c ∈ z.cps.toList))) H) : rInA K (.str ⟨#[c]⟩) (.str z) H Q := .inr ⟨c, z, rfl, rfl, q⟩
theorem g_niS {c : Nat} {z : Str} (q : Q (.bl (!decide (c ∈ z.cps.toList))) H) : rNotInA K (.str ⟨#[c]⟩) (.str z) H Q := .inr ⟨c, z, rfl, rfl, q⟩
theorem g_inT {a : Addr} {xs : List V} (h : SqT K H a xs) (h1 : flatV x = true) (h2 : xs.all flatV = true) (q : Q (.bl (inV x xs)) H) : rInA K x (.ref a) H Q := .inl ⟨a, xs, rfl, .inr h, h1, h2, q⟩
theorem g_inL {a : Addr} {xs : List V} (h : SqL K H a xs) (h1 : flatV x = true) (h2 : xs.all flatV = true) (q : Q (.bl (inV x xs)) H) : rInA K x (.ref a) H Q := .inl ⟨a, xs, rfl, .inl h, h1, h2, q⟩
theorem g_ixL {a : Addr} {xs : List V} (h : SqL K H a xs) (h1 : atI xs i = some v) (q : Q v H) : rIx K (.ref a) (.int i) H Q := .inl ⟨a, xs, i, v, rfl, rfl, h, h1, q⟩
theorem g_ixT {a : Addr} {xs : List V} (h : SqT K H a xs) (h1 : atI xs i = some v) (q : Q v H) : rIx K (.ref a) (.int i) H Q := .inr (.inl ⟨a, xs, i, v, rfl, rfl, h, h1, q⟩)
theorem g_ixS {z : Str} {c : Nat} (h : z.length ≤ sizeLine) (h1 : atI z.cps.toList i = some c) (q : Q (.str ⟨#[c]⟩) H) : rIx K (.str z) (.int i) H Q := .inr (.inr ⟨z, i, c, rfl, rfl, h, h1, q⟩)
theorem g_lenT {z : Str} (h : z.length ≤ sizeLine) (q : Q (.int z.length) H) : rLenA K [.str z] H Q := ⟨_, _, rfl, ⟨h, rfl⟩, q⟩
theorem g_lenL {a : Addr} {xs : List V} (h : SqL K H a xs) (q : Q (.int xs.length) H) : rLenA K [.ref a] H Q := ⟨_, _, rfl, .inl ⟨xs, h, rfl⟩, q⟩
theorem g_lenU {a : Addr} {xs : List V} (h : SqT K H a xs) (q : Q (.int xs.length) H) : rLenA K [.ref a] H Q := ⟨_, _, rfl, .inr ⟨xs, h, rfl⟩, q⟩
theorem g_isi {T tn : String} {b : Bool} (ty : TyX K H x (.type tn)) (h : kitB tn T = some b) (q : Q (.bl b) H) : rIsi K [x, .ty T] H Q := ⟨x, .ty T, _, _, b, rfl, .ty T, ty, kit_ty h, q⟩
theorem g_repr {d : PyData} (h : Dp K H v d) (h2 : Shows d) (q : Q (.str d.shown) H) : rRepr K [v] H Q := ⟨v, d, rfl, h, h2, q⟩
theorem g_ite {p A B : Prop} [Decidable p] (h1 : p → A) (h2 : ¬ p → B) : if decide p = true then A else B := by
  by_cases h : p
  · rw [if_pos (decide_eq_true h)]; exact h1 h
  · rw [if_neg (by rw [decide_eq_false h]; exact Bool.false_ne_true)]; exact h2 h
theorem g_iteN {p A B : Prop} [Decidable p] (h1 : p → B) (h2 : ¬ p → A) : if (!decide p) = true then A else B := by
  by_cases h : p
  · rw [if_neg (by rw [decide_eq_true h]; decide)]; exact h1 h
  · rw [if_pos (by rw [decide_eq_false h]; rfl)]; exact h2 h
theorem g_iteT {p A B : Prop} [Decidable p] (h : p) (q : A) : if decide p = true then A else B := by rw [if_pos (decide_eq_true h)]; exact q
theorem g_iteF {p A B : Prop} [Decidable p] (h : ¬ p) (q : B) : if decide p = true then A else B := by rw [if_neg (by rw [decide_eq_false h]; exact Bool.false_ne_true)]; exact q
theorem g_iteNT {p A B : Prop} [Decidable p] (h : ¬ p) (q : A) : if (!decide p) = true then A else B := by rw [if_pos (by rw [decide_eq_false h]; rfl)]; exact q
theorem g_iteNF {p A B : Prop} [Decidable p] (h : p) (q : B) : if (!decide p) = true then A else B := by rw [if_neg (by rw [decide_eq_true h]; decide)]; exact q
theorem g_iteNtt {A B : Prop} (q : B) : if (!true) = true then A else B := q
theorem g_iteNff {A B : Prop} (q : A) : if (!false) = true then A else B := q
theorem g_iteb {b : Bool} {A B : Prop} (h1 : b = true → A) (h2 : b = false → B) : if b = true then A else B := by
  cases b with
  | true => exact h1 rfl
  | false => exact h2 rfl
theorem g_iteNb {b : Bool} {A B : Prop} (h1 : b = false → A) (h2 : b = true → B) : if (!b) = true then A else B := by
  cases b with
  | true => exact h2 rfl
  | false => exact h1 rfl
end
end Hf
namespace Hf
open PySem L2 PySem.Spec PyProof.Rows
/-! ### heaps -/
section
variable {H H1 H2 : Hp} {a p : Addr} {o : HO} {K : PySem.W.Frag} {xs : List V}
theorem Same.at_ (e : Same H H1) (h : H a = some o) : H1 a = some o := e a o h
theorem Same.seqT (e : Same H H1) (h : SqT K H a xs) : SqT K H1 a xs := by
  rcases h with (h | ⟨o, h⟩) | h
  · exact .inl (.inl (e _ _ h))
  · exact .inl (.inr ⟨o, e _ _ h⟩)
  · exact .inr h
theorem Same.upd (hp : H p = none) (e : Same H H1) : Same H (upd H1 p o) := fun b u z => by
  rw [upd_ne (ne_of_none z hp)]
  exact e b u z
theorem seq_new (hp : H p = none) (h : SqL K H a xs) : SqL K (upd H p o) a xs := (Same.upd hp (Same.refl H)).seq h
theorem seqT_new (hp : H p = none) (h : SqT K H a xs) : SqT K (upd H p o) a xs := Same.seqT (Same.upd hp (Same.refl H)) h
theorem free_upd (h : upd H p o a = none) : H a = none := by
  by_cases e : a = p
  · subst e; rw [upd_same] at h; exact nomatch h
  · rw [upd_ne e] at h; exact h
mutual
theorem Same.dp (e : Same H H1) : ∀ (d : PyData) (v : V), Dp K H v d → Dp K H1 v d
  | .none, _, .non => .non
  | .bool _, _, .bl _ => .bl _
  | .int _, _, .int _ => .int _
  | .str _, _, .str _ => .str _
  | .list ds, _, .lst h1 h2 => .lst (e.seq h1) (Same.dps e ds _ h2)
  | .tuple ds, _, .tup h1 h2 => .tup (Same.seqT e h1) (Same.dps e ds _ h2)
theorem Same.dps (e : Same H H1) : ∀ (ds : List PyData) (vs : List V), DpAll K H vs ds → DpAll K H1 vs ds
  | [], _, .nil => .nil
  | d :: ds, _, .cons h1 h2 => .cons (Same.dp e d _ h1) (Same.dps e ds _ h2)
end
end
section
variable {H H1 : Hp} {Q : VK} {v w : V}
/-- the end of a def that leaves all as it was -/
theorem fin {P : Hp → Prop} (k : ∀ H', Same H H' → Q v H') (e : w = v) (s : Same H H1) : Q w H1 := e ▸ k H1 s
theorem finI {i j : Int} (k : ∀ H', Same H H' → Q (.int i) H') (e : j = i) (s : Same H H1) : Q (.int j) H1 := e ▸ k H1 s
theorem finB {b c : Bool} (k : ∀ H', Same H H' → Q (.bl b) H') (e : c = b) (s : Same H H1) : Q (.bl c) H1 := e ▸ k H1 s
theorem finT {b c : Str} (k : ∀ H', Same H H' → Q (.str b) H') (e : c = b) (s : Same H H1) : Q (.str c) H1 := e ▸ k H1 s
end
/-! ### names of the module -/
theorem pe_globE {X : Cx} {x : Str} {v : V} {pos : Pos} (h : ∃ u, X.mg x = some u ∧ RelV v u) (hg : Gl X x := by rfl) (hd : (x == ("__debug__" : Str)) = false := by decide) : PE X (.Name x pos) (tC v) := by
  obtain ⟨u, h1, h2⟩ := h
  exact pe_glob hg h1 h2 hd
/-! ### isinstance against built-in types -/
theorem k_int_int : kitB "int" "int" = some true := by decide +kernel
theorem k_int_bool : kitB "int" "bool" = some false := by decide +kernel
theorem k_bool_bool : kitB "bool" "bool" = some true := by decide +kernel
theorem k_bool_int : kitB "bool" "int" = some true := by decide +kernel
theorem k_str_str : kitB "str" "str" = some true := by decide +kernel
theorem k_str_int : kitB "str" "int" = some false := by decide +kernel
theorem k_int_str : kitB "int" "str" = some false := by decide +kernel
section
variable {H : Hp} {K : PySem.W.Frag} {Q : VK} {i : Int} {b : Bool} {z : Str}
theorem g_isiII (q : Q (.bl true) H) : rIsi K [.int i, .ty "int"] H Q := g_isi (.base (.int _)) k_int_int q
theorem g_isiIB (q : Q (.bl false) H) : rIsi K [.int i, .ty "bool"] H Q := g_isi (.base (.int _)) k_int_bool q
theorem g_isiBB (q : Q (.bl true) H) : rIsi K [.bl b, .ty "bool"] H Q := g_isi (.base (.bl _)) k_bool_bool q
theorem g_isiBI (q : Q (.bl true) H) : rIsi K [.bl b, .ty "int"] H Q := g_isi (.base (.bl _)) k_bool_int q
theorem g_isiSS (q : Q (.bl true) H) : rIsi K [.str z, .ty "str"] H Q := g_isi (.base (.str _)) k_str_str q
theorem g_isiSI (q : Q (.bl false) H) : rIsi K [.str z, .ty "int"] H Q := g_isi (.base (.str _)) k_str_int q
theorem g_isiIS (q : Q (.bl false) H) : rIsi K [.int i, .ty "str"] H Q := g_isi (.base (.int _)) k_int_str q
end
end Hf

set_option Elab.async false
set_option linter.all false
set_option maxRecDepth 100000
set_option maxHeartbeats 4000000
namespace Hf
open PySem L2 PySem.Spec PyProof.Rows
/-! ### loops -/
section
variable {σ : L2.St} {H : Hp} {Q : VK} {K : PySem.W.Frag} {D : Ends} {c : TT} {tb : TS} {wi : TI} {g : TG} {te : TE} {ta : TA} {v : V}
theorem g_name {n : Nat} {Q : L2.St → Hp → Prop} (q : Q (σ.set n (some v)) H) : gName n v σ H Q := q
theorem g_while (W : Nat → L2.St → Hp → Prop) (m : Nat) (h0 : W m σ H)
    (hs : ∀ m σ H, W m σ H → c σ H fun b H1 => if b = true then ∃ N : L2.St → Hp → Prop, (∀ σ' H', N σ' H' → ∃ m', m' < m ∧ W m' σ' H') ∧ tb { D with nx := N, ct := N, bk := D.nx } σ H1 else D.nx σ H1) : tWhile c tb D σ H :=
  ⟨W, ⟨m, h0⟩, hs⟩
theorem g_turn {W : Nat → L2.St → Hp → Prop} {m : Nat} (q : tb { D with nx := fun σ' H' => ∃ m', m' < m ∧ W m' σ' H', ct := fun σ' H' => ∃ m', m' < m ∧ W m' σ' H', bk := D.nx } σ H) :
    ∃ N : L2.St → Hp → Prop, (∀ σ' H', N σ' H' → ∃ m', m' < m ∧ W m' σ' H') ∧ tb { D with nx := N, ct := N, bk := D.nx } σ H := ⟨_, fun _ _ n => n, q⟩
theorem g_for1 (q : ta σ H fun vs H1 => ∃ j : Int, vs = [.int j] ∧ -(2 ^ 62) ≤ j ∧ j < 2 ^ 62 ∧ ∃ W : Nat → Nat → L2.St → Hp → Prop, (∃ m, W 0 m σ H1) ∧ ∀ i m σ H, W i m σ H →
  ((Itr 0 j.toNat).stop i H ∧ D.nx σ H) ∨ ((Itr 0 j.toNat).go i H ∧ ∃ N : L2.St → Hp → Prop, (∀ σ' H', N σ' H' → ∃ m', m' < m ∧ W (i + 1) m' σ' H') ∧ ∀ x H', (Itr 0 j.toNat).yld i H x H' → g x σ H' fun σ2 H2 => tb { D with nx := N, ct := N, bk := D.nx } σ2 H2)) : tFor (iRng1 ta) g tb D σ H := q
theorem g_for2 (q : ta σ H fun vs H1 => ∃ i j : Int, vs = [.int i, .int j] ∧ (-(2 ^ 62) ≤ i ∧ i < 2 ^ 62 ∧ -(2 ^ 62) ≤ j ∧ j < 2 ^ 62) ∧ ∃ W : Nat → Nat → L2.St → Hp → Prop, (∃ m, W 0 m σ H1) ∧ ∀ k m σ H, W k m σ H →
  ((Itr i (j - i).toNat).stop k H ∧ D.nx σ H) ∨ ((Itr i (j - i).toNat).go k H ∧ ∃ N : L2.St → Hp → Prop, (∀ σ' H', N σ' H' → ∃ m', m' < m ∧ W (k + 1) m' σ' H') ∧ ∀ x H', (Itr i (j - i).toNat).yld k H x H' → g x σ H' fun σ2 H2 => tb { D with nx := N, ct := N, bk := D.nx } σ2 H2)) : tFor (iRng2 ta) g tb D σ H := q
end
/-! ### comprehensions whose element is a plain value -/
/-- te gives v, whatever was laid meanwhile -/
def Evs (te : TE) (σ : L2.St) (H : Hp) (v : V) : Prop := ∀ Q : VK, (∀ H', Same H H' → Q v H') → te σ H Q
section
variable {σ : L2.St} {H : Hp} {Q : VK} {K : PySem.W.Frag} {te : TE} {ta : TA} {vs : List Nat} {j : Nat}
theorem range_snoc {α : Type} (n : Nat) (f : Nat → α) : (List.range (n + 1)).map f = (List.range n).map f ++ [f n] := by rw [List.range_succ, List.map_append]; rfl
theorem lc_map {lo : Int} {n : Nat} {Qd : Addr → Hp → Prop} (f : Nat → V) (hn : n ≤ 1000000) (hw : ∀ v, wipe ((wipe σ vs).set j (some v)) vs = wipe σ vs)
    (he : ∀ i : Nat, i < n → ∀ H', Same H H' → Evs te ((wipe σ vs).set j (some (.int (lo + i)))) H' (f i))
    (q : ∀ D H', H D = none → Same H H' → H' D = some (.lst ((List.range n).map f)) → Qd D H') :
    ∀ D, H D = none → ∃ W : Nat → Nat → Hp → Prop, (∃ m, W 0 m (upd H D (.lst []))) ∧ ∀ i m H, W i m H → ((Itr lo n).stop i H ∧ Qd D H) ∨ ((Itr lo n).go i H ∧ ∃ Nx : Hp → Prop, (∀ H', Nx H' → ∃ m', m' < m ∧ W (i + 1) m' H') ∧
      ∀ x H', (Itr lo n).yld i H x H' → gName j x (wipe σ vs) H' fun σ2 H2 => wipe σ2 vs = wipe σ vs ∧ tYes σ2 H2 fun b H3 => if b = true then te σ2 H3 fun y H4 => ∃ acc, H4 D = some (.lst acc) ∧ acc.length < sizeLine ∧ Nx (upd H4 D (.lst (acc ++ [y]))) else Nx H3) := by
  intro D hD
  refine lc_range (lo := lo) (n := n) (fun i H' => Same H H' ∧ H' D = some (.lst ((List.range i).map f))) ⟨Same.upd hD (Same.refl H), upd_same⟩ ?_ (fun H' p => q D H' hD p.1 p.2)
  rintro i H' hi ⟨s, hd⟩
  refine ⟨hw _, ?_⟩
  dsimp only [tYes]
  rw [if_pos rfl]
  refine he i hi H' s _ (fun H2 s2 => ⟨_, s2 D _ hd, ?_, Same.upd hD (Same.trans s s2), ?_⟩)
  · rw [List.length_map, List.length_range]
    exact Nat.lt_of_le_of_lt (Nat.le_trans (Nat.le_of_lt hi) hn) (by decide)
  · rw [range_snoc]
    exact upd_same
theorem g_lc1 {g : TG} {tt : TT} (q : ta σ H fun ws H1 => ∃ j : Int, ws = [.int j] ∧ -(2 ^ 62) ≤ j ∧ j < 2 ^ 62 ∧ ∀ D, H1 D = none → ∃ W : Nat → Nat → Hp → Prop, (∃ m, W 0 m (upd H1 D (.lst []))) ∧ ∀ i m H, W i m H → ((Itr 0 j.toNat).stop i H ∧ Q (.ref D) H) ∨
      ((Itr 0 j.toNat).go i H ∧ ∃ Nx : Hp → Prop, (∀ H', Nx H' → ∃ m', m' < m ∧ W (i + 1) m' H') ∧ ∀ x H', (Itr 0 j.toNat).yld i H x H' → g x (wipe σ vs) H' fun σ2 H2 => wipe σ2 vs = wipe σ vs ∧ tt σ2 H2 fun b H3 =>
        if b = true then te σ2 H3 fun y H4 => ∃ acc, H4 D = some (.lst acc) ∧ acc.length < sizeLine ∧ Nx (upd H4 D (.lst (acc ++ [y]))) else Nx H3)) : tLc (iRng1 ta) g tt te vs σ H Q := q
theorem g_lc2 {g : TG} {tt : TT} (q : ta σ H fun ws H1 => ∃ i j : Int, ws = [.int i, .int j] ∧ (-(2 ^ 62) ≤ i ∧ i < 2 ^ 62 ∧ -(2 ^ 62) ≤ j ∧ j < 2 ^ 62) ∧ ∀ D, H1 D = none → ∃ W : Nat → Nat → Hp → Prop, (∃ m, W 0 m (upd H1 D (.lst []))) ∧ ∀ k m H, W k m H → ((Itr i (j - i).toNat).stop k H ∧ Q (.ref D) H) ∨
      ((Itr i (j - i).toNat).go k H ∧ ∃ Nx : Hp → Prop, (∀ H', Nx H' → ∃ m', m' < m ∧ W (k + 1) m' H') ∧ ∀ x H', (Itr i (j - i).toNat).yld k H x H' → g x (wipe σ vs) H' fun σ2 H2 => wipe σ2 vs = wipe σ vs ∧ tt σ2 H2 fun b H3 =>
        if b = true then te σ2 H3 fun y H4 => ∃ acc, H4 D = some (.lst acc) ∧ acc.length < sizeLine ∧ Nx (upd H4 D (.lst (acc ++ [y]))) else Nx H3)) : tLc (iRng2 ta) g tt te vs σ H Q := q
theorem g_sum {a : Addr} {xs : List V} (ns : List Int) (h : SqL K H a xs) (e : xs = ns.map V.int) (q : Q (.int ns.sum) H) : rSum K [.ref a] H Q := ⟨a, ns, rfl, e ▸ h, q⟩
theorem g_par {i j : Nat} {D : Ends} (q : ta σ H fun vs H1 => ∃ v w, vs = [v, w] ∧ D.nx ((σ.set i (some v)).set j (some w)) H1) : tPar i j ta D σ H := q
theorem g_par3 {i j l : Nat} {D : Ends} (q : ta σ H fun vs H1 => ∃ u v w, vs = [u, v, w] ∧ D.nx (((σ.set i (some u)).set j (some v)).set l (some w)) H1) : tPar3 i j l ta D σ H := q
theorem g_two {v w : V} {P : V → V → Prop} (q : P v w) : ∃ a b, [v, w] = [a, b] ∧ P a b := ⟨v, w, rfl, q⟩
theorem g_three {u v w : V} {P : V → V → V → Prop} (q : P u v w) : ∃ a b c, [u, v, w] = [a, b, c] ∧ P a b c := ⟨u, v, w, rfl, q⟩
end
/-! ### draws -/
def drawK (c : Addr) (a l u : Int) : List (Key × V) := [(.inr "cells", .ref c), (.inr "at", .int a), (.inr "left", .int l), (.inr "used", .int u)]
/-- the state of the draws at d (the cells at c), behind at most n draws -/
def DrawAt (K : PySem.W.Frag) (n : Nat) (H : Hp) (d c : Addr) : Prop :=
  ∃ (ns : List Int) (a l u : Int), H d = some (.dK (drawK c a l u)) ∧ H c = some (.lst (ns.map V.int)) ∧ 0 < ns.length ∧ ns.length ≤ 64 ∧ 0 ≤ a ∧ a ≤ n ∧ 0 ≤ u ∧ u ≤ n
/-- all but d is as it was -/
def Keep (d : Addr) (H H' : Hp) : Prop := ∀ b o, b ≠ d → H b = some o → H' b = some o
theorem Keep.refl (d : Addr) (H : Hp) : Keep d H H := fun _ _ _ h => h
theorem Keep.of {d : Addr} {H H' : Hp} (s : Same H H') : Keep d H H' := fun b o _ h => s b o h
theorem Keep.trans {d : Addr} {H H1 H2 : Hp} (a : Keep d H H1) (b : Keep d H1 H2) : Keep d H H2 := fun c o n h => b c o n (a c o n h)
theorem Keep.same {d : Addr} {H H1 H2 : Hp} (a : Keep d H H1) (b : Same H1 H2) : Keep d H H2 := fun c o n h => b c o (a c o n h)
theorem Keep.set {d : Addr} {H H1 : Hp} {o : HO} (a : Keep d H H1) : Keep d H (upd H1 d o) := fun c u n h => by rw [upd_ne n]; exact a c u n h
theorem Keep.new {d p : Addr} {H H1 : Hp} {o : HO} (hp : H p = none) (a : Keep d H H1) : Keep d H (upd H1 p o) := fun c u n h => by rw [upd_ne (ne_of_none h hp)]; exact a c u n h
def notD : HO → Bool
  | .dK _ => false
  | .frz _ u => notD u
  | _ => true
section
variable {K : PySem.W.Frag} {n m : Nat} {H H1 : Hp} {d a p c : Addr} {o : HO} {xs : List V}
theorem DrawAt.ne (D : DrawAt K n H d c) (h : H a = some o) (no : notD o = true) : a ≠ d := fun e => by
  obtain ⟨ns, x, l, u, hd, _⟩ := D
  rw [e, hd] at h
  have h' := Option.some.inj h
  subst h'
  exact Bool.false_ne_true no
theorem Keep.at_ (k : Keep d H H1) (D : DrawAt K n H d c) (h : H a = some o) (no : notD o = true := by rfl) : H1 a = some o := k a o (D.ne h no) h
theorem Keep.seq (k : Keep d H H1) (D : DrawAt K n H d c) (h : SqL K H a xs) : SqL K H1 a xs := by
  rcases h with (h | ⟨o, h⟩) | h
  · exact .inl (.inl (k.at_ D h))
  · exact .inl (.inr ⟨o, k.at_ D h⟩)
  · exact .inr h
theorem Keep.seqT (k : Keep d H H1) (D : DrawAt K n H d c) (h : SqT K H a xs) : SqT K H1 a xs := by
  rcases h with (h | ⟨o, h⟩) | h
  · exact .inl (.inl (k.at_ D h))
  · exact .inl (.inr ⟨o, k.at_ D h⟩)
  · exact .inr h
theorem Keep.free (k : Keep d H H1) (h : H1 a = none) (D1 : DrawAt K m H1 d c) : H a = none := by
  cases e : H a with
  | none => rfl
  | some o =>
    by_cases q : a = d
    · obtain ⟨ns, x, l, u, hd, _⟩ := D1
      rw [q, hd] at h
      exact nomatch h
    · rw [k a o q e] at h
      exact nomatch h
theorem DrawAt.same (s : Same H H1) (D : DrawAt K n H d c) : DrawAt K n H1 d c := by
  obtain ⟨ns, x, l, u, hd, hs, r⟩ := D
  exact ⟨ns, x, l, u, s _ _ hd, s _ _ hs, r⟩
theorem DrawAt.new (hp : H p = none) (D : DrawAt K n H d c) : DrawAt K n (upd H p o) d c := DrawAt.same (Same.upd hp (Same.refl H)) D
theorem DrawAt.put (D : DrawAt K n H d c) (h1 : p ≠ d) (h2 : p ≠ c) : DrawAt K n (upd H p o) d c := by
  obtain ⟨ns, x, l, u, hd, hs, r⟩ := D
  exact ⟨ns, x, l, u, by rw [upd_ne (Ne.symm h1)]; exact hd, by rw [upd_ne (Ne.symm h2)]; exact hs, r⟩
theorem DrawAt.off (D : DrawAt K n H d c) (hp : H p = none) : p ≠ d ∧ p ≠ c := by
  obtain ⟨ns, x, l, u, hd, hs, r⟩ := D
  exact ⟨Ne.symm (ne_of_none hd hp), Ne.symm (ne_of_none hs hp)⟩
theorem DrawAt.mono (h : n ≤ m) (D : DrawAt K n H d c) : DrawAt K m H d c := by
  obtain ⟨ns, x, l, u, hd, hs, h1, h2, h3, h4, h5, h6⟩ := D
  exact ⟨ns, x, l, u, hd, hs, h1, h2, h3, by omega, h5, by omega⟩
end
theorem DrawAt.up {K : PySem.W.Frag} {n m : Nat} {H : Hp} {d c : Addr} (D : DrawAt K n H d c) (h : n ≤ m) : DrawAt K m H d c := D.mono h
section
variable {H H1 : Hp} {a p d : Addr} {o u : HO}
theorem Same.new (hp : H1 p = none) (s : Same H H1) : Same H (L2.upd H1 p o) := Same.trans s (Same.upd hp (Same.refl H1))
theorem Keep.fresh (hp : H1 p = none) (s : Keep d H H1) : Keep d H (upd H1 p o) := s.same (Same.upd hp (Same.refl H1))
theorem upd_new (hp : H p = none) (h : H a = some u) : upd H p o a = some u := by rw [upd_ne (ne_of_none h hp)]; exact h
theorem upd_off (n : a ≠ p) (h : H a = some u) : upd H p o a = some u := by rw [upd_ne n]; exact h
end
theorem dk_cells {c : Addr} {a l u : Int} : valV (drawK c a l u) (Sum.inr "cells") = some (.ref c) := rfl
theorem dk_at {c : Addr} {a l u : Int} : valV (drawK c a l u) (Sum.inr "at") = some (.int a) := rfl
theorem dk_left {c : Addr} {a l u : Int} : valV (drawK c a l u) (Sum.inr "left") = some (.int l) := rfl
theorem dk_used {c : Addr} {a l u : Int} : valV (drawK c a l u) (Sum.inr "used") = some (.int u) := rfl
theorem pk_at {c : Addr} {a l u b : Int} : putK (drawK c a l u) (Sum.inr "at") (.int b) = drawK c b l u := rfl
theorem pk_left {c : Addr} {a l u b : Int} : putK (drawK c a l u) (Sum.inr "left") (.int b) = drawK c a b u := rfl
theorem pk_used {c : Addr} {a l u b : Int} : putK (drawK c a l u) (Sum.inr "used") (.int b) = drawK c a l b := rfl
/-- what d[s] = v asks, d in the slot n -/
def DPutAt (σ : L2.St) (n : Nat) (s : Str) (v : V) (H : Hp) (P : Hp → Prop) : Prop := tVar n σ H fun x H2 => tC (.str s) σ H2 fun y H3 => ∃ a H4, x = .ref a ∧ DPut H3 a y v H4 ∧ P H4
section
variable {σ : L2.St} {H : Hp} {Q : VK} {d c : Addr} {a l u b : Int} {td ty tv : TE} {D : Ends}
theorem g_dcells {n : Nat} (hv : σ[n]? = some (some (.ref d))) (h : H d = some (.dK (drawK c a l u))) (q : Q (.ref c) H) : tDGet (tVar n) (tC (.str "cells")) σ H Q := ⟨_, hv, d, _, rfl, dk_cells ▸ DGet.k (k := Sum.inr "cells") h, q⟩
theorem g_dat {n : Nat} (hv : σ[n]? = some (some (.ref d))) (h : H d = some (.dK (drawK c a l u))) (q : Q (.int a) H) : tDGet (tVar n) (tC (.str "at")) σ H Q := ⟨_, hv, d, _, rfl, dk_at ▸ DGet.k (k := Sum.inr "at") h, q⟩
theorem g_dleft {n : Nat} (hv : σ[n]? = some (some (.ref d))) (h : H d = some (.dK (drawK c a l u))) (q : Q (.int l) H) : tDGet (tVar n) (tC (.str "left")) σ H Q := ⟨_, hv, d, _, rfl, dk_left ▸ DGet.k (k := Sum.inr "left") h, q⟩
theorem g_dused {n : Nat} (hv : σ[n]? = some (some (.ref d))) (h : H d = some (.dK (drawK c a l u))) (q : Q (.int u) H) : tDGet (tVar n) (tC (.str "used")) σ H Q := ⟨_, hv, d, _, rfl, dk_used ▸ DGet.k (k := Sum.inr "used") h, q⟩
theorem g_dput {n : Nat} {s : Str} (q : tv σ H fun v H1 => DPutAt σ n s v H1 (D.nx σ)) : sDPut (tVar n) (tC (.str s)) tv D σ H := q
theorem g_pat {n : Nat} {P : Hp → Prop} (hv : σ[n]? = some (some (.ref d))) (h : H d = some (.dK (drawK c a l u))) (q : P (upd H d (.dK (drawK c b l u)))) : DPutAt σ n "at" (.int b) H P := ⟨_, hv, d, _, rfl, DPut.k (k := Sum.inr "at") h (by show 4 < sizeLine; decide), q⟩
theorem g_pleft {n : Nat} {P : Hp → Prop} (hv : σ[n]? = some (some (.ref d))) (h : H d = some (.dK (drawK c a l u))) (q : P (upd H d (.dK (drawK c a b u)))) : DPutAt σ n "left" (.int b) H P := ⟨_, hv, d, _, rfl, DPut.k (k := Sum.inr "left") h (by show 4 < sizeLine; decide), q⟩
theorem g_pused {n : Nat} {P : Hp → Prop} (hv : σ[n]? = some (some (.ref d))) (h : H d = some (.dK (drawK c a l u))) (q : P (upd H d (.dK (drawK c a l b)))) : DPutAt σ n "used" (.int b) H P := ⟨_, hv, d, _, rfl, DPut.k (k := Sum.inr "used") h (by show 4 < sizeLine; decide), q⟩
end
theorem at_ints {ns : List Int} {i : Int} (h0 : 0 ≤ i) (h1 : i < ns.length) : ∃ x, atI (ns.map V.int) i = some (.int x) ∧ ns[i.toNat]? = some x := by
  have hl : i.toNat < ns.length := by omega
  refine ⟨ns[i.toNat], ?_, List.getElem?_eq_getElem hl⟩
  obtain ⟨m, rfl⟩ : ∃ m : Nat, i = (m : Int) := ⟨i.toNat, by omega⟩
  refine atI_nat ?_
  have h2 : m < ns.length := by omega
  rw [List.getElem?_map, List.getElem?_eq_getElem h2]
  rfl
/-- a comprehension over a range whose element draws -/
theorem lc_draw {K : PySem.W.Frag} {lo : Int} {n : Nat} {σ : L2.St} {H1 : Hp} {te : TE} {vs : List Nat} {j : Nat} {d c : Addr} {Qd : Addr → Hp → Prop} (PV : V → Prop) (m : Nat → Nat) (hn : n ≤ 1000000) (hw : ∀ v, wipe ((wipe σ vs).set j (some v)) vs = wipe σ vs)
    (D0 : DrawAt K (m 0) H1 d c)
    (he : ∀ i : Nat, i < n → ∀ H', Keep d H1 H' → DrawAt K (m i) H' d c → ∀ Q : VK, (∀ H2 y, Keep d H' H2 → DrawAt K (m (i + 1)) H2 d c → PV y → Q y H2) → te ((wipe σ vs).set j (some (.int (lo + i)))) H' Q)
    (q : ∀ D H' ys, H1 D = none → Keep d H1 H' → DrawAt K (m n) H' d c → H' D = some (.lst ys) → ys.length = n → (∀ y ∈ ys, PV y) → Qd D H') :
    ∀ D, H1 D = none → ∃ W : Nat → Nat → Hp → Prop, (∃ m, W 0 m (upd H1 D (.lst []))) ∧ ∀ i m H, W i m H → ((Itr lo n).stop i H ∧ Qd D H) ∨ ((Itr lo n).go i H ∧ ∃ Nx : Hp → Prop, (∀ H', Nx H' → ∃ m', m' < m ∧ W (i + 1) m' H') ∧
      ∀ x H', (Itr lo n).yld i H x H' → gName j x (wipe σ vs) H' fun σ2 H2 => wipe σ2 vs = wipe σ vs ∧ tYes σ2 H2 fun b H3 => if b = true then te σ2 H3 fun y H4 => ∃ acc, H4 D = some (.lst acc) ∧ acc.length < sizeLine ∧ Nx (upd H4 D (.lst (acc ++ [y]))) else Nx H3) := by
  intro D hD
  refine lc_range (lo := lo) (n := n) (fun i H' => ∃ ys, H' D = some (.lst ys) ∧ ys.length = i ∧ (∀ y ∈ ys, PV y) ∧ DrawAt K (m i) H' d c ∧ Keep d H1 H') ⟨[], upd_same, rfl, (fun y hy => nomatch hy), D0.new hD, Keep.fresh hD (Keep.refl _ _)⟩ ?_ ?_
  · rintro i H' hi ⟨ys, hy, hl, hp, Dr, kp⟩
    refine ⟨hw _, ?_⟩
    dsimp only [tYes]
    rw [if_pos rfl]
    refine he i hi H' kp Dr _ (fun H2 y k2 D2 py => ⟨ys, k2.at_ Dr hy, ?_, ys ++ [y], upd_same, ?_, ?_, D2.put (D0.off hD).1 (D0.off hD).2, fun b o n h => ?_⟩)
    · rw [hl]
      exact Nat.lt_of_le_of_lt (Nat.le_trans (Nat.le_of_lt hi) hn) (by decide)
    · rw [List.length_append, hl]; rfl
    · intro z hz
      rcases List.mem_append.mp hz with h | h
      · exact hp z h
      · rw [List.mem_singleton.mp h]; exact py
    · rw [upd_ne (ne_of_none h hD)]
      exact k2 b o n (kp b o n h)
  · rintro H' ⟨ys, hy, hl, hp, Dr, kp⟩
    exact q D H' ys hD kp Dr hy hl hp
theorem g_pc {tk tv : TE} {r : List (TE × TE)} {σ : L2.St} {H : Hp} {Q : List (V × V) → Hp → Prop} (q : tk σ H fun k H1 => tv σ H1 fun v H2 => tPairs r σ H2 fun ps H3 => Q ((k, v) :: ps) H3) : tPairs ((tk, tv) :: r) σ H Q := q
theorem g_pn {σ : L2.St} {H : Hp} {Q : List (V × V) → Hp → Prop} (q : Q [] H) : tPairs [] σ H Q := q
end Hf

set_option Elab.async false
set_option linter.all false
set_option maxRecDepth 100000
set_option maxHeartbeats 4000000
namespace Hf
open PySem L2 PySem.Spec PyProof.Rows
/-! ### how long a shown datum is, at most -/
structure Sh (n k : Nat) (d : PyData) : Prop where
  s : d.showable = true
  k : d.depth ≤ k
  n : d.shown.length ≤ n
  c : d.canLay0 = true
structure Shs (n k : Nat) (ds : List PyData) : Prop where
  s : PyData.showableAll ds = true
  k : PyData.depthAll ds ≤ k
  n : ((PyData.shownAll ds).map (·.length)).sum + 2 * (PyData.shownAll ds).length ≤ n
  c : PyData.canLayAll0 ds = true
theorem Sh.non : Sh 4 0 .none := ⟨by simp only [PyData.showable], by simp only [PyData.depth]; omega, by simp only [PyData.shown]; decide, by simp only [PyData.canLay0]⟩
theorem Sh.bl (b : Bool) : Sh 5 0 (.bool b) := ⟨by simp only [PyData.showable], by simp only [PyData.depth]; omega, by simp only [PyData.shown]; cases b <;> decide, by simp only [PyData.canLay0]⟩
theorem Sh.int {i : Int} (h : i.natAbs < 10 ^ 40) : Sh 41 0 (.int i) := by
  have h2 : i.natAbs.log2 < 1920 := by
    by_cases z : i.natAbs = 0
    · rw [z]; decide
    · exact (Nat.log2_lt z).mpr (Nat.lt_of_lt_of_le h (Nat.le_trans (show 10 ^ 40 ≤ 2 ^ 140 by decide) (Nat.pow_le_pow_right (by decide) (by decide))))
  refine ⟨by simp only [PyData.showable]; exact decide_eq_true h2, by simp only [PyData.depth]; omega, ?_, ?_⟩
  · simp only [PyData.shown]
    have q := int_text_length_le10 (a := i) (k := 40) (by omega) h
    show (Str.ofString (toString i)).length ≤ 41
    have e : (Str.ofString (toString i)).length = (toString i).length := PySem.ofString_length _
    omega
  · simp only [PyData.canLay0]
theorem Sh.list {n k : Nat} {ds : List PyData} (h : Shs n k ds) : Sh (n + 3) (k + 1) (.list ds) :=
  ⟨by simp only [PyData.showable]; exact h.s, by simp only [PyData.depth]; have := h.k; omega, by simp only [PyData.shown]; have := h.n; have := listText_len_le (PyData.shownAll ds); omega, by simp only [PyData.canLay0]; exact h.c⟩
theorem Sh.tup {n k : Nat} {ds : List PyData} (h : Shs n k ds) : Sh (n + 3) (k + 1) (.tuple ds) :=
  ⟨by simp only [PyData.showable]; exact h.s, by simp only [PyData.depth]; have := h.k; omega, by simp only [PyData.shown]; have := h.n; have := tupleText_len_le (PyData.shownAll ds); omega, by simp only [PyData.canLay0]; exact h.c⟩
theorem Shs.nil : Shs 0 0 [] := ⟨by simp only [PyData.showableAll], by simp only [PyData.depthAll]; omega, by simp only [PyData.shownAll]; decide, by simp only [PyData.canLayAll0]⟩
theorem Shs.cons {n m k l : Nat} {d : PyData} {ds : List PyData} (a : Sh n k d) (b : Shs m l ds) : Shs (n + m + 2) (k + l) (d :: ds) := by
  refine ⟨by simp only [PyData.showableAll, a.s, b.s, Bool.and_self], ?_, ?_, by simp only [PyData.canLayAll0, a.c, b.c, Bool.and_self]⟩
  · simp only [PyData.depthAll]
    have := a.k
    have := b.k
    omega
  · simp only [PyData.shownAll, List.map_cons, List.sum_cons, List.length_cons]
    have := a.n
    have := b.n
    omega
theorem Sh.shows {n k : Nat} {d : PyData} (h : Sh n k d) (hn : n ≤ 1000000) (hk : k ≤ 40) : Shows d := ⟨h.s, Nat.le_trans h.k hk, Nat.le_trans h.n (Nat.le_trans hn (by decide))⟩
theorem Sh.shaped {n k : Nat} {d : PyData} (h : Sh n k d) (hk : k ≤ 60) : SeqAt.shaped d = true := by
  unfold SeqAt.shaped
  rw [h.c, decide_eq_true (Nat.le_trans h.k (by omega : k ≤ 64))]
  rfl
/-- two values that are the same datum -/
theorem g_eqS {H : Hp} {K : PySem.W.Frag} {Q : VK} {x y : V} {d : PyData} {n k : Nat} (h1 : Dp K H x d) (h2 : Dp K H y d) (s : Sh n k d) (hk : k ≤ 60) (q : Q (.bl true) H) : rEqA K x y H Q :=
  g_eqD h1 h2 (s.shaped hk) (s.shaped hk) (by rw [SeqAt.eqv_refl d s.c]; exact q)
theorem g_neS {H : Hp} {K : PySem.W.Frag} {Q : VK} {x y : V} {d : PyData} {n k : Nat} (h1 : Dp K H x d) (h2 : Dp K H y d) (s : Sh n k d) (hk : k ≤ 60) (q : Q (.bl false) H) : rNeA K x y H Q :=
  g_neD h1 h2 (s.shaped hk) (s.shaped hk) (by rw [SeqAt.eqv_refl d s.c]; exact q)
theorem g_reprS {H : Hp} {K : PySem.W.Frag} {Q : VK} {v : V} {d : PyData} {n k : Nat} (h : Dp K H v d) (s : Sh n k d) (hn : n ≤ 1000000) (hk : k ≤ 40) (q : Q (.str d.shown) H) : rRepr K [v] H Q := g_repr h (s.shows hn hk) q
theorem at_all {xs : List V} {i : Int} (P : V → Prop) (all : ∀ v ∈ xs, P v) (h0 : 0 ≤ i) (h1 : i < xs.length) : ∃ v, atI xs i = some v ∧ P v := by
  obtain ⟨m, rfl⟩ : ∃ m : Nat, i = (m : Int) := ⟨i.toNat, by omega⟩
  have h2 : m < xs.length := by omega
  exact ⟨xs[m], atI_nat (List.getElem?_eq_getElem h2), all _ (List.getElem_mem h2)⟩
theorem g_ixA {K : PySem.W.Frag} {H : Hp} {Q : VK} {a : Addr} {i : Int} {xs : List V} (P : V → Prop) (h : SqL K H a xs) (all : ∀ v ∈ xs, P v) (h0 : 0 ≤ i) (h1 : i < xs.length) (q : ∀ v, P v → Q v H) : rIx K (.ref a) (.int i) H Q := by
  obtain ⟨v, hv, pv⟩ := at_all P all h0 h1
  exact g_ixL h hv (q v pv)
section
variable {K : PySem.W.Frag} {σ : L2.St} {H : Hp} {Q : L2.St → Hp → Prop} {a : Addr} {xs : List V} {te : TE} {g : TG} {D : Ends} {v : V} {n : Nat} {t : TGs}
theorem g_asgG (q : te σ H fun x H1 => g x σ H1 D.nx) : tAsg te g D σ H := q
theorem g_gtup (h : SqT K H a xs) (hl : xs.length = n) (q : t xs σ H Q) : gTup K n t (.ref a) σ H Q := ⟨a, xs, rfl, h, hl, q⟩
theorem g_gnil (q : Q σ H) : gNil [] σ H Q := ⟨rfl, q⟩
theorem g_gcons (q : g v σ H fun σ' H' => t xs σ' H' Q) : gCons g t (v :: xs) σ H Q := ⟨v, xs, rfl, q⟩
theorem g_retN (q : D.rt .non H) : tRet (tC .non) D σ H := q
end
theorem dps_ints {K : PySem.W.Frag} {H : Hp} : ∀ xs : List Int, DpAll K H (xs.map V.int) (xs.map PyData.int)
  | [] => .nil
  | x :: xs => .cons (.int x) (dps_ints xs)
theorem shs_ints : ∀ xs : List Int, (∀ x ∈ xs, x.natAbs < 10 ^ 40) → Shs (43 * xs.length) 0 (xs.map PyData.int)
  | [], _ => Shs.nil
  | x :: xs, h => by
    have a := Shs.cons (Sh.int (h x List.mem_cons_self)) (shs_ints xs fun y hy => h y (List.mem_cons_of_mem _ hy))
    rw [List.length_cons, show 43 * (xs.length + 1) = 41 + 43 * xs.length + 2 by omega]
    exact a
theorem g_i1 {i : Int} {P : Int → Prop} (q : P i) : ∃ j : Int, [V.int i] = [V.int j] ∧ P j := ⟨i, rfl, q⟩
theorem g_i2 {i j : Int} {P : Int → Int → Prop} (q : P i j) : ∃ a b : Int, [V.int i, V.int j] = [V.int a, V.int b] ∧ P a b := ⟨i, j, rfl, q⟩
theorem g_neMap {K : PySem.W.Frag} {H : Hp} {Q : VK} {a b : Addr} (g : Nat → Int) (n : Nat) (h1 : SqL K H a ((List.range n).map fun i => V.int (g i))) (h2 : SqL K H b ((List.range n).map fun i => V.int (g i))) (hb : ∀ i, i < n → (g i).natAbs < 10 ^ 40)
    (q : Q (.bl false) H) : rNeA K (.ref a) (.ref b) H Q := by
  have e : (List.range n).map (fun i => V.int (g i)) = ((List.range n).map g).map V.int := by rw [List.map_map]; rfl
  rw [e] at h1 h2
  refine g_neS (Dp.lst h1 (dps_ints _)) (Dp.lst h2 (dps_ints _)) (Sh.list (shs_ints _ ?_)) (by omega) q
  intro x hx
  obtain ⟨i, hi, rfl⟩ := List.mem_map.mp hx
  exact hb i (List.mem_range.mp hi)
end Hf

set_option Elab.async false
set_option linter.all false
set_option maxRecDepth 100000
set_option maxHeartbeats 4000000
namespace Hf
open PySem L2 PySem.Spec PyProof.Rows
/-! ### signs and texts -/
/-- the codes of a text -/
abbrev cs (z : Str) : List Nat := z.cps.toList
def sg (c : Nat) : V := .str ⟨#[c]⟩
theorem cs_len (z : Str) : (cs z).length = z.length := by show z.cps.toList.length = z.cps.size; simp
theorem cs_app (a b : Str) : cs (a ++ b) = cs a ++ cs b := by
  show (a.cps ++ b.cps).toList = _
  simp
theorem len_app (a b : Str) : (a ++ b).length = a.length + b.length := by
  show (a.cps ++ b.cps).size = _
  rw [Array.size_append]
  rfl
theorem str_ext {a b : Str} (h : cs a = cs b) : a = b := by
  cases a; cases b
  have h' : Array.toList _ = Array.toList _ := h
  exact congrArg Str.mk (Array.toList_inj.mp h')
/-- at most n signs, all of them below 128 -/
def As (n : Nat) (z : Str) : Prop := z.length ≤ n ∧ ∀ c ∈ cs z, c < 128
theorem As.of {n : Nat} {z : Str} (h : z.length ≤ n) (k : ∀ c ∈ cs z, c < 128) : As n z := ⟨h, k⟩
theorem As.mono {n m : Nat} {z : Str} (h : As n z) (l : n ≤ m) : As m z := ⟨Nat.le_trans h.1 l, h.2⟩
theorem As.app {n m : Nat} {a b : Str} (h : As n a) (k : As m b) : As (n + m) (a ++ b) :=
  ⟨by rw [len_app]; have := h.1; have := k.1; omega, fun c hc => by rw [cs_app] at hc; rcases List.mem_append.mp hc with z | z; exact h.2 c z; exact k.2 c z⟩
theorem As.line {n : Nat} {z : Str} (h : As n z) (l : n ≤ 1000000) : z.length ≤ sizeLine := Nat.le_trans h.1 (Nat.le_trans l (by decide))
theorem As.line2 {n m : Nat} {a b : Str} (h : As n a) (k : As m b) (l : n + m ≤ 1000000) : a.length + b.length ≤ sizeLine := by
  have := h.1
  have := k.1
  exact Nat.le_trans (by omega : _ ≤ 1000000) (by decide)
/-! ### comprehensions over what stands still, with a plain test and a plain element -/
/-- tt says b, whatever was laid meanwhile -/
def Tst (tt : TT) (σ : L2.St) (H : Hp) (b : Bool) : Prop := ∀ Q : Bool → Hp → Prop, (∀ H', Same H H' → Q b H') → tt σ H Q
theorem tst_yes {σ : L2.St} {H : Hp} : Tst tYes σ H true := fun Q q => q H (Same.refl H)
section
variable {σ : L2.St} {H : Hp} {Q : VK} {K : PySem.W.Frag} {te : TE} {tt : TT} {ta : TA} {vs : List Nat} {j : Nat} {J : It} {G : Hp → Prop} {D : Ends} {g : TG} {tb : TS}
theorem lc_pure {xs : List V} {Qd : Addr → Hp → Prop} (w : Walk J xs.length G (YAt xs)) (hG : ∀ H', Same H H' → G H') (p : V → Bool) (f : V → V) (hn : xs.length ≤ 1000000) (hw : ∀ v, wipe ((wipe σ vs).set j (some v)) vs = wipe σ vs)
    (ht : ∀ x, x ∈ xs → ∀ H', Same H H' → Tst tt ((wipe σ vs).set j (some x)) H' (p x))
    (he : ∀ x, x ∈ xs → p x = true → ∀ H', Same H H' → Evs te ((wipe σ vs).set j (some x)) H' (f x))
    (q : ∀ D H', H D = none → Same H H' → H' D = some (.lst ((xs.filter p).map f)) → Qd D H') :
    ∀ D, H D = none → ∃ W : Nat → Nat → Hp → Prop, (∃ m, W 0 m (upd H D (.lst []))) ∧ ∀ i m H, W i m H → (J.stop i H ∧ Qd D H) ∨ (J.go i H ∧ ∃ Nx : Hp → Prop, (∀ H', Nx H' → ∃ m', m' < m ∧ W (i + 1) m' H') ∧
      ∀ x H', J.yld i H x H' → gName j x (wipe σ vs) H' fun σ2 H2 => wipe σ2 vs = wipe σ vs ∧ tt σ2 H2 fun b H3 => if b = true then te σ2 H3 fun y H4 => ∃ acc, H4 D = some (.lst acc) ∧ acc.length < sizeLine ∧ Nx (upd H4 D (.lst (acc ++ [y]))) else Nx H3) := by
  intro D hD
  refine lc_it w (fun i H' => Same H H' ∧ H' D = some (.lst (((xs.take i).filter p).map f))) ⟨Same.upd hD (Same.refl H), upd_same⟩ (fun i H' _ h => hG H' h.1) ?_ (fun H' h => q D H' hD h.1 (by rw [h.2, List.take_length]))
  rintro i x H0 H' hi ⟨s, hd⟩ ⟨rfl, hx⟩
  have mem : x ∈ xs := List.mem_of_getElem? hx
  have tk : xs.take (i + 1) = xs.take i ++ [x] := by rw [List.take_succ, hx]; rfl
  refine ⟨hw _, ?_⟩
  refine ht x mem H' s _ (fun H2 s2 => ?_)
  cases hp : p x with
  | false =>
    rw [if_neg Bool.false_ne_true]
    refine ⟨Same.trans s s2, ?_⟩
    rw [tk, List.filter_append, show [x].filter p = [] by simp [hp], List.append_nil]
    exact s2 _ _ hd
  | true =>
    rw [if_pos rfl]
    refine he x mem hp H2 (Same.trans s s2) _ (fun H3 s3 => ⟨_, s3 _ _ (s2 _ _ hd), ?_, Same.upd hD (Same.trans (Same.trans s s2) s3), ?_⟩)
    · rw [List.length_map]
      have a := List.length_filter_le p (xs.take i)
      have b : (xs.take i).length ≤ xs.length := by rw [List.length_take]; omega
      have c : 1000000 < sizeLine := by decide
      omega
    · rw [upd_same, tk, List.filter_append, List.map_append, show [x].filter p = [x] by simp [hp]]
      rfl
theorem walk_sg {z : Str} : Walk (Its z) ((cs z).map sg).length (fun _ => True) (YAt ((cs z).map sg)) := by
  have e : ((cs z).map sg).length = z.cps.size := by simp
  rw [e]
  refine (walk_str (z := z)).mono (fun _ h => h) (fun i H x H' hi _ y => ⟨y.1, ?_⟩)
  obtain ⟨_, c, hc, rfl⟩ := y
  rw [List.getElem?_map, Array.getElem?_toList, hc]
  rfl
theorem lc_str {z : Str} {Qd : Addr → Hp → Prop} (p : Nat → Bool) (f : Nat → V) (hn : z.length ≤ 1000000) (hw : ∀ v, wipe ((wipe σ vs).set j (some v)) vs = wipe σ vs)
    (ht : ∀ c, c ∈ cs z → ∀ H', Same H H' → Tst tt ((wipe σ vs).set j (some (.str ⟨#[c]⟩))) H' (p c))
    (he : ∀ c, c ∈ cs z → p c = true → ∀ H', Same H H' → Evs te ((wipe σ vs).set j (some (.str ⟨#[c]⟩))) H' (f c))
    (q : ∀ D H', H D = none → Same H H' → H' D = some (.lst (((cs z).filter p).map f)) → Qd D H') :
    ∀ D, H D = none → ∃ W : Nat → Nat → Hp → Prop, (∃ m, W 0 m (upd H D (.lst []))) ∧ ∀ i m H, W i m H → ((Its z).stop i H ∧ Qd D H) ∨ ((Its z).go i H ∧ ∃ Nx : Hp → Prop, (∀ H', Nx H' → ∃ m', m' < m ∧ W (i + 1) m' H') ∧
      ∀ x H', (Its z).yld i H x H' → gName j x (wipe σ vs) H' fun σ2 H2 => wipe σ2 vs = wipe σ vs ∧ tt σ2 H2 fun b H3 => if b = true then te σ2 H3 fun y H4 => ∃ acc, H4 D = some (.lst acc) ∧ acc.length < sizeLine ∧ Nx (upd H4 D (.lst (acc ++ [y]))) else Nx H3) := by
  let un : V → Nat := fun v => match v with | .str y => y.cps.toList.headD 0 | _ => 0
  have us : ∀ c, un (sg c) = c := fun c => rfl
  refine lc_pure (Qd := Qd) (walk_sg (z := z)) (fun _ _ => True.intro) (fun v => p (un v)) (fun v => f (un v)) (by simp only [List.length_map]; rw [cs_len]; exact hn) hw ?_ ?_ ?_
  · intro x hx
    obtain ⟨c, hc, rfl⟩ := List.mem_map.mp hx
    exact ht c hc
  · intro x hx hp
    obtain ⟨c, hc, rfl⟩ := List.mem_map.mp hx
    exact he c hc hp
  · intro D H' hD s h
    refine q D H' hD s ?_
    rw [h, List.filter_map, List.map_map]
    rfl
/-- over a text in the slot n -/
theorem g_lcS {n : Nat} {z : Str} (hv : σ[n]? = some (some (.str z))) (p : Nat → Bool) (f : Nat → V) (hn : z.length ≤ 1000000) (hw : ∀ v, wipe ((wipe σ vs).set j (some v)) vs = wipe σ vs)
    (ht : ∀ c, c ∈ cs z → ∀ H', Same H H' → Tst tt ((wipe σ vs).set j (some (.str ⟨#[c]⟩))) H' (p c))
    (he : ∀ c, c ∈ cs z → p c = true → ∀ H', Same H H' → Evs te ((wipe σ vs).set j (some (.str ⟨#[c]⟩))) H' (f c))
    (q : ∀ D H', H D = none → Same H H' → H' D = some (.lst (((cs z).filter p).map f)) → Q (.ref D) H') : tLc (iStr (tVar n)) (gName j) tt te vs σ H Q :=
  ⟨_, hv, z, rfl, lc_str (Qd := fun D H => Q (.ref D) H) p f hn hw ht he q⟩
theorem g_lcE {t0 : TE} (q : t0 σ H fun v H1 => ∃ z, v = V.str z ∧ ∀ D, H1 D = none → ∃ W : Nat → Nat → Hp → Prop, (∃ m, W 0 m (upd H1 D (.lst []))) ∧ ∀ i m H, W i m H →
      ((Its z).stop i H ∧ Q (.ref D) H) ∨ ((Its z).go i H ∧ ∃ Nx : Hp → Prop, (∀ H', Nx H' → ∃ m', m' < m ∧ W (i + 1) m' H') ∧ ∀ x H', (Its z).yld i H x H' → g x (wipe σ vs) H' fun σ2 H2 => wipe σ2 vs = wipe σ vs ∧ tt σ2 H2 fun b H3 =>
        if b = true then te σ2 H3 fun y H4 => ∃ acc, H4 D = some (.lst acc) ∧ acc.length < sizeLine ∧ Nx (upd H4 D (.lst (acc ++ [y]))) else Nx H3)) : tLc (iStr t0) g tt te vs σ H Q := q
theorem g_forE {t0 : TE} (q : t0 σ H fun v H1 => ∃ a, v = V.ref a ∧ (∃ xs, SqL K H1 a xs) ∧ ∃ W : Nat → Nat → L2.St → Hp → Prop, (∃ m, W 0 m σ H1) ∧ ∀ i m σ H, W i m σ H →
      ((Itl K a).stop i H ∧ D.nx σ H) ∨ ((Itl K a).go i H ∧ ∃ N : L2.St → Hp → Prop, (∀ σ' H', N σ' H' → ∃ m', m' < m ∧ W (i + 1) m' σ' H') ∧ ∀ x H', (Itl K a).yld i H x H' → g x σ H' fun σ2 H2 => tb { D with nx := N, ct := N, bk := D.nx } σ2 H2)) : tFor (iList K t0) g tb D σ H := q
theorem for_lst {a : Addr} {xs : List V} (Pv : Nat → L2.St → Hp → Prop) (h : SqL K H a xs) (h0 : Pv 0 σ H) (hl : ∀ i σ' H', i ≤ xs.length → Pv i σ' H' → SqL K H' a xs)
    (hs : ∀ i x σ' H', i < xs.length → xs[i]? = some x → Pv i σ' H' → tb { D with nx := Pv (i + 1), ct := Pv (i + 1), bk := D.nx } (σ'.set j (some x)) H') (hd : ∀ σ' H', Pv xs.length σ' H' → D.nx σ' H') :
    (∃ xs, SqL K H a xs) ∧ ∃ W : Nat → Nat → L2.St → Hp → Prop, (∃ m, W 0 m σ H) ∧ ∀ i m σ H, W i m σ H →
      ((Itl K a).stop i H ∧ D.nx σ H) ∨ ((Itl K a).go i H ∧ ∃ N : L2.St → Hp → Prop, (∀ σ' H', N σ' H' → ∃ m', m' < m ∧ W (i + 1) m' σ' H') ∧ ∀ x H', (Itl K a).yld i H x H' → gName j x σ H' fun σ2 H2 => tb { D with nx := N, ct := N, bk := D.nx } σ2 H2) := by
  refine ⟨⟨xs, h⟩, for_it walk_list Pv h0 hl ?_ hd⟩
  rintro i x σ' H1 H' hi p ⟨rfl, hx⟩
  exact hs i x σ' H' hi hx p
/-- over a list in the slot n -/
theorem g_lcL {n : Nat} {a : Addr} {xs : List V} (hv : σ[n]? = some (some (.ref a))) (h : SqL K H a xs) (p : V → Bool) (f : V → V) (hn : xs.length ≤ 1000000) (hw : ∀ v, wipe ((wipe σ vs).set j (some v)) vs = wipe σ vs)
    (ht : ∀ x, x ∈ xs → ∀ H', Same H H' → Tst tt ((wipe σ vs).set j (some x)) H' (p x))
    (he : ∀ x, x ∈ xs → p x = true → ∀ H', Same H H' → Evs te ((wipe σ vs).set j (some x)) H' (f x))
    (q : ∀ D H', H D = none → Same H H' → H' D = some (.lst ((xs.filter p).map f)) → Q (.ref D) H') : tLc (iList K (tVar n)) (gName j) tt te vs σ H Q :=
  ⟨_, hv, a, rfl, ⟨xs, h⟩, lc_pure (Qd := fun D H => Q (.ref D) H) walk_list (fun _ s => s.seq h) p f hn hw ht he q⟩
theorem flt_all {α : Type} (xs : List α) : xs.filter (fun _ => true) = xs := List.filter_eq_self.mpr fun _ _ => rfl
theorem g_lcS1 {n : Nat} {z : Str} (hv : σ[n]? = some (some (.str z))) (f : Nat → V) (hn : z.length ≤ 1000000) (hw : ∀ v, wipe ((wipe σ vs).set j (some v)) vs = wipe σ vs)
    (he : ∀ c, c ∈ cs z → ∀ H', Same H H' → Evs te ((wipe σ vs).set j (some (.str ⟨#[c]⟩))) H' (f c))
    (q : ∀ D H', H D = none → Same H H' → H' D = some (.lst ((cs z).map f)) → Q (.ref D) H') : tLc (iStr (tVar n)) (gName j) tYes te vs σ H Q :=
  g_lcS hv (fun _ => true) f hn hw (fun _ _ _ _ => tst_yes) (fun c hc _ => he c hc) (fun D H' hD s h => q D H' hD s (by rw [h, flt_all]))
theorem g_lcL1 {n : Nat} {a : Addr} {xs : List V} (hv : σ[n]? = some (some (.ref a))) (h : SqL K H a xs) (f : V → V) (hn : xs.length ≤ 1000000) (hw : ∀ v, wipe ((wipe σ vs).set j (some v)) vs = wipe σ vs)
    (he : ∀ x, x ∈ xs → ∀ H', Same H H' → Evs te ((wipe σ vs).set j (some x)) H' (f x))
    (q : ∀ D H', H D = none → Same H H' → H' D = some (.lst (xs.map f)) → Q (.ref D) H') : tLc (iList K (tVar n)) (gName j) tYes te vs σ H Q :=
  g_lcL hv h (fun _ => true) f hn hw (fun _ _ _ _ => tst_yes) (fun x hx _ => he x hx) (fun D H' hD s h => q D H' hD s (by rw [h, flt_all]))
/-- a for over a text in the slot n -/
theorem g_forS {n : Nat} {z : Str} {j : Nat} (hv : σ[n]? = some (some (.str z))) (Pv : Nat → L2.St → Hp → Prop) (h0 : Pv 0 σ H)
    (hs : ∀ i c σ' H', i < z.length → (cs z)[i]? = some c → Pv i σ' H' → tb { D with nx := Pv (i + 1), ct := Pv (i + 1), bk := D.nx } (σ'.set j (some (.str ⟨#[c]⟩))) H') (hd : ∀ σ' H', Pv z.length σ' H' → D.nx σ' H') : tFor (iStr (tVar n)) (gName j) tb D σ H := by
  refine ⟨_, hv, z, rfl, for_it walk_str Pv h0 (fun _ _ _ _ _ => True.intro) ?_ hd⟩
  rintro i x σ' H1 H' hi p ⟨rfl, c, hc, rfl⟩
  exact hs i c σ' H' hi (by rw [Array.getElem?_toList]; exact hc) p
theorem g_forL {n : Nat} {a : Addr} {xs : List V} {j : Nat} (hv : σ[n]? = some (some (.ref a))) (h : SqL K H a xs) (Pv : Nat → L2.St → Hp → Prop) (h0 : Pv 0 σ H) (hl : ∀ i σ' H', i ≤ xs.length → Pv i σ' H' → SqL K H' a xs)
    (hs : ∀ i x σ' H', i < xs.length → xs[i]? = some x → Pv i σ' H' → tb { D with nx := Pv (i + 1), ct := Pv (i + 1), bk := D.nx } (σ'.set j (some x)) H') (hd : ∀ σ' H', Pv xs.length σ' H' → D.nx σ' H') : tFor (iList K (tVar n)) (gName j) tb D σ H := by
  refine ⟨_, hv, a, rfl, ⟨xs, h⟩, for_it walk_list Pv h0 hl ?_ hd⟩
  rintro i x σ' H1 H' hi p ⟨rfl, hx⟩
  exact hs i x σ' H' hi hx p
end
section
variable {σ : L2.St} {H : Hp} {Q : VK} {K : PySem.W.Frag} {i : Int} {x y : V}
theorem g_any {a : Addr} {xs : List V} (bs : List Bool) (h : SqL K H a xs) (e : xs = bs.map V.bl) (q : Q (.bl (bs.any id)) H) : rAny K [.ref a] H Q := ⟨a, bs, rfl, e ▸ h, q⟩
theorem g_all {a : Addr} {xs : List V} (bs : List Bool) (h : SqL K H a xs) (e : xs = bs.map V.bl) (q : Q (.bl (bs.all id)) H) : rAll K [.ref a] H Q := ⟨a, bs, rfl, e ▸ h, q⟩
/-- one sign, however it is written -/
theorem g_inC {s z : Str} {c : Nat} (e : s = ⟨#[c]⟩) (q : Q (.bl (decide (c ∈ cs z))) H) : rInA K (.str s) (.str z) H Q := .inr ⟨c, z, by rw [e], rfl, q⟩
theorem g_niC {s z : Str} {c : Nat} (e : s = ⟨#[c]⟩) (q : Q (.bl (!decide (c ∈ cs z))) H) : rNotInA K (.str s) (.str z) H Q := .inr ⟨c, z, by rw [e], rfl, q⟩
theorem lt1 (a b : Nat) : ([a] < [b]) ↔ a < b := by simp [List.cons_lt_cons_iff]
theorem g_leC {s t : Str} {a b : Nat} (e : s = ⟨#[a]⟩) (f : t = ⟨#[b]⟩) (q : Q (.bl (decide (a ≤ b))) H) : rLeA (.str s) (.str t) H Q := by
  subst e f
  refine .inr ⟨_, _, rfl, rfl, ?_⟩
  have z : (!decide ((#[b] : Array Nat).toList < (#[a] : Array Nat).toList)) = decide (a ≤ b) := by
    show (!decide ([b] < [a])) = decide (a ≤ b)
    by_cases h : b < a
    · rw [decide_eq_true ((lt1 b a).mpr h), decide_eq_false (by omega)]; rfl
    · rw [decide_eq_false (fun k => h ((lt1 b a).mp k)), decide_eq_true (by omega)]; rfl
  rw [z]
  exact q
theorem g_ltC {s t : Str} {a b : Nat} (e : s = ⟨#[a]⟩) (f : t = ⟨#[b]⟩) (q : Q (.bl (decide (a < b))) H) : rLtA (.str s) (.str t) H Q := by
  subst e f
  refine .inr ⟨_, _, rfl, rfl, ?_⟩
  have z : decide ((#[a] : Array Nat).toList < (#[b] : Array Nat).toList) = decide (a < b) := by
    show decide ([a] < [b]) = decide (a < b)
    by_cases h : a < b
    · rw [decide_eq_true ((lt1 a b).mpr h), decide_eq_true h]
    · rw [decide_eq_false (fun k => h ((lt1 a b).mp k)), decide_eq_false h]
  rw [z]
  exact q
end
section
variable {σ : L2.St} {H : Hp} {Q : VK} {K : PySem.W.Frag} {i : Int} {x y : V} {ta tb : TE}
theorem g_un {r : V → Hp → VK → Prop} (q : ta σ H fun x H1 => r x H1 Q) : tUn r ta σ H Q := q
theorem g_neg (q : Q (.int (-i)) H) : rU (fun i => .int (-i)) (.int i) H Q := ⟨i, rfl, q⟩
theorem g_m0 {r : V → List V → Hp → VK → Prop} (q : ta σ H fun x H1 => (∃ a, x = .str a) ∧ r x [] H1 Q) : tM0 r ta σ H Q := q
theorem g_m1 {r : V → List V → Hp → VK → Prop} (q : ta σ H fun x H1 => (∃ a, x = .str a) ∧ tb σ H1 fun y H2 => r x [y] H2 Q) : tM1 r ta tb σ H Q := q
theorem g_str {z : Str} {P : Prop} (q : P) : (∃ a, V.str z = .str a) ∧ P := ⟨⟨z, rfl⟩, q⟩
theorem g_sl {r : V → Option Int → Option Int → Hp → VK → Prop} {tl th : TO} (q : ta σ H fun x H1 => tl σ H1 fun l H2 => th σ H2 fun u H3 => r x l u H3 Q) : tSl r ta tl th σ H Q := q
theorem g_part {Q : Option Int → Hp → Prop} (q : ta σ H fun x H1 => ∃ i, x = .int i ∧ Q (some i) H1) : tPart ta σ H Q := q
theorem g_nopart {Q : Option Int → Hp → Prop} (q : Q none H) : tNoPart σ H Q := q
theorem g_isint {P : Int → Prop} (q : P i) : ∃ j, V.int i = .int j ∧ P j := ⟨i, rfl, q⟩
theorem g_slS {z : Str} {lo hi : Option Int} (h : z.length ≤ sizeLine) (q : Q (.str (cutS z lo hi)) H) : rSlS (.str z) lo hi H Q := ⟨z, rfl, h, q⟩
end
theorem As.cut {n : Nat} {z : Str} {lo hi : Option Int} (h : As n z) : As n (cutS z lo hi) := by
  have e : cs (cutS z lo hi) = ((cs z).drop (HT.sIx z.length 0 lo)).take (HT.sIx z.length z.length hi - HT.sIx z.length 0 lo) := by simp [cutS]
  refine ⟨?_, fun c hc => ?_⟩
  · rw [← cs_len, e, List.length_take, List.length_drop]
    have := h.1
    have := cs_len z
    omega
  · rw [e] at hc
    exact h.2 c (List.mem_of_mem_drop (List.mem_of_mem_take hc))
/-! ### rules within a comprehension -/
theorem opK {X : Cx} {f : Value → Value → Sem Value} {r : PySem.W.Frag → R2} {K : PySem.W.Frag} (h : X.K = K) (o : OpR X f (r X.K)) : OpR X f (r K) := h ▸ o
theorem callK {X : Cx} {v : Value} {r : PySem.W.Frag → List V → Hp → VK → Prop} {K : PySem.W.Frag} (h : X.K = K) (o : CallR X v (r X.K)) : CallR X v (r K) := h ▸ o
theorem ixK {X : Cx} {r : PySem.W.Frag → R2} {K : PySem.W.Frag} (h : X.K = K) (o : IxR X (r X.K)) : IxR X (r K) := h ▸ o
/-! ### things of any kind -/
theorem tyx_same {K : PySem.W.Frag} {H H1 : Hp} (e : Same H H1) {v : V} {t : Value} (h : TyX K H v t) : TyX K H1 v t := by
  cases h with
  | base b =>
    refine .base ?_
    cases b with
    | non => exact .non
    | bl x => exact .bl x
    | int i => exact .int i
    | str x => exact .str x
    | flt x => exact .flt x
    | lst h => exact .lst (e _ _ h)
    | frz h => exact .frz (e _ _ h)
    | tup h => exact .tup (e _ _ h)
    | dK h => exact .dK (e _ _ h)
    | dT h => exact .dT (e _ _ h)
    | ins h a b c d f => exact .ins (e _ _ h) a b c d f
  | byt b => exact .byt b
  | set h => exact .set (e _ _ h)
  | kList h c => exact .kList h c
  | kTuple h c => exact .kTuple h c
  | kDict h c => exact .kDict h c
  | fTuple h => exact .fTuple (e _ _ h)
  | fDict h => exact .fDict (e _ _ h)
theorem tyx_keep {K : PySem.W.Frag} {H H1 : Hp} {d : Addr} (e : Keep d H H1) {v : V} {t : Value} (nv : v ≠ .ref d) (h : TyX K H v t) : TyX K H1 v t := by
  have nd : ∀ {a : Addr}, V.ref a ≠ .ref d → a ≠ d := fun n q => n (congrArg V.ref q)
  cases h with
  | base b =>
    refine .base ?_
    cases b with
    | non => exact .non
    | bl x => exact .bl x
    | int i => exact .int i
    | str x => exact .str x
    | flt x => exact .flt x
    | lst h => exact .lst (e _ _ (nd nv) h)
    | frz h => exact .frz (e _ _ (nd nv) h)
    | tup h => exact .tup (e _ _ (nd nv) h)
    | dK h => exact .dK (e _ _ (nd nv) h)
    | dT h => exact .dT (e _ _ (nd nv) h)
    | ins h a b c d f => exact .ins (e _ _ (nd nv) h) a b c d f
  | byt b => exact .byt b
  | set h => exact .set (e _ _ (nd nv) h)
  | kList h c => exact .kList h c
  | kTuple h c => exact .kTuple h c
  | kDict h c => exact .kDict h c
  | fTuple h => exact .fTuple (e _ _ (nd nv) h)
  | fDict h => exact .fDict (e _ _ (nd nv) h)
/-! ### isinstance, by the type -/
theorem k_NoneType_str : kitB "NoneType" "str" = some false := by decide +kernel
theorem k_NoneType_int : kitB "NoneType" "int" = some false := by decide +kernel
theorem k_NoneType_bool : kitB "NoneType" "bool" = some false := by decide +kernel
theorem k_NoneType_tuple : kitB "NoneType" "tuple" = some false := by decide +kernel
theorem k_NoneType_list : kitB "NoneType" "list" = some false := by decide +kernel
theorem k_NoneType_dict : kitB "NoneType" "dict" = some false := by decide +kernel
theorem k_bool_str : kitB "bool" "str" = some false := by decide +kernel
theorem k_bool_tuple : kitB "bool" "tuple" = some false := by decide +kernel
theorem k_bool_list : kitB "bool" "list" = some false := by decide +kernel
theorem k_bool_dict : kitB "bool" "dict" = some false := by decide +kernel
theorem k_tuple_str : kitB "tuple" "str" = some false := by decide +kernel
theorem k_tuple_int : kitB "tuple" "int" = some false := by decide +kernel
theorem k_tuple_bool : kitB "tuple" "bool" = some false := by decide +kernel
theorem k_tuple_tuple : kitB "tuple" "tuple" = some true := by decide +kernel
theorem k_tuple_list : kitB "tuple" "list" = some false := by decide +kernel
theorem k_tuple_dict : kitB "tuple" "dict" = some false := by decide +kernel
theorem k_list_str : kitB "list" "str" = some false := by decide +kernel
theorem k_list_int : kitB "list" "int" = some false := by decide +kernel
theorem k_list_bool : kitB "list" "bool" = some false := by decide +kernel
theorem k_list_tuple : kitB "list" "tuple" = some false := by decide +kernel
theorem k_list_list : kitB "list" "list" = some true := by decide +kernel
theorem k_list_dict : kitB "list" "dict" = some false := by decide +kernel
theorem k_dict_str : kitB "dict" "str" = some false := by decide +kernel
theorem k_dict_int : kitB "dict" "int" = some false := by decide +kernel
theorem k_dict_bool : kitB "dict" "bool" = some false := by decide +kernel
theorem k_dict_tuple : kitB "dict" "tuple" = some false := by decide +kernel
theorem k_dict_list : kitB "dict" "list" = some false := by decide +kernel
theorem k_dict_dict : kitB "dict" "dict" = some true := by decide +kernel
theorem k_int_tuple : kitB "int" "tuple" = some false := by decide +kernel
theorem k_int_list : kitB "int" "list" = some false := by decide +kernel
theorem k_int_dict : kitB "int" "dict" = some false := by decide +kernel
theorem k_str_bool : kitB "str" "bool" = some false := by decide +kernel
theorem k_str_tuple : kitB "str" "tuple" = some false := by decide +kernel
theorem k_str_list : kitB "str" "list" = some false := by decide +kernel
theorem k_str_dict : kitB "str" "dict" = some false := by decide +kernel
theorem g_append {K : PySem.W.Frag} {σ : L2.St} {H : Hp} {Q : VK} {t : TA} {n : Nat} {l : Addr} {xs : List V} (hv : σ[n]? = some (some (.ref l))) (h : H l = some (.lst xs))
    (q : t σ H fun ys H1 => rAppend (.ref l) ys H1 Q) : tBM K "list" rAppend (tVar n) t σ H Q :=
  ⟨_, hv, .inl ⟨rfl, xs, SqL.of h⟩, q⟩
theorem g_app {H : Hp} {Q : VK} {l : Addr} {xs : List V} {y : V} (h : H l = some (.lst xs)) (z : xs.length ≤ 100000) (q : Q .non (upd H l (.lst (xs ++ [y])))) : rAppend (.ref l) [y] H Q :=
  ⟨l, xs, y, rfl, rfl, h, Nat.lt_of_le_of_lt z (by decide), q⟩
theorem Same.put {H H1 : Hp} {l : Addr} {o : HO} (h : H l = none) (s : Same H H1) : Same H (L2.upd H1 l o) := fun b u n => by
  rw [upd_ne (ne_of_none n h)]
  exact s b u n
def rJoin (K : PySem.W.Frag) : V → List V → Hp → VK → Prop := fun x xs H Q => ∃ a p, ∃ ys : List Str, x = .str a ∧ xs = [.ref p] ∧ (SqL K H p (ys.map V.str) ∨ SqT K H p (ys.map V.str)) ∧ (ys.map (·.length)).sum + ys.length * a.length ≤ 16777216 ∧ Q (.str (Txt.join a ys)) H
theorem pe_joinA {X : Cx} {o e : Expr} {to te : TE} {apos pos : Pos} (ho : PE X o to) (he : PE X e te) (hs : starEach [e] X.env = [(false, eval e X.env)] := by rfl) (hbase : attributeBase o "join" X.env (eval o X.env) = eval o X.env := by rfl) (hline : (apos.endLine == pos.line) = true := by rfl) :
    PE X (.Call (.Attribute o "join" apos) [e] [] pos) (tM1 (rJoin X.K) to te) := pe_join ho he hs hbase hline
/-! ### signs that are written -/
theorem sg_c10 : Str.ofString "\n" = ⟨#[10]⟩ := by decide +kernel
theorem sg_c32 : Str.ofString " " = ⟨#[32]⟩ := by decide +kernel
theorem sg_c33 : Str.ofString "!" = ⟨#[33]⟩ := by decide +kernel
theorem sg_c34 : Str.ofString "\"" = ⟨#[34]⟩ := by decide +kernel
theorem sg_c35 : Str.ofString "#" = ⟨#[35]⟩ := by decide +kernel
theorem sg_c36 : Str.ofString "$" = ⟨#[36]⟩ := by decide +kernel
theorem sg_c37 : Str.ofString "%" = ⟨#[37]⟩ := by decide +kernel
theorem sg_c38 : Str.ofString "&" = ⟨#[38]⟩ := by decide +kernel
theorem sg_c39 : Str.ofString "'" = ⟨#[39]⟩ := by decide +kernel
theorem sg_c40 : Str.ofString "(" = ⟨#[40]⟩ := by decide +kernel
theorem sg_c41 : Str.ofString ")" = ⟨#[41]⟩ := by decide +kernel
theorem sg_c42 : Str.ofString "*" = ⟨#[42]⟩ := by decide +kernel
theorem sg_c43 : Str.ofString "+" = ⟨#[43]⟩ := by decide +kernel
theorem sg_c44 : Str.ofString "," = ⟨#[44]⟩ := by decide +kernel
theorem sg_c45 : Str.ofString "-" = ⟨#[45]⟩ := by decide +kernel
theorem sg_c46 : Str.ofString "." = ⟨#[46]⟩ := by decide +kernel
theorem sg_c47 : Str.ofString "/" = ⟨#[47]⟩ := by decide +kernel
theorem sg_c48 : Str.ofString "0" = ⟨#[48]⟩ := by decide +kernel
theorem sg_c49 : Str.ofString "1" = ⟨#[49]⟩ := by decide +kernel
theorem sg_c50 : Str.ofString "2" = ⟨#[50]⟩ := by decide +kernel
theorem sg_c51 : Str.ofString "3" = ⟨#[51]⟩ := by decide +kernel
theorem sg_c52 : Str.ofString "4" = ⟨#[52]⟩ := by decide +kernel
theorem sg_c53 : Str.ofString "5" = ⟨#[53]⟩ := by decide +kernel
theorem sg_c54 : Str.ofString "6" = ⟨#[54]⟩ := by decide +kernel
theorem sg_c55 : Str.ofString "7" = ⟨#[55]⟩ := by decide +kernel
theorem sg_c56 : Str.ofString "8" = ⟨#[56]⟩ := by decide +kernel
theorem sg_c57 : Str.ofString "9" = ⟨#[57]⟩ := by decide +kernel
theorem sg_c58 : Str.ofString ":" = ⟨#[58]⟩ := by decide +kernel
theorem sg_c59 : Str.ofString ";" = ⟨#[59]⟩ := by decide +kernel
theorem sg_c60 : Str.ofString "<" = ⟨#[60]⟩ := by decide +kernel
theorem sg_c61 : Str.ofString "=" = ⟨#[61]⟩ := by decide +kernel
theorem sg_c62 : Str.ofString ">" = ⟨#[62]⟩ := by decide +kernel
theorem sg_c63 : Str.ofString "?" = ⟨#[63]⟩ := by decide +kernel
theorem sg_c64 : Str.ofString "@" = ⟨#[64]⟩ := by decide +kernel
theorem sg_c65 : Str.ofString "A" = ⟨#[65]⟩ := by decide +kernel
theorem sg_c66 : Str.ofString "B" = ⟨#[66]⟩ := by decide +kernel
theorem sg_c67 : Str.ofString "C" = ⟨#[67]⟩ := by decide +kernel
theorem sg_c68 : Str.ofString "D" = ⟨#[68]⟩ := by decide +kernel
theorem sg_c69 : Str.ofString "E" = ⟨#[69]⟩ := by decide +kernel
theorem sg_c70 : Str.ofString "F" = ⟨#[70]⟩ := by decide +kernel
theorem sg_c71 : Str.ofString "G" = ⟨#[71]⟩ := by decide +kernel
theorem sg_c72 : Str.ofString "H" = ⟨#[72]⟩ := by decide +kernel
theorem sg_c73 : Str.ofString "I" = ⟨#[73]⟩ := by decide +kernel
theorem sg_c74 : Str.ofString "J" = ⟨#[74]⟩ := by decide +kernel
theorem sg_c75 : Str.ofString "K" = ⟨#[75]⟩ := by decide +kernel
theorem sg_c76 : Str.ofString "L" = ⟨#[76]⟩ := by decide +kernel
theorem sg_c77 : Str.ofString "M" = ⟨#[77]⟩ := by decide +kernel
theorem sg_c78 : Str.ofString "N" = ⟨#[78]⟩ := by decide +kernel
theorem sg_c79 : Str.ofString "O" = ⟨#[79]⟩ := by decide +kernel
theorem sg_c80 : Str.ofString "P" = ⟨#[80]⟩ := by decide +kernel
theorem sg_c81 : Str.ofString "Q" = ⟨#[81]⟩ := by decide +kernel
theorem sg_c82 : Str.ofString "R" = ⟨#[82]⟩ := by decide +kernel
theorem sg_c83 : Str.ofString "S" = ⟨#[83]⟩ := by decide +kernel
theorem sg_c84 : Str.ofString "T" = ⟨#[84]⟩ := by decide +kernel
theorem sg_c85 : Str.ofString "U" = ⟨#[85]⟩ := by decide +kernel
theorem sg_c86 : Str.ofString "V" = ⟨#[86]⟩ := by decide +kernel
theorem sg_c87 : Str.ofString "W" = ⟨#[87]⟩ := by decide +kernel
theorem sg_c88 : Str.ofString "X" = ⟨#[88]⟩ := by decide +kernel
theorem sg_c89 : Str.ofString "Y" = ⟨#[89]⟩ := by decide +kernel
theorem sg_c90 : Str.ofString "Z" = ⟨#[90]⟩ := by decide +kernel
theorem sg_c91 : Str.ofString "[" = ⟨#[91]⟩ := by decide +kernel
theorem sg_c92 : Str.ofString "\\" = ⟨#[92]⟩ := by decide +kernel
theorem sg_c93 : Str.ofString "]" = ⟨#[93]⟩ := by decide +kernel
theorem sg_c94 : Str.ofString "^" = ⟨#[94]⟩ := by decide +kernel
theorem sg_c95 : Str.ofString "_" = ⟨#[95]⟩ := by decide +kernel
theorem sg_c96 : Str.ofString "`" = ⟨#[96]⟩ := by decide +kernel
theorem sg_c97 : Str.ofString "a" = ⟨#[97]⟩ := by decide +kernel
theorem sg_c98 : Str.ofString "b" = ⟨#[98]⟩ := by decide +kernel
theorem sg_c99 : Str.ofString "c" = ⟨#[99]⟩ := by decide +kernel
theorem sg_c100 : Str.ofString "d" = ⟨#[100]⟩ := by decide +kernel
theorem sg_c101 : Str.ofString "e" = ⟨#[101]⟩ := by decide +kernel
theorem sg_c102 : Str.ofString "f" = ⟨#[102]⟩ := by decide +kernel
theorem sg_c103 : Str.ofString "g" = ⟨#[103]⟩ := by decide +kernel
theorem sg_c104 : Str.ofString "h" = ⟨#[104]⟩ := by decide +kernel
theorem sg_c105 : Str.ofString "i" = ⟨#[105]⟩ := by decide +kernel
theorem sg_c106 : Str.ofString "j" = ⟨#[106]⟩ := by decide +kernel
theorem sg_c107 : Str.ofString "k" = ⟨#[107]⟩ := by decide +kernel
theorem sg_c108 : Str.ofString "l" = ⟨#[108]⟩ := by decide +kernel
theorem sg_c109 : Str.ofString "m" = ⟨#[109]⟩ := by decide +kernel
theorem sg_c110 : Str.ofString "n" = ⟨#[110]⟩ := by decide +kernel
theorem sg_c111 : Str.ofString "o" = ⟨#[111]⟩ := by decide +kernel
theorem sg_c112 : Str.ofString "p" = ⟨#[112]⟩ := by decide +kernel
theorem sg_c113 : Str.ofString "q" = ⟨#[113]⟩ := by decide +kernel
theorem sg_c114 : Str.ofString "r" = ⟨#[114]⟩ := by decide +kernel
theorem sg_c115 : Str.ofString "s" = ⟨#[115]⟩ := by decide +kernel
theorem sg_c116 : Str.ofString "t" = ⟨#[116]⟩ := by decide +kernel
theorem sg_c117 : Str.ofString "u" = ⟨#[117]⟩ := by decide +kernel
theorem sg_c118 : Str.ofString "v" = ⟨#[118]⟩ := by decide +kernel
theorem sg_c119 : Str.ofString "w" = ⟨#[119]⟩ := by decide +kernel
theorem sg_c120 : Str.ofString "x" = ⟨#[120]⟩ := by decide +kernel
theorem sg_c121 : Str.ofString "y" = ⟨#[121]⟩ := by decide +kernel
theorem sg_c122 : Str.ofString "z" = ⟨#[122]⟩ := by decide +kernel
theorem sg_c123 : Str.ofString "{" = ⟨#[123]⟩ := by decide +kernel
theorem sg_c124 : Str.ofString "|" = ⟨#[124]⟩ := by decide +kernel
theorem sg_c125 : Str.ofString "}" = ⟨#[125]⟩ := by decide +kernel
theorem sg_c126 : Str.ofString "~" = ⟨#[126]⟩ := by decide +kernel
section
variable {σ : L2.St} {H : Hp} {Q : VK} {K : PySem.W.Frag} {i : Int}
theorem g_ixSA {n : Nat} {z : Str} (hz : As n z) (hn : n ≤ 1000000) (h0 : 0 ≤ i) (h1 : i < z.length) (q : ∀ c, c ∈ cs z → Q (.str ⟨#[c]⟩) H) : rIx K (.str z) (.int i) H Q := by
  obtain ⟨m, rfl⟩ : ∃ m : Nat, i = (m : Int) := ⟨i.toNat, by omega⟩
  have h2 : m < (cs z).length := by rw [cs_len]; omega
  exact g_ixS (hz.line hn) (atI_nat (List.getElem?_eq_getElem h2)) (q _ (List.getElem_mem h2))
theorem strs_of : ∀ ys : List V, (∀ y ∈ ys, ∃ s, y = V.str s ∧ As 1 s) → ∃ ss : List Str, ys = ss.map V.str ∧ ∀ s ∈ ss, As 1 s
  | [], _ => ⟨[], rfl, fun _ h => nomatch h⟩
  | y :: ys, h => by
    obtain ⟨s, rfl, hs⟩ := h y List.mem_cons_self
    obtain ⟨ss, rfl, hss⟩ := strs_of ys fun z hz => h z (List.mem_cons_of_mem _ hz)
    exact ⟨s :: ss, rfl, fun z hz => by rcases List.mem_cons.mp hz with e | e; exact e ▸ hs; exact hss z e⟩
theorem as_join : ∀ ss : List Str, (∀ s ∈ ss, As 1 s) → As ss.length (Str.join (Str.ofString "") ss)
  | [], _ => ⟨by decide, fun c hc => nomatch hc⟩
  | [x], h => h x List.mem_cons_self
  | x :: y :: r, h => by
    have a := h x List.mem_cons_self
    have b := as_join (y :: r) fun z hz => h z (List.mem_cons_of_mem _ hz)
    have e0 : As 0 (Str.ofString "") := ⟨by decide, by decide⟩
    have k := (a.app e0).app b
    have e : 1 + 0 + (y :: r).length = (x :: y :: r).length := by simp only [List.length_cons]; omega
    rw [e] at k
    exact k
theorem len_sum : ∀ ss : List Str, (∀ s ∈ ss, As 1 s) → (ss.map (·.length)).sum ≤ ss.length
  | [], _ => Nat.le_refl _
  | x :: r, h => by
    have a := (h x List.mem_cons_self).1
    have b := len_sum r fun z hz => h z (List.mem_cons_of_mem _ hz)
    simp only [List.map_cons, List.sum_cons, List.length_cons]
    omega
theorem g_join0 {p : Addr} {ys : List V} (h : SqL K H p ys) (all : ∀ y ∈ ys, ∃ s, y = V.str s ∧ As 1 s) (hl : ys.length ≤ 1000) (q : ∀ z, As ys.length z → Q (.str z) H) : rJoin K (.str (Str.ofString "")) [.ref p] H Q := by
  obtain ⟨ss, rfl, hs⟩ := strs_of ys all
  refine ⟨_, p, ss, rfl, rfl, .inl h, ?_, q _ ?_⟩
  · have a := len_sum ss hs
    rw [List.length_map] at hl
    rw [show (Str.ofString "").length = 0 by decide]
    omega
  · rw [List.length_map, TL.join_eq]
    exact as_join ss hs
theorem dps_sg : ∀ ys : List Nat, DpAll K H (ys.map sg) (ys.map fun c => PyData.str ⟨#[c]⟩)
  | [] => .nil
  | _ :: ys => .cons (.str _) (dps_sg ys)
theorem lay_sg : ∀ ys : List Nat, (∀ c ∈ ys, c < 128) → PyData.canLayAll0 (ys.map fun c => PyData.str ⟨#[c]⟩) = true
  | [], _ => by simp only [List.map_nil, PyData.canLayAll0]
  | c :: ys, h => by
    have a := h c List.mem_cons_self
    have b := lay_sg ys fun z hz => h z (List.mem_cons_of_mem _ hz)
    simp only [List.map_cons, PyData.canLayAll0, b, Bool.and_true, PyData.canLay0]
    show (#[c] : Array Nat).all (· < 0x110000) = true
    simp
    omega
theorem dep_sg : ∀ ys : List Nat, PyData.depthAll (ys.map fun c => PyData.str ⟨#[c]⟩) = 0
  | [] => by simp only [List.map_nil, PyData.depthAll]
  | c :: ys => by simp only [List.map_cons, PyData.depthAll, dep_sg ys, PyData.depth]; rfl
theorem g_eqNil {a b : Addr} {ys : List Nat} (h1 : SqL K H a (ys.map sg)) (hy : ∀ c ∈ ys, c < 128) (h2 : SqL K H b []) (q : Q (.bl ys.isEmpty) H) : rEqA K (.ref a) (.ref b) H Q := by
  refine g_eqD (d := .list (ys.map fun c => .str ⟨#[c]⟩)) (e := .list []) (Dp.lst h1 (dps_sg ys)) (Dp.lst h2 .nil) ?_ ?_ ?_
  · unfold SeqAt.shaped
    simp only [PyData.canLay0, PyData.depth, lay_sg ys hy, dep_sg]
    decide
  · decide
  · cases ys with
    | nil => exact q
    | cons c r => exact q
end
end Hf

set_option Elab.async false
set_option linter.all false
set_option maxRecDepth 100000
set_option maxHeartbeats 4000000
namespace Hf
open PySem L2 PySem.Spec PyProof.Rows
/-! ### the end: what the program's top has left -/
theorem endG {P : Program} {w : World} {K : PySem.W.Frag} {mg : Str → Option Value} {fa : Addr} {k : Nat} {x y : Str} {st : Stmt} {sp : Sp} (hmg : mg x = some (.ref fa)) (d : ∃ f, mg x = some (.ref f) ∧ ∃ fd, Fun K x x st f fd)
    (hb : ∀ (kV doc pm : Value) (an : Option Addr) (cdv ct u : Value), bindArgs (PySem.W.fnOf x x (defArgs st) (defBody st) (defScope st) .none kV doc pm an cdv ct) ⟨[u], []⟩ = pure [(y, u)])
    (F : ∀ base : Heap, Df P w K mg base k x st [y] sp) :
    ∃ fd : FuncData, (∀ (s : Shared) (u : Value), BindsTo s fd ⟨[u], []⟩ [(y, u)]) ∧ ∀ base : Heap, K.In base → base.Ns mainGlobals mg → FnG P w K mg base CX0 k fa fd [y] sp := by
  obtain ⟨f, hm, fd, U⟩ := d
  have e := hmg.symm.trans hm
  cases e
  refine ⟨fd, fun s u => ?_, fun base _ _ => ?_⟩
  · obtain ⟨oc, od, kV, doc, pm, an, cdv, ct, osl, rfl, lk, hcd⟩ := U.ex
    exact .of_eq (hb kV doc pm an cdv ct u)
  · obtain ⟨f', fd', hm', U', F'⟩ := (F base).ex
    have e' := hmg.symm.trans hm'
    cases e'
    obtain ⟨oc, od, kV, doc, pm, an, cdv, ct, osl, e1, lk, hcd⟩ := U.ex
    obtain ⟨oc', od', kV', doc', pm', an', cdv', ct', osl', e1', lk', hcd'⟩ := U'.ex
    have e2 := lk.symm.trans lk'
    simp only [Option.some.injEq, Obj.mk.injEq, Data.func.injEq] at e2
    rw [e2.2.2.1]
    exact F'
section
variable {K : PySem.W.Frag} {h : Heap} {mg : Str → Option Value}
theorem mkD {x : Str} {st : Stmt} {f : Addr} {oc : Value} {od an : Option Addr} {osl : Array (Option Value)} {kV doc pm cdv ct : Value} (X : K.In h) (G : h.Ns mainGlobals mg) (a : PySem.W.nsIn K mainGlobals x = some (some (.ref f)))
    (l : K.lookup f = some ⟨oc, od, .func (PySem.W.fnOf x x (defArgs st) (defBody st) (defScope st) .none kV doc pm an cdv ct), osl⟩) (c : PySem.W.codeIn K cdv x = true) (k : PySem.W.keepIn K (.ref f) = true) :
    ∃ f, mg x = some (.ref f) ∧ ∃ fd, Fun K x x st f fd := ⟨f, PySem.W.mg_of X G a, _, fun_mk l c k⟩
theorem mkC {x : Str} {v : V} {u : Value} (X : K.In h) (G : h.Ns mainGlobals mg) (a : PySem.W.nsIn K mainGlobals x = some (some u)) (r : RelV v u) : ∃ u, mg x = some u ∧ RelV v u := ⟨_, PySem.W.mg_of X G a, r⟩
theorem mkT {x : Str} {xs : List V} {a : Addr} {od : Option Addr} {its : Array Value} {n : Nat} {sl : Array (Option Value)} (X : K.In h) (G : h.Ns mainGlobals mg) (e : PySem.W.nsIn K mainGlobals x = some (some (.ref a)))
    (l : K.lookup a = some ⟨.type "tuple", od, .seq its n, sl⟩) (z : its.size ≤ sizeLine) (r : Vals xs its.toList) : ∃ a, mg x = some (.ref a) ∧ ∀ H : Hp, SqT K H a xs :=
  ⟨a, PySem.W.mg_of X G e, fun _ => .inr ⟨_, its, n, l, rfl, rfl, z, r⟩⟩
end
end Hf

set_option Elab.async false
set_option linter.all false
set_option maxRecDepth 100000
set_option maxHeartbeats 4000000
set_option linter.unusedVariables false
namespace Law
open PySem L2 Hf PySem.Spec PyProof.Rows
local macro_rules
  | `(tactic| fail "many") => `(tactic| (intro xs H Q E h; first | (obtain ⟨e, _⟩ := h; exact congrArg List.length e) | (obtain ⟨_, e, _⟩ := h; exact congrArg List.length e) | (obtain ⟨_, _, e, _⟩ := h; exact congrArg List.length e) | (obtain ⟨_, _, _, e, _⟩ := h; exact congrArg List.length e) | (obtain ⟨_, _, _, _, e, _⟩ := h; exact congrArg List.length e) | (obtain ⟨_, _, _, _, _, e, _⟩ := h; exact congrArg List.length e) | (obtain ⟨_, _, _, _, _, _, e, _⟩ := h; exact congrArg List.length e) | (obtain ⟨_, _, _, _, _, _, _, e, _⟩ := h; exact congrArg List.length e)))
  | `(tactic| fail "drstep") => `(tactic| with_reducible first | apply DrawAt.same (by assumption) | apply DrawAt.new (by assumption))
  | `(tactic| fail "dr") => `(tactic| with_reducible first | assumption | ((fail "drstep"); fail "dr"))
  | `(tactic| fail "dru") => `(tactic| exact DrawAt.up (by with_reducible (fail "dr")) (by omega))
  | `(tactic| fail "ne") => `(tactic| with_reducible first | assumption | (apply Ne.symm; assumption) | (apply Ne.symm; apply ne_of_none ?_ (by assumption); fail "h") | (apply ne_of_none ?_ (by assumption); fail "h"))
  | `(tactic| fail "hstep") => `(tactic| with_reducible first | apply Same.at_ (by assumption) | apply Keep.at_ (by assumption) (by fail "dr") | apply upd_new (by assumption) | apply upd_off (by fail "ne"))
  | `(tactic| fail "h") => `(tactic| with_reducible first | assumption | exact upd_same | ((fail "hstep"); fail "h"))
  | `(tactic| fail "sqstep") => `(tactic| with_reducible first | apply Same.seq (by assumption) | apply Same.seqT (by assumption) | apply Keep.seq (by assumption) (by fail "dr") | apply Keep.seqT (by assumption) (by fail "dr") | apply seq_new (by assumption) | apply seqT_new (by assumption))
  | `(tactic| fail "sq") => `(tactic| with_reducible first | assumption | (apply SqL.of; first | assumption | exact upd_same) | (apply SqT.of; first | assumption | exact upd_same) | ((fail "sqstep"); fail "sq") | (apply SqL.of; fail "h") | (apply SqT.of; fail "h"))
  | `(tactic| fail "free") => `(tactic| with_reducible first | assumption | ((refine Same.free (H' := ?_) ?_ (by assumption)); fail "same"))
  | `(tactic| fail "free2") => `(tactic| with_reducible first | assumption | (apply Same.free (by assumption); fail "free2") | (apply free_upd; fail "free2"))
  | `(tactic| fail "samestep") => `(tactic| with_reducible first | apply Same.trans ?_ (by assumption) | apply Same.new (by assumption) | apply Same.upd (by fail "free") | apply Same.put (by fail "free2"))
  | `(tactic| fail "same") => `(tactic| with_reducible first | assumption | exact Same.refl _ | ((fail "samestep"); fail "same"))
  | `(tactic| fail "keepstep") => `(tactic| with_reducible first | apply Keep.trans ?_ (by assumption) | apply Keep.same ?_ (by assumption) | apply Keep.fresh (by assumption) | apply Keep.set)
  | `(tactic| fail "keep") => `(tactic| with_reducible first | assumption | exact Keep.refl _ _ | ((fail "keepstep"); fail "keep"))
  | `(tactic| fail "dp") => `(tactic| with_reducible first | assumption | exact Dp.non | exact Dp.bl _ | exact Dp.int _ | exact Dp.str _ | (apply Dp.lst; (fail "sq"); fail "dp") | (apply Dp.tup; (fail "sq"); fail "dp") | exact DpAll.nil | (apply DpAll.cons; (fail "dp"); fail "dp"))
  | `(tactic| fail "sz") => `(tactic| first | assumption | (simp only [List.length_cons, List.length_nil, List.length_append]; omega) | omega)
  | `(tactic| fail "cmul") => `(tactic| first | exact Or.inl ⟨by omega, by omega⟩ | exact Or.inr ⟨by omega, by omega⟩)
  | `(tactic| fail "sh") => `(tactic| first | exact Sh.non | exact Sh.bl _ | (refine Sh.int ?_; omega) | (apply Sh.list; fail "sh") | (apply Sh.tup; fail "sh") | exact Shs.nil | (apply Shs.cons; (fail "sh"); fail "sh"))
  | `(tactic| fail "all") => `(tactic| repeat (first | exact List.forall_mem_nil _ | refine List.forall_mem_cons.mpr ⟨⟨_, rfl, by omega, by omega⟩, ?_⟩))
local macro_rules
  | `(tactic| fail "as") => `(tactic| first | (with_reducible first | assumption | (apply As.cut; fail "as")) | (with_reducible apply As.app; (fail "as"); fail "as") | exact (As.of (by decide) (by decide) : As 1 _) | exact (As.of (by decide) (by decide) : As 100 _))
  | `(tactic| fail "line") => `(tactic| first | decide | (refine As.line (by fail "as") ?_; omega))
  | `(tactic| fail "line2") => `(tactic| first | decide | (refine As.line2 (by fail "as") (by fail "as") ?_; omega))
  | `(tactic| fail "allS") => `(tactic| repeat (first | exact List.forall_mem_nil _ | refine List.forall_mem_cons.mpr ⟨⟨_, rfl, by decide +kernel, by decide +kernel⟩, ?_⟩))
  | `(tactic| fail "szA") => `(tactic| ((show _ ≤ _); (refine Nat.le_trans (?_ : _ ≤ 100000) (by decide)); simp only [List.length_cons, List.length_nil, List.length_append]; omega))
  | `(tactic| fail "sgn") => `(tactic| with_reducible first | exact rfl | exact sg_c10 | exact sg_c32 | exact sg_c33 | exact sg_c34 | exact sg_c35 | exact sg_c36 | exact sg_c37 | exact sg_c38 | exact sg_c39 | exact sg_c40 | exact sg_c41 | exact sg_c42 | exact sg_c43 | exact sg_c44 | exact sg_c45 | exact sg_c46 | exact sg_c47 | exact sg_c48 | exact sg_c49 | exact sg_c50 | exact sg_c51 | exact sg_c52 | exact sg_c53 | exact sg_c54 | exact sg_c55 | exact sg_c56 | exact sg_c57 | exact sg_c58 | exact sg_c59 | exact sg_c60 | exact sg_c61 | exact sg_c62 | exact sg_c63 | exact sg_c64 | exact sg_c65 | exact sg_c66 | exact sg_c67 | exact sg_c68 | exact sg_c69 | exact sg_c70 | exact sg_c71 | exact sg_c72 | exact sg_c73 | exact sg_c74 | exact sg_c75 | exact sg_c76 | exact sg_c77 | exact sg_c78 | exact sg_c79 | exact sg_c80 | exact sg_c81 | exact sg_c82 | exact sg_c83 | exact sg_c84 | exact sg_c85 | exact sg_c86 | exact sg_c87 | exact sg_c88 | exact sg_c89 | exact sg_c90 | exact sg_c91 | exact sg_c92 | exact sg_c93 | exact sg_c94 | exact sg_c95 | exact sg_c96 | exact sg_c97 | exact sg_c98 | exact sg_c99 | exact sg_c100 | exact sg_c101 | exact sg_c102 | exact sg_c103 | exact sg_c104 | exact sg_c105 | exact sg_c106 | exact sg_c107 | exact sg_c108 | exact sg_c109 | exact sg_c110 | exact sg_c111 | exact sg_c112 | exact sg_c113 | exact sg_c114 | exact sg_c115 | exact sg_c116 | exact sg_c117 | exact sg_c118 | exact sg_c119 | exact sg_c120 | exact sg_c121 | exact sg_c122 | exact sg_c123 | exact sg_c124 | exact sg_c125 | exact sg_c126)
  | `(tactic| fail "allI") => `(tactic| repeat (first | exact List.forall_mem_nil _ | refine List.forall_mem_cons.mpr ⟨⟨_, rfl⟩, ?_⟩))
  | `(tactic| fail "bd") => `(tactic| (rw [Bool.eq_iff_iff]; simp <;> omega))
local macro_rules
  | `(tactic| fail "kit") => `(tactic| with_reducible first | exact k_NoneType_str | exact k_NoneType_int | exact k_NoneType_bool | exact k_NoneType_tuple | exact k_NoneType_list | exact k_NoneType_dict | exact k_bool_str | exact k_bool_int | exact k_bool_bool | exact k_bool_tuple | exact k_bool_list | exact k_bool_dict | exact k_tuple_str | exact k_tuple_int | exact k_tuple_bool | exact k_tuple_tuple | exact k_tuple_list | exact k_tuple_dict | exact k_list_str | exact k_list_int | exact k_list_bool | exact k_list_tuple | exact k_list_list | exact k_list_dict | exact k_dict_str | exact k_dict_int | exact k_dict_bool | exact k_dict_tuple | exact k_dict_list | exact k_dict_dict | exact k_int_str | exact k_int_int | exact k_int_bool | exact k_int_tuple | exact k_int_list | exact k_int_dict | exact k_str_str | exact k_str_int | exact k_str_bool | exact k_str_tuple | exact k_str_list | exact k_str_dict)
  | `(tactic| fail "ty") => `(tactic| with_reducible first | exact TyX.base .non | exact TyX.base (.bl _) | exact TyX.base (.int _) | exact TyX.base (.str _) | assumption | (apply tyx_same (by assumption); fail "ty") | (apply TyX.base; apply TyOf.lst; fail "h") | (apply TyX.base; apply TyOf.tup; fail "h") | (apply TyX.base; apply TyOf.dK; fail "h"))
local macro_rules | `(tactic| fail "go1") => `(tactic| first
  | ((with_reducible apply g_var); (exact rfl))
  | with_reducible refine g_c ?_
  | with_reducible refine g_op ?_
  | with_reducible refine g_test ?_
  | with_reducible refine g_tB ?_
  | with_reducible refine g_bl ?_
  | with_reducible refine g_and ?_
  | with_reducible refine g_or ?_
  | with_reducible refine g_not ?_
  | with_reducible refine g_andV ?_
  | with_reducible refine g_orV ?_
  | with_reducible refine g_notV ?_
  | with_reducible refine g_ifE ?_
  | with_reducible refine g_chain ?_
  | with_reducible refine g_nil ?_
  | with_reducible refine g_cons ?_
  | with_reducible refine g_cb ?_
  | with_reducible refine g_callG ?_
  | with_reducible refine g_tup ?_
  | with_reducible refine g_lst ?_
  | ((with_reducible refine g_sz ?_ ?_); (fail "sz"))
  | with_reducible refine g_addI ?_
  | ((((with_reducible apply g_addL); ((fail "sq")); ((fail "sq"))); try (fail "szA")); try dsimp only [List.cons_append, List.nil_append])
  | with_reducible refine g_sub ?_
  | ((with_reducible refine g_mulI ?_ ?_); (fail "cmul"))
  | (((with_reducible apply g_rep1); (fail "h"); (decide); (decide); (decide)); dsimp only [Int.reduceToNat, List.replicate])
  | ((with_reducible refine g_div ?_ ?_); exact ⟨by omega, by omega⟩)
  | ((with_reducible refine g_mod ?_ ?_); first | omega | (simp only [List.length_map]; omega))
  | ((with_reducible refine g_pow ?_ ?_); exact ⟨by decide, by decide, by decide⟩)
  | with_reducible refine g_eqI ?_
  | with_reducible refine g_eqB ?_
  | ((with_reducible apply g_eqS); (fail "dp"); (fail "dp"); (fail "sh"); (omega))
  | ((with_reducible apply g_neS); (fail "dp"); (fail "dp"); (fail "sh"); (omega))
  | ((with_reducible apply g_reprS); (fail "dp"); (fail "sh"); (omega); (omega))
  | with_reducible refine g_eqT ?_
  | with_reducible refine g_neI ?_
  | with_reducible refine g_neB ?_
  | with_reducible refine g_neT ?_
  | with_reducible refine g_ltI ?_
  | with_reducible refine g_leI ?_
  | with_reducible refine g_gtI ?_
  | with_reducible refine g_geI ?_
  | with_reducible refine g_inS ?_
  | with_reducible refine g_niS ?_
  | ((with_reducible refine g_iteT ?_ ?_); omega)
  | ((with_reducible refine g_iteF ?_ ?_); omega)
  | ((with_reducible refine g_iteNT ?_ ?_); omega)
  | ((with_reducible refine g_iteNF ?_ ?_); omega)
  | ((with_reducible refine g_iteNF ?_ ?_); with_reducible rfl)
  | ((with_reducible refine g_iteT ?_ ?_); with_reducible rfl)
  | with_reducible refine g_ite (fun _ => ?_) (fun _ => ?_)
  | with_reducible refine g_iteN (fun _ => ?_) (fun _ => ?_)
  | with_reducible refine iteT ?_
  | with_reducible refine iteF ?_
  | ((with_reducible apply g_lenL); ((fail "sq")))
  | ((with_reducible apply g_lenU); ((fail "sq")))
  | with_reducible refine g_isiII ?_
  | with_reducible refine g_isiIB ?_
  | with_reducible refine g_isiBB ?_
  | with_reducible refine g_isiBI ?_
  | with_reducible refine g_isiSS ?_
  | with_reducible refine g_isiSI ?_
  | with_reducible refine g_isiIS ?_
  | ((with_reducible apply g_isi); (fail "ty"); (fail "kit"))
  | ((with_reducible apply g_leC); (fail "sgn"); (fail "sgn"))
  | ((with_reducible apply g_ltC); (fail "sgn"); (fail "sgn"))
  | ((with_reducible apply g_inC); (fail "sgn"))
  | ((with_reducible apply g_niC); (fail "sgn"))
  | ((with_reducible apply g_append); (exact rfl); (fail "h"))
  | (((with_reducible apply g_app); (fail "h"); (fail "sz")); try dsimp only [List.cons_append, List.nil_append])
  | with_reducible refine g_part ?_
  | with_reducible refine g_nopart ?_
  | with_reducible refine g_isint ?_
  | with_reducible refine g_un ?_
  | with_reducible refine g_neg ?_
  | with_reducible refine g_m0 ?_
  | with_reducible refine g_m1 ?_
  | with_reducible refine g_str ?_
  | with_reducible refine g_sl ?_
  | ((with_reducible refine g_slS ?_ ?_); (fail "line"))
  | ((with_reducible refine g_lenT ?_ ?_); (fail "line"))
  | ((with_reducible refine g_addT ?_ ?_); (fail "line2"))
  | with_reducible refine g_name ?_
  | with_reducible refine g_pc ?_
  | with_reducible refine g_asgG ?_
  | ((with_reducible apply g_gtup); (fail "sq"); exact rfl)
  | with_reducible refine g_gcons ?_
  | with_reducible refine g_gnil ?_
  | with_reducible refine g_pn ?_
  | with_reducible refine g_for1 ?_
  | with_reducible refine g_for2 ?_
  | with_reducible refine g_lc1 ?_
  | with_reducible refine g_lc2 ?_
  | with_reducible refine g_par ?_
  | with_reducible refine g_par3 ?_
  | with_reducible refine g_two ?_
  | with_reducible refine g_i1 ?_
  | with_reducible refine g_i2 ?_
  | with_reducible refine g_three ?_
  | (with_reducible refine ⟨_, fun _ _ n => n, ?_⟩)
  | with_reducible refine g_dput ?_
  | ((with_reducible apply g_dcells); (exact rfl); ((fail "h")))
  | ((with_reducible apply g_dat); (exact rfl); ((fail "h")))
  | ((with_reducible apply g_dleft); (exact rfl); ((fail "h")))
  | ((with_reducible apply g_dused); (exact rfl); ((fail "h")))
  | ((with_reducible apply g_pat); (exact rfl); ((fail "h")))
  | ((with_reducible apply g_pleft); (exact rfl); ((fail "h")))
  | ((with_reducible apply g_pused); (exact rfl); ((fail "h")))
  | ((with_reducible apply g_ixT); (fail "sq"); (exact rfl))
  | ((with_reducible apply g_ixL); (fail "sq"); (exact rfl))
  | ((with_reducible apply g_args); (exact rfl); (exact rfl))
  | ((with_reducible refine g_sp ?_); nofun)
  | with_reducible refine g_iteNtt ?_
  | with_reducible refine g_iteNff ?_
  | with_reducible refine g_iteb (fun _ => ?_) (fun _ => ?_)
  | with_reducible refine g_iteNb (fun _ => ?_) (fun _ => ?_)
  | with_reducible refine g_seq ?_
  | with_reducible refine g_asg ?_
  | with_reducible refine g_ret ?_
  | with_reducible refine g_ifS ?_
  | with_reducible refine g_next ?_
  | with_reducible refine g_drop ?_
  | intro p np)
local macro_rules | `(tactic| fail "go") => `(tactic| repeat' fail "go1")
def topS (i : Nat) : Stmt := PySem.Challenge.pw_headerfold_k02_marks_names_and_atoms.main.body.getD i (.Pass ⟨0, 0, 0, 0⟩)
abbrev s_law_begin : Stmt := topS 16
theorem sc_law_begin : FnScope ["script"] ["script"] (defScope s_law_begin) := ⟨rfl, rfl, rfl, by decide +kernel, rfl, by decide +kernel, by decide +kernel⟩
abbrev s_law_mixed : Stmt := topS 17
theorem sc_law_mixed : FnScope ["cell", "k", "mixed"] ["cell", "k"] (defScope s_law_mixed) := ⟨rfl, rfl, rfl, by decide +kernel, rfl, by decide +kernel, by decide +kernel⟩
abbrev s_law_next : Stmt := topS 18
theorem sc_law_next : FnScope ["draw", "bound", "found", "cells", "cell"] ["draw", "bound"] (defScope s_law_next) := ⟨rfl, rfl, rfl, by decide +kernel, rfl, by decide +kernel, by decide +kernel⟩
abbrev s_is_integer : Stmt := topS 7
theorem sc_is_integer : FnScope ["thing"] ["thing"] (defScope s_is_integer) := ⟨rfl, rfl, rfl, by decide +kernel, rfl, by decide +kernel, by decide +kernel⟩
abbrev s_consists_of : Stmt := topS 8
theorem sc_consists_of : FnScope ["thing", "signs", "sign"] ["thing", "signs"] (defScope s_consists_of) := ⟨rfl, rfl, rfl, by decide +kernel, rfl, by decide +kernel, by decide +kernel⟩
abbrev s_is_body : Stmt := topS 9
theorem sc_is_body : FnScope ["thing"] ["thing"] (defScope s_is_body) := ⟨rfl, rfl, rfl, by decide +kernel, rfl, by decide +kernel, by decide +kernel⟩
abbrev s_is_raw : Stmt := topS 10
theorem sc_is_raw : FnScope ["thing"] ["thing"] (defScope s_is_raw) := ⟨rfl, rfl, rfl, by decide +kernel, rfl, by decide +kernel, by decide +kernel⟩
abbrev s_is_plain_code : Stmt := topS 11
theorem sc_is_plain_code : FnScope ["thing"] ["thing"] (defScope s_is_plain_code) := ⟨rfl, rfl, rfl, by decide +kernel, rfl, by decide +kernel, by decide +kernel⟩
abbrev s_is_code : Stmt := topS 12
theorem sc_is_code : FnScope ["thing"] ["thing"] (defScope s_is_code) := ⟨rfl, rfl, rfl, by decide +kernel, rfl, by decide +kernel, by decide +kernel⟩
abbrev s_is_label : Stmt := topS 13
theorem sc_is_label : FnScope ["thing"] ["thing"] (defScope s_is_label) := ⟨rfl, rfl, rfl, by decide +kernel, rfl, by decide +kernel, by decide +kernel⟩
abbrev s_is_atom : Stmt := topS 14
theorem sc_is_atom : FnScope ["thing", "sign"] ["thing"] (defScope s_is_atom) := ⟨rfl, rfl, rfl, by decide +kernel, rfl, by decide +kernel, by decide +kernel⟩
abbrev s_law_alphabet : Stmt := topS 19
theorem sc_law_alphabet : FnScope ["small"] [] (defScope s_law_alphabet) := ⟨rfl, rfl, rfl, by decide +kernel, rfl, by decide +kernel, by decide +kernel⟩
abbrev s_law_string : Stmt := topS 20
theorem sc_law_string : FnScope ["draw", "found", "k", "some"] ["draw"] (defScope s_law_string) := ⟨rfl, rfl, rfl, by decide +kernel, rfl, by decide +kernel, by decide +kernel⟩
abbrev s_law_thing : Stmt := topS 21
theorem sc_law_thing : FnScope ["draw", "small", "great", "digits", "word", "odd", "some", "k"] ["draw"] (defScope s_law_thing) := ⟨rfl, rfl, rfl, by decide +kernel, rfl, by decide +kernel, by decide +kernel⟩
abbrev s_law_number : Stmt := topS 22
theorem sc_law_number : FnScope ["draw", "some"] ["draw"] (defScope s_law_number) := ⟨rfl, rfl, rfl, by decide +kernel, rfl, by decide +kernel, by decide +kernel⟩
abbrev s_law_is_string : Stmt := topS 23
theorem sc_law_is_string : FnScope ["what", "more", "sign"] ["what", "more"] (defScope s_law_is_string) := ⟨rfl, rfl, rfl, by decide +kernel, rfl, by decide +kernel, by decide +kernel⟩
abbrev s_law_is_label : Stmt := topS 24
theorem sc_law_is_label : FnScope ["what", "small", "great", "digits", "sign"] ["what"] (defScope s_law_is_label) := ⟨rfl, rfl, rfl, by decide +kernel, rfl, by decide +kernel, by decide +kernel⟩
abbrev s_law_is_atom : Stmt := topS 25
theorem sc_law_is_atom : FnScope ["what", "sign"] ["what"] (defScope s_law_is_atom) := ⟨rfl, rfl, rfl, by decide +kernel, rfl, by decide +kernel, by decide +kernel⟩
abbrev s_law_is_code : Stmt := topS 26
theorem sc_law_is_code : FnScope ["what"] ["what"] (defScope s_law_is_code) := ⟨rfl, rfl, rfl, by decide +kernel, rfl, by decide +kernel, by decide +kernel⟩
abbrev s_law_right : Stmt := topS 27
theorem sc_law_right : FnScope ["what", "due", "named"] ["what"] (defScope s_law_right) := ⟨rfl, rfl, rfl, by decide +kernel, rfl, by decide +kernel, by decide +kernel⟩
abbrev s_law_marks_right : Stmt := topS 28
theorem sc_law_marks_right : FnScope ["k", "small", "great", "digits", "rest", "sign"] [] (defScope s_law_marks_right) := ⟨rfl, rfl, rfl, by decide +kernel, rfl, by decide +kernel, by decide +kernel⟩
abbrev s_law : Stmt := topS 29
theorem sc_law : FnScope ["script", "draw", "turn", "what"] ["script"] (defScope s_law) := ⟨rfl, rfl, rfl, by decide +kernel, rfl, by decide +kernel, by decide +kernel⟩
@[reducible] def g_consists_of_2_ {α : Type} (us _ws : List α) : List α := us
theorem b_consists_of_2_ : Bnd s_consists_of "consists_of" "consists_of" ["thing", "signs"] 2 ([] : List Str) @g_consists_of_2_ := fun _ _ _ _ _ _ us ws h1 h2 => match us, ws, h1, h2 with | [_, _], [], _, _ => ⟨rfl, rfl⟩
theorem b_consists_of_2__s : Shuf 2 0 @g_consists_of_2_ := fun _ _ _ _ r _ _ _ => r
def g_is_atom_0_thing {α : Type} : List α → List α → List α
  | [], [w0] => [w0]
  | _, _ => []
theorem b_is_atom_0_thing : Bnd s_is_atom "is_atom" "is_atom" ["thing"] 0 (["thing"] : List Str) @g_is_atom_0_thing := fun _ _ _ _ _ _ us ws h1 h2 => match us, ws, h1, h2 with | [], [_], _, _ => ⟨rfl, rfl⟩
theorem b_is_atom_0_thing_s : Shuf 0 1 @g_is_atom_0_thing := by
  intro xs us zs ws r q h1 h2
  obtain ⟨rfl, rfl⟩ := vals_0 r h1
  obtain ⟨z0, w0, _, _, rfl, rfl, c0, q, h2⟩ := vals_S q h2
  obtain ⟨rfl, rfl⟩ := vals_0 q h2
  exact .cons c0 (.nil)
@[reducible] def g_is_atom_1_ {α : Type} (us _ws : List α) : List α := us
theorem b_is_atom_1_ : Bnd s_is_atom "is_atom" "is_atom" ["thing"] 1 ([] : List Str) @g_is_atom_1_ := fun _ _ _ _ _ _ us ws h1 h2 => match us, ws, h1, h2 with | [_], [], _, _ => ⟨rfl, rfl⟩
theorem b_is_atom_1__s : Shuf 1 0 @g_is_atom_1_ := fun _ _ _ _ r _ _ _ => r
def g_is_body_0_thing {α : Type} : List α → List α → List α
  | [], [w0] => [w0]
  | _, _ => []
theorem b_is_body_0_thing : Bnd s_is_body "is_body" "is_body" ["thing"] 0 (["thing"] : List Str) @g_is_body_0_thing := fun _ _ _ _ _ _ us ws h1 h2 => match us, ws, h1, h2 with | [], [_], _, _ => ⟨rfl, rfl⟩
theorem b_is_body_0_thing_s : Shuf 0 1 @g_is_body_0_thing := by
  intro xs us zs ws r q h1 h2
  obtain ⟨rfl, rfl⟩ := vals_0 r h1
  obtain ⟨z0, w0, _, _, rfl, rfl, c0, q, h2⟩ := vals_S q h2
  obtain ⟨rfl, rfl⟩ := vals_0 q h2
  exact .cons c0 (.nil)
@[reducible] def g_is_body_1_ {α : Type} (us _ws : List α) : List α := us
theorem b_is_body_1_ : Bnd s_is_body "is_body" "is_body" ["thing"] 1 ([] : List Str) @g_is_body_1_ := fun _ _ _ _ _ _ us ws h1 h2 => match us, ws, h1, h2 with | [_], [], _, _ => ⟨rfl, rfl⟩
theorem b_is_body_1__s : Shuf 1 0 @g_is_body_1_ := fun _ _ _ _ r _ _ _ => r
def g_is_code_0_thing {α : Type} : List α → List α → List α
  | [], [w0] => [w0]
  | _, _ => []
theorem b_is_code_0_thing : Bnd s_is_code "is_code" "is_code" ["thing"] 0 (["thing"] : List Str) @g_is_code_0_thing := fun _ _ _ _ _ _ us ws h1 h2 => match us, ws, h1, h2 with | [], [_], _, _ => ⟨rfl, rfl⟩
theorem b_is_code_0_thing_s : Shuf 0 1 @g_is_code_0_thing := by
  intro xs us zs ws r q h1 h2
  obtain ⟨rfl, rfl⟩ := vals_0 r h1
  obtain ⟨z0, w0, _, _, rfl, rfl, c0, q, h2⟩ := vals_S q h2
  obtain ⟨rfl, rfl⟩ := vals_0 q h2
  exact .cons c0 (.nil)
@[reducible] def g_is_code_1_ {α : Type} (us _ws : List α) : List α := us
theorem b_is_code_1_ : Bnd s_is_code "is_code" "is_code" ["thing"] 1 ([] : List Str) @g_is_code_1_ := fun _ _ _ _ _ _ us ws h1 h2 => match us, ws, h1, h2 with | [_], [], _, _ => ⟨rfl, rfl⟩
theorem b_is_code_1__s : Shuf 1 0 @g_is_code_1_ := fun _ _ _ _ r _ _ _ => r
@[reducible] def g_is_integer_1_ {α : Type} (us _ws : List α) : List α := us
theorem b_is_integer_1_ : Bnd s_is_integer "is_integer" "is_integer" ["thing"] 1 ([] : List Str) @g_is_integer_1_ := fun _ _ _ _ _ _ us ws h1 h2 => match us, ws, h1, h2 with | [_], [], _, _ => ⟨rfl, rfl⟩
theorem b_is_integer_1__s : Shuf 1 0 @g_is_integer_1_ := fun _ _ _ _ r _ _ _ => r
def g_is_label_0_thing {α : Type} : List α → List α → List α
  | [], [w0] => [w0]
  | _, _ => []
theorem b_is_label_0_thing : Bnd s_is_label "is_label" "is_label" ["thing"] 0 (["thing"] : List Str) @g_is_label_0_thing := fun _ _ _ _ _ _ us ws h1 h2 => match us, ws, h1, h2 with | [], [_], _, _ => ⟨rfl, rfl⟩
theorem b_is_label_0_thing_s : Shuf 0 1 @g_is_label_0_thing := by
  intro xs us zs ws r q h1 h2
  obtain ⟨rfl, rfl⟩ := vals_0 r h1
  obtain ⟨z0, w0, _, _, rfl, rfl, c0, q, h2⟩ := vals_S q h2
  obtain ⟨rfl, rfl⟩ := vals_0 q h2
  exact .cons c0 (.nil)
@[reducible] def g_is_label_1_ {α : Type} (us _ws : List α) : List α := us
theorem b_is_label_1_ : Bnd s_is_label "is_label" "is_label" ["thing"] 1 ([] : List Str) @g_is_label_1_ := fun _ _ _ _ _ _ us ws h1 h2 => match us, ws, h1, h2 with | [_], [], _, _ => ⟨rfl, rfl⟩
theorem b_is_label_1__s : Shuf 1 0 @g_is_label_1_ := fun _ _ _ _ r _ _ _ => r
@[reducible] def g_is_plain_code_1_ {α : Type} (us _ws : List α) : List α := us
theorem b_is_plain_code_1_ : Bnd s_is_plain_code "is_plain_code" "is_plain_code" ["thing"] 1 ([] : List Str) @g_is_plain_code_1_ := fun _ _ _ _ _ _ us ws h1 h2 => match us, ws, h1, h2 with | [_], [], _, _ => ⟨rfl, rfl⟩
theorem b_is_plain_code_1__s : Shuf 1 0 @g_is_plain_code_1_ := fun _ _ _ _ r _ _ _ => r
def g_is_raw_0_thing {α : Type} : List α → List α → List α
  | [], [w0] => [w0]
  | _, _ => []
theorem b_is_raw_0_thing : Bnd s_is_raw "is_raw" "is_raw" ["thing"] 0 (["thing"] : List Str) @g_is_raw_0_thing := fun _ _ _ _ _ _ us ws h1 h2 => match us, ws, h1, h2 with | [], [_], _, _ => ⟨rfl, rfl⟩
theorem b_is_raw_0_thing_s : Shuf 0 1 @g_is_raw_0_thing := by
  intro xs us zs ws r q h1 h2
  obtain ⟨rfl, rfl⟩ := vals_0 r h1
  obtain ⟨z0, w0, _, _, rfl, rfl, c0, q, h2⟩ := vals_S q h2
  obtain ⟨rfl, rfl⟩ := vals_0 q h2
  exact .cons c0 (.nil)
@[reducible] def g_is_raw_1_ {α : Type} (us _ws : List α) : List α := us
theorem b_is_raw_1_ : Bnd s_is_raw "is_raw" "is_raw" ["thing"] 1 ([] : List Str) @g_is_raw_1_ := fun _ _ _ _ _ _ us ws h1 h2 => match us, ws, h1, h2 with | [_], [], _, _ => ⟨rfl, rfl⟩
theorem b_is_raw_1__s : Shuf 1 0 @g_is_raw_1_ := fun _ _ _ _ r _ _ _ => r
@[reducible] def g_law_alphabet_0_ {α : Type} (us _ws : List α) : List α := us
theorem b_law_alphabet_0_ : Bnd s_law_alphabet "_law_alphabet" "_law_alphabet" [] 0 ([] : List Str) @g_law_alphabet_0_ := fun _ _ _ _ _ _ us ws h1 h2 => match us, ws, h1, h2 with | [], [], _, _ => ⟨rfl, rfl⟩
theorem b_law_alphabet_0__s : Shuf 0 0 @g_law_alphabet_0_ := fun _ _ _ _ r _ _ _ => r
@[reducible] def g_law_begin_1_ {α : Type} (us _ws : List α) : List α := us
theorem b_law_begin_1_ : Bnd s_law_begin "_law_begin" "_law_begin" ["script"] 1 ([] : List Str) @g_law_begin_1_ := fun _ _ _ _ _ _ us ws h1 h2 => match us, ws, h1, h2 with | [_], [], _, _ => ⟨rfl, rfl⟩
theorem b_law_begin_1__s : Shuf 1 0 @g_law_begin_1_ := fun _ _ _ _ r _ _ _ => r
@[reducible] def g_law_is_atom_1_ {α : Type} (us _ws : List α) : List α := us
theorem b_law_is_atom_1_ : Bnd s_law_is_atom "_law_is_atom" "_law_is_atom" ["what"] 1 ([] : List Str) @g_law_is_atom_1_ := fun _ _ _ _ _ _ us ws h1 h2 => match us, ws, h1, h2 with | [_], [], _, _ => ⟨rfl, rfl⟩
theorem b_law_is_atom_1__s : Shuf 1 0 @g_law_is_atom_1_ := fun _ _ _ _ r _ _ _ => r
@[reducible] def g_law_is_code_1_ {α : Type} (us _ws : List α) : List α := us
theorem b_law_is_code_1_ : Bnd s_law_is_code "_law_is_code" "_law_is_code" ["what"] 1 ([] : List Str) @g_law_is_code_1_ := fun _ _ _ _ _ _ us ws h1 h2 => match us, ws, h1, h2 with | [_], [], _, _ => ⟨rfl, rfl⟩
theorem b_law_is_code_1__s : Shuf 1 0 @g_law_is_code_1_ := fun _ _ _ _ r _ _ _ => r
@[reducible] def g_law_is_label_1_ {α : Type} (us _ws : List α) : List α := us
theorem b_law_is_label_1_ : Bnd s_law_is_label "_law_is_label" "_law_is_label" ["what"] 1 ([] : List Str) @g_law_is_label_1_ := fun _ _ _ _ _ _ us ws h1 h2 => match us, ws, h1, h2 with | [_], [], _, _ => ⟨rfl, rfl⟩
theorem b_law_is_label_1__s : Shuf 1 0 @g_law_is_label_1_ := fun _ _ _ _ r _ _ _ => r
@[reducible] def g_law_is_string_2_ {α : Type} (us _ws : List α) : List α := us
theorem b_law_is_string_2_ : Bnd s_law_is_string "_law_is_string" "_law_is_string" ["what", "more"] 2 ([] : List Str) @g_law_is_string_2_ := fun _ _ _ _ _ _ us ws h1 h2 => match us, ws, h1, h2 with | [_, _], [], _, _ => ⟨rfl, rfl⟩
theorem b_law_is_string_2__s : Shuf 2 0 @g_law_is_string_2_ := fun _ _ _ _ r _ _ _ => r
@[reducible] def g_law_marks_right_0_ {α : Type} (us _ws : List α) : List α := us
theorem b_law_marks_right_0_ : Bnd s_law_marks_right "_law_marks_right" "_law_marks_right" [] 0 ([] : List Str) @g_law_marks_right_0_ := fun _ _ _ _ _ _ us ws h1 h2 => match us, ws, h1, h2 with | [], [], _, _ => ⟨rfl, rfl⟩
theorem b_law_marks_right_0__s : Shuf 0 0 @g_law_marks_right_0_ := fun _ _ _ _ r _ _ _ => r
@[reducible] def g_law_mixed_2_ {α : Type} (us _ws : List α) : List α := us
theorem b_law_mixed_2_ : Bnd s_law_mixed "_law_mixed" "_law_mixed" ["cell", "k"] 2 ([] : List Str) @g_law_mixed_2_ := fun _ _ _ _ _ _ us ws h1 h2 => match us, ws, h1, h2 with | [_, _], [], _, _ => ⟨rfl, rfl⟩
theorem b_law_mixed_2__s : Shuf 2 0 @g_law_mixed_2_ := fun _ _ _ _ r _ _ _ => r
@[reducible] def g_law_next_2_ {α : Type} (us _ws : List α) : List α := us
theorem b_law_next_2_ : Bnd s_law_next "_law_next" "_law_next" ["draw", "bound"] 2 ([] : List Str) @g_law_next_2_ := fun _ _ _ _ _ _ us ws h1 h2 => match us, ws, h1, h2 with | [_, _], [], _, _ => ⟨rfl, rfl⟩
theorem b_law_next_2__s : Shuf 2 0 @g_law_next_2_ := fun _ _ _ _ r _ _ _ => r
@[reducible] def g_law_number_1_ {α : Type} (us _ws : List α) : List α := us
theorem b_law_number_1_ : Bnd s_law_number "_law_number" "_law_number" ["draw"] 1 ([] : List Str) @g_law_number_1_ := fun _ _ _ _ _ _ us ws h1 h2 => match us, ws, h1, h2 with | [_], [], _, _ => ⟨rfl, rfl⟩
theorem b_law_number_1__s : Shuf 1 0 @g_law_number_1_ := fun _ _ _ _ r _ _ _ => r
@[reducible] def g_law_right_1_ {α : Type} (us _ws : List α) : List α := us
theorem b_law_right_1_ : Bnd s_law_right "_law_right" "_law_right" ["what"] 1 ([] : List Str) @g_law_right_1_ := fun _ _ _ _ _ _ us ws h1 h2 => match us, ws, h1, h2 with | [_], [], _, _ => ⟨rfl, rfl⟩
theorem b_law_right_1__s : Shuf 1 0 @g_law_right_1_ := fun _ _ _ _ r _ _ _ => r
@[reducible] def g_law_string_1_ {α : Type} (us _ws : List α) : List α := us
theorem b_law_string_1_ : Bnd s_law_string "_law_string" "_law_string" ["draw"] 1 ([] : List Str) @g_law_string_1_ := fun _ _ _ _ _ _ us ws h1 h2 => match us, ws, h1, h2 with | [_], [], _, _ => ⟨rfl, rfl⟩
theorem b_law_string_1__s : Shuf 1 0 @g_law_string_1_ := fun _ _ _ _ r _ _ _ => r
@[reducible] def g_law_thing_1_ {α : Type} (us _ws : List α) : List α := us
theorem b_law_thing_1_ : Bnd s_law_thing "_law_thing" "_law_thing" ["draw"] 1 ([] : List Str) @g_law_thing_1_ := fun _ _ _ _ _ _ us ws h1 h2 => match us, ws, h1, h2 with | [_], [], _, _ => ⟨rfl, rfl⟩
theorem b_law_thing_1__s : Shuf 1 0 @g_law_thing_1_ := fun _ _ _ _ r _ _ _ => r
structure Txt (K : PySem.W.Frag) (mg : Str → Option Value) : Prop where
  d_law_begin : ∃ f, mg "_law_begin" = some (.ref f) ∧ ∃ fd, Fun K "_law_begin" "_law_begin" s_law_begin f fd
  d_law_mixed : ∃ f, mg "_law_mixed" = some (.ref f) ∧ ∃ fd, Fun K "_law_mixed" "_law_mixed" s_law_mixed f fd
  d_law_next : ∃ f, mg "_law_next" = some (.ref f) ∧ ∃ fd, Fun K "_law_next" "_law_next" s_law_next f fd
  d_is_integer : ∃ f, mg "is_integer" = some (.ref f) ∧ ∃ fd, Fun K "is_integer" "is_integer" s_is_integer f fd
  d_consists_of : ∃ f, mg "consists_of" = some (.ref f) ∧ ∃ fd, Fun K "consists_of" "consists_of" s_consists_of f fd
  d_is_body : ∃ f, mg "is_body" = some (.ref f) ∧ ∃ fd, Fun K "is_body" "is_body" s_is_body f fd
  d_is_raw : ∃ f, mg "is_raw" = some (.ref f) ∧ ∃ fd, Fun K "is_raw" "is_raw" s_is_raw f fd
  d_is_plain_code : ∃ f, mg "is_plain_code" = some (.ref f) ∧ ∃ fd, Fun K "is_plain_code" "is_plain_code" s_is_plain_code f fd
  d_is_code : ∃ f, mg "is_code" = some (.ref f) ∧ ∃ fd, Fun K "is_code" "is_code" s_is_code f fd
  d_is_label : ∃ f, mg "is_label" = some (.ref f) ∧ ∃ fd, Fun K "is_label" "is_label" s_is_label f fd
  d_is_atom : ∃ f, mg "is_atom" = some (.ref f) ∧ ∃ fd, Fun K "is_atom" "is_atom" s_is_atom f fd
  d_law_alphabet : ∃ f, mg "_law_alphabet" = some (.ref f) ∧ ∃ fd, Fun K "_law_alphabet" "_law_alphabet" s_law_alphabet f fd
  d_law_string : ∃ f, mg "_law_string" = some (.ref f) ∧ ∃ fd, Fun K "_law_string" "_law_string" s_law_string f fd
  d_law_thing : ∃ f, mg "_law_thing" = some (.ref f) ∧ ∃ fd, Fun K "_law_thing" "_law_thing" s_law_thing f fd
  d_law_number : ∃ f, mg "_law_number" = some (.ref f) ∧ ∃ fd, Fun K "_law_number" "_law_number" s_law_number f fd
  d_law_is_string : ∃ f, mg "_law_is_string" = some (.ref f) ∧ ∃ fd, Fun K "_law_is_string" "_law_is_string" s_law_is_string f fd
  d_law_is_label : ∃ f, mg "_law_is_label" = some (.ref f) ∧ ∃ fd, Fun K "_law_is_label" "_law_is_label" s_law_is_label f fd
  d_law_is_atom : ∃ f, mg "_law_is_atom" = some (.ref f) ∧ ∃ fd, Fun K "_law_is_atom" "_law_is_atom" s_law_is_atom f fd
  d_law_is_code : ∃ f, mg "_law_is_code" = some (.ref f) ∧ ∃ fd, Fun K "_law_is_code" "_law_is_code" s_law_is_code f fd
  d_law_right : ∃ f, mg "_law_right" = some (.ref f) ∧ ∃ fd, Fun K "_law_right" "_law_right" s_law_right f fd
  d_law_marks_right : ∃ f, mg "_law_marks_right" = some (.ref f) ∧ ∃ fd, Fun K "_law_marks_right" "_law_marks_right" s_law_marks_right f fd
  d_law : ∃ f, mg "law" = some (.ref f) ∧ ∃ fd, Fun K "law" "law" s_law f fd
  b_all : mg "all" = none
  b_any : mg "any" = none
  b_bool : mg "bool" = none
  b_int : mg "int" = none
  b_isinstance : mg "isinstance" = none
  b_len : mg "len" = none
  b_min : mg "min" = none
  b_range : mg "range" = none
  b_repr : mg "repr" = none
  b_str : mg "str" = none
  c_MARKS : ∃ u, mg "MARKS" = some u ∧ RelV (V.str " !\"#$&'()*+,-./0123456789:;<=>?@ABCDEFGHIJKLMNOPQRSTUVWXYZ[\\]^_`abcdefghijklmnopqrstuvwxyz{|}~") u
  c_LETTERS : ∃ u, mg "LETTERS" = some u ∧ RelV (V.str "abcdefghijklmnopqrstuvwxyzABCDEFGHIJKLMNOPQRSTUVWXYZ") u
  c_DIGITS : ∃ u, mg "DIGITS" = some u ∧ RelV (V.str "0123456789") u
  c_SPECIALS : ∃ u, mg "SPECIALS" = some u ∧ RelV (V.str " ()<>,;:@\"") u
  c_PERCENT : ∃ u, mg "PERCENT" = some u ∧ RelV (V.int 37) u
  c_MOST_LABEL : ∃ u, mg "MOST_LABEL" = some u ∧ RelV (V.int 20) u
variable {P : Program} {w : World} {K : PySem.W.Frag} {mg : Str → Option Value} {base : Heap}

def sp_law_begin (K : PySem.W.Frag) : Sp := fun vs H Q _ =>
  ∃ (a : Addr) (ns : List Int), vs = [.ref a] ∧ SqL K H a (ns.map V.int) ∧ ns.length ≤ 63 ∧ ∀ H' d c, Same H H' → H d = none → DrawAt K 0 H' d c → Q (.ref d) H'
theorem df_law_begin (T : Txt K mg) : Df P w K mg base 1 "_law_begin" s_law_begin ["script"] (sp_law_begin K) := by
  have sc := sc_law_begin
  obtain ⟨f, hm, fd, F⟩ := T.d_law_begin
  refine ⟨f, fd, hm, F, okG F sc (by fail "many") (fun cdv A outer s H vs Q E hr h => ?_)⟩
  · obtain ⟨a, ns, rfl, hs, hn, k⟩ := h
    refine ⟨_, (pss_one (ps_ret (pe_disp (pps_cons pe_str (pe_op op_addA (pv 0) (pe_lst (pa_cons pe_int pa_nil))) (pps_cons pe_str pe_int (pps_cons pe_str pe_int (pps_cons pe_str pe_int pps_nil)))) (by rfl) (by rfl) (fun z => by cases z) (by decide)))), ?_⟩
    dsimp only [cxOf, Cx.wish, L2.start, List.map, List.length, List.replicate, List.append, List.cons_append, List.nil_append, Nat.reduceAdd, Nat.reduceSub, Nat.zero_add]
    refine g_ret ?_
    intro p np
    have hs1 := seq_new (o := HO.dK []) np hs
    fail "go"
    · simp only [List.length_map, List.length_cons, List.length_nil]
      exact Nat.le_trans (by omega : _ ≤ 100) (by decide)
    rename_i p1 np1 p2 np2
    refine ⟨by fail "h", drawK p2 0 0 0, rfl, (by show 4 ≤ 15; decide), ?_⟩
    refine k _ p p2 (by fail "same") np ⟨ns ++ [0], 0, 0, 0, upd_same, ?_, by simp, by simp; omega, by omega, by omega, by omega, by omega⟩
    rw [List.map_append]
    exact (upd_off (Ne.symm (ne_of_none (upd_new np1 upd_same) np2)) upd_same)
local macro_rules | `(tactic| nofun) => `(tactic| ((with_reducible show sp_law_begin _ _ _ _ _); refine ⟨_, _, rfl, by with_reducible (fail "sq"), by assumption, fun H' d c s' nd D => ?_⟩))

def sp_law_mixed (K : PySem.W.Frag) : Sp := fun vs H Q _ =>
  ∃ x k : Int, vs = [.int x, .int k] ∧ 0 ≤ k ∧ k ≤ 1000000000 ∧ ∀ H' r, Same H H' → 0 ≤ r → Q (.int r) H'
theorem df_law_mixed (T : Txt K mg) : Df P w K mg base 1 "_law_mixed" s_law_mixed ["cell", "k"] (sp_law_mixed K) := by
  have sc := sc_law_mixed
  obtain ⟨f, hm, fd, F⟩ := T.d_law_mixed
  refine ⟨f, fd, hm, F, okG F sc (by fail "many") (fun cdv A outer s H vs Q E hr h => ?_)⟩
  · obtain ⟨x, k, rfl, h1, h2, q⟩ := h
    refine ⟨_, (pss_cons (ps_set (i := 2) sc.nd rfl (Or.inl rfl) (pe_op op_modA (pe_op op_addA (pe_op op_addA (pe_op op_addA (pe_op op_modA (pv 0) pe_int) (pe_op op_mulA (pe_op op_mulA pe_int (pv 1)) (pv 1))) (pe_op op_mulA pe_int (pv 1))) pe_int) pe_int))
 (pss_cons (ps_set (i := 2) sc.nd rfl (Or.inl rfl) (pe_op op_modA (pe_op op_mulA (pe_op op_modA (pe_op op_mulA (pv 2) (pv 2)) pe_int) (pv 2)) pe_int))
 (pss_one (ps_ret (pe_op op_divA (pe_op op_modA (pe_op op_mulA (pv 2) (pe_op op_addA pe_int (pe_op op_mulA pe_int (pe_op op_modA (pv 1) pe_int)))) pe_int) pe_int))))), ?_⟩
    dsimp only [cxOf, Cx.wish, L2.start, List.map, List.length, List.replicate, List.append, List.cons_append, List.nil_append, Nat.reduceAdd, Nat.reduceSub, Nat.zero_add]
    fail "go"
    exact q _ _ (Same.refl _) (by omega)
local macro_rules | `(tactic| nofun) => `(tactic| ((with_reducible show sp_law_mixed _ _ _ _ _); refine ⟨_, _, rfl, by omega, by omega, fun H' r s' hr0 => ?_⟩))

def sp_law_next (K : PySem.W.Frag) : Sp := fun vs H Q _ =>
  ∃ (d : Addr) (b : Int) (n : Nat) (c : Addr), vs = [.ref d, .int b] ∧ 0 < b ∧ b < 1000000000 ∧ DrawAt K n H d c ∧ n < 1000000000 ∧ ∀ H' r, Keep d H H' → DrawAt K (n + 1) H' d c → 0 ≤ r → r < b → Q (.int r) H'
theorem df_law_next (T : Txt K mg) : Df P w K mg base 2 "_law_next" s_law_next ["draw", "bound"] (sp_law_next K) := by
  have sc := sc_law_next
  obtain ⟨f, hm, fd, F⟩ := T.d_law_next
  refine ⟨f, fd, hm, F, okG F sc (by fail "many") (fun cdv A outer s H vs Q E hr h => ?_)⟩
  · obtain ⟨d, b, n, c, rfl, h1, h2, D, h3, k⟩ := h
    refine ⟨_, (pss_cons (ps_if (pt_cmpR op_gtA (pe_dget (hu_of hr.rm) (pv 0) pe_str (fun _ _ => rfl)) pe_int (nomark _)) (pss_cons (ps_set (i := 2) sc.nd rfl (Or.inl rfl) (pe_op op_modA (pe_dget (hu_of hr.rm) (pv 0) pe_str (fun _ _ => rfl)) (pv 1)))
 (pss_cons (ps_dput (hu_of hr.rm) (pv 0) pe_str (pe_op op_divA (pe_dget (hu_of hr.rm) (pv 0) pe_str (fun _ _ => rfl)) (pv 1)) rfl)
 (pss_one (ps_ret (pv 2))))) pss_nil)
 (pss_cons (ps_set (i := 3) sc.nd rfl (Or.inl rfl) (pe_dget (hu_of hr.rm) (pv 0) pe_str (fun _ _ => rfl)))
 (pss_cons (ps_set (i := 4) sc.nd rfl (Or.inl rfl) (pe_ix ix_seq (pv 3) (pe_op op_modA (pe_dget (hu_of hr.rm) (pv 0) pe_str (fun _ _ => rfl)) (pe_callB call_lenA (by rfl) T.b_len (by decide +kernel) (pa_cons (pv 3) pa_nil))) (fun _ _ => rfl)))
 (pss_cons (ps_dput (hu_of hr.rm) (pv 0) pe_str (pe_op op_addA (pe_dget (hu_of hr.rm) (pv 0) pe_str (fun _ _ => rfl)) pe_int) rfl)
 (pss_cons (ps_if (PW.pt (pw_and (pt_cmpR op_geA (pv 4) (pe_op op_powA pe_int pe_int) (nomark _)) (pw_and1 (pt_cmpR op_leA (pe_dget (hu_of hr.rm) (pv 0) pe_str (fun _ _ => rfl)) (pe_callB call_lenA (by rfl) T.b_len (by decide +kernel) (pa_cons (pv 3) pa_nil)) (nomark _))))) (pss_cons (ps_dput (hu_of hr.rm) (pv 0) pe_str (pe_op op_divA (pv 4) (pv 1)) rfl)
 (pss_one (ps_ret (pe_op op_modA (pv 4) (pv 1))))) pss_nil)
 (pss_cons (ps_dput (hu_of hr.rm) (pv 0) pe_str (pe_op op_addA (pe_dget (hu_of hr.rm) (pv 0) pe_str (fun _ _ => rfl)) pe_int) rfl)
 (pss_one (ps_ret (pe_op op_modA (pe_callG (sp := sp_law_mixed K) (df_law_mixed T) hr (by decide) b_law_mixed_2_ b_law_mixed_2__s (pa_cons (pe_callG (sp := sp_law_mixed K) (df_law_mixed T) hr (by decide) b_law_mixed_2_ b_law_mixed_2__s (pa_cons (pv 4) (pa_cons (pe_dget (hu_of hr.rm) (pv 0) pe_str (fun _ _ => rfl)) pa_nil)) pk_nil) (pa_cons (pe_dget (hu_of hr.rm) (pv 0) pe_str (fun _ _ => rfl)) pa_nil)) pk_nil) (pv 1)))))))))), ?_⟩
    dsimp only [cxOf, Cx.wish, L2.start, List.map, List.length, List.replicate, List.append, List.cons_append, List.nil_append, Nat.reduceAdd, Nat.reduceSub, Nat.zero_add]
    obtain ⟨ns, a, l, u, hd, hs, g1, g2, g3, g4, g5, g6⟩ := id D
    have ncd : c ≠ d := D.ne hs rfl
    fail "go"
    · exact k _ _ (Keep.set (Keep.refl _ _)) ⟨ns, a, _, u, upd_same, upd_off ncd hs, by omega, by omega, by omega, by omega, by omega, by omega⟩ (Int.emod_nonneg _ (by omega)) (Int.emod_lt_of_pos _ h1)
    obtain ⟨x, hx, _⟩ := at_ints (ns := ns) (i := a % (ns.length : Int)) (Int.emod_nonneg _ (by omega)) (Int.emod_lt_of_pos _ (by omega))
    have hx' : atI (ns.map V.int) (a % ((ns.map V.int).length : Int)) = some (.int x) := by rw [List.length_map]; exact hx
    refine g_ixL (SqL.of hs) hx' ?_
    have S0 : ∀ o, SqL K (upd H d o) c (ns.map V.int) := fun o => SqL.of (upd_off ncd hs)
    have S1 := S0 (HO.dK (drawK c (a + 1) l u))
    have S2 : ∀ o', (upd (upd H d (HO.dK (drawK c (a + 1) l u))) d o') c = some (.lst (ns.map V.int)) := fun o' => upd_off ncd (upd_off ncd hs)
    have D2 : DrawAt K (n + 1) (upd (upd H d (HO.dK (drawK c (a + 1) l u))) d (HO.dK (drawK c (a + 1) l (u + 1)))) d c := ⟨ns, a + 1, l, u + 1, upd_same, S2 _, g1, g2, by omega, by omega, by omega, by omega⟩
    fail "go"
    · exact k _ _ (by fail "keep") ⟨ns, a + 1, _, u, upd_same, S2 _, g1, g2, by omega, by omega, by omega, by omega⟩ (Int.emod_nonneg _ (by omega)) (Int.emod_lt_of_pos _ h1)
    all_goals exact k _ _ (by fail "keep") (by fail "dr") (Int.emod_nonneg _ (by omega)) (Int.emod_lt_of_pos _ h1)
local macro_rules | `(tactic| nofun) => `(tactic| ((with_reducible show sp_law_next _ _ _ _ _); refine ⟨_, _, _, _, rfl, by omega, by omega, by with_reducible (fail "dr"), by omega, fun H' r k' D' hr0 hr1 => ?_⟩))
def MK : Str := " !\"#$&'()*+,-./0123456789:;<=>?@ABCDEFGHIJKLMNOPQRSTUVWXYZ[\\]^_`abcdefghijklmnopqrstuvwxyz{|}~"
def MKN : Str := " !\"#$&'()*+,-./0123456789:;<=>?@ABCDEFGHIJKLMNOPQRSTUVWXYZ[\\]^_`abcdefghijklmnopqrstuvwxyz{|}~\n"
def LT : Str := "abcdefghijklmnopqrstuvwxyzABCDEFGHIJKLMNOPQRSTUVWXYZ"
def LB : Str := "abcdefghijklmnopqrstuvwxyzABCDEFGHIJKLMNOPQRSTUVWXYZ0123456789-"
def SP : Str := " ()<>,;:@\""
theorem e_mkn : (Str.ofString " !\"#$&'()*+,-./0123456789:;<=>?@ABCDEFGHIJKLMNOPQRSTUVWXYZ[\\]^_`abcdefghijklmnopqrstuvwxyz{|}~" ++ Str.ofString "\n" : Str) = MKN := by decide +kernel
theorem e_lb : (Str.ofString "abcdefghijklmnopqrstuvwxyzABCDEFGHIJKLMNOPQRSTUVWXYZ" ++ Str.ofString "0123456789" ++ Str.ofString "-" : Str) = LB := by decide +kernel
theorem cs_mkn : cs MKN = cs MK ++ [10] := by decide +kernel
theorem mk_range : ∀ c, c ∈ cs MK → 32 ≤ c ∧ c ≤ 126 := by
  have h : (cs MK).all (fun c => decide (32 ≤ c ∧ c ≤ 126)) = true := by decide +kernel
  intro c hc
  exact of_decide_eq_true (List.all_eq_true.mp h c hc)
def inB (v : V) (s : Str) : Bool := match v with | .str z => (cs z).all (fun c => decide (c ∈ cs s)) | _ => false
theorem inB_str {v : V} {s : Str} (h : inB v s = true) : ∃ z, v = .str z ∧ (cs z).all (fun c => decide (c ∈ cs s)) = true := by
  cases v with
  | str z => exact ⟨z, rfl, h⟩
  | _ => exact nomatch h
def isI : V → Bool | .int _ => true | _ => false
theorem isI_int {v : V} (h : isI v = true) : ∃ i, v = .int i := by
  cases v with
  | int i => exact ⟨i, rfl⟩
  | _ => exact nomatch h
def plainB : V → Bool | .int i => decide (32 ≤ i ∧ i ≤ 126 ∧ i ≠ 37) | _ => false
def codeB : V → Bool | .int i => decide ((32 ≤ i ∧ i ≤ 126 ∧ i ≠ 37) ∨ (160 ≤ i ∧ i ≤ 65535)) | _ => false
def labB (v : V) : Bool := inB v LB && (match v with | .str z => decide (1 ≤ z.length ∧ z.length ≤ 20) && decide ((cs z).headD 0 ∈ cs LT) | _ => false)
def atomB (v : V) : Bool := inB v MK && (match v with | .str z => decide (z ≠ Str.empty) && (cs z).all (fun c => decide (c ∉ cs SP)) | _ => false)
theorem not_plain {v : V} (h : isI v = false) : plainB v = false := by cases v <;> first | rfl | exact nomatch h
theorem not_code {v : V} (h : isI v = false) : codeB v = false := by cases v <;> first | rfl | exact nomatch h
theorem code_plain {v : V} (h : plainB v = true) : codeB v = true := by
  cases v with
  | int i => exact decide_eq_true (Or.inl (of_decide_eq_true h))
  | _ => exact nomatch h
theorem any_all (z s : Str) : (!((cs z).map fun c => decide (c ∈ cs s)).any id) = (cs z).all (fun c => decide (c ∉ cs s)) := by
  induction cs z with
  | nil => rfl
  | cons c r ih =>
    simp only [List.map_cons, List.any_cons, List.all_cons, Bool.not_or, ih, id]
    congr 1
    by_cases h : c ∈ cs s <;> simp [h]
def isB (v : V) (m : Str) : Bool := match v with | .str z => (cs z).all (fun c => decide (c ∈ cs m ∨ c ∈ cs MK)) | _ => false
theorem isB_false {z m : Str} {i c : Nat} (hc : (cs z)[i]? = some c) (h1 : c ∉ cs m) (h2 : c ∉ cs MK) : isB (.str z) m = false := by
  cases e : isB (.str z) m with
  | false => rfl
  | true =>
    have a := of_decide_eq_true (List.all_eq_true.mp e c (List.mem_of_getElem? hc))
    exact absurd a (by rintro (h | h); exact h1 h; exact h2 h)
theorem isB_true {z m : Str} (h : ∀ k, k < z.length → ∀ c, (cs z)[k]? = some c → c ∈ cs m ∨ c ∈ cs MK) : isB (.str z) m = true := by
  refine List.all_eq_true.mpr fun c hc => decide_eq_true ?_
  obtain ⟨k, hk, e⟩ := List.getElem_of_mem hc
  exact h k (by rw [← cs_len]; exact hk) c (by rw [List.getElem?_eq_getElem hk, e])
theorem all_step {xs : List Nat} {i c : Nat} {P : Nat → Prop} (h : ∀ k, k < i → ∀ c, xs[k]? = some c → P c) (hc : xs[i]? = some c) (p : P c) : ∀ k, k < i + 1 → ∀ c, xs[k]? = some c → P c := by
  intro k hk c' hc'
  by_cases e : k = i
  · subst e; rw [hc] at hc'; cases hc'; exact p
  · exact h k (by omega) c' hc'
theorem e_lt : (Str.ofString "abcdefghijklmnopqrstuvwxyz" ++ Str.ofString "ABCDEFGHIJKLMNOPQRSTUVWXYZ" : Str) = LT := by decide +kernel
theorem e_lb2 : (Str.ofString "abcdefghijklmnopqrstuvwxyz" ++ Str.ofString "ABCDEFGHIJKLMNOPQRSTUVWXYZ" ++ Str.ofString "0123456789" ++ Str.ofString "-" : Str) = LB := by decide +kernel
theorem emp_all (z s : Str) : ((cs z).filter fun c => !decide (c ∈ cs s)).isEmpty = (cs z).all (fun c => decide (c ∈ cs s)) := by
  induction cs z with
  | nil => rfl
  | cons c r ih =>
    by_cases h : c ∈ cs s
    · rw [List.filter_cons_of_neg (by rw [decide_eq_true h]; decide), ih, List.all_cons, decide_eq_true h, Bool.true_and]
    · rw [List.filter_cons_of_pos (by rw [decide_eq_false h]; rfl), List.all_cons, decide_eq_false h, Bool.false_and]
      rfl
inductive Kd (K : PySem.W.Frag) (H : Hp) : V → Prop where
  | str {z : Str} (h : As 60 z) : Kd K H (.str z)
  | int (i : Int) : Kd K H (.int i)
  | non : Kd K H .non
  | bl (b : Bool) : Kd K H (.bl b)
  | tup {a : Addr} (h : TyX K H (.ref a) (.type "tuple")) : Kd K H (.ref a)
  | lst {a : Addr} (h : TyX K H (.ref a) (.type "list")) : Kd K H (.ref a)
  | dct {a : Addr} (h : TyX K H (.ref a) (.type "dict")) : Kd K H (.ref a)
theorem Kd.same {K : PySem.W.Frag} {H H1 : Hp} {v : V} (e : Same H H1) (k : Kd K H v) : Kd K H1 v := by
  cases k with
  | str h => exact .str h
  | int i => exact .int i
  | non => exact .non
  | bl b => exact .bl b
  | tup h => exact .tup (tyx_same e h)
  | lst h => exact .lst (tyx_same e h)
  | dct h => exact .dct (tyx_same e h)
theorem Kd.keep {K : PySem.W.Frag} {H H1 : Hp} {d : Addr} {v : V} (e : Keep d H H1) (n : v ≠ .ref d) (k : Kd K H v) : Kd K H1 v := by
  cases k with
  | str h => exact .str h
  | int i => exact .int i
  | non => exact .non
  | bl b => exact .bl b
  | tup h => exact .tup (tyx_keep e n h)
  | lst h => exact .lst (tyx_keep e n h)
  | dct h => exact .dct (tyx_keep e n h)
def KdD (K : PySem.W.Frag) (H : Hp) (d : Addr) (v : V) : Prop := Kd K H v ∧ v ≠ .ref d
theorem KdD.keep {K : PySem.W.Frag} {H H1 : Hp} {d : Addr} {v : V} (e : Keep d H H1) (k : KdD K H d v) : KdD K H1 d v := ⟨k.1.keep e k.2, k.2⟩
theorem KdD.same {K : PySem.W.Frag} {H H1 : Hp} {d : Addr} {v : V} (e : Same H H1) (k : KdD K H d v) : KdD K H1 d v := ⟨k.1.same e, k.2⟩
theorem KdD.new {K : PySem.W.Frag} {H : Hp} {d p : Addr} {v : V} {o : HO} (e : H p = none) (k : KdD K H d v) : KdD K (upd H p o) d v := KdD.same (Same.upd e (Same.refl H)) k
theorem KdD.str {K : PySem.W.Frag} {H : Hp} {d : Addr} {z : Str} (h : As 60 z) : KdD K H d (.str z) := ⟨.str h, fun e => nomatch e⟩
theorem KdD.int {K : PySem.W.Frag} {H : Hp} {d : Addr} (i : Int) : KdD K H d (.int i) := ⟨.int i, fun e => nomatch e⟩
theorem KdD.non {K : PySem.W.Frag} {H : Hp} {d : Addr} : KdD K H d .non := ⟨.non, fun e => nomatch e⟩
theorem KdD.bl {K : PySem.W.Frag} {H : Hp} {d : Addr} (i : Bool) : KdD K H d (.bl i) := ⟨.bl i, fun e => nomatch e⟩
theorem KdD.ref {K : PySem.W.Frag} {H : Hp} {d a : Addr} (h : Kd K H (.ref a)) (n : a ≠ d) : KdD K H d (.ref a) := ⟨h, fun e => n (V.ref.inj e)⟩
theorem isB_emp (v : V) : isB v (Str.ofString "") = inB v MK := by
  have e : cs (Str.ofString "") = [] := by decide +kernel
  cases v <;> first | rfl | skip
  simp only [isB, inB, e, List.not_mem_nil, false_or]
theorem isB_nl (v : V) : isB v (Str.ofString "\n") = inB v MKN := by
  have e : cs (Str.ofString "\n") = [10] := by decide +kernel
  cases v <;> first | rfl | skip
  simp only [isB, inB, e, cs_mkn, List.mem_append, or_comm]
theorem mk_up : ∀ i, i < 93 → (cs MK).getD i 0 < (cs MK).getD (i + 1) 0 := by decide +kernel
theorem emp_all2 (z s : Str) : ((cs z).filter fun c => decide (c ∈ cs s)).isEmpty = (cs z).all (fun c => decide (c ∉ cs s)) := by
  induction cs z with
  | nil => rfl
  | cons c r ih =>
    by_cases h : c ∈ cs s
    · rw [List.filter_cons_of_pos (by rw [decide_eq_true h]), List.all_cons, decide_eq_false (not_not_intro h), Bool.false_and]
      rfl
    · rw [List.filter_cons_of_neg (by rw [decide_eq_false h]; decide), ih, List.all_cons, decide_eq_true h, Bool.true_and]
local macro_rules
  | `(tactic| fail "kdd") => `(tactic| with_reducible first | assumption | exact KdD.int _ | exact KdD.non | exact KdD.bl _ | (apply KdD.str; apply As.mono (by fail "as"); omega) | (apply KdD.same (by assumption); fail "kdd") | (apply KdD.keep (by assumption); fail "kdd") | (apply KdD.new (by assumption); fail "kdd"))
  | `(tactic| fail "kd") => `(tactic| with_reducible first | assumption | (apply Kd.same ?_ (by assumption); fail "same") | exact Kd.int _ | exact Kd.non | exact Kd.bl _ | exact And.left (by assumption))

def sp_is_integer (K : PySem.W.Frag) : Sp := fun vs H Q _ =>
  ∃ v : V, vs = [v] ∧ Kd K H v ∧ ∀ H', Same H H' → Q (.bl (isI v)) H'
theorem df_is_integer (T : Txt K mg) : Df P w K mg base 1 "is_integer" s_is_integer ["thing"] (sp_is_integer K) := by
  have sc := sc_is_integer
  obtain ⟨f, hm, fd, F⟩ := T.d_is_integer
  refine ⟨f, fd, hm, F, okG F sc (by fail "many") (fun cdv A outer s H vs Q E hr h => ?_)⟩
  · obtain ⟨v, rfl, kd, q⟩ := h
    refine ⟨_, (pss_one (ps_ret (pe_and (pe_callB call_isi (by rfl) T.b_isinstance (by decide +kernel) (pa_cons (pv 0) (pa_cons (pe_bltn (v := V.ty "int") (u := .type "int") (by rfl) T.b_int (by decide +kernel) rfl) pa_nil))) (pe_one (pe_not (pe_callB call_isi (by rfl) T.b_isinstance (by decide +kernel) (pa_cons (pv 0) (pa_cons (pe_bltn (v := V.ty "bool") (u := .type "bool") (by rfl) T.b_bool (by decide +kernel) rfl) pa_nil)))))))), ?_⟩
    dsimp only [cxOf, Cx.wish, L2.start, List.map, List.length, List.replicate, List.append, List.cons_append, List.nil_append, Nat.reduceAdd, Nat.reduceSub, Nat.zero_add]
    cases kd <;> fail "go" <;> exact q _ (Same.refl _)
local macro_rules | `(tactic| nofun) => `(tactic| ((with_reducible show sp_is_integer _ _ _ _ _); refine ⟨_, rfl, by fail "kd", fun H' s' => ?_⟩))

def sp_consists_of (K : PySem.W.Frag) : Sp := fun vs H Q _ =>
  ∃ (v : V) (s : Str), vs = [v, .str s] ∧ Kd K H v ∧ ∀ H', Same H H' → Q (.bl (inB v s)) H'
theorem df_consists_of (T : Txt K mg) : Df P w K mg base 1 "consists_of" s_consists_of ["thing", "signs"] (sp_consists_of K) := by
  have sc := sc_consists_of
  obtain ⟨f, hm, fd, F⟩ := T.d_consists_of
  refine ⟨f, fd, hm, F, okG F sc (by fail "many") (fun cdv A outer s H vs Q E hr h => ?_)⟩
  · obtain ⟨v, s, rfl, kd, q⟩ := h
    refine ⟨_, (pss_one (ps_ret (pe_and (pe_callB call_isi (by rfl) T.b_isinstance (by decide +kernel) (pa_cons (pv 0) (pa_cons (pe_bltn (v := V.ty "str") (u := .type "str") (by rfl) T.b_str (by decide +kernel) rfl) pa_nil))) (pe_one (pe_callB (cr_all rfl) (by rfl) T.b_all (by decide +kernel) (pa_cons (pe_lc (own := [("sign", 2)]) (g := gName 2) (tt := tYes) rfl sc.nd (pi_str (pv 0)) (blkOk_by (N := ["thing", "signs", "sign"]) (sc := defScope s_consists_of) (by decide +kernel)) (fun _ _ _ _ _ => (pg_name (i := 2) sc.nd rfl (Or.inl rfl))) (fun _ _ _ _ _ => pts_nil) (fun _ _ _ _ _ => (pe_cmpR (opK (r := rInA) (K := K) rfl op_inA) (pv 2) (pv 1) rfl))) pa_nil)))))), ?_⟩
    dsimp only [cxOf, Cx.wish, L2.start, List.map, List.length, List.replicate, List.append, List.cons_append, List.nil_append, Nat.reduceAdd, Nat.reduceSub, Nat.zero_add]
    cases kd with
    | @str z h =>
      fail "go"
      refine g_lcS1 rfl (fun c => .bl (decide (c ∈ cs s))) (Nat.le_trans h.1 (by decide)) (fun _ => rfl) ?_ ?_
      · intro c hc H' s' Q k
        fail "go"
        exact k _ (Same.refl _)
      intro D H' nD s' hD
      fail "go"
      refine g_all ((cs z).map fun c => decide (c ∈ cs s)) (by fail "sq") (by rw [List.map_map]; rfl) ?_
      refine finB q ?_ (by fail "same")
      simp [inB, List.all_map, Function.comp_def]
    | int i => (fail "go"); exact q _ (Same.refl _)
    | non => (fail "go"); exact q _ (Same.refl _)
    | bl b => (fail "go"); exact q _ (Same.refl _)
    | tup h => (fail "go"); exact q _ (Same.refl _)
    | lst h => (fail "go"); exact q _ (Same.refl _)
    | dct h => (fail "go"); exact q _ (Same.refl _)
local macro_rules | `(tactic| nofun) => `(tactic| ((with_reducible show sp_consists_of _ _ _ _ _); refine ⟨_, _, rfl, by fail "kd", fun H' s' => ?_⟩))

def sp_is_body (K : PySem.W.Frag) : Sp := fun vs H Q _ =>
  ∃ (v : V), vs = [v] ∧ Kd K H v ∧ ∀ H', Same H H' → Q (.bl (inB v MK)) H'
theorem df_is_body (T : Txt K mg) : Df P w K mg base 2 "is_body" s_is_body ["thing"] (sp_is_body K) := by
  have sc := sc_is_body
  obtain ⟨f, hm, fd, F⟩ := T.d_is_body
  refine ⟨f, fd, hm, F, okG F sc (by fail "many") (fun cdv A outer s H vs Q E hr h => ?_)⟩
  · obtain ⟨v, rfl, kd, q⟩ := h
    refine ⟨_, (pss_one (ps_ret (pe_callG (sp := sp_consists_of K) (df_consists_of T) hr (by decide) b_consists_of_2_ b_consists_of_2__s (pa_cons (pv 0) (pa_cons (pe_globE T.c_MARKS) pa_nil)) pk_nil))), ?_⟩
    dsimp only [cxOf, Cx.wish, L2.start, List.map, List.length, List.replicate, List.append, List.cons_append, List.nil_append, Nat.reduceAdd, Nat.reduceSub, Nat.zero_add]
    fail "go"
    exact q _ ‹_›
local macro_rules | `(tactic| nofun) => `(tactic| ((with_reducible show sp_is_body _ _ _ _ _); refine ⟨_, rfl, by fail "kd", fun H' s' => ?_⟩))

def sp_is_raw (K : PySem.W.Frag) : Sp := fun vs H Q _ =>
  ∃ (v : V), vs = [v] ∧ Kd K H v ∧ ∀ H', Same H H' → Q (.bl (inB v MKN)) H'
theorem df_is_raw (T : Txt K mg) : Df P w K mg base 2 "is_raw" s_is_raw ["thing"] (sp_is_raw K) := by
  have sc := sc_is_raw
  obtain ⟨f, hm, fd, F⟩ := T.d_is_raw
  refine ⟨f, fd, hm, F, okG F sc (by fail "many") (fun cdv A outer s H vs Q E hr h => ?_)⟩
  · obtain ⟨v, rfl, kd, q⟩ := h
    refine ⟨_, (pss_one (ps_ret (pe_callG (sp := sp_consists_of K) (df_consists_of T) hr (by decide) b_consists_of_2_ b_consists_of_2__s (pa_cons (pv 0) (pa_cons (pe_op op_addA (pe_globE T.c_MARKS) pe_str) pa_nil)) pk_nil))), ?_⟩
    dsimp only [cxOf, Cx.wish, L2.start, List.map, List.length, List.replicate, List.append, List.cons_append, List.nil_append, Nat.reduceAdd, Nat.reduceSub, Nat.zero_add]
    fail "go"
    exact finB q (by rw [e_mkn]) ‹_›
local macro_rules | `(tactic| nofun) => `(tactic| ((with_reducible show sp_is_raw _ _ _ _ _); refine ⟨_, rfl, by fail "kd", fun H' s' => ?_⟩))

def sp_is_plain_code (K : PySem.W.Frag) : Sp := fun vs H Q _ =>
  ∃ (v : V), vs = [v] ∧ Kd K H v ∧ ∀ H', Same H H' → Q (.bl (plainB v)) H'
theorem df_is_plain_code (T : Txt K mg) : Df P w K mg base 2 "is_plain_code" s_is_plain_code ["thing"] (sp_is_plain_code K) := by
  have sc := sc_is_plain_code
  obtain ⟨f, hm, fd, F⟩ := T.d_is_plain_code
  refine ⟨f, fd, hm, F, okG F sc (by fail "many") (fun cdv A outer s H vs Q E hr h => ?_)⟩
  · obtain ⟨v, rfl, kd, q⟩ := h
    refine ⟨_, (pss_one (ps_ret (pe_and (pe_callG (sp := sp_is_integer K) (df_is_integer T) hr (by decide) b_is_integer_1_ b_is_integer_1__s (pa_cons (pv 0) pa_nil) pk_nil) (pe_and (pe_chain op_leA op_leA pe_int (pv 0) pe_int) (pe_one (pe_cmpR (op_neA hr) (pv 0) (pe_globE T.c_PERCENT) (nomark _))))))), ?_⟩
    dsimp only [cxOf, Cx.wish, L2.start, List.map, List.length, List.replicate, List.append, List.cons_append, List.nil_append, Nat.reduceAdd, Nat.reduceSub, Nat.zero_add]
    fail "go"
    · rename_i hI
      obtain ⟨i, rfl⟩ := isI_int hI
      fail "go"
      all_goals refine finB q ?_ ‹_›
      all_goals (simp only [plainB]; fail "bd")
    · rename_i hI
      exact finB q (not_plain hI).symm ‹_›
local macro_rules | `(tactic| nofun) => `(tactic| ((with_reducible show sp_is_plain_code _ _ _ _ _); refine ⟨_, rfl, by fail "kd", fun H' s' => ?_⟩))

def sp_is_code (K : PySem.W.Frag) : Sp := fun vs H Q _ =>
  ∃ (v : V), vs = [v] ∧ Kd K H v ∧ ∀ H', Same H H' → Q (.bl (codeB v)) H'
theorem df_is_code (T : Txt K mg) : Df P w K mg base 3 "is_code" s_is_code ["thing"] (sp_is_code K) := by
  have sc := sc_is_code
  obtain ⟨f, hm, fd, F⟩ := T.d_is_code
  refine ⟨f, fd, hm, F, okG F sc (by fail "many") (fun cdv A outer s H vs Q E hr h => ?_)⟩
  · obtain ⟨v, rfl, kd, q⟩ := h
    refine ⟨_, (pss_one (ps_ret (pe_or (pe_callG (sp := sp_is_plain_code K) (df_is_plain_code T) hr (by decide) b_is_plain_code_1_ b_is_plain_code_1__s (pa_cons (pv 0) pa_nil) pk_nil) (pe_one (pe_and (pe_callG (sp := sp_is_integer K) (df_is_integer T) hr (by decide) b_is_integer_1_ b_is_integer_1__s (pa_cons (pv 0) pa_nil) pk_nil) (pe_one (pe_chain op_leA op_leA pe_int (pv 0) pe_int))))))), ?_⟩
    dsimp only [cxOf, Cx.wish, L2.start, List.map, List.length, List.replicate, List.append, List.cons_append, List.nil_append, Nat.reduceAdd, Nat.reduceSub, Nat.zero_add]
    fail "go"
    · rename_i hI
      exact finB q (code_plain hI).symm ‹_›
    · rename_i hI
      obtain ⟨i, rfl⟩ := isI_int hI
      have hp := ‹plainB _ = false›
      simp only [plainB, decide_eq_false_iff_not] at hp
      fail "go"
      all_goals refine finB q ?_ (by fail "same")
      all_goals (simp only [codeB]; fail "bd")
    · rename_i hI
      exact finB q (not_code hI).symm (by fail "same")
local macro_rules | `(tactic| nofun) => `(tactic| ((with_reducible show sp_is_code _ _ _ _ _); refine ⟨_, rfl, by fail "kd", fun H' s' => ?_⟩))

def sp_is_label (K : PySem.W.Frag) : Sp := fun vs H Q _ =>
  ∃ (v : V), vs = [v] ∧ Kd K H v ∧ ∀ H', Same H H' → Q (.bl (labB v)) H'
theorem df_is_label (T : Txt K mg) : Df P w K mg base 2 "is_label" s_is_label ["thing"] (sp_is_label K) := by
  have sc := sc_is_label
  obtain ⟨f, hm, fd, F⟩ := T.d_is_label
  refine ⟨f, fd, hm, F, okG F sc (by fail "many") (fun cdv A outer s H vs Q E hr h => ?_)⟩
  · obtain ⟨v, rfl, kd, q⟩ := h
    refine ⟨_, (pss_cons (ps_if (PW.pt (pw_or (pt_not (pt_val (pe_callG (sp := sp_consists_of K) (df_consists_of T) hr (by decide) b_consists_of_2_ b_consists_of_2__s (pa_cons (pv 0) (pa_cons (pe_op op_addA (pe_op op_addA (pe_globE T.c_LETTERS) (pe_globE T.c_DIGITS)) pe_str) pa_nil)) pk_nil))) (pw_or1 (pt_not (pt_chain op_leA op_leA pe_int (pe_callB call_lenA (by rfl) T.b_len (by decide +kernel) (pa_cons (pv 0) pa_nil)) (pe_globE T.c_MOST_LABEL)))))) (pss_one (ps_ret pe_bl)) pss_nil)
 (pss_one (ps_ret (pe_cmpR op_inA (pe_ix ix_seq (pv 0) pe_int (fun _ _ => rfl)) (pe_globE T.c_LETTERS) rfl)))), ?_⟩
    dsimp only [cxOf, Cx.wish, L2.start, List.map, List.length, List.replicate, List.append, List.cons_append, List.nil_append, Nat.reduceAdd, Nat.reduceSub, Nat.zero_add]
    fail "go"
    · rename_i hb
      rw [e_lb] at hb
      refine finB q ?_ ‹_›
      have hb' : inB v LB = false := by simpa using hb
      simp only [labB, hb', Bool.false_and]
    · rename_i hb
      rw [e_lb] at hb
      have hb' : inB v LB = true := by simpa using hb
      obtain ⟨z, rfl, hz⟩ := inB_str hb'
      cases kd with | str hA => ?_
      fail "go"
      all_goals try (refine finB q ?_ ‹_›; simp only [labB, hb', Bool.true_and]; have hn : ¬ (1 ≤ z.length ∧ z.length ≤ 20) := (by omega); rw [decide_eq_false hn]; rfl)
      have hl : (cs z).length = z.length := cs_len z
      obtain ⟨c, r, hc⟩ : ∃ c r, cs z = c :: r := by
        cases e : cs z with
        | nil => rw [e] at hl; simp at hl; omega
        | cons c r => exact ⟨c, r, rfl⟩
      refine g_ixS (c := c) (by fail "line") (by show atI (cs z) 0 = _; rw [hc]; exact atI_nat (j := 0) rfl) ?_
      fail "go"
      refine finB q ?_ ‹_›
      simp only [labB, hb', Bool.true_and]
      have hn : (1 ≤ z.length ∧ z.length ≤ 20) := (by omega)
      rw [decide_eq_true hn, Bool.true_and, hc]
      rfl
local macro_rules | `(tactic| nofun) => `(tactic| ((with_reducible show sp_is_label _ _ _ _ _); refine ⟨_, rfl, by fail "kd", fun H' s' => ?_⟩))

def sp_is_atom (K : PySem.W.Frag) : Sp := fun vs H Q _ =>
  ∃ (v : V), vs = [v] ∧ Kd K H v ∧ ∀ H', Same H H' → Q (.bl (atomB v)) H'
theorem df_is_atom (T : Txt K mg) : Df P w K mg base 3 "is_atom" s_is_atom ["thing"] (sp_is_atom K) := by
  have sc := sc_is_atom
  obtain ⟨f, hm, fd, F⟩ := T.d_is_atom
  refine ⟨f, fd, hm, F, okG F sc (by fail "many") (fun cdv A outer s H vs Q E hr h => ?_)⟩
  · obtain ⟨v, rfl, kd, q⟩ := h
    refine ⟨_, (pss_one (ps_ret (pe_and (pe_callG (sp := sp_is_body K) (df_is_body T) hr (by decide) b_is_body_1_ b_is_body_1__s (pa_cons (pv 0) pa_nil) pk_nil) (pe_and (pe_cmpR (op_neA hr) (pv 0) pe_str (nomark _)) (pe_one (pe_not (pe_callB (cr_any rfl) (by rfl) T.b_any (by decide +kernel) (pa_cons (pe_lc (own := [("sign", 1)]) (g := gName 1) (tt := tYes) rfl sc.nd (pi_str (pv 0)) (blkOk_by (N := ["thing", "sign"]) (sc := defScope s_is_atom) (by decide +kernel)) (fun _ _ _ _ _ => (pg_name (i := 1) sc.nd rfl (Or.inl rfl))) (fun _ _ _ _ _ => pts_nil) (fun _ _ _ _ _ => (pe_cmpR (opK (r := rInA) (K := K) rfl op_inA) (pv 1) (pe_globE T.c_SPECIALS) rfl))) pa_nil)))))))), ?_⟩
    dsimp only [cxOf, Cx.wish, L2.start, List.map, List.length, List.replicate, List.append, List.cons_append, List.nil_append, Nat.reduceAdd, Nat.reduceSub, Nat.zero_add]
    fail "go"
    · rename_i hb
      obtain ⟨z, rfl, hz⟩ := inB_str hb
      cases kd with | str hA => ?_
      fail "go"
      · refine finB q ?_ (by fail "same")
        have e := ‹z = _›
        simp only [atomB, hb, Bool.true_and, decide_eq_false (not_not_intro (show z = Str.empty from e)), Bool.false_and]
      refine g_lcS1 rfl (fun c => .bl (decide (c ∈ cs SP))) (Nat.le_trans hA.1 (by decide)) (fun _ => rfl) ?_ ?_
      · intro c hc H' s' Q k
        fail "go"
        exact k _ (Same.refl _)
      intro D H' nD s' hD
      fail "go"
      refine g_any ((cs z).map fun c => decide (c ∈ cs SP)) (by fail "sq") (by rw [List.map_map]; rfl) ?_
      fail "go"
      refine finB q ?_ (by fail "same")
      have hne : z ≠ Str.empty := ‹¬ z = _›
      simp only [atomB, hb, Bool.true_and, decide_eq_true hne]
      exact any_all z SP
    · refine finB q ?_ (by fail "same")
      simp only [atomB, ‹inB v MK = false›, Bool.false_and]
local macro_rules | `(tactic| nofun) => `(tactic| ((with_reducible show sp_is_atom _ _ _ _ _); refine ⟨_, rfl, by fail "kd", fun H' s' => ?_⟩))

def sp_law_alphabet (K : PySem.W.Frag) : Sp := fun vs H Q _ =>
  vs = [] ∧ ∀ H' t, Same H H' → SqT K H' t [.str "abcdefghijklmnopqrstuvwxyz", .str "ABCDEFGHIJKLMNOPQRSTUVWXYZ", .str "0123456789"] → Q (.ref t) H'
theorem df_law_alphabet (T : Txt K mg) : Df P w K mg base 1 "_law_alphabet" s_law_alphabet [] (sp_law_alphabet K) := by
  have sc := sc_law_alphabet
  obtain ⟨f, hm, fd, F⟩ := T.d_law_alphabet
  refine ⟨f, fd, hm, F, okG F sc (by fail "many") (fun cdv A outer s H vs Q E hr h => ?_)⟩
  · obtain ⟨rfl, q⟩ := h
    refine ⟨_, (pss_cons (ps_set (i := 0) sc.nd rfl (Or.inl rfl) pe_str)
 (pss_one (ps_ret (pe_tup (pa_cons (pv 0) (pa_cons (pe_upper (pv 0)) (pa_cons pe_str pa_nil))))))), ?_⟩
    dsimp only [cxOf, Cx.wish, L2.start, List.map, List.length, List.replicate, List.append, List.cons_append, List.nil_append, Nat.reduceAdd, Nat.reduceSub, Nat.zero_add]
    fail "go"
    refine ⟨_, rfl, rfl, by decide, ?_⟩
    rw [show Txt.upper (Str.ofString "abcdefghijklmnopqrstuvwxyz") = Str.ofString "ABCDEFGHIJKLMNOPQRSTUVWXYZ" from by decide +kernel]
    fail "go"
    exact q _ _ (by fail "same") (by fail "sq")
local macro_rules | `(tactic| nofun) => `(tactic| ((with_reducible show sp_law_alphabet _ _ _ _ _); refine ⟨rfl, fun H' t s' hT => ?_⟩))

def sp_law_string (K : PySem.W.Frag) : Sp := fun vs H Q _ =>
  ∃ (d : Addr) (n : Nat) (c : Addr), vs = [.ref d] ∧ DrawAt K n H d c ∧ n < 999000000 ∧ ∀ H' z, Keep d H H' → DrawAt K (n + 30) H' d c → As 25 z → Q (.str z) H'
theorem df_law_string (T : Txt K mg) : Df P w K mg base 3 "_law_string" s_law_string ["draw"] (sp_law_string K) := by
  have sc := sc_law_string
  obtain ⟨f, hm, fd, F⟩ := T.d_law_string
  refine ⟨f, fd, hm, F, okG F sc (by fail "many") (fun cdv A outer s H vs Q E hr h => ?_)⟩
  · obtain ⟨d, n, c, rfl, D, hn, q⟩ := h
    refine ⟨_, (pss_cons (ps_set (i := 1) sc.nd rfl (Or.inl rfl) pe_str)
 (pss_cons (ps_for PassesOwn.never rfl (pi_range1 rfl T.b_range (pa_cons (pe_callG (sp := sp_law_next K) (df_law_next T) hr (by decide) b_law_next_2_ b_law_next_2__s (pa_cons (pv 0) (pa_cons pe_int pa_nil)) pk_nil) pa_nil)) (pg_name (i := 2) sc.nd rfl (Or.inl rfl)) (pss_cons (ps_set (i := 3) sc.nd rfl (Or.inl rfl) (pe_lst (pa_cons pe_str (pa_cons pe_str (pa_cons pe_str (pa_cons pe_str (pa_cons pe_str (pa_cons pe_str (pa_cons pe_str (pa_cons pe_str (pa_cons pe_str (pa_cons pe_str (pa_cons pe_str (pa_cons pe_str (pa_cons pe_str (pa_cons pe_str (pa_cons pe_str (pa_cons pe_str (pa_cons pe_str (pa_cons pe_str pa_nil))))))))))))))))))))
 (pss_one (ps_set (i := 1) sc.nd rfl (Or.inl rfl) (pe_op op_addA (pv 1) (pe_ix ix_seq (pv 3) (pe_callG (sp := sp_law_next K) (df_law_next T) hr (by decide) b_law_next_2_ b_law_next_2__s (pa_cons (pv 0) (pa_cons pe_int pa_nil)) pk_nil) (fun _ _ => rfl)))))))
 (pss_one (ps_ret (pv 1))))), ?_⟩
    dsimp only [cxOf, Cx.wish, L2.start, List.map, List.length, List.replicate, List.append, List.cons_append, List.nil_append, Nat.reduceAdd, Nat.reduceSub, Nat.zero_add]
    fail "go"
    rename_i H1 r k1 D1 r0 r1
    refine ⟨by omega, by omega, for_range (fun i σ H' => (∃ z u v, σ = [some (.ref d), some (.str z), u, v] ∧ As i z) ∧ Keep d H H' ∧ DrawAt K (n + 1 + i) H' d c) ⟨⟨_, none, none, rfl, by decide, by decide⟩, by fail "keep", by fail "dru"⟩ ?_ ?_⟩
    · rintro i σ H1 hi ⟨⟨z, u, v, rfl, hz⟩, k1, D1⟩
      fail "go"
      refine g_ixA (fun v => ∃ s, v = V.str s ∧ As 1 s) (by fail "sq") ?_ ‹_› ‹_› ?_
      · fail "allS"
      rintro v ⟨s, rfl, hs⟩
      fail "go"
      exact ⟨⟨_, _, _, rfl, hz.app hs⟩, by fail "keep", by fail "dru"⟩
    · rintro σ H1 ⟨⟨z, u, v, rfl, hz⟩, k1, D1⟩
      fail "go"
      exact q _ _ k1 (by fail "dru") (hz.mono (by omega))
local macro_rules | `(tactic| nofun) => `(tactic| ((with_reducible show sp_law_string _ _ _ _ _); refine ⟨_, _, _, rfl, by with_reducible (fail "dr"), by omega, fun H' z k' D' hz => ?_⟩))

def sp_law_thing (K : PySem.W.Frag) : Sp := fun vs H Q _ =>
  ∃ (d : Addr) (n : Nat) (c : Addr), vs = [.ref d] ∧ DrawAt K n H d c ∧ n < 998000000 ∧ ∀ H' v, Keep d H H' → DrawAt K (n + 100) H' d c → KdD K H' d v → Q v H'
theorem df_law_thing (T : Txt K mg) : Df P w K mg base 4 "_law_thing" s_law_thing ["draw"] (sp_law_thing K) := by
  have sc := sc_law_thing
  obtain ⟨f, hm, fd, F⟩ := T.d_law_thing
  refine ⟨f, fd, hm, F, okG F sc (by fail "many") (fun cdv A outer s H vs Q E hr h => ?_)⟩
  · obtain ⟨d, n, c, rfl, D, hn, q⟩ := h
    refine ⟨_, (pss_cons (ps_asg (pe_callG0 (sp := sp_law_alphabet K) (df_law_alphabet T) hr (by decide) b_law_alphabet_0_ b_law_alphabet_0__s pk_nil) (pg_tup (by rfl) (pgs_cons (pg_name (i := 1) sc.nd rfl (Or.inr rfl)) (pgs_cons (pg_name (i := 2) sc.nd rfl (Or.inr rfl)) (pgs_cons (pg_name (i := 3) sc.nd rfl (Or.inr rfl)) pgs_nil)))))
 (pss_cons (ps_set (i := 4) sc.nd rfl (Or.inl rfl) (pe_joinA pe_str (pe_lc (own := [("k", 7)]) (g := gName 7) (tt := tYes) rfl sc.nd (pi_range1 rfl T.b_range (pa_cons (pe_callG (sp := sp_law_next K) (df_law_next T) hr (by decide) b_law_next_2_ b_law_next_2__s (pa_cons (pv 0) (pa_cons pe_int pa_nil)) pk_nil) pa_nil)) (blkOk_by (N := ["draw", "small", "great", "digits", "word", "odd", "some", "k"]) (sc := defScope s_law_thing) (by decide +kernel)) (fun _ _ _ _ _ => (pg_name (i := 7) sc.nd rfl (Or.inl rfl))) (fun _ _ _ _ _ => pts_nil) (fun _ _ _ _ _ => (pe_ix (ixK (r := rIx) (K := K) rfl ix_seq) (pe_op (opK (r := rAddA) (K := K) rfl op_addA) (pe_op (opK (r := rAddA) (K := K) rfl op_addA) (pe_op (opK (r := rAddA) (K := K) rfl op_addA) (pv 1) (pv 2)) (pv 3)) pe_str) (pe_callG (sp := sp_law_next K) (df_law_next T) hr (by decide) b_law_next_2_ b_law_next_2__s (pa_cons (pv 0) (pa_cons pe_int pa_nil)) pk_nil) (fun _ _ => rfl))))))
 (pss_cons (ps_set (i := 5) sc.nd rfl (Or.inl rfl) (pe_ix ix_seq (pe_lst (pa_cons pe_non (pa_cons pe_bl (pa_cons pe_int (pa_cons (pe_tup pa_nil) (pa_cons (pe_lst (pa_cons pe_str pa_nil)) (pa_cons (pe_tup (pa_cons pe_str pa_nil)) (pa_cons pe_dnewK (pa_cons (pe_op op_powA pe_int pe_int) pa_nil))))))))) (pe_callG (sp := sp_law_next K) (df_law_next T) hr (by decide) b_law_next_2_ b_law_next_2__s (pa_cons (pv 0) (pa_cons pe_int pa_nil)) pk_nil) (fun _ _ => rfl)))
 (pss_cons (ps_set (i := 6) sc.nd rfl (Or.inl rfl) (pe_lst (pa_cons (pv 4) (pa_cons (pe_callG (sp := sp_law_string K) (df_law_string T) hr (by decide) b_law_string_1_ b_law_string_1__s (pa_cons (pv 0) pa_nil) pk_nil) (pa_cons (pe_op op_addA (pv 4) (pe_callG (sp := sp_law_string K) (df_law_string T) hr (by decide) b_law_string_1_ b_law_string_1__s (pa_cons (pv 0) pa_nil) pk_nil)) (pa_cons (pv 5) (pa_cons (pe_op op_addA (pe_slice sl_str (pv 4) po_none (po_some pe_int)) (pv 4)) (pa_cons (pe_op op_addA pe_str (pv 4)) (pa_cons pe_str pa_nil)))))))))
 (pss_one (ps_ret (pe_ix ix_seq (pv 6) (pe_callG (sp := sp_law_next K) (df_law_next T) hr (by decide) b_law_next_2_ b_law_next_2__s (pa_cons (pv 0) (pa_cons pe_int pa_nil)) pk_nil) (fun _ _ => rfl)))))))), ?_⟩
    dsimp only [cxOf, Cx.wish, L2.start, List.map, List.length, List.replicate, List.append, List.cons_append, List.nil_append, Nat.reduceAdd, Nat.reduceSub, Nat.zero_add]
    fail "go"
    rename_i r kr Dr r0 r1
    refine ⟨by omega, by omega, lc_draw (fun v => ∃ s, v = V.str s ∧ As 1 s) (fun i => n + 1 + i) (by omega) (fun _ => rfl) (by fail "dr") ?_ ?_⟩
    · intro i hi H' k1 D1 Q1 q1
      fail "go"
      have e63 : (Str.ofString "abcdefghijklmnopqrstuvwxyz" ++ Str.ofString "ABCDEFGHIJKLMNOPQRSTUVWXYZ" ++ Str.ofString "0123456789" ++ Str.ofString "-" : Str).length = 63 := by decide +kernel
      have a63 : As 63 (Str.ofString "abcdefghijklmnopqrstuvwxyz" ++ Str.ofString "ABCDEFGHIJKLMNOPQRSTUVWXYZ" ++ Str.ofString "0123456789" ++ Str.ofString "-" : Str) := ⟨by decide +kernel, by decide +kernel⟩
      refine g_ixSA a63 (by decide) ‹_› (by rw [e63]; assumption) ?_
      intro c hc
      exact q1 _ _ (by fail "keep") (by fail "dru") ⟨_, rfl, Nat.le_refl 1, fun x hx => by rw [List.mem_singleton.mp hx]; exact a63.2 c hc⟩
    intro Dd H' ys nD k1 D1 hD hl hy
    fail "go"
    refine g_join0 (by fail "sq") hy (by omega) ?_
    intro word hw
    have hw' : As 22 word := hw.mono (by omega)
    fail "go"
    rename_i p1 n1 p2 n2 p3 n3 p4 n4 p5 n5 H5 r5 k5 D5 r50 r51
    have o1 : p1 ≠ d := (DrawAt.off (K := K) (n := n + 1 + r.toNat) (d := d) (c := c) (by fail "dr") n1).1
    have o2 : p2 ≠ d := (DrawAt.off (K := K) (n := n + 1 + r.toNat) (d := d) (c := c) (by fail "dr") n2).1
    have o3 : p3 ≠ d := (DrawAt.off (K := K) (n := n + 1 + r.toNat) (d := d) (c := c) (by fail "dr") n3).1
    have o4 : p4 ≠ d := (DrawAt.off (K := K) (n := n + 1 + r.toNat) (d := d) (c := c) (by fail "dr") n4).1
    have h4 : H5 p4 = some (.dK []) := k5 p4 _ o4 (by fail "h")
    have h1 : H5 p1 = some (.tup []) := k5 p1 _ o1 (by fail "h")
    have h2 : H5 p2 = some (.lst [.str "a"]) := k5 p2 _ o2 (by fail "h")
    have h3 : H5 p3 = some (.tup [.str "a"]) := k5 p3 _ o3 (by fail "h")
    refine g_ixA (KdD K H5 d) (by fail "sq") ?_ ‹_› ‹_› ?_
    · refine List.forall_mem_cons.mpr ⟨KdD.non, List.forall_mem_cons.mpr ⟨KdD.bl _, List.forall_mem_cons.mpr ⟨KdD.int _, List.forall_mem_cons.mpr ⟨KdD.ref (.tup (.base (.tup h1))) o1,
        List.forall_mem_cons.mpr ⟨KdD.ref (.lst (.base (.lst h2))) o2, List.forall_mem_cons.mpr ⟨KdD.ref (.tup (.base (.tup h3))) o3, List.forall_mem_cons.mpr ⟨KdD.ref (.dct (.base (.dK h4))) o4, List.forall_mem_cons.mpr ⟨KdD.int _, List.forall_mem_nil _⟩⟩⟩⟩⟩⟩⟩⟩
    intro odd hodd
    fail "go"
    refine g_addT (Nat.le_trans (Nat.add_le_add (show (Str.ofString "-").length ≤ 1 by decide) hw'.1) (by decide)) ?_
    fail "go"
    rename_i z1 k21 D21 hz1 H22 z2 k22 D22 hz2 p6 n6 H23 r6 k23 D23 r60 r61
    refine g_ixA (KdD K H23 d) (by fail "sq") ?_ ‹_› ‹_› ?_
    rotate_left
    · intro v hv
      exact q _ _ (by fail "keep") (by fail "dru") hv
    refine List.forall_mem_cons.mpr ⟨by fail "kdd", List.forall_mem_cons.mpr ⟨by fail "kdd", List.forall_mem_cons.mpr ⟨by fail "kdd", List.forall_mem_cons.mpr ⟨by fail "kdd", List.forall_mem_cons.mpr ⟨by fail "kdd", List.forall_mem_cons.mpr ⟨KdD.str (As.mono (As.app (As.of (n := 1) (z := Str.ofString "-") (by decide) (by decide)) hw') (by decide)), List.forall_mem_cons.mpr ⟨KdD.str (As.of (by decide) (by decide)), List.forall_mem_nil _⟩⟩⟩⟩⟩⟩⟩
local macro_rules | `(tactic| nofun) => `(tactic| ((with_reducible show sp_law_thing _ _ _ _ _); refine ⟨_, _, _, rfl, by with_reducible (fail "dr"), by omega, fun H' v k' D' hv => ?_⟩))

def sp_law_number (K : PySem.W.Frag) : Sp := fun vs H Q _ =>
  ∃ (d : Addr) (n : Nat) (c : Addr), vs = [.ref d] ∧ DrawAt K n H d c ∧ n < 999000000 ∧ ∀ H' i, Keep d H H' → DrawAt K (n + 4) H' d c → Q (.int i) H'
theorem df_law_number (T : Txt K mg) : Df P w K mg base 3 "_law_number" s_law_number ["draw"] (sp_law_number K) := by
  have sc := sc_law_number
  obtain ⟨f, hm, fd, F⟩ := T.d_law_number
  refine ⟨f, fd, hm, F, okG F sc (by fail "many") (fun cdv A outer s H vs Q E hr h => ?_)⟩
  · obtain ⟨d, n, c, rfl, D, hn, q⟩ := h
    refine ⟨_, (pss_cons (ps_set (i := 1) sc.nd rfl (Or.inl rfl) (pe_lst (pa_cons pe_int (pa_cons pe_int (pa_cons pe_int (pa_cons pe_int (pa_cons pe_int (pa_cons pe_int (pa_cons pe_int (pa_cons pe_int (pa_cons pe_int (pa_cons pe_int (pa_cons pe_int (pa_cons pe_int (pa_cons pe_int (pa_cons pe_int (pa_cons (pe_op op_subA pe_int pe_int) (pa_cons (pe_op op_powA pe_int pe_int) pa_nil))))))))))))))))))
 (pss_one (ps_ret (pe_ix ix_seq (pe_lst (pa_cons (pe_ix ix_seq (pv 1) (pe_callG (sp := sp_law_next K) (df_law_next T) hr (by decide) b_law_next_2_ b_law_next_2__s (pa_cons (pv 0) (pa_cons pe_int pa_nil)) pk_nil) (fun _ _ => rfl)) (pa_cons (pe_callG (sp := sp_law_next K) (df_law_next T) hr (by decide) b_law_next_2_ b_law_next_2__s (pa_cons (pv 0) (pa_cons pe_int pa_nil)) pk_nil) (pa_cons (pe_op op_addA pe_int (pe_callG (sp := sp_law_next K) (df_law_next T) hr (by decide) b_law_next_2_ b_law_next_2__s (pa_cons (pv 0) (pa_cons pe_int pa_nil)) pk_nil)) pa_nil)))) (pe_callG (sp := sp_law_next K) (df_law_next T) hr (by decide) b_law_next_2_ b_law_next_2__s (pa_cons (pv 0) (pa_cons pe_int pa_nil)) pk_nil) (fun _ _ => rfl))))), ?_⟩
    dsimp only [cxOf, Cx.wish, L2.start, List.map, List.length, List.replicate, List.append, List.cons_append, List.nil_append, Nat.reduceAdd, Nat.reduceSub, Nat.zero_add]
    fail "go"
    refine g_ixA (fun v => ∃ i, v = V.int i) (by fail "sq") (by fail "allI") ‹_› ‹_› ?_
    rintro v ⟨i, rfl⟩
    fail "go"
    refine g_ixA (fun v => ∃ i, v = V.int i) (by fail "sq") (by fail "allI") ‹_› ‹_› ?_
    rintro v ⟨i, rfl⟩
    exact q _ _ (by fail "keep") (by fail "dru")
local macro_rules | `(tactic| nofun) => `(tactic| ((with_reducible show sp_law_number _ _ _ _ _); refine ⟨_, _, _, rfl, by with_reducible (fail "dr"), by omega, fun H' v k' D' => ?_⟩))

def sp_law_is_string (K : PySem.W.Frag) : Sp := fun vs H Q _ =>
  ∃ (v : V) (m : Str), vs = [v, .str m] ∧ Kd K H v ∧ ∀ H', Same H H' → Q (.bl (isB v m)) H'
theorem df_law_is_string (T : Txt K mg) : Df P w K mg base 1 "_law_is_string" s_law_is_string ["what", "more"] (sp_law_is_string K) := by
  have sc := sc_law_is_string
  obtain ⟨f, hm, fd, F⟩ := T.d_law_is_string
  refine ⟨f, fd, hm, F, okG F sc (by fail "many") (fun cdv A outer s H vs Q E hr h => ?_)⟩
  · obtain ⟨v, m, rfl, kd, q⟩ := h
    refine ⟨_, (pss_cons (ps_if (pt_not (pt_val (pe_callB call_isi (by rfl) T.b_isinstance (by decide +kernel) (pa_cons (pv 0) (pa_cons (pe_bltn (v := V.ty "str") (u := .type "str") (by rfl) T.b_str (by decide +kernel) rfl) pa_nil))))) (pss_one (ps_ret pe_bl)) pss_nil)
 (pss_cons (ps_for PassesOwn.never rfl (pi_str (pv 0)) (pg_name (i := 2) sc.nd rfl (Or.inl rfl)) (pss_one (ps_if (PW.pt (pw_and (pt_cmpR op_notInA (pv 2) (pv 1) rfl) (pw_and1 (PW.pt (pw_or (pt_not (pt_chain op_leA op_leA pe_str (pv 2) pe_str)) (pw_or1 (pt_cmpR op_notInA (pv 2) (pe_globE T.c_MARKS) rfl))))))) (pss_one (ps_ret pe_bl)) pss_nil)))
 (pss_one (ps_ret pe_bl)))), ?_⟩
    dsimp only [cxOf, Cx.wish, L2.start, List.map, List.length, List.replicate, List.append, List.cons_append, List.nil_append, Nat.reduceAdd, Nat.reduceSub, Nat.zero_add]
    cases kd with
    | @str z h =>
      fail "go"
      refine g_forS rfl (fun i σ H' => (∃ u, σ = [some (V.str z), some (V.str m), u]) ∧ Same H H' ∧ ∀ k, k < i → ∀ c, (cs z)[k]? = some c → c ∈ cs m ∨ c ∈ cs MK) ⟨⟨_, rfl⟩, Same.refl _, fun k hk => absurd hk (Nat.not_lt_zero k)⟩ ?_ ?_
      · rintro i c σ' H1 hi hc ⟨⟨u, rfl⟩, s1, hk⟩
        fail "go"
        all_goals first
          | exact ⟨⟨_, rfl⟩, by fail "same", all_step hk hc (Or.inl (by assumption))⟩
          | exact ⟨⟨_, rfl⟩, by fail "same", all_step hk hc (Or.inr (by assumption))⟩
          | (refine finB q (isB_false hc (by assumption) ?_).symm (by fail "same"); first | assumption | exact fun h => absurd (mk_range c h) (by omega))
      · rintro σ' H1 ⟨⟨u, rfl⟩, s1, hk⟩
        fail "go"
        exact finB q (isB_true hk).symm (by fail "same")
    | int i => (fail "go"); exact q _ (Same.refl _)
    | non => (fail "go"); exact q _ (Same.refl _)
    | bl b => (fail "go"); exact q _ (Same.refl _)
    | tup h => (fail "go"); exact q _ (Same.refl _)
    | lst h => (fail "go"); exact q _ (Same.refl _)
    | dct h => (fail "go"); exact q _ (Same.refl _)
local macro_rules | `(tactic| nofun) => `(tactic| ((with_reducible show sp_law_is_string _ _ _ _ _); refine ⟨_, _, rfl, by fail "kd", fun H' s' => ?_⟩; first | rw [isB_emp] | rw [isB_nl] | skip))

def sp_law_is_label (K : PySem.W.Frag) : Sp := fun vs H Q _ =>
  ∃ (v : V), vs = [v] ∧ Kd K H v ∧ ∀ H', Same H H' → Q (.bl (labB v)) H'
theorem df_law_is_label (T : Txt K mg) : Df P w K mg base 2 "_law_is_label" s_law_is_label ["what"] (sp_law_is_label K) := by
  have sc := sc_law_is_label
  obtain ⟨f, hm, fd, F⟩ := T.d_law_is_label
  refine ⟨f, fd, hm, F, okG F sc (by fail "many") (fun cdv A outer s H vs Q E hr h => ?_)⟩
  · obtain ⟨v, rfl, kd, q⟩ := h
    refine ⟨_, (pss_cons (ps_asg (pe_callG0 (sp := sp_law_alphabet K) (df_law_alphabet T) hr (by decide) b_law_alphabet_0_ b_law_alphabet_0__s pk_nil) (pg_tup (by rfl) (pgs_cons (pg_name (i := 1) sc.nd rfl (Or.inr rfl)) (pgs_cons (pg_name (i := 2) sc.nd rfl (Or.inr rfl)) (pgs_cons (pg_name (i := 3) sc.nd rfl (Or.inr rfl)) pgs_nil)))))
 (pss_cons (ps_if (PW.pt (pw_or (pt_not (pt_val (pe_callB call_isi (by rfl) T.b_isinstance (by decide +kernel) (pa_cons (pv 0) (pa_cons (pe_bltn (v := V.ty "str") (u := .type "str") (by rfl) T.b_str (by decide +kernel) rfl) pa_nil))))) (pw_or (pt_not (pt_chain op_leA op_leA pe_int (pe_callB call_lenA (by rfl) T.b_len (by decide +kernel) (pa_cons (pv 0) pa_nil)) pe_int)) (pw_or1 (pt_cmpR op_notInA (pe_ix ix_seq (pv 0) pe_int (fun _ _ => rfl)) (pe_op op_addA (pv 1) (pv 2)) rfl))))) (pss_one (ps_ret pe_bl)) pss_nil)
 (pss_one (ps_ret (pe_cmpR (op_eqA hr) (pe_lc (own := [("sign", 4)]) (g := gName 4) rfl sc.nd (pi_str (pv 0)) (blkOk_by (N := ["what", "small", "great", "digits", "sign"]) (sc := defScope s_law_is_label) (by decide +kernel)) (fun _ _ _ _ _ => (pg_name (i := 4) sc.nd rfl (Or.inl rfl))) (fun _ _ _ _ _ => pts_one (pt_cmpR (opK (r := rNotInA) (K := K) rfl op_notInA) (pv 4) (pe_op (opK (r := rAddA) (K := K) rfl op_addA) (pe_op (opK (r := rAddA) (K := K) rfl op_addA) (pe_op (opK (r := rAddA) (K := K) rfl op_addA) (pv 1) (pv 2)) (pv 3)) pe_str) rfl)) (fun _ _ _ _ _ => (pv 4))) (pe_lst pa_nil) (nomark _)))))), ?_⟩
    dsimp only [cxOf, Cx.wish, L2.start, List.map, List.length, List.replicate, List.append, List.cons_append, List.nil_append, Nat.reduceAdd, Nat.reduceSub, Nat.zero_add]
    cases kd with
    | @str z h =>
      fail "go"
      all_goals try (refine finB q ?_ (by fail "same"); have hn : ¬ (1 ≤ z.length ∧ z.length ≤ 20) := (by omega); simp only [labB, decide_eq_false hn, Bool.false_and, Bool.and_false])
      have hn : (1 ≤ z.length ∧ z.length ≤ 20) := (by omega)
      have hl : (cs z).length = z.length := cs_len z
      obtain ⟨c, r, hc⟩ : ∃ c r, cs z = c :: r := by
        cases e : cs z with
        | nil => rw [e] at hl; simp at hl; omega
        | cons c r => exact ⟨c, r, rfl⟩
      refine g_ixS (c := c) (by fail "line") (by show atI (cs z) 0 = _; rw [hc]; exact atI_nat (j := 0) rfl) ?_
      fail "go"
      rotate_left
      · refine finB q ?_ (by fail "same")
        have e2 := ‹¬ c ∈ _›
        rw [e_lt] at e2
        simp only [labB, decide_eq_true hn, Bool.true_and, hc, List.headD_cons, decide_eq_false e2, Bool.and_false]
      refine g_lcS rfl (fun c => !decide (c ∈ cs LB)) sg (Nat.le_trans h.1 (by decide)) (fun _ => rfl) ?_ ?_ ?_
      · intro c hc H' s' Q k
        fail "go"
        rw [e_lb2]
        exact k _ (Same.refl _)
      · intro c hc _ H' s' Q k
        fail "go"
        exact k _ (Same.refl _)
      intro D H' nD s' hD
      fail "go"
      refine g_eqNil (by fail "sq") (fun c hc => h.2 c ((List.mem_filter.mp hc).1)) (by fail "sq") ?_
      refine finB q ?_ (by fail "same")
      have e2 := ‹c ∈ _›
      rw [e_lt] at e2
      simp only [labB, decide_eq_true hn, Bool.true_and, hc, List.headD_cons, decide_eq_true e2, Bool.and_true, inB]
      rw [← hc]
      exact emp_all z LB
    | int i => (fail "go"); exact q _ (by fail "same")
    | non => (fail "go"); exact q _ (by fail "same")
    | bl b => (fail "go"); exact q _ (by fail "same")
    | tup h => (fail "go"); exact q _ (by fail "same")
    | lst h => (fail "go"); exact q _ (by fail "same")
    | dct h => (fail "go"); exact q _ (by fail "same")
local macro_rules | `(tactic| nofun) => `(tactic| ((with_reducible show sp_law_is_label _ _ _ _ _); refine ⟨_, rfl, by fail "kd", fun H' s' => ?_⟩))

def sp_law_is_atom (K : PySem.W.Frag) : Sp := fun vs H Q _ =>
  ∃ (v : V), vs = [v] ∧ Kd K H v ∧ ∀ H', Same H H' → Q (.bl (atomB v)) H'
theorem df_law_is_atom (T : Txt K mg) : Df P w K mg base 2 "_law_is_atom" s_law_is_atom ["what"] (sp_law_is_atom K) := by
  have sc := sc_law_is_atom
  obtain ⟨f, hm, fd, F⟩ := T.d_law_is_atom
  refine ⟨f, fd, hm, F, okG F sc (by fail "many") (fun cdv A outer s H vs Q E hr h => ?_)⟩
  · obtain ⟨v, rfl, kd, q⟩ := h
    refine ⟨_, (pss_one (ps_ret (pe_and (pe_callG (sp := sp_law_is_string K) (df_law_is_string T) hr (by decide) b_law_is_string_2_ b_law_is_string_2__s (pa_cons (pv 0) (pa_cons pe_str pa_nil)) pk_nil) (pe_and (pe_cmpR (op_neA hr) (pv 0) pe_str (nomark _)) (pe_one (pe_cmpR (op_eqA hr) (pe_lc (own := [("sign", 1)]) (g := gName 1) rfl sc.nd (pi_str (pv 0)) (blkOk_by (N := ["what", "sign"]) (sc := defScope s_law_is_atom) (by decide +kernel)) (fun _ _ _ _ _ => (pg_name (i := 1) sc.nd rfl (Or.inl rfl))) (fun _ _ _ _ _ => pts_one (pt_cmpR (opK (r := rInA) (K := K) rfl op_inA) (pv 1) pe_str rfl)) (fun _ _ _ _ _ => (pv 1))) (pe_lst pa_nil) (nomark _))))))), ?_⟩
    dsimp only [cxOf, Cx.wish, L2.start, List.map, List.length, List.replicate, List.append, List.cons_append, List.nil_append, Nat.reduceAdd, Nat.reduceSub, Nat.zero_add]
    fail "go"
    · rename_i hb
      obtain ⟨z, rfl, hz⟩ := inB_str hb
      cases kd with | str hA => ?_
      fail "go"
      · refine finB q ?_ (by fail "same")
        have e := ‹z = _›
        simp only [atomB, hb, Bool.true_and, decide_eq_false (not_not_intro (show z = Str.empty from e)), Bool.false_and]
      refine g_lcS rfl (fun c => decide (c ∈ cs SP)) sg (Nat.le_trans hA.1 (by decide)) (fun _ => rfl) ?_ ?_ ?_
      · intro c hc H' s' Q k
        fail "go"
        exact k _ (Same.refl _)
      · intro c hc _ H' s' Q k
        fail "go"
        exact k _ (Same.refl _)
      intro D H' nD s' hD
      fail "go"
      refine g_eqNil (by fail "sq") (fun c hc => hA.2 c ((List.mem_filter.mp hc).1)) (by fail "sq") ?_
      refine finB q ?_ (by fail "same")
      have hne : z ≠ Str.empty := ‹¬ z = _›
      simp only [atomB, hb, Bool.true_and, decide_eq_true hne]
      exact emp_all2 z SP
    · rename_i hb
      refine finB q ?_ (by fail "same")
      simp only [atomB, hb, Bool.false_and]
local macro_rules | `(tactic| nofun) => `(tactic| ((with_reducible show sp_law_is_atom _ _ _ _ _); refine ⟨_, rfl, by fail "kd", fun H' s' => ?_⟩))

def sp_law_is_code (K : PySem.W.Frag) : Sp := fun vs H Q _ =>
  ∃ (v : V), vs = [v] ∧ Kd K H v ∧ ∀ H', Same H H' → Q (.bl (codeB v)) H'
theorem df_law_is_code (T : Txt K mg) : Df P w K mg base 1 "_law_is_code" s_law_is_code ["what"] (sp_law_is_code K) := by
  have sc := sc_law_is_code
  obtain ⟨f, hm, fd, F⟩ := T.d_law_is_code
  refine ⟨f, fd, hm, F, okG F sc (by fail "many") (fun cdv A outer s H vs Q E hr h => ?_)⟩
  · obtain ⟨v, rfl, kd, q⟩ := h
    refine ⟨_, (pss_cons (ps_if (PW.pt (pw_or (pt_not (pt_val (pe_callB call_isi (by rfl) T.b_isinstance (by decide +kernel) (pa_cons (pv 0) (pa_cons (pe_bltn (v := V.ty "int") (u := .type "int") (by rfl) T.b_int (by decide +kernel) rfl) pa_nil))))) (pw_or1 (pt_val (pe_callB call_isi (by rfl) T.b_isinstance (by decide +kernel) (pa_cons (pv 0) (pa_cons (pe_bltn (v := V.ty "bool") (u := .type "bool") (by rfl) T.b_bool (by decide +kernel) rfl) pa_nil))))))) (pss_one (ps_ret pe_bl)) pss_nil)
 (pss_one (ps_ret (pe_or (pe_and (pe_chain op_leA op_leA pe_int (pv 0) pe_int) (pe_one (pe_cmpR (op_neA hr) (pv 0) pe_int (nomark _)))) (pe_one (pe_chain op_leA op_leA pe_int (pv 0) pe_int)))))), ?_⟩
    dsimp only [cxOf, Cx.wish, L2.start, List.map, List.length, List.replicate, List.append, List.cons_append, List.nil_append, Nat.reduceAdd, Nat.reduceSub, Nat.zero_add]
    cases kd with
    | @str z h => (fail "go"); exact q _ (by fail "same")
    | int i =>
      fail "go"
      all_goals refine finB q ?_ (by fail "same")
      all_goals (simp only [codeB]; fail "bd")
    | non => (fail "go"); exact q _ (by fail "same")
    | bl b => (fail "go"); exact q _ (by fail "same")
    | tup h => (fail "go"); exact q _ (by fail "same")
    | lst h => (fail "go"); exact q _ (by fail "same")
    | dct h => (fail "go"); exact q _ (by fail "same")
local macro_rules | `(tactic| nofun) => `(tactic| ((with_reducible show sp_law_is_code _ _ _ _ _); refine ⟨_, rfl, by fail "kd", fun H' s' => ?_⟩))

def sp_law_right (K : PySem.W.Frag) : Sp := fun vs H Q _ =>
  ∃ (v : V), vs = [v] ∧ Kd K H v ∧ ∀ H', Same H H' → Q (.bl true) H'
theorem df_law_right (T : Txt K mg) : Df P w K mg base 4 "_law_right" s_law_right ["what"] (sp_law_right K) := by
  have sc := sc_law_right
  obtain ⟨f, hm, fd, F⟩ := T.d_law_right
  refine ⟨f, fd, hm, F, okG F sc (by fail "many") (fun cdv A outer s H vs Q E hr h => ?_)⟩
  · obtain ⟨v, rfl, kd, q⟩ := h
    refine ⟨_, (pss_cons (ps_set (i := 1) sc.nd rfl (Or.inl rfl) (pe_lst (pa_cons (pe_callG (sp := sp_law_is_string K) (df_law_is_string T) hr (by decide) b_law_is_string_2_ b_law_is_string_2__s (pa_cons (pv 0) (pa_cons pe_str pa_nil)) pk_nil) (pa_cons (pe_callG (sp := sp_law_is_string K) (df_law_is_string T) hr (by decide) b_law_is_string_2_ b_law_is_string_2__s (pa_cons (pv 0) (pa_cons pe_str pa_nil)) pk_nil) (pa_cons (pe_callG (sp := sp_law_is_code K) (df_law_is_code T) hr (by decide) b_law_is_code_1_ b_law_is_code_1__s (pa_cons (pv 0) pa_nil) pk_nil) (pa_cons (pe_callG (sp := sp_law_is_label K) (df_law_is_label T) hr (by decide) b_law_is_label_1_ b_law_is_label_1__s (pa_cons (pv 0) pa_nil) pk_nil) pa_nil))))))
 (pss_cons (ps_expr (pe_bm PySem.F.plainAttrs_list PySem.F.slot_list_append PySem.F.type_list_append mt_append (pv 1) (pa_cons (pe_callG (sp := sp_law_is_atom K) (df_law_is_atom T) hr (by decide) b_law_is_atom_1_ b_law_is_atom_1__s (pa_cons (pv 0) pa_nil) pk_nil) pa_nil)))
 (pss_cons (ps_if (pt_cmpR (op_neA hr) (pe_callB (call_repr hr) (by rfl) T.b_repr (by decide +kernel) (pa_cons (pe_lst (pa_cons (pe_callG (sp := sp_is_body K) (df_is_body T) hr (by decide) b_is_body_1_ b_is_body_1__s (pa_cons (pv 0) pa_nil) pk_nil) (pa_cons (pe_callG (sp := sp_is_raw K) (df_is_raw T) hr (by decide) b_is_raw_1_ b_is_raw_1__s (pa_cons (pv 0) pa_nil) pk_nil) (pa_cons (pe_callG (sp := sp_is_code K) (df_is_code T) hr (by decide) b_is_code_1_ b_is_code_1__s (pa_cons (pv 0) pa_nil) pk_nil) (pa_cons (pe_callG (sp := sp_is_label K) (df_is_label T) hr (by decide) b_is_label_1_ b_is_label_1__s (pa_cons (pv 0) pa_nil) pk_nil) (pa_cons (pe_callG (sp := sp_is_atom K) (df_is_atom T) hr (by decide) b_is_atom_1_ b_is_atom_1__s (pa_cons (pv 0) pa_nil) pk_nil) pa_nil)))))) pa_nil)) (pe_callB (call_repr hr) (by rfl) T.b_repr (by decide +kernel) (pa_cons (pv 1) pa_nil)) (nomark _)) (pss_one (ps_ret pe_bl)) pss_nil)
 (pss_cons (ps_set (i := 2) sc.nd rfl (Or.inl rfl) (pe_lst (pa_cons (pe_callG0 (sp := sp_is_body K) (df_is_body T) hr (by decide) b_is_body_0_thing b_is_body_0_thing_s (pk_cons (pv 0) pk_nil)) (pa_cons (pe_callG0 (sp := sp_is_raw K) (df_is_raw T) hr (by decide) b_is_raw_0_thing b_is_raw_0_thing_s (pk_cons (pv 0) pk_nil)) (pa_cons (pe_callG0 (sp := sp_is_code K) (df_is_code T) hr (by decide) b_is_code_0_thing b_is_code_0_thing_s (pk_cons (pv 0) pk_nil)) (pa_cons (pe_callG0 (sp := sp_is_label K) (df_is_label T) hr (by decide) b_is_label_0_thing b_is_label_0_thing_s (pk_cons (pv 0) pk_nil)) pa_nil))))))
 (pss_one (ps_ret (pe_cmpR (op_eqA hr) (pe_callB (call_repr hr) (by rfl) T.b_repr (by decide +kernel) (pa_cons (pe_op op_addA (pv 2) (pe_lst (pa_cons (pe_callG0 (sp := sp_is_atom K) (df_is_atom T) hr (by decide) b_is_atom_0_thing b_is_atom_0_thing_s (pk_cons (pv 0) pk_nil)) pa_nil))) pa_nil)) (pe_callB (call_repr hr) (by rfl) T.b_repr (by decide +kernel) (pa_cons (pv 1) pa_nil)) (nomark _)))))))), ?_⟩
    dsimp only [cxOf, Cx.wish, L2.start, List.map, List.length, List.replicate, List.append, List.cons_append, List.nil_append, Nat.reduceAdd, Nat.reduceSub, Nat.zero_add]
    fail "go"
    exact finB q (decide_eq_true rfl) (by fail "same")
local macro_rules | `(tactic| nofun) => `(tactic| ((with_reducible show sp_law_right _ _ _ _ _); refine ⟨_, rfl, by fail "kd", fun H' s' => ?_⟩))

def sp_law_marks_right (K : PySem.W.Frag) : Sp := fun vs H Q _ =>
  vs = [] ∧ ∀ H', Same H H' → Q (.bl true) H'
theorem df_law_marks_right (T : Txt K mg) : Df P w K mg base 2 "_law_marks_right" s_law_marks_right [] (sp_law_marks_right K) := by
  have sc := sc_law_marks_right
  obtain ⟨f, hm, fd, F⟩ := T.d_law_marks_right
  refine ⟨f, fd, hm, F, okG F sc (by fail "many") (fun cdv A outer s H vs Q E hr h => ?_)⟩
  · obtain ⟨rfl, q⟩ := h
    refine ⟨_, (pss_cons (ps_if (PW.pt (pw_or (pt_cmpR (op_neA hr) (pe_callB call_lenA (by rfl) T.b_len (by decide +kernel) (pa_cons (pe_globE T.c_MARKS) pa_nil)) pe_int (nomark _)) (pw_or (pt_cmpR (op_neA hr) (pe_ix ix_seq (pe_globE T.c_MARKS) pe_int (fun _ _ => rfl)) pe_str (nomark _)) (pw_or (pt_cmpR (op_neA hr) (pe_ix ix_seq (pe_globE T.c_MARKS) (pe_un un_neg pe_int) (fun _ _ => rfl)) pe_str (nomark _)) (pw_or1 (pt_cmpR op_inA pe_str (pe_globE T.c_MARKS) rfl)))))) (pss_one (ps_ret pe_bl)) pss_nil)
 (pss_cons (ps_for PassesOwn.never rfl (pi_range1 rfl T.b_range (pa_cons pe_int pa_nil)) (pg_name (i := 0) sc.nd rfl (Or.inl rfl)) (pss_one (ps_if (pt_not (pt_cmpR op_ltA (pe_ix ix_seq (pe_globE T.c_MARKS) (pv 0) (fun _ _ => rfl)) (pe_ix ix_seq (pe_globE T.c_MARKS) (pe_op op_addA (pv 0) pe_int) (fun _ _ => rfl)) (nomark _))) (pss_one (ps_ret pe_bl)) pss_nil)))
 (pss_cons (ps_asg (pe_callG0 (sp := sp_law_alphabet K) (df_law_alphabet T) hr (by decide) b_law_alphabet_0_ b_law_alphabet_0__s pk_nil) (pg_tup (by rfl) (pgs_cons (pg_name (i := 1) sc.nd rfl (Or.inl rfl)) (pgs_cons (pg_name (i := 2) sc.nd rfl (Or.inl rfl)) (pgs_cons (pg_name (i := 3) sc.nd rfl (Or.inl rfl)) pgs_nil)))))
 (pss_cons (ps_set (i := 4) sc.nd rfl (Or.inl rfl) pe_str)
 (pss_one (ps_ret (pe_cmpR (op_eqA hr) (pe_lc (own := [("sign", 5)]) (g := gName 5) rfl sc.nd (pi_str (pe_op op_addA (pe_op op_addA (pe_op op_addA (pv 1) (pv 2)) (pv 3)) (pv 4))) (blkOk_by (N := ["k", "small", "great", "digits", "rest", "sign"]) (sc := defScope s_law_marks_right) (by decide +kernel)) (fun _ _ _ _ _ => (pg_name (i := 5) sc.nd rfl (Or.inl rfl))) (fun _ _ _ _ _ => pts_one (pt_cmpR (opK (r := rNotInA) (K := K) rfl op_notInA) (pv 5) (pe_globE T.c_MARKS) rfl)) (fun _ _ _ _ _ => (pv 5))) (pe_lst pa_nil) (nomark _)))))))), ?_⟩
    dsimp only [cxOf, Cx.wish, L2.start, List.map, List.length, List.replicate, List.append, List.cons_append, List.nil_append, Nat.reduceAdd, Nat.reduceSub, Nat.zero_add]
    have eM : Str.ofString " !\"#$&'()*+,-./0123456789:;<=>?@ABCDEFGHIJKLMNOPQRSTUVWXYZ[\\]^_`abcdefghijklmnopqrstuvwxyz{|}~" = MK := rfl
    have lM : MK.length = 94 := by decide +kernel
    have lC : MK.cps.toList.length = 94 := by decide +kernel
    rw [eM]
    fail "go"
    refine g_ixS (c := 32) (by decide) (atI_nat (j := 0) rfl) ?_
    fail "go"
    rotate_left
    · exact absurd sg_c32.symm ‹_›
    refine g_ixS (z := MK) (c := 126) (by decide) (by decide +kernel) ?_
    fail "go"
    · exact absurd ‹10 ∈ cs MK› (by decide +kernel)
    rotate_left
    · exact absurd sg_c126.symm ‹_›
    refine ⟨by omega, by omega, for_range (fun i σ H' => (∃ u, σ = [u, none, none, none, none, none]) ∧ Same H H') ⟨⟨none, rfl⟩, Same.refl _⟩ ?_ ?_⟩
    · rintro i σ H1 hi ⟨⟨u, rfl⟩, s1⟩
      have hi2 : i < 93 := hi
      fail "go"
      refine g_ixS (c := (cs MK).getD i 0) (by decide) (by rw [Int.zero_add]; refine atI_nat ?_; rw [List.getD_eq_getElem?_getD, List.getElem?_eq_getElem (by omega)]; rfl) ?_
      fail "go"
      refine g_ixS (c := (cs MK).getD (i + 1) 0) (by decide) (by rw [Int.zero_add, show (i : Int) + 1 = ((i + 1 : Nat) : Int) by omega]; refine atI_nat ?_; rw [List.getD_eq_getElem?_getD, List.getElem?_eq_getElem (by omega)]; rfl) ?_
      have up := mk_up i hi2
      fail "go"
      exact ⟨⟨_, rfl⟩, s1⟩
    · rintro σ H1 ⟨⟨u, rfl⟩, s1⟩
      fail "go"
      refine g_lcE ?_
      fail "go"
      have f1 : As 200 (Str.ofString "abcdefghijklmnopqrstuvwxyz" ++ Str.ofString "ABCDEFGHIJKLMNOPQRSTUVWXYZ" ++ Str.ofString "0123456789" ++ Str.ofString "!\"#$&'()*+,-./:;<=>?@\x5b\\]^`{|}_" : Str) := ⟨by decide +kernel, by decide +kernel⟩
      have f2 : (cs (Str.ofString "abcdefghijklmnopqrstuvwxyz" ++ Str.ofString "ABCDEFGHIJKLMNOPQRSTUVWXYZ" ++ Str.ofString "0123456789" ++ Str.ofString "!\"#$&'()*+,-./:;<=>?@\x5b\\]^`{|}_" : Str)).all (fun c => decide (c ∈ cs MK)) = true := by decide +kernel
      refine ⟨_, rfl, lc_str (fun c => !decide (c ∈ cs MK)) sg (Nat.le_trans f1.1 (by decide)) (fun _ => rfl) ?_ ?_ ?_⟩
      · intro c hc H' s' Q k
        fail "go"
        exact k _ (Same.refl _)
      · intro c hc _ H' s' Q k
        fail "go"
        exact k _ (Same.refl _)
      intro D H' nD s' hD
      fail "go"
      refine g_eqNil (by fail "sq") (fun c hc => f1.2 c (List.mem_filter.mp hc).1) (by fail "sq") ?_
      refine finB q ?_ (by fail "same")
      rw [emp_all]
      exact f2
local macro_rules | `(tactic| nofun) => `(tactic| ((with_reducible show sp_law_marks_right _ _ _ _ _); refine ⟨rfl, fun H' s' => ?_⟩))

def sp_law (K : PySem.W.Frag) : Sp := fun vs H Q _ =>
  ∃ (a : Addr) (ns : List Int), vs = [.ref a] ∧ SqL K H a (ns.map V.int) ∧ ns.length ≤ 63 ∧ ∀ H', Q (.bl true) H'
theorem df_law (T : Txt K mg) : Df P w K mg base 5 "law" s_law ["script"] (sp_law K) := by
  have sc := sc_law
  obtain ⟨f, hm, fd, F⟩ := T.d_law
  refine ⟨f, fd, hm, F, okG F sc (by fail "many") (fun cdv A outer s H vs Q E hr h => ?_)⟩
  · obtain ⟨a, ns, rfl, hs, hn, k⟩ := h
    refine ⟨_, (pss_cons (ps_set (i := 1) sc.nd rfl (Or.inl rfl) (pe_callG (sp := sp_law_begin K) (df_law_begin T) hr (by decide) b_law_begin_1_ b_law_begin_1__s (pa_cons (pv 0) pa_nil) pk_nil))
 (pss_cons (ps_if (pt_not (pt_val (pe_callG0 (sp := sp_law_marks_right K) (df_law_marks_right T) hr (by decide) b_law_marks_right_0_ b_law_marks_right_0__s pk_nil))) (pss_one (ps_ret pe_bl)) pss_nil)
 (pss_cons (ps_for PassesOwn.never rfl (pi_range1 rfl T.b_range (pa_cons (pe_callB (call_min2 rfl) (by rfl) T.b_min (by decide +kernel) (pa_cons pe_int (pa_cons (pe_op op_addA pe_int (pe_callB call_lenA (by rfl) T.b_len (by decide +kernel) (pa_cons (pv 0) pa_nil))) pa_nil))) pa_nil)) (pg_name (i := 2) sc.nd rfl (Or.inl rfl)) (pss_one (ps_for PassesOwn.never rfl (pi_list (pe_lst (pa_cons (pe_callG (sp := sp_law_string K) (df_law_string T) hr (by decide) b_law_string_1_ b_law_string_1__s (pa_cons (pv 1) pa_nil) pk_nil) (pa_cons (pe_callG (sp := sp_law_thing K) (df_law_thing T) hr (by decide) b_law_thing_1_ b_law_thing_1__s (pa_cons (pv 1) pa_nil) pk_nil) (pa_cons (pe_callG (sp := sp_law_thing K) (df_law_thing T) hr (by decide) b_law_thing_1_ b_law_thing_1__s (pa_cons (pv 1) pa_nil) pk_nil) (pa_cons (pe_callG (sp := sp_law_number K) (df_law_number T) hr (by decide) b_law_number_1_ b_law_number_1__s (pa_cons (pv 1) pa_nil) pk_nil) (pa_cons (pe_callG (sp := sp_law_number K) (df_law_number T) hr (by decide) b_law_number_1_ b_law_number_1__s (pa_cons (pv 1) pa_nil) pk_nil) pa_nil))))))) (pg_name (i := 3) sc.nd rfl (Or.inl rfl)) (pss_one (ps_if (pt_not (pt_val (pe_callG (sp := sp_law_right K) (df_law_right T) hr (by decide) b_law_right_1_ b_law_right_1__s (pa_cons (pv 3) pa_nil) pk_nil))) (pss_one (ps_ret pe_bl)) pss_nil)))))
 (pss_one (ps_ret pe_bl))))), ?_⟩
    dsimp only [cxOf, Cx.wish, L2.start, List.map, List.length, List.replicate, List.append, List.cons_append, List.nil_append, Nat.reduceAdd, Nat.reduceSub, Nat.zero_add]
    fail "go"
    rename_i d c s0 nd D0 H1 s1
    have hj : (if 6 + ((ns.map V.int).length : Int) < 24 then 6 + ((ns.map V.int).length : Int) else 24) ≤ 24 := by split <;> omega
    have hj0 : 0 ≤ (if 6 + ((ns.map V.int).length : Int) < 24 then 6 + ((ns.map V.int).length : Int) else 24) := by split <;> omega
    refine ⟨by omega, by omega, for_range (fun i σ H' => (∃ u v, σ = [some (.ref a), some (.ref d), u, v]) ∧ DrawAt K (1000 * i) H' d c) ⟨⟨none, none, rfl⟩, by fail "dr"⟩ ?_ ?_⟩
    · rintro i σ H1 hi ⟨⟨u, v, rfl⟩, D1⟩
      fail "go"
      refine g_forE ?_
      fail "go"
      rename_i Hz z kz Dz hz H1a v1 k1a D1a hv1 H2a v2 k2a D2a hv2 H3a i3 k3a D3a H4a i4 k4a D4a p np
      refine ⟨_, rfl, for_lst (fun j σ H' => (∃ v, σ = [some (.ref a), some (.ref d), some (.int (0 + (i : Int))), v]) ∧ Same (upd H4a p (HO.lst [V.str z, v1, v2, V.int i3, V.int i4])) H') (by fail "sq") ⟨⟨_, rfl⟩, Same.refl _⟩ (fun j σ H' _ h => h.2.seq (SqL.of upd_same)) ?_ ?_⟩
      · rintro j x σ' H5 hj hx ⟨⟨w, rfl⟩, s5⟩
        have al : ∀ x ∈ [V.str z, v1, v2, V.int i3, V.int i4], KdD K (upd H4a p (HO.lst [V.str z, v1, v2, V.int i3, V.int i4])) d x :=
          List.forall_mem_cons.mpr ⟨by fail "kdd", List.forall_mem_cons.mpr ⟨by fail "kdd", List.forall_mem_cons.mpr ⟨by fail "kdd", List.forall_mem_cons.mpr ⟨by fail "kdd", List.forall_mem_cons.mpr ⟨by fail "kdd", List.forall_mem_nil _⟩⟩⟩⟩⟩
        have kx : Kd K _ x := (al x (List.mem_of_getElem? hx)).1
        fail "go"
        exact ⟨⟨_, rfl⟩, by fail "same"⟩
      · rintro σ' H5 ⟨⟨w, rfl⟩, s5⟩
        exact ⟨⟨_, _, rfl⟩, by fail "dru"⟩
    · rintro σ H1 ⟨⟨u, v, rfl⟩, D1⟩
      fail "go"
      exact k _
theorem fin_law {h : Heap} {fa : Addr} (X : K.In h) (G : h.Ns mainGlobals mg) (hmg : mg "law" = some (.ref fa)) (T : Txt K mg) :
    ∃ fd : FuncData, (∀ (s : Shared) (u : Value), BindsTo s fd ⟨[u], []⟩ [("script", u)]) ∧ ∀ base : Heap, K.In base → base.Ns mainGlobals mg → FnG P w K mg base CX0 5 fa fd ["script"] (sp_law K) :=
  endG hmg T.d_law (fun _ _ _ _ _ _ _ => rfl) (fun base => df_law T)
end Law
open PySem PySem.W PyProof.Rows in
set_option maxRecDepth 100000 in
set_option maxHeartbeats 0 in
theorem PySem.Challenge.cw_headerfold_k02_marks_names_and_atoms_holds : PySem.Challenge.rw_headerfold_k02_marks_names_and_atoms.Holds := by
  w_on; o_law; k_head; (case hw => w_witness2)
  k_fill
  refine Hf.walkG (l := PySem.Challenge.rw_headerfold_k02_marks_names_and_atoms) (n := 63) (k := 5) (x := "script") (sp := fun w => Law.sp_law _) rfl (by decide) rfl ⟨⟨rfl, by decide, by decide⟩, rfl⟩ (fun w h Y => PySem.W.kIn_of Y) ?F (fun w H a ns hl _ hS => ⟨a, ns, rfl, hS, hl, fun _ => rfl⟩)
  case F =>
    intro w mg fa h KX G hmg
    refine Law.fin_law (mg := mg) KX G hmg ⟨?d_law_begin, ?d_law_mixed, ?d_law_next, ?d_is_integer, ?d_consists_of, ?d_is_body, ?d_is_raw, ?d_is_plain_code, ?d_is_code, ?d_is_label, ?d_is_atom, ?d_law_alphabet, ?d_law_string, ?d_law_thing, ?d_law_number, ?d_law_is_string, ?d_law_is_label, ?d_law_is_atom, ?d_law_is_code, ?d_law_right, ?d_law_marks_right, ?d_law, ?b_all, ?b_any, ?b_bool, ?b_int, ?b_isinstance, ?b_len, ?b_min, ?b_range, ?b_repr, ?b_str, ?c_MARKS, ?c_LETTERS, ?c_DIGITS, ?c_SPECIALS, ?c_PERCENT, ?c_MOST_LABEL⟩
    (case d_law_begin => refine' Hf.mkD KX G ?a ?l ?c ?k; (case a => k_is); (case l => k_is); (case c => k_is); (case k => k_is))
    (case d_law_mixed => refine' Hf.mkD KX G ?a ?l ?c ?k; (case a => k_is); (case l => k_is); (case c => k_is); (case k => k_is))
    (case d_law_next => refine' Hf.mkD KX G ?a ?l ?c ?k; (case a => k_is); (case l => k_is); (case c => k_is); (case k => k_is))
    (case d_is_integer => refine' Hf.mkD KX G ?a ?l ?c ?k; (case a => k_is); (case l => k_is); (case c => k_is); (case k => k_is))
    (case d_consists_of => refine' Hf.mkD KX G ?a ?l ?c ?k; (case a => k_is); (case l => k_is); (case c => k_is); (case k => k_is))
    (case d_is_body => refine' Hf.mkD KX G ?a ?l ?c ?k; (case a => k_is); (case l => k_is); (case c => k_is); (case k => k_is))
    (case d_is_raw => refine' Hf.mkD KX G ?a ?l ?c ?k; (case a => k_is); (case l => k_is); (case c => k_is); (case k => k_is))
    (case d_is_plain_code => refine' Hf.mkD KX G ?a ?l ?c ?k; (case a => k_is); (case l => k_is); (case c => k_is); (case k => k_is))
    (case d_is_code => refine' Hf.mkD KX G ?a ?l ?c ?k; (case a => k_is); (case l => k_is); (case c => k_is); (case k => k_is))
    (case d_is_label => refine' Hf.mkD KX G ?a ?l ?c ?k; (case a => k_is); (case l => k_is); (case c => k_is); (case k => k_is))
    (case d_is_atom => refine' Hf.mkD KX G ?a ?l ?c ?k; (case a => k_is); (case l => k_is); (case c => k_is); (case k => k_is))
    (case d_law_alphabet => refine' Hf.mkD KX G ?a ?l ?c ?k; (case a => k_is); (case l => k_is); (case c => k_is); (case k => k_is))
    (case d_law_string => refine' Hf.mkD KX G ?a ?l ?c ?k; (case a => k_is); (case l => k_is); (case c => k_is); (case k => k_is))
    (case d_law_thing => refine' Hf.mkD KX G ?a ?l ?c ?k; (case a => k_is); (case l => k_is); (case c => k_is); (case k => k_is))
    (case d_law_number => refine' Hf.mkD KX G ?a ?l ?c ?k; (case a => k_is); (case l => k_is); (case c => k_is); (case k => k_is))
    (case d_law_is_string => refine' Hf.mkD KX G ?a ?l ?c ?k; (case a => k_is); (case l => k_is); (case c => k_is); (case k => k_is))
    (case d_law_is_label => refine' Hf.mkD KX G ?a ?l ?c ?k; (case a => k_is); (case l => k_is); (case c => k_is); (case k => k_is))
    (case d_law_is_atom => refine' Hf.mkD KX G ?a ?l ?c ?k; (case a => k_is); (case l => k_is); (case c => k_is); (case k => k_is))
    (case d_law_is_code => refine' Hf.mkD KX G ?a ?l ?c ?k; (case a => k_is); (case l => k_is); (case c => k_is); (case k => k_is))
    (case d_law_right => refine' Hf.mkD KX G ?a ?l ?c ?k; (case a => k_is); (case l => k_is); (case c => k_is); (case k => k_is))
    (case d_law_marks_right => refine' Hf.mkD KX G ?a ?l ?c ?k; (case a => k_is); (case l => k_is); (case c => k_is); (case k => k_is))
    (case d_law => refine' Hf.mkD KX G ?a ?l ?c ?k; (case a => k_is); (case l => k_is); (case c => k_is); (case k => k_is))
    (case b_all => refine' PySem.W.mg_none_of KX G ?a; (case a => k_is))
    (case b_any => refine' PySem.W.mg_none_of KX G ?a; (case a => k_is))
    (case b_bool => refine' PySem.W.mg_none_of KX G ?a; (case a => k_is))
    (case b_int => refine' PySem.W.mg_none_of KX G ?a; (case a => k_is))
    (case b_isinstance => refine' PySem.W.mg_none_of KX G ?a; (case a => k_is))
    (case b_len => refine' PySem.W.mg_none_of KX G ?a; (case a => k_is))
    (case b_min => refine' PySem.W.mg_none_of KX G ?a; (case a => k_is))
    (case b_range => refine' PySem.W.mg_none_of KX G ?a; (case a => k_is))
    (case b_repr => refine' PySem.W.mg_none_of KX G ?a; (case a => k_is))
    (case b_str => refine' PySem.W.mg_none_of KX G ?a; (case a => k_is))
    (case c_MARKS => refine' Hf.mkC KX G ?a ?r; (case a => k_is); (case r => first | exact rfl | exact ⟨_, rfl⟩))
    (case c_LETTERS => refine' Hf.mkC KX G ?a ?r; (case a => k_is); (case r => first | exact rfl | exact ⟨_, rfl⟩))
    (case c_DIGITS => refine' Hf.mkC KX G ?a ?r; (case a => k_is); (case r => first | exact rfl | exact ⟨_, rfl⟩))
    (case c_SPECIALS => refine' Hf.mkC KX G ?a ?r; (case a => k_is); (case r => first | exact rfl | exact ⟨_, rfl⟩))
    (case c_PERCENT => refine' Hf.mkC KX G ?a ?r; (case a => k_is); (case r => first | exact rfl | exact ⟨_, rfl⟩))
    (case c_MOST_LABEL => refine' Hf.mkC KX G ?a ?r; (case a => k_is); (case r => first | exact rfl | exact ⟨_, rfl⟩))
